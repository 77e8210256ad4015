/- Contracts of Go functions that laws of this seat reach: each Lean function answers as its Go function does. No condition. Written by wip/tools/inj.py, over the kit's print. -/
import Derived.Test.YtalopdcephohgaaRAx0
namespace Go.Proofs.Ytalopdcephohgaa.RA
open Go.RowKit Go.Proofs.YtalopdcephohgaaW.PrintWords Go.Proofs.YtalopdcephohgaaW.PrintLast Go.Proofs.YtalopdcephohgaaW.PrintMore
attribute [local go_sem] max2_int min2_int max_two min_two max_three min_three max_four min_four   -- for this text's walks alone
set_option linter.unusedVariables false
set_option linter.unusedSimpArgs false

/-! ### laws_likeTexts: function 57 -/
def laws_likeTexts.l0 : Nat → List ByteArray → List ByteArray → Int → Option (Bool)
 | 0, _, _, _ => none
 | k + 1, x0, x1, x5 => if x5 < (x0.length : Int) then (if 0 ≤ x5 then (if x5 < (x1.length : Int) then (if (rdOf ByteArray.empty x0 x5).toList = (rdOf ByteArray.empty x1 x5).toList then (laws_likeTexts.l0 k x0 x1 (wrap64 (x5 + 1))) else (some false)) else (none)) else (none)) else (some true)
def laws_likeTexts.f (k : Nat) (l0 : List ByteArray) (l1 : List ByteArray) : Option (Bool) := if (l0.length : Int) = (l1.length : Int) then (laws_likeTexts.l0 k l0 l1 0) else (some false)
theorem laws_likeTexts.mono_l : ∀ k, (∀ y0 y1 y2, LeO (laws_likeTexts.l0 k y0 y1 y2) (laws_likeTexts.l0 (k + 1) y0 y1 y2))
 | 0 => fun _ _ _ r h => by simp [laws_likeTexts.l0] at h
 | k + 1 => by
  have ih0 := laws_likeTexts.mono_l k
  ·intro y0 y1 y2
   unfold laws_likeTexts.l0
   repeat' first
   | (with_reducible exact ih0 _ _ _)
   | (with_reducible exact LeO.refl _)
   | (with_reducible exact LeO.none _)
   | (with_reducible refine LeO.ite ?_ ?_)
   | (with_reducible refine LeO.bind ?_ (fun _ => ?_))
theorem laws_likeTexts.mono : ∀ a0 a1 k, LeO (laws_likeTexts.f k a0 a1) (laws_likeTexts.f (k + 1) a0 a1) := by
 intro a0 a1 k
 have ih0 := laws_likeTexts.mono_l k
 unfold laws_likeTexts.f
 repeat' first
   | (with_reducible exact ih0 _ _ _)
   | (with_reducible exact LeO.refl _)
   | (with_reducible exact LeO.none _)
   | (with_reducible refine LeO.ite ?_ ?_)
   | (with_reducible refine LeO.bind ?_ (fun _ => ?_))
set_option maxHeartbeats 8000000 in
set_option maxRecDepth 100000 in
theorem laws_likeTexts.calls (k : Nat) (A0 : Option Addr) (c0 : Nat) (l0 : List ByteArray) (A1 : Option Addr) (c1 : Nat) (l1 : List ByteArray) (r : Bool) (w : World) (hr0 : Kd.C Kd.string w A0 l0.length l0) (hc0 : l0.length ≤ c0) (hr1 : Kd.C Kd.string w A1 l1.length l1) (hc1 : l1.length ≤ c1) (h : laws_likeTexts.f k l0 l1 = some r) :
  Calls Try.prog 57 #[.slice A0 l0.length c0, .slice A1 l1.length c1] w fun e w' => e = .returned (.bool r) ∧ Drawn0 w w' := by
 (
have HR0 := am hr0
have HC0 := am hc0
clear hr0 hc0
have HR1 := am hr1
have HC1 := am hc1
clear hr1 hc1
have H : (if (l0.length : Int) = (l1.length : Int) then (laws_likeTexts.l0 k l0 l1 0) else (some false)) = some r := h
clear h
by_cases c3 : (l0.length : Int) = (l1.length : Int)
·(
rw [if_pos c3] at H
have c3b0 : ((l0.length : Int) == (l1.length : Int)) = true := beq_iff_eq.mpr c3
have c3b1 : ((l0.length : Int) != (l1.length : Int)) = false := bne_eq_false_iff_eq.mpr c3
have c3b2 : (l0.length == l1.length) = true := by first | simpa using c3 | (simp at c3 ⊢; omega)
clear c3
have H' := am H
clear H
go_enter Try.func57, Try.ntmps57
go_wp2
repeat (go_quiet (fail); try go_wp2)
go_loopg [5] k (fun kq v5 w' => ∃ (x5_1 : Int), v5 = .int .i64 x5_1 ∧ Aside0 (laws_likeTexts.l0 kq l0 l1 x5_1 = some r) ∧ Aside0 (kq ≤ k) ∧ Drawn0 w w')
case atStart => exact ⟨(0), (by first | rfl | (simp; done) | (simp [*]; done)), H', ⟨Nat.le_refl _⟩, by repeat (first | exact Drawn0.refl _ | apply Drawn0.step)⟩
case round => (
clear H'
try clear c1
try clear p2
try clear c3
try clear c3b0
try clear c3b1
try clear c3b2
obtain ⟨x5_1, rfl, HA, HK1, ⟨m1, rfl⟩⟩ := hrel
cases gk with
| zero => exact absurd HA.out (by simp [laws_likeTexts.l0])
| succ k1 => (
have H := HA.out
clear HA
simp only [laws_likeTexts.l0] at H
by_cases c4 : x5_1 < (l0.length : Int)
·(
rw [if_pos c4] at H
have c4b0 : decide (x5_1 < (l0.length : Int)) = true := decide_eq_true c4
clear c4
by_cases c5 : 0 ≤ x5_1
·(
rw [if_pos c5] at H
have c5b0 : decide (0 ≤ x5_1) = true := decide_eq_true c5
clear c5
by_cases c6 : x5_1 < (l1.length : Int)
·(
rw [if_pos c6] at H
have c6b0 : decide (x5_1 < (l1.length : Int)) = true := decide_eq_true c6
clear c6
by_cases c7 : (rdOf ByteArray.empty l0 x5_1).toList = (rdOf ByteArray.empty l1 x5_1).toList
·(
rw [if_pos c7] at H
have c7b0 : ((rdOf ByteArray.empty l0 x5_1).toList == (rdOf ByteArray.empty l1 x5_1).toList) = true := beq_iff_eq.mpr c7
have c7b1 : ((rdOf ByteArray.empty l0 x5_1).toList != (rdOf ByteArray.empty l1 x5_1).toList) = false := bne_eq_false_iff_eq.mpr c7
clear c7
have H' := am H
clear H
have p342 : 0 ≤ (x5_1 : Int) := dt_
have q342 : x5_1 < (l0.length : Int) := dt_
obtain ⟨ad342, e342, hx342_0⟩ := Kd.at_string HR0.out x5_1 p342 q342
cases e342
replace p342 := eq_true p342
replace q342 := eq_true q342
have p343 : 0 ≤ (x5_1 : Int) := dt_
have q343 : x5_1 < (l1.length : Int) := dt_
obtain ⟨ad343, e343, hx343_0⟩ := Kd.at_string HR1.out x5_1 p343 q343
cases e343
replace p343 := eq_true p343
replace q343 := eq_true q343
go_wp2
repeat (go_quiet (fail); try go_wp2)
go_roundg k1
case measure => have := HK1.out; omega
case rel => exact ⟨(wrap64 (x5_1 + 1)), (by first | rfl | (simp; done) | (simp [*]; done)), H', ⟨by have := HK1.out; omega⟩, by repeat (first | exact Drawn0.refl _ | apply Drawn0.step)⟩
)
·(
rw [if_neg c7] at H
have c7b0 : ((rdOf ByteArray.empty l0 x5_1).toList == (rdOf ByteArray.empty l1 x5_1).toList) = false := beq_eq_false_iff_ne.mpr c7
have c7b1 : ((rdOf ByteArray.empty l0 x5_1).toList != (rdOf ByteArray.empty l1 x5_1).toList) = true := bne_iff_ne.mpr c7
obtain rfl := Option.some.inj H
have p342 : 0 ≤ (x5_1 : Int) := dt_
have q342 : x5_1 < (l0.length : Int) := dt_
obtain ⟨ad342, e342, hx342_0⟩ := Kd.at_string HR0.out x5_1 p342 q342
cases e342
replace p342 := eq_true p342
replace q342 := eq_true q342
have p343 : 0 ≤ (x5_1 : Int) := dt_
have q343 : x5_1 < (l1.length : Int) := dt_
obtain ⟨ad343, e343, hx343_0⟩ := Kd.at_string HR1.out x5_1 p343 q343
cases e343
replace p343 := eq_true p343
replace q343 := eq_true q343
go_wp2
repeat (go_quiet (fail); try go_wp2)
go_ret
exact ⟨by first | rfl | (simp; done) | (simp [*]; done), by repeat (first | exact Drawn0.refl _ | apply Drawn0.step)⟩
)
)
·(
rw [if_neg c6] at H
exact absurd H (by simp)
)
)
·(
rw [if_neg c5] at H
exact absurd H (by simp)
)
)
·(
rw [if_neg c4] at H
have c4b0 : decide (x5_1 < (l0.length : Int)) = false := decide_eq_false c4
clear c4
obtain rfl := Option.some.inj H
go_wp2
repeat (go_quiet (fail); try go_wp2)
go_ret
exact ⟨by first | rfl | (simp; done) | (simp [*]; done), by repeat (first | exact Drawn0.refl _ | apply Drawn0.step)⟩
)
)
)
)
·(
rw [if_neg c3] at H
have c3b0 : ((l0.length : Int) == (l1.length : Int)) = false := beq_eq_false_iff_ne.mpr c3
have c3b1 : ((l0.length : Int) != (l1.length : Int)) = true := bne_iff_ne.mpr c3
have c3b2 : (l0.length == l1.length) = false := by first | simpa using c3 | (simp at c3 ⊢; omega)
obtain rfl := Option.some.inj H
go_enter Try.func57, Try.ntmps57
go_wp2
repeat (go_quiet (fail); try go_wp2)
go_ret
exact ⟨by first | rfl | (simp; done) | (simp [*]; done), by repeat (first | exact Drawn0.refl _ | apply Drawn0.step)⟩
)
)

/-! ### laws_likeHistory: function 18 -/
def laws_likeHistory.f (k : Nat) (a0_0 : Int) (l0_1 : List ByteArray) (a0_2 : Int) (a1_0 : Int) (l1_1 : List ByteArray) (a1_2 : Int) : Option (Bool) := if a0_0 = a1_0 then ((laws_likeTexts.f k l0_1 l1_1).bind fun t346 => (if t346 = true then (some (a0_2 == a1_2)) else (some false))) else (some false)
theorem laws_likeHistory.mono : ∀ a0 a1 a2 a3 a4 a5 k, LeO (laws_likeHistory.f k a0 a1 a2 a3 a4 a5) (laws_likeHistory.f (k + 1) a0 a1 a2 a3 a4 a5) := by
 intro a0 a1 a2 a3 a4 a5 k
 unfold laws_likeHistory.f
 repeat' first
   | (with_reducible exact laws_likeTexts.mono _ _ _)
   | (with_reducible exact LeO.refl _)
   | (with_reducible exact LeO.none _)
   | (with_reducible refine LeO.ite ?_ ?_)
   | (with_reducible refine LeO.bind ?_ (fun _ => ?_))
set_option maxHeartbeats 8000000 in
set_option maxRecDepth 100000 in
theorem laws_likeHistory.calls (k : Nat) (a0_0 : Int) (A0_1 : Option Addr) (c0_1 : Nat) (l0_1 : List ByteArray) (a0_2 : Int) (a1_0 : Int) (A1_1 : Option Addr) (c1_1 : Nat) (l1_1 : List ByteArray) (a1_2 : Int) (r : Bool) (w : World) (hr0_1 : Kd.C Kd.string w A0_1 l0_1.length l0_1) (hc0_1 : l0_1.length ≤ c0_1) (hr1_1 : Kd.C Kd.string w A1_1 l1_1.length l1_1) (hc1_1 : l1_1.length ≤ c1_1) (h : laws_likeHistory.f k a0_0 l0_1 a0_2 a1_0 l1_1 a1_2 = some r) :
  Calls Try.prog 18 #[.agg #[.int .i64 a0_0, .slice A0_1 l0_1.length c0_1, .int .i64 a0_2], .agg #[.int .i64 a1_0, .slice A1_1 l1_1.length c1_1, .int .i64 a1_2]] w fun e w' => e = .returned (.bool r) ∧ Below w.heap.size w w' := by
 (
have hu26 := Try.underlying26
have HR0_1 := am hr0_1
have HC0_1 := am hc0_1
clear hr0_1 hc0_1
have HR1_1 := am hr1_1
have HC1_1 := am hc1_1
clear hr1_1 hc1_1
have HB := am (Below.refl w.heap.size w)
have H := h
unfold laws_likeHistory.f at H
clear h
refine em_ (p := a0_0 = a1_0) (fun c3 => ?g1p) (fun c3 => ?g1n)
case' g1p => (
rw [if_pos c3] at H
have c3b0 : (a0_0 == a1_0) = true := beq_iff_eq.mpr c3
have c3b1 : (a0_0 != a1_0) = false := bne_eq_false_iff_eq.mpr c3
clear c3
replace H := Option.bind_eq_some_iff.mp H
obtain ⟨t346, A40, H⟩ := H
(try dsimp only at H)
have A4 := am A40
clear A40
refine em_ (p := t346 = true) (fun c5 => ?g0p) (fun c5 => ?g0n)
case' g0p => (
subst c5
have H1 : (some (a0_2 == a1_2)) = some r := by rw [if_pos rfl] at H; exact H
clear H
have H := H1
clear H1
obtain rfl := Option.some.inj H
have lf1_ := trivial
)
case' g0n => (
replace c5 := Bool.eq_false_iff.mpr c5
subst c5
have H1 : (some false) = some r := by rw [if_neg (show ¬ (false = true) by decide)] at H; exact H
clear H
have H := H1
clear H1
obtain rfl := Option.some.inj H
have lf2_ := trivial
)
)
case' g1n => (
rw [if_neg c3] at H
have c3b0 : (a0_0 == a1_0) = false := beq_eq_false_iff_ne.mpr c3
have c3b1 : (a0_0 != a1_0) = true := bne_iff_ne.mpr c3
obtain rfl := Option.some.inj H
have lf3_ := trivial
)
all_goals (
go_enter Try.func18, Try.ntmps18
go_wp2_with (first | ((with_reducible refine gate_dst (N := 3) rfl ?_); refine box_event ?hg (N := 3) ?hd (cs := #[.int .i64 a1_0, .slice A1_1 l1_1.length c1_1, .int .i64 a1_2]) (t := 26) ?hr ?_; (case hd => rfl); (case hg => rfl); (case hr => first | (go_simp; done) | (go_simp; rfl)); intro gb345 hg w7 hbox hb; have BK345 := am (hbox); have GW345 := am (gw hg (rb1 HB GE344)); have GE345 := GW345; replace HB := am (below_step (rb1 HB GE344) hb); have NB344_345 := am (nl hg (rk BK344)); have NB345_344 := am (ng hg (rk BK344)); replace BK344 := am (blk_below (rk BK344) hb); clear hb hbox hg; have hnb8 := NB344_345.out; have hnc8 := NB345_344.out; have hcz9_0 : w7.cell? ⟨gb344, 0, none⟩ = some (.int .i64 a0_0) := (blk_cell BK344.out 0).trans rfl; have hcz9_1 : w7.cell? ⟨gb344, 1, none⟩ = some (.slice A0_1 l0_1.length c0_1) := (blk_cell BK344.out 1).trans rfl; have hcz9_2 : w7.cell? ⟨gb344, 2, none⟩ = some (.int .i64 a0_2) := (blk_cell BK344.out 2).trans rfl; have hfz9_0 := blk_frozen BK344.out 0; have hfz9_1 := blk_frozen BK344.out 1; have hfz9_2 := blk_frozen BK344.out 2; have hcz10_0 : w7.cell? ⟨gb345, 0, none⟩ = some (.int .i64 a1_0) := (blk_cell BK345.out 0).trans rfl; have hcz10_1 : w7.cell? ⟨gb345, 1, none⟩ = some (.slice A1_1 l1_1.length c1_1) := (blk_cell BK345.out 1).trans rfl; have hcz10_2 : w7.cell? ⟨gb345, 2, none⟩ = some (.int .i64 a1_2) := (blk_cell BK345.out 2).trans rfl; have hfz10_0 := blk_frozen BK345.out 0; have hfz10_1 := blk_frozen BK345.out 1; have hfz10_2 := blk_frozen BK345.out 2) | ((with_reducible refine gate_dst (N := 2) rfl ?_); refine box_event ?hg (N := 2) ?hd (cs := #[.int .i64 a0_0, .slice A0_1 l0_1.length c0_1, .int .i64 a0_2]) (t := 26) ?hr ?_; (case hd => rfl); (case hg => rfl); (case hr => first | (go_simp; done) | (go_simp; rfl)); intro gb344 hg w6 hbox hb; have BK344 := am (hbox); have GW344 := am (gw hg (rb HB)); have GE344 := GW344; replace HB := am (below_step (rb HB) hb); clear hb hbox hg) | (go_at_call 57; (with_reducible refine (laws_likeTexts.calls k _ _ l0_1 _ _ l1_1 false _ ?side1 ?side2 ?side3 ?side4 A4.out).mono ?_); (case side1 => exact rc ((Kd.C_below HR0_1.out HB.out))); (case side2 => exact HC0_1.out); (case side3 => exact rc ((Kd.C_below HR1_1.out HB.out))); (case side4 => exact HC1_1.out); rintro e w' ⟨rfl, ⟨nd, rfl⟩⟩) | (go_at_call 57; (with_reducible refine (laws_likeTexts.calls k _ _ l0_1 _ _ l1_1 true _ ?side1 ?side2 ?side3 ?side4 A4.out).mono ?_); (case side1 => exact rc ((Kd.C_below HR0_1.out HB.out))); (case side2 => exact HC0_1.out); (case side3 => exact rc ((Kd.C_below HR1_1.out HB.out))); (case side4 => exact HC1_1.out); rintro e w' ⟨rfl, ⟨nd, rfl⟩⟩))
go_ret
exact ⟨by first | rfl | (simp [errW_none, errW_some] <;> rfl) | (simp [*, errW_none, errW_some] <;> rfl), rb2 HB GE344 GE345⟩
)
)

/-! ### laws_likeInts: function 21 -/
def laws_likeInts.l0 : Nat → List Int → List Int → Int → Option (Bool)
 | 0, _, _, _ => none
 | k + 1, x0, x1, x5 => if x5 < (x0.length : Int) then (if 0 ≤ x5 then (if x5 < (x1.length : Int) then (if (rd x0 x5) = (rd x1 x5) then (laws_likeInts.l0 k x0 x1 (wrap64 (x5 + 1))) else (some false)) else (none)) else (none)) else (some true)
def laws_likeInts.f (k : Nat) (l0 : List Int) (l1 : List Int) : Option (Bool) := if (l0.length : Int) = (l1.length : Int) then (laws_likeInts.l0 k l0 l1 0) else (some false)
theorem laws_likeInts.mono_l : ∀ k, (∀ y0 y1 y2, LeO (laws_likeInts.l0 k y0 y1 y2) (laws_likeInts.l0 (k + 1) y0 y1 y2))
 | 0 => fun _ _ _ r h => by simp [laws_likeInts.l0] at h
 | k + 1 => by
  have ih0 := laws_likeInts.mono_l k
  ·intro y0 y1 y2
   unfold laws_likeInts.l0
   repeat' first
   | (with_reducible exact ih0 _ _ _)
   | (with_reducible exact LeO.refl _)
   | (with_reducible exact LeO.none _)
   | (with_reducible refine LeO.ite ?_ ?_)
   | (with_reducible refine LeO.bind ?_ (fun _ => ?_))
theorem laws_likeInts.mono : ∀ a0 a1 k, LeO (laws_likeInts.f k a0 a1) (laws_likeInts.f (k + 1) a0 a1) := by
 intro a0 a1 k
 have ih0 := laws_likeInts.mono_l k
 unfold laws_likeInts.f
 repeat' first
   | (with_reducible exact ih0 _ _ _)
   | (with_reducible exact LeO.refl _)
   | (with_reducible exact LeO.none _)
   | (with_reducible refine LeO.ite ?_ ?_)
   | (with_reducible refine LeO.bind ?_ (fun _ => ?_))
set_option maxHeartbeats 8000000 in
set_option maxRecDepth 100000 in
theorem laws_likeInts.calls (k : Nat) (A0 : Option Addr) (c0 : Nat) (l0 : List Int) (A1 : Option Addr) (c1 : Nat) (l1 : List Int) (r : Bool) (w : World) (hr0 : Kd.C (Kd.int .i64) w A0 l0.length l0) (hc0 : l0.length ≤ c0) (hr1 : Kd.C (Kd.int .i64) w A1 l1.length l1) (hc1 : l1.length ≤ c1) (h : laws_likeInts.f k l0 l1 = some r) :
  Calls Try.prog 21 #[.slice A0 l0.length c0, .slice A1 l1.length c1] w fun e w' => e = .returned (.bool r) ∧ Drawn0 w w' := by
 (
have HR0 := am hr0
have HC0 := am hc0
clear hr0 hc0
have HR1 := am hr1
have HC1 := am hc1
clear hr1 hc1
have H : (if (l0.length : Int) = (l1.length : Int) then (laws_likeInts.l0 k l0 l1 0) else (some false)) = some r := h
clear h
by_cases c3 : (l0.length : Int) = (l1.length : Int)
·(
rw [if_pos c3] at H
have c3b0 : ((l0.length : Int) == (l1.length : Int)) = true := beq_iff_eq.mpr c3
have c3b1 : ((l0.length : Int) != (l1.length : Int)) = false := bne_eq_false_iff_eq.mpr c3
have c3b2 : (l0.length == l1.length) = true := by first | simpa using c3 | (simp at c3 ⊢; omega)
clear c3
have H' := am H
clear H
go_enter Try.func21, Try.ntmps21
go_wp2
repeat (go_quiet (fail); try go_wp2)
go_loopg [5] k (fun kq v5 w' => ∃ (x5_1 : Int), v5 = .int .i64 x5_1 ∧ Aside0 (laws_likeInts.l0 kq l0 l1 x5_1 = some r) ∧ Aside0 (kq ≤ k) ∧ Drawn0 w w')
case atStart => exact ⟨(0), (by first | rfl | (simp; done) | (simp [*]; done)), H', ⟨Nat.le_refl _⟩, by repeat (first | exact Drawn0.refl _ | apply Drawn0.step)⟩
case round => (
clear H'
try clear c1
try clear c2
try clear p2
try clear c3
try clear c3b0
try clear c3b1
try clear c3b2
obtain ⟨x5_1, rfl, HA, HK1, ⟨m1, rfl⟩⟩ := hrel
cases gk with
| zero => exact absurd HA.out (by simp [laws_likeInts.l0])
| succ k1 => (
have H := HA.out
clear HA
simp only [laws_likeInts.l0] at H
by_cases c4 : x5_1 < (l0.length : Int)
·(
rw [if_pos c4] at H
have c4b0 : decide (x5_1 < (l0.length : Int)) = true := decide_eq_true c4
clear c4
by_cases c5 : 0 ≤ x5_1
·(
rw [if_pos c5] at H
have c5b0 : decide (0 ≤ x5_1) = true := decide_eq_true c5
clear c5
by_cases c6 : x5_1 < (l1.length : Int)
·(
rw [if_pos c6] at H
have c6b0 : decide (x5_1 < (l1.length : Int)) = true := decide_eq_true c6
clear c6
by_cases c7 : (rd l0 x5_1) = (rd l1 x5_1)
·(
rw [if_pos c7] at H
have c7b0 : ((rd l0 x5_1) == (rd l1 x5_1)) = true := beq_iff_eq.mpr c7
have c7b1 : ((rd l0 x5_1) != (rd l1 x5_1)) = false := bne_eq_false_iff_eq.mpr c7
clear c7
have H' := am H
clear H
have p347 : 0 ≤ (x5_1 : Int) := dt_
have q347 : x5_1 < (l0.length : Int) := dt_
obtain ⟨ad347, e347, hx347_0⟩ := Kd.at_int HR0.out x5_1 p347 q347
cases e347
replace p347 := eq_true p347
replace q347 := eq_true q347
have p348 : 0 ≤ (x5_1 : Int) := dt_
have q348 : x5_1 < (l1.length : Int) := dt_
obtain ⟨ad348, e348, hx348_0⟩ := Kd.at_int HR1.out x5_1 p348 q348
cases e348
replace p348 := eq_true p348
replace q348 := eq_true q348
go_wp2
repeat (go_quiet (fail); try go_wp2)
go_roundg k1
case measure => have := HK1.out; omega
case rel => exact ⟨(wrap64 (x5_1 + 1)), (by first | rfl | (simp; done) | (simp [*]; done)), H', ⟨by have := HK1.out; omega⟩, by repeat (first | exact Drawn0.refl _ | apply Drawn0.step)⟩
)
·(
rw [if_neg c7] at H
have c7b0 : ((rd l0 x5_1) == (rd l1 x5_1)) = false := beq_eq_false_iff_ne.mpr c7
have c7b1 : ((rd l0 x5_1) != (rd l1 x5_1)) = true := bne_iff_ne.mpr c7
obtain rfl := Option.some.inj H
have p347 : 0 ≤ (x5_1 : Int) := dt_
have q347 : x5_1 < (l0.length : Int) := dt_
obtain ⟨ad347, e347, hx347_0⟩ := Kd.at_int HR0.out x5_1 p347 q347
cases e347
replace p347 := eq_true p347
replace q347 := eq_true q347
have p348 : 0 ≤ (x5_1 : Int) := dt_
have q348 : x5_1 < (l1.length : Int) := dt_
obtain ⟨ad348, e348, hx348_0⟩ := Kd.at_int HR1.out x5_1 p348 q348
cases e348
replace p348 := eq_true p348
replace q348 := eq_true q348
go_wp2
repeat (go_quiet (fail); try go_wp2)
go_ret
exact ⟨by first | rfl | (simp; done) | (simp [*]; done), by repeat (first | exact Drawn0.refl _ | apply Drawn0.step)⟩
)
)
·(
rw [if_neg c6] at H
exact absurd H (by simp)
)
)
·(
rw [if_neg c5] at H
exact absurd H (by simp)
)
)
·(
rw [if_neg c4] at H
have c4b0 : decide (x5_1 < (l0.length : Int)) = false := decide_eq_false c4
clear c4
obtain rfl := Option.some.inj H
go_wp2
repeat (go_quiet (fail); try go_wp2)
go_ret
exact ⟨by first | rfl | (simp; done) | (simp [*]; done), by repeat (first | exact Drawn0.refl _ | apply Drawn0.step)⟩
)
)
)
)
·(
rw [if_neg c3] at H
have c3b0 : ((l0.length : Int) == (l1.length : Int)) = false := beq_eq_false_iff_ne.mpr c3
have c3b1 : ((l0.length : Int) != (l1.length : Int)) = true := bne_iff_ne.mpr c3
have c3b2 : (l0.length == l1.length) = false := by first | simpa using c3 | (simp at c3 ⊢; omega)
obtain rfl := Option.some.inj H
go_enter Try.func21, Try.ntmps21
go_wp2
repeat (go_quiet (fail); try go_wp2)
go_ret
exact ⟨by first | rfl | (simp; done) | (simp [*]; done), by repeat (first | exact Drawn0.refl _ | apply Drawn0.step)⟩
)
)

end Go.Proofs.Ytalopdcephohgaa.RA
