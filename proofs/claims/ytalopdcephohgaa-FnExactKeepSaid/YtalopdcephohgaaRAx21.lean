/- Contracts of Go functions that laws of this seat reach: each Lean function answers as its Go function does. No condition. Written by wip/tools/inj.py, over the kit's print. -/
import Derived.Test.YtalopdcephohgaaRAx0
namespace Go.Proofs.Ytalopdcephohgaa.RA
open Go.RowKit Go.Proofs.YtalopdcephohgaaW.PrintWords Go.Proofs.YtalopdcephohgaaW.PrintLast Go.Proofs.YtalopdcephohgaaW.PrintMore
attribute [local go_sem] max2_int min2_int max_two min_two max_three min_three max_four min_four   -- for this text's walks alone
set_option linter.unusedVariables false
set_option linter.unusedSimpArgs false

/-! ### laws_eqStringS: function 65 -/
def laws_eqStringS.l0 : Nat → List ByteArray → List ByteArray → Int → Option (Bool)
 | 0, _, _, _ => none
 | k + 1, x0, x1, x5 => if x5 < (x0.length : Int) then (if 0 ≤ x5 then (if x5 < (x1.length : Int) then (if (rdOf ByteArray.empty x0 x5).toList = (rdOf ByteArray.empty x1 x5).toList then (laws_eqStringS.l0 k x0 x1 (wrap64 (x5 + 1))) else (some false)) else (none)) else (none)) else (some true)
def laws_eqStringS.f (k : Nat) (l0 : List ByteArray) (l1 : List ByteArray) : Option (Bool) := if (l0.length : Int) = (l1.length : Int) then (laws_eqStringS.l0 k l0 l1 0) else (some false)
theorem laws_eqStringS.mono_l : ∀ k, (∀ y0 y1 y2, LeO (laws_eqStringS.l0 k y0 y1 y2) (laws_eqStringS.l0 (k + 1) y0 y1 y2))
 | 0 => fun _ _ _ r h => by simp [laws_eqStringS.l0] at h
 | k + 1 => by
  have ih0 := laws_eqStringS.mono_l k
  ·intro y0 y1 y2
   unfold laws_eqStringS.l0
   repeat' first
   | (with_reducible exact ih0 _ _ _)
   | (with_reducible exact LeO.refl _)
   | (with_reducible exact LeO.none _)
   | (with_reducible refine LeO.ite ?_ ?_)
   | (with_reducible refine LeO.bind ?_ (fun _ => ?_))
theorem laws_eqStringS.mono : ∀ a0 a1 k, LeO (laws_eqStringS.f k a0 a1) (laws_eqStringS.f (k + 1) a0 a1) := by
 intro a0 a1 k
 have ih0 := laws_eqStringS.mono_l k
 unfold laws_eqStringS.f
 repeat' first
   | (with_reducible exact ih0 _ _ _)
   | (with_reducible exact LeO.refl _)
   | (with_reducible exact LeO.none _)
   | (with_reducible refine LeO.ite ?_ ?_)
   | (with_reducible refine LeO.bind ?_ (fun _ => ?_))
set_option maxHeartbeats 8000000 in
set_option maxRecDepth 100000 in
theorem laws_eqStringS.calls (k : Nat) (A0 : Option Addr) (c0 : Nat) (l0 : List ByteArray) (A1 : Option Addr) (c1 : Nat) (l1 : List ByteArray) (r : Bool) (w : World) (hr0 : Kd.C Kd.string w A0 l0.length l0) (hc0 : l0.length ≤ c0) (hr1 : Kd.C Kd.string w A1 l1.length l1) (hc1 : l1.length ≤ c1) (h : laws_eqStringS.f k l0 l1 = some r) :
  Calls Try.prog 65 #[.slice A0 l0.length c0, .slice A1 l1.length c1] w fun e w' => e = .returned (.bool r) ∧ Drawn0 w w' := by
 (
have HR0 := am hr0
have HC0 := am hc0
clear hr0 hc0
have HR1 := am hr1
have HC1 := am hc1
clear hr1 hc1
have H : (if (l0.length : Int) = (l1.length : Int) then (laws_eqStringS.l0 k l0 l1 0) else (some false)) = some r := h
clear h
by_cases c3 : (l0.length : Int) = (l1.length : Int)
·(
rw [if_pos c3] at H
have c3b0 : ((l0.length : Int) == (l1.length : Int)) = true := beq_iff_eq.mpr c3
have c3b1 : ((l0.length : Int) != (l1.length : Int)) = false := bne_eq_false_iff_eq.mpr c3
have c3b2 : (l0.length == l1.length) = true := by first | simpa using c3 | (simp at c3 ⊢; omega)
clear c3
have H' := am H
clear H
go_enter Try.func65, Try.ntmps65
go_wp2
repeat (go_quiet (fail); try go_wp2)
go_loopg [5] k (fun kq v5 w' => ∃ (x5_1 : Int), v5 = .int .i64 x5_1 ∧ Aside0 (laws_eqStringS.l0 kq l0 l1 x5_1 = some r) ∧ Aside0 (kq ≤ k) ∧ Drawn0 w w')
case atStart => exact ⟨(0), (by first | rfl | (simp; done) | (simp [*]; done)), H', ⟨Nat.le_refl _⟩, by repeat (first | exact Drawn0.refl _ | apply Drawn0.step)⟩
case round => (
clear H'
try clear c1
try clear p2
try clear c3
try clear c3b0
try clear c3b1
try clear c3b2
obtain ⟨x5_1, rfl, HA, HK1, ⟨m1, rfl⟩⟩ := hrel
cases gk with
| zero => exact absurd HA.out (by simp [laws_eqStringS.l0])
| succ k1 => (
have H := HA.out
clear HA
simp only [laws_eqStringS.l0] at H
by_cases c4 : x5_1 < (l0.length : Int)
·(
rw [if_pos c4] at H
have c4b0 : decide (x5_1 < (l0.length : Int)) = true := decide_eq_true c4
clear c4
by_cases c5 : 0 ≤ x5_1
·(
rw [if_pos c5] at H
have c5b0 : decide (0 ≤ x5_1) = true := decide_eq_true c5
clear c5
by_cases c6 : x5_1 < (l1.length : Int)
·(
rw [if_pos c6] at H
have c6b0 : decide (x5_1 < (l1.length : Int)) = true := decide_eq_true c6
clear c6
by_cases c7 : (rdOf ByteArray.empty l0 x5_1).toList = (rdOf ByteArray.empty l1 x5_1).toList
·(
rw [if_pos c7] at H
have c7b0 : ((rdOf ByteArray.empty l0 x5_1).toList == (rdOf ByteArray.empty l1 x5_1).toList) = true := beq_iff_eq.mpr c7
have c7b1 : ((rdOf ByteArray.empty l0 x5_1).toList != (rdOf ByteArray.empty l1 x5_1).toList) = false := bne_eq_false_iff_eq.mpr c7
clear c7
have H' := am H
clear H
have p510 : 0 ≤ (x5_1 : Int) := dt_
have q510 : x5_1 < (l0.length : Int) := dt_
obtain ⟨ad510, e510, hx510_0⟩ := Kd.at_string HR0.out x5_1 p510 q510
cases e510
replace p510 := eq_true p510
replace q510 := eq_true q510
have p511 : 0 ≤ (x5_1 : Int) := dt_
have q511 : x5_1 < (l1.length : Int) := dt_
obtain ⟨ad511, e511, hx511_0⟩ := Kd.at_string HR1.out x5_1 p511 q511
cases e511
replace p511 := eq_true p511
replace q511 := eq_true q511
go_wp2
repeat (go_quiet (fail); try go_wp2)
go_roundg k1
case measure => have := HK1.out; omega
case rel => exact ⟨(wrap64 (x5_1 + 1)), (by first | rfl | (simp; done) | (simp [*]; done)), H', ⟨by have := HK1.out; omega⟩, by repeat (first | exact Drawn0.refl _ | apply Drawn0.step)⟩
)
·(
rw [if_neg c7] at H
have c7b0 : ((rdOf ByteArray.empty l0 x5_1).toList == (rdOf ByteArray.empty l1 x5_1).toList) = false := beq_eq_false_iff_ne.mpr c7
have c7b1 : ((rdOf ByteArray.empty l0 x5_1).toList != (rdOf ByteArray.empty l1 x5_1).toList) = true := bne_iff_ne.mpr c7
obtain rfl := Option.some.inj H
have p510 : 0 ≤ (x5_1 : Int) := dt_
have q510 : x5_1 < (l0.length : Int) := dt_
obtain ⟨ad510, e510, hx510_0⟩ := Kd.at_string HR0.out x5_1 p510 q510
cases e510
replace p510 := eq_true p510
replace q510 := eq_true q510
have p511 : 0 ≤ (x5_1 : Int) := dt_
have q511 : x5_1 < (l1.length : Int) := dt_
obtain ⟨ad511, e511, hx511_0⟩ := Kd.at_string HR1.out x5_1 p511 q511
cases e511
replace p511 := eq_true p511
replace q511 := eq_true q511
go_wp2
repeat (go_quiet (fail); try go_wp2)
go_ret
exact ⟨by first | rfl | (simp; done) | (simp [*]; done), by repeat (first | exact Drawn0.refl _ | apply Drawn0.step)⟩
)
)
·(
rw [if_neg c6] at H
exact absurd H (by simp)
)
)
·(
rw [if_neg c5] at H
exact absurd H (by simp)
)
)
·(
rw [if_neg c4] at H
have c4b0 : decide (x5_1 < (l0.length : Int)) = false := decide_eq_false c4
clear c4
obtain rfl := Option.some.inj H
go_wp2
repeat (go_quiet (fail); try go_wp2)
go_ret
exact ⟨by first | rfl | (simp; done) | (simp [*]; done), by repeat (first | exact Drawn0.refl _ | apply Drawn0.step)⟩
)
)
)
)
·(
rw [if_neg c3] at H
have c3b0 : ((l0.length : Int) == (l1.length : Int)) = false := beq_eq_false_iff_ne.mpr c3
have c3b1 : ((l0.length : Int) != (l1.length : Int)) = true := bne_iff_ne.mpr c3
have c3b2 : (l0.length == l1.length) = false := by first | simpa using c3 | (simp at c3 ⊢; omega)
obtain rfl := Option.some.inj H
go_enter Try.func65, Try.ntmps65
go_wp2
repeat (go_quiet (fail); try go_wp2)
go_ret
exact ⟨by first | rfl | (simp; done) | (simp [*]; done), by repeat (first | exact Drawn0.refl _ | apply Drawn0.step)⟩
)
)

/-! ### laws_eqHistory: function 27 -/
def laws_eqHistory.f (k : Nat) (a0_0 : Int) (l0_1 : List ByteArray) (a0_2 : Int) (a1_0 : Int) (l1_1 : List ByteArray) (a1_2 : Int) : Option (Bool) := if a0_0 = a1_0 then ((laws_eqStringS.f k l0_1 l1_1).bind fun t514 => (if t514 = true then (if a0_2 = a1_2 then (some true) else (some false)) else (some false))) else (some false)
theorem laws_eqHistory.mono : ∀ a0 a1 a2 a3 a4 a5 k, LeO (laws_eqHistory.f k a0 a1 a2 a3 a4 a5) (laws_eqHistory.f (k + 1) a0 a1 a2 a3 a4 a5) := by
 intro a0 a1 a2 a3 a4 a5 k
 unfold laws_eqHistory.f
 repeat' first
   | (with_reducible exact laws_eqStringS.mono _ _ _)
   | (with_reducible exact LeO.refl _)
   | (with_reducible exact LeO.none _)
   | (with_reducible refine LeO.ite ?_ ?_)
   | (with_reducible refine LeO.bind ?_ (fun _ => ?_))
set_option maxHeartbeats 8000000 in
set_option maxRecDepth 100000 in
theorem laws_eqHistory.calls (k : Nat) (a0_0 : Int) (A0_1 : Option Addr) (c0_1 : Nat) (l0_1 : List ByteArray) (a0_2 : Int) (a1_0 : Int) (A1_1 : Option Addr) (c1_1 : Nat) (l1_1 : List ByteArray) (a1_2 : Int) (r : Bool) (w : World) (hr0_1 : Kd.C Kd.string w A0_1 l0_1.length l0_1) (hc0_1 : l0_1.length ≤ c0_1) (hr1_1 : Kd.C Kd.string w A1_1 l1_1.length l1_1) (hc1_1 : l1_1.length ≤ c1_1) (h : laws_eqHistory.f k a0_0 l0_1 a0_2 a1_0 l1_1 a1_2 = some r) :
  Calls Try.prog 27 #[.agg #[.int .i64 a0_0, .slice A0_1 l0_1.length c0_1, .int .i64 a0_2], .agg #[.int .i64 a1_0, .slice A1_1 l1_1.length c1_1, .int .i64 a1_2]] w fun e w' => e = .returned (.bool r) ∧ Below w.heap.size w w' := by
 (
have hu26 := Try.underlying26
have HR0_1 := am hr0_1
have HC0_1 := am hc0_1
clear hr0_1 hc0_1
have HR1_1 := am hr1_1
have HC1_1 := am hc1_1
clear hr1_1 hc1_1
have HB := am (Below.refl w.heap.size w)
have H := h
unfold laws_eqHistory.f at H
clear h
refine em_ (p := a0_0 = a1_0) (fun c3 => ?g2p) (fun c3 => ?g2n)
case' g2p => (
rw [if_pos c3] at H
have c3b0 : (a0_0 == a1_0) = true := beq_iff_eq.mpr c3
have c3b1 : (a0_0 != a1_0) = false := bne_eq_false_iff_eq.mpr c3
clear c3
replace H := Option.bind_eq_some_iff.mp H
obtain ⟨t514, A40, H⟩ := H
(try dsimp only at H)
have A4 := am A40
clear A40
refine em_ (p := t514 = true) (fun c5 => ?g1p) (fun c5 => ?g1n)
case' g1p => (
subst c5
have H1 : (if a0_2 = a1_2 then (some true) else (some false)) = some r := by rw [if_pos rfl] at H; exact H
clear H
have H := H1
clear H1
refine em_ (p := a0_2 = a1_2) (fun c6 => ?g0p) (fun c6 => ?g0n)
case' g0p => (
rw [if_pos c6] at H
have c6b0 : (a0_2 == a1_2) = true := beq_iff_eq.mpr c6
have c6b1 : (a0_2 != a1_2) = false := bne_eq_false_iff_eq.mpr c6
clear c6
obtain rfl := Option.some.inj H
have lf1_ := trivial
)
case' g0n => (
rw [if_neg c6] at H
have c6b0 : (a0_2 == a1_2) = false := beq_eq_false_iff_ne.mpr c6
have c6b1 : (a0_2 != a1_2) = true := bne_iff_ne.mpr c6
obtain rfl := Option.some.inj H
have lf2_ := trivial
)
)
case' g1n => (
replace c5 := Bool.eq_false_iff.mpr c5
subst c5
have H1 : (some false) = some r := by rw [if_neg (show ¬ (false = true) by decide)] at H; exact H
clear H
have H := H1
clear H1
obtain rfl := Option.some.inj H
have lf3_ := trivial
)
)
case' g2n => (
rw [if_neg c3] at H
have c3b0 : (a0_0 == a1_0) = false := beq_eq_false_iff_ne.mpr c3
have c3b1 : (a0_0 != a1_0) = true := bne_iff_ne.mpr c3
obtain rfl := Option.some.inj H
have lf4_ := trivial
)
all_goals (
go_enter Try.func27, Try.ntmps27
go_wp2_with (first | ((with_reducible refine gate_dst (N := 3) rfl ?_); refine box_event ?hg (N := 3) ?hd (cs := #[.int .i64 a1_0, .slice A1_1 l1_1.length c1_1, .int .i64 a1_2]) (t := 26) ?hr ?_; (case hd => rfl); (case hg => rfl); (case hr => first | (go_simp; done) | (go_simp; rfl)); intro gb513 hg w8 hbox hb; have BK513 := am (hbox); have GW513 := am (gw hg (rb1 HB GE512)); have GE513 := GW513; replace HB := am (below_step (rb1 HB GE512) hb); have NB512_513 := am (nl hg (rk BK512)); have NB513_512 := am (ng hg (rk BK512)); replace BK512 := am (blk_below (rk BK512) hb); clear hb hbox hg; have hnb9 := NB512_513.out; have hnc9 := NB513_512.out; have hcz10_0 : w8.cell? ⟨gb512, 0, none⟩ = some (.int .i64 a0_0) := (blk_cell BK512.out 0).trans rfl; have hcz10_1 : w8.cell? ⟨gb512, 1, none⟩ = some (.slice A0_1 l0_1.length c0_1) := (blk_cell BK512.out 1).trans rfl; have hcz10_2 : w8.cell? ⟨gb512, 2, none⟩ = some (.int .i64 a0_2) := (blk_cell BK512.out 2).trans rfl; have hfz10_0 := blk_frozen BK512.out 0; have hfz10_1 := blk_frozen BK512.out 1; have hfz10_2 := blk_frozen BK512.out 2; have hcz11_0 : w8.cell? ⟨gb513, 0, none⟩ = some (.int .i64 a1_0) := (blk_cell BK513.out 0).trans rfl; have hcz11_1 : w8.cell? ⟨gb513, 1, none⟩ = some (.slice A1_1 l1_1.length c1_1) := (blk_cell BK513.out 1).trans rfl; have hcz11_2 : w8.cell? ⟨gb513, 2, none⟩ = some (.int .i64 a1_2) := (blk_cell BK513.out 2).trans rfl; have hfz11_0 := blk_frozen BK513.out 0; have hfz11_1 := blk_frozen BK513.out 1; have hfz11_2 := blk_frozen BK513.out 2) | ((with_reducible refine gate_dst (N := 2) rfl ?_); refine box_event ?hg (N := 2) ?hd (cs := #[.int .i64 a0_0, .slice A0_1 l0_1.length c0_1, .int .i64 a0_2]) (t := 26) ?hr ?_; (case hd => rfl); (case hg => rfl); (case hr => first | (go_simp; done) | (go_simp; rfl)); intro gb512 hg w7 hbox hb; have BK512 := am (hbox); have GW512 := am (gw hg (rb HB)); have GE512 := GW512; replace HB := am (below_step (rb HB) hb); clear hb hbox hg) | ((with_reducible refine gate_callee (f := 65) rfl ?_); refine gl_ (some 14) Try.func65 #[.slice A0_1 l0_1.length c0_1, .slice A1_1 l1_1.length c1_1] ?_; (with_reducible refine (laws_eqStringS.calls k _ _ l0_1 _ _ l1_1 false _ ?side1 ?side2 ?side3 ?side4 A4.out).mono ?_); (case side1 => exact rc ((Kd.C_below HR0_1.out HB.out))); (case side2 => exact HC0_1.out); (case side3 => exact rc ((Kd.C_below HR1_1.out HB.out))); (case side4 => exact HC1_1.out); rintro e w' ⟨rfl, ⟨nd, rfl⟩⟩; refine ⟨_, rfl, ?_⟩) | ((with_reducible refine gate_callee (f := 65) rfl ?_); refine gl_ (some 14) Try.func65 #[.slice A0_1 l0_1.length c0_1, .slice A1_1 l1_1.length c1_1] ?_; (with_reducible refine (laws_eqStringS.calls k _ _ l0_1 _ _ l1_1 true _ ?side1 ?side2 ?side3 ?side4 A4.out).mono ?_); (case side1 => exact rc ((Kd.C_below HR0_1.out HB.out))); (case side2 => exact HC0_1.out); (case side3 => exact rc ((Kd.C_below HR1_1.out HB.out))); (case side4 => exact HC1_1.out); rintro e w' ⟨rfl, ⟨nd, rfl⟩⟩; refine ⟨_, rfl, ?_⟩))
go_ret
exact ⟨by first | rfl | (simp [errW_none, errW_some] <;> rfl) | (simp [*, errW_none, errW_some] <;> rfl), rb2 HB GE512 GE513⟩
)
)

/-! ### laws_markText: function 94 -/
def laws_markText.l0 : Nat → Int → ByteArray → Option (ByteArray)
 | 0, _, _ => none
 | k + 1, x0, x3 => if x0 > 0 then ((some (([(wrap64 (48 + (Int.tmod x0 10))) % 256] : List Int) : List Int)).bind fun y515 => (if (strOfNums y515).size + x3.size ≤ 9223372036854775807 then (laws_markText.l0 k (wrap64 (Int.tdiv x0 10)) ((strOfNums y515) ++ x3)) else (none))) else (if 1 + x3.size ≤ 9223372036854775807 then (some ((⟨#[109]⟩ : ByteArray) ++ x3)) else (none))
def laws_markText.f (k : Nat) (a0 : Int) : Option (ByteArray) := if a0 ≤ 0 then (some (⟨#[109, 48]⟩ : ByteArray)) else (laws_markText.l0 k a0 (⟨#[]⟩ : ByteArray))
theorem laws_markText.mono_l : ∀ k, (∀ y0 y1, LeO (laws_markText.l0 k y0 y1) (laws_markText.l0 (k + 1) y0 y1))
 | 0 => fun _ _ r h => by simp [laws_markText.l0] at h
 | k + 1 => by
  have ih0 := laws_markText.mono_l k
  ·intro y0 y1
   unfold laws_markText.l0
   repeat' first
   | (with_reducible exact ih0 _ _)
   | (with_reducible exact LeO.refl _)
   | (with_reducible exact LeO.none _)
   | (with_reducible refine LeO.ite ?_ ?_)
   | (with_reducible refine LeO.bind ?_ (fun _ => ?_))
theorem laws_markText.mono : ∀ a0 k, LeO (laws_markText.f k a0) (laws_markText.f (k + 1) a0) := by
 intro a0 k
 have ih0 := laws_markText.mono_l k
 unfold laws_markText.f
 repeat' first
   | (with_reducible exact ih0 _ _)
   | (with_reducible exact LeO.refl _)
   | (with_reducible exact LeO.none _)
   | (with_reducible refine LeO.ite ?_ ?_)
   | (with_reducible refine LeO.bind ?_ (fun _ => ?_))
set_option maxHeartbeats 8000000 in
set_option maxRecDepth 100000 in
theorem laws_markText.calls (k : Nat) (a0 : Int) (r : ByteArray) (w : World) (h : laws_markText.f k a0 = some r) :
  Calls Try.prog 94 #[.int .i64 a0] w fun e w' => e = .returned (.string r) ∧ Below w.heap.size w w' := by
 (
have HB := am (Below.refl w.heap.size w)
have H := h
unfold laws_markText.f at H
clear h
by_cases c2 : a0 ≤ 0
·(
rw [if_pos c2] at H
have c2b0 : decide (a0 ≤ 0) = true := decide_eq_true c2
clear c2
obtain rfl := Option.some.inj H
go_enter Try.func94, Try.ntmps94
go_wp2
go_ret
exact ⟨by first | rfl | (simp [errW_none, errW_some] <;> rfl) | (simp [*, errW_none, errW_some] <;> rfl), by repeat (first | (with_reducible first | exact HB.out | apply b1 | apply b2 | apply b3) | exact HB.out)⟩
)
·(
rw [if_neg c2] at H
have c2b0 : decide (a0 ≤ 0) = false := decide_eq_false c2
clear c2
have H' := am H
clear H
go_enter Try.func94, Try.ntmps94
go_wp2
go_loopg [0, 3] k (fun kq v0 v3 w' => ∃ (x0_1 : Int) (x3_1 : ByteArray), v0 = .int .i64 x0_1 ∧ v3 = .string x3_1 ∧ Aside0 (laws_markText.l0 kq x0_1 x3_1 = some r) ∧ Aside0 (kq ≤ k) ∧ Aside0 (Below w.heap.size w w'))
case atStart => exact ⟨(a0), ((⟨#[]⟩ : ByteArray)), (by first | rfl | (simp; done) | (simp [*]; done)), (by first | rfl | (simp; done) | (simp [*]; done)), H', ⟨Nat.le_refl _⟩, ⟨rb HB⟩⟩
case round => (
clear H'
try clear c2
try clear c2b0
try clear p2
obtain ⟨x0_1, x3_1, rfl, rfl, HA, HK1, HB⟩ := hrel
cases gk with
| zero => exact absurd HA.out (by simp [laws_markText.l0])
| succ k1 => (
have H := HA.out
clear HA
simp only [laws_markText.l0] at H
by_cases c3 : x0_1 > 0
·(
rw [if_pos c3] at H
have c3b0 : decide (0 < x0_1) = true := decide_eq_true c3
clear c3
obtain ⟨y515, hy515⟩ : ∃ y_ : List Int, y_ = (([(wrap64 (48 + (Int.tmod x0_1 10))) % 256] : List Int)) := ⟨_, rfl⟩
replace H : (if (strOfNums y515).size + x3_1.size ≤ 9223372036854775807 then (laws_markText.l0 k1 (wrap64 (Int.tdiv x0_1 10)) ((strOfNums y515) ++ x3_1)) else (none)) = some r := by first | (rw [hy515]; with_reducible exact H) | (rw [hy515]; exact H) | exact H
have Ny515 := am hy515
clear hy515
by_cases c4 : (strOfNums y515).size + x3_1.size ≤ 9223372036854775807
·(
rw [if_pos c4] at H
have c4b0 := eq_true c4
have c4b1 : decide ((strOfNums y515).size + x3_1.size ≤ 9223372036854775807) = true := decide_eq_true c4
try have c4b2 : (9223372036854775807 < (strOfNums y515).size + x3_1.size) = False := eq_false (Nat.not_lt.2 c4)
have H' := am H
clear H
go_wp2_with (first | ((with_reducible refine gate_dst (N := 12) rfl ?_); refine Kd.R_lit (Kd.int .u8) _ 5 ?hg (N := 12) ?hd (xs := ([(wrap64 (48 + (Int.tmod x0_1 10))) % 256] : List Int)) (inner := [.int .u8 ((wrap64 (48 + (Int.tmod x0_1 10))) % 256)]) (ok := fun _ => True) (okp := fun _ => True) ?hr ?hp (fun _ hk => hk) trivial (Below.refl _ _) (Nat.le_refl _) (by simp) ?_; (case hd => rfl); (case hg => rfl); (case hr => first | (go_simp; done) | (go_simp; rfl)); (case hp => exact (Reps.one (show Kd.M (Kd.int .u8) _ _ _ ((wrap64 (48 + (Int.tmod x0_1 10))) % 256) [.int .u8 ((wrap64 (48 + (Int.tmod x0_1 10))) % 256)] from rfl) (Reps.none _ _))); intro v516 w5 ho6 hb hg_ hnew_; clear hg_ hnew_; (first | rw [← Ny515.out] at ho6 | (simp only [Int.reduceToNat] at ho6; rw [← Ny515.out] at ho6)); have HO517 := am (Kd.R_lower ho6 (below_size (rb HB))); replace HB := am (below_step (rb HB) hb); clear hb ho6; have hcv7 := own_string (P := Try.prog) Try.underlying22 Try.underlying5 Try.underlying9 (Kd.own_of_R HO517.out)))
go_roundg k1
case measure => have := HK1.out; omega
case rel => exact ⟨(wrap64 (Int.tdiv x0_1 10)), ((strOfNums y515) ++ x3_1), (by first | rfl | (simp; done) | (simp [*]; done)), (by first | rfl | (simp; done) | (simp [*]; done)), H', ⟨by have := HK1.out; omega⟩, ⟨rb HB⟩⟩
)
·(
rw [if_neg c4] at H
exact absurd H (by simp)
)
)
·(
rw [if_neg c3] at H
have c3b0 : decide (0 < x0_1) = false := decide_eq_false c3
clear c3
by_cases c8 : 1 + x3_1.size ≤ 9223372036854775807
·(
rw [if_pos c8] at H
have c8b0 := eq_true c8
have c8b1 : decide (1 + x3_1.size ≤ 9223372036854775807) = true := decide_eq_true c8
try have c8b2 : (9223372036854775807 < 1 + x3_1.size) = False := eq_false (Nat.not_lt.2 c8)
obtain rfl := Option.some.inj H
go_wp2
go_ret
exact ⟨by first | rfl | (simp [errW_none, errW_some] <;> rfl) | (simp [*, errW_none, errW_some] <;> rfl), by repeat (first | (with_reducible first | exact HB.out | apply b1 | apply b2 | apply b3) | exact HB.out)⟩
)
·(
rw [if_neg c8] at H
exact absurd H (by simp)
)
)
)
)
)
)

/-! ### laws_markStringS: function 66 -/
def laws_markStringS.l0 : Nat → List ByteArray → Int → Int → Option (Int × List ByteArray)
 | 0, _, _, _ => none
 | k + 1, x0, x1, x5 => if x5 < (x0.length : Int) then ((laws_markText.f k x1).bind fun t518 => (if 0 ≤ x5 then (laws_markStringS.l0 k (x0.set (x5 : Int).toNat t518) (wrap64 (x1 + 1)) (wrap64 (x5 + 1))) else (none))) else (some (x1, x0))
def laws_markStringS.f (k : Nat) (l0 : List ByteArray) (a1 : Int) : Option (Int × List ByteArray) := laws_markStringS.l0 k l0 a1 0
theorem laws_markStringS.mono_l : ∀ k, (∀ y0 y1 y2, LeO (laws_markStringS.l0 k y0 y1 y2) (laws_markStringS.l0 (k + 1) y0 y1 y2))
 | 0 => fun _ _ _ r h => by simp [laws_markStringS.l0] at h
 | k + 1 => by
  have ih0 := laws_markStringS.mono_l k
  ·intro y0 y1 y2
   unfold laws_markStringS.l0
   repeat' first
   | (with_reducible exact ih0 _ _ _)
   | (with_reducible exact laws_markText.mono _ _)
   | (with_reducible exact LeO.refl _)
   | (with_reducible exact LeO.none _)
   | (with_reducible refine LeO.ite ?_ ?_)
   | (with_reducible refine LeO.bind ?_ (fun _ => ?_))
theorem laws_markStringS.mono : ∀ a0 a1 k, LeO (laws_markStringS.f k a0 a1) (laws_markStringS.f (k + 1) a0 a1) := by
 intro a0 a1 k
 have ih0 := laws_markStringS.mono_l k
 unfold laws_markStringS.f
 repeat' first
   | (with_reducible exact ih0 _ _ _)
   | (with_reducible exact laws_markText.mono _ _)
   | (with_reducible exact LeO.refl _)
   | (with_reducible exact LeO.none _)
   | (with_reducible refine LeO.ite ?_ ?_)
   | (with_reducible refine LeO.bind ?_ (fun _ => ?_))
set_option maxHeartbeats 8000000 in
set_option maxRecDepth 100000 in
theorem laws_markStringS.calls (k : Nat) (P0_ : Nat → Prop) (u9000_ : Value) (l0 : List ByteArray) (a1 : Int) (r1 : Int) (r2 : List ByteArray) (w0 w : World) (hB : Below w0.heap.size w0 w) (ho0 : Kd.R Kd.string 9 w w0.heap.size P0_ u9000_ l0) (h : laws_markStringS.f k l0 a1 = some (r1, r2)) :
  Calls Try.prog 66 #[u9000_, .int .i64 a1] w fun e w' => e = .returned (.int .i64 r1) ∧ Kd.R Kd.string 9 w' w0.heap.size (fun k_ => (P0_ k_ ∨ w.heap.size ≤ k_)) u9000_ r2 ∧ Below w0.heap.size w0 w' ∧ Kept w w' (fun k_ => P0_ k_) := by
 (
have HO0 := am (show Kd.R Kd.string 9 w w0.heap.size (fun k_ => (P0_ k_ ∨ w.heap.size ≤ k_)) u9000_ l0 from Kd.R_mono ho0 (fun k_ hk => (.inl hk)))
have HK := am (Kept.refl w (fun k_ => P0_ k_))
have HW0 := am hB.size
have HB := am hB
clear hB
have H : (laws_markStringS.l0 k l0 a1 0) = some (r1, r2) := h
clear h
have H' := am H
clear H
go_enter Try.func66, Try.ntmps66
go_wp2
go_loopg [1, 5] k (fun kq v1 v5 w' => ∃ (x0_1 : List ByteArray) (x1_1 : Int) (x5_1 : Int), v1 = .int .i64 x1_1 ∧ v5 = .int .i64 x5_1 ∧ Aside0 (laws_markStringS.l0 kq x0_1 x1_1 x5_1 = some (r1, r2)) ∧ Aside0 (kq ≤ k) ∧ Aside0 (Kd.R Kd.string 9 w' w0.heap.size (fun k_ => (P0_ k_ ∨ w.heap.size ≤ k_)) u9000_ x0_1) ∧ Aside0 (Kept w w' (fun k_ => P0_ k_)) ∧ Aside0 (Below w0.heap.size w0 w'))
case atStart => exact ⟨(l0), (a1), (0), (by first | rfl | (simp; done) | (simp [*]; done)), (by first | rfl | (simp; done) | (simp [*]; done)), H', ⟨Nat.le_refl _⟩, ⟨rr HO0⟩, ⟨by repeat (first | (with_reducible first | exact HK.out | apply Kept.alloc | apply Kept.drewN | apply Kept.drew) | exact HK.out)⟩, ⟨rb HB⟩⟩
case round => (
clear H'
try clear p2
obtain ⟨x0_1, x1_1, x5_1, rfl, rfl, HA, HK1, HO_0, HK, HB⟩ := hrel
cases gk with
| zero => exact absurd HA.out (by simp [laws_markStringS.l0])
| succ k1 => (
have H := HA.out
clear HA
simp only [laws_markStringS.l0] at H
by_cases c3 : x5_1 < (x0_1.length : Int)
·(
rw [if_pos c3] at H
have c3b0 : decide (x5_1 < (x0_1.length : Int)) = true := decide_eq_true c3
clear c3
replace H := Option.bind_eq_some_iff.mp H
obtain ⟨t518, A40, H⟩ := H
(try dsimp only at H)
have A4 := am A40
clear A40
by_cases c5 : 0 ≤ x5_1
·(
rw [if_pos c5] at H
have c5b0 : decide (0 ≤ x5_1) = true := decide_eq_true c5
clear c5
obtain ⟨y519, hy519⟩ : ∃ y_ : List ByteArray, y_ = (x0_1.set (x5_1 : Int).toNat t518) := ⟨_, rfl⟩
replace H : (laws_markStringS.l0 k1 y519 (wrap64 (x1_1 + 1)) (wrap64 (x5_1 + 1))) = some (r1, r2) := by first | (rw [hy519]; with_reducible exact H) | (rw [hy519]; exact H) | exact H
have Ny519 := am hy519
clear hy519
have H' := am H
clear H
obtain ⟨Ao7, co7, eo7⟩ := Kd.R_slice HO_0.out
subst eo7
go_wp2_with (first | ((with_reducible refine gate_callee (f := 94) rfl ?_); refine gl_ (some 15) Try.func94 #[.int .i64 x1_1] ?_; (with_reducible refine (laws_markText.calls k1 x1_1 t518 _ A4.out).mono ?_); rintro e w8 ⟨rfl, hb⟩; refine ⟨_, rfl, ?_⟩; replace HO_0 := am (Kd.R_below (rr HO_0) hb); replace HK := am (Kept.below (S := (fun k_ => P0_ k_)) (by repeat (first | (with_reducible first | exact HK.out | apply Kept.alloc | apply Kept.drewN | apply Kept.drew) | exact HK.out)) hb); replace HB := am (below_step (rb HB) hb); (try clear hb); (try clear hb2); (try clear hk); (try clear hi); have p6 : 0 ≤ (x5_1 : Int) := dt_; have q6 : (x5_1 : Int) < ((x0_1.length : Int) : Int) := dt_; obtain ⟨go6, co6, eo6, gb6, gl6, cl6, HG6⟩ := Kd.R_form HO_0.out (by omega); (first | cases eo6 | (injection eo6 with ea_ en_ ec_; (first | subst ea_ | (injection ea_ with ea_; subst ea_)); subst ec_; clear en_)); have GB6 := am gb6; have GG6 := am HG6; clear gb6 gl6 HG6; have HMgo6 := am (show (P0_ go6 ∨ w.heap.size ≤ go6) from (HO_0.out.1 _ rfl)); obtain ⟨hx6_0, hf6_0⟩ := Kd.R_celln (⟨#[]⟩ : ByteArray) HO_0.out (x5_1 : Int) p6 q6; replace p6 := eq_true p6; replace q6 := eq_true q6; obtain ⟨hy9_, hz9_⟩ := Kd.R_celln (⟨#[]⟩ : ByteArray) HO_0.out (x5_1 : Int) dt_ dt_; have HP9 := Kd.R_putg HO_0.out (x5_1 : Int) t518) | ((with_reducible refine gate_store (t := 9) (p := 16) rfl ?_); refine store_event (t := 9) (p := 16) (v := ?vo_w10) (w1 := (w8.setCell ⟨go6, (x5_1 : Int).toNat, none⟩ (.string t518))) ?hg ?ho ?hn ?hr ?_; (case ho => rfl); (case hg => rfl); (case hn => rfl); (case hr => first | (go_simp; done) | (go_simp; rfl)); intro w10 hw; have hg : w8.grownBy w10 (some go6) := (by rw [hw]; exact HP9.2); have hp_ : Kd.R Kd.string 9 w10 w0.heap.size (fun k_ => (P0_ k_ ∨ w.heap.size ≤ k_)) (.slice (some ⟨go6, 0, none⟩) x0_1.length co7) y519 := (by rw [hw, Ny519.out]; exact HP9.1); clear HP9; replace HB := am ((by rw [hw]; exact below_set (HB.out) GB6.out : Below w0.heap.size w0 w10)); replace HK := am (Kept.of_grown (S := (fun k_ => P0_ k_)) hg (by repeat (first | (with_reducible first | exact HK.out | apply Kept.alloc | apply Kept.drewN | apply Kept.drew) | exact HK.out)) (fun k_ e_ => (HO_0.out.1 k_ e_))); replace HO_0 := am (hp_); clear hg hw hp_))
go_roundg k1
case measure => have := HK1.out; omega
case rel => exact ⟨(y519), (wrap64 (x1_1 + 1)), (wrap64 (x5_1 + 1)), (by first | rfl | (simp; done) | (simp [*]; done)), (by first | rfl | (simp; done) | (simp [*]; done)), H', ⟨by have := HK1.out; omega⟩, ⟨rr HO_0⟩, ⟨by repeat (first | (with_reducible first | exact HK.out | apply Kept.alloc | apply Kept.drewN | apply Kept.drew) | exact HK.out)⟩, ⟨rb HB⟩⟩
)
·(
rw [if_neg c5] at H
exact absurd H (by simp)
)
)
·(
rw [if_neg c3] at H
have c3b0 : decide (x5_1 < (x0_1.length : Int)) = false := decide_eq_false c3
clear c3
simp only [Option.some.injEq, Prod.mk.injEq] at H
obtain ⟨rfl, rfl⟩ := H
obtain ⟨Ao11, co11, eo11⟩ := Kd.R_slice HO_0.out
subst eo11
go_wp2
go_ret
exact ⟨by first | rfl | (simp [errW_none, errW_some] <;> rfl) | (simp [*, errW_none, errW_some] <;> rfl), by (with_reducible repeat (first | apply r1 | apply r2 | apply r3)); exact HO_0.out, by repeat (first | (with_reducible first | exact HB.out | apply b1 | apply b2 | apply b3) | exact HB.out), by repeat (first | (with_reducible first | exact HK.out | apply Kept.alloc | apply Kept.drewN | apply Kept.drew) | exact HK.out)⟩
)
)
)
)

end Go.Proofs.Ytalopdcephohgaa.RA
