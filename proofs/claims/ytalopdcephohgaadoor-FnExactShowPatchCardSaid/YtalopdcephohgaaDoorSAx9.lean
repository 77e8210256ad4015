/- Contracts of Go functions that laws of this seat reach: each Lean function answers as its Go function does. No condition. Written by wip/tools/inj.py, over the kit's print. -/
import Derived.Test.YtalopdcephohgaaDoorSAx0
import Derived.Test.YtalopdcephohgaaDoorSAx7
import Derived.Test.YtalopdcephohgaaDoorSAx8
namespace Go.Proofs.YtalopdcephohgaaDoor.SA
open Go.RowKit Go.Proofs.YtalopdcephohgaaDoorW.PrintWords Go.Proofs.YtalopdcephohgaaDoorW.PrintLast Go.Proofs.YtalopdcephohgaaDoorW.PrintMore
attribute [local go_sem] max2_int min2_int max_two min_two max_three min_three max_four min_four   -- for this text's walks alone
set_option linter.unusedVariables false
set_option linter.unusedSimpArgs false

/-! ### impl_spaced: function 21 -/
def impl_spaced.l0 : Nat → List ByteArray → List Int → Int → Int → Option (ByteArray)
 | 0, _, _, _, _ => none
 | k + 1, x3, x7, x8, x9 => if x9 < x8 then (if 0 ≤ x9 then (if x9 < (x7.length : Int) then ((impl_decimal.f (rd x7 x9)).bind fun t266 => (if x3.length < 8796093022208 then (impl_spaced.l0 k (x3 ++ [t266]) x7 x8 (wrap64 (x9 + 1))) else (none))) else (none)) else (none)) else ((strings_Join.f x3 (⟨#[32]⟩ : ByteArray)).bind fun t270 => (some t270))
def impl_spaced.f (k : Nat) (l0 : List Int) : Option (ByteArray) := impl_spaced.l0 k (([] : List ByteArray)) l0 (l0.length : Int) 0
theorem impl_spaced.mono_l : ∀ k, (∀ y0 y1 y2 y3, LeO (impl_spaced.l0 k y0 y1 y2 y3) (impl_spaced.l0 (k + 1) y0 y1 y2 y3))
 | 0 => fun _ _ _ _ r h => by simp [impl_spaced.l0] at h
 | k + 1 => by
  have ih0 := impl_spaced.mono_l k
  ·intro y0 y1 y2 y3
   unfold impl_spaced.l0
   repeat' first
   | (with_reducible exact ih0 _ _ _ _)
   | (with_reducible exact LeO.refl _)
   | (with_reducible exact LeO.none _)
   | (with_reducible refine LeO.ite ?_ ?_)
   | (with_reducible refine LeO.bind ?_ (fun _ => ?_))
theorem impl_spaced.mono : ∀ a0 k, LeO (impl_spaced.f k a0) (impl_spaced.f (k + 1) a0) := by
 intro a0 k
 have ih0 := impl_spaced.mono_l k
 unfold impl_spaced.f
 repeat' first
   | (with_reducible exact ih0 _ _ _ _)
   | (with_reducible exact LeO.refl _)
   | (with_reducible exact LeO.none _)
   | (with_reducible refine LeO.ite ?_ ?_)
   | (with_reducible refine LeO.bind ?_ (fun _ => ?_))
set_option maxHeartbeats 8000000 in
set_option maxRecDepth 100000 in
theorem impl_spaced.calls (k : Nat) (A0 : Option Addr) (c0 : Nat) (l0 : List Int) (r : ByteArray) (w : World) (hr0 : Kd.C (Kd.int .i64) w A0 l0.length l0) (hc0 : l0.length ≤ c0) (h : impl_spaced.f k l0 = some r) (hT : TB w) :
  Calls Tryd.prog 21 #[.slice A0 l0.length c0] w fun e w' => e = .returned (.string r) ∧ Below w.heap.size w w' := by
 (
have HT := am hT
clear hT
have HR0 := am hr0
have HC0 := am hc0
clear hr0 hc0
have HB := am (Below.refl w.heap.size w)
have H : (impl_spaced.l0 k (([] : List ByteArray)) l0 (l0.length : Int) 0) = some r := h
clear h
obtain ⟨y262, hy262⟩ : ∃ y_ : List ByteArray, y_ = (([] : List ByteArray)) := ⟨_, rfl⟩
replace H : (impl_spaced.l0 k y262 l0 (l0.length : Int) 0) = some r := by first | (rw [hy262]; with_reducible exact H) | (rw [hy262]; exact H) | exact H
have Ny262 := am hy262
clear hy262
have H' := am H
clear H
go_enter Tryd.func21, Tryd.ntmps21
go_wp2_with (first | ((with_reducible refine gate_dst (N := 6) rfl ?_); refine Kd.R_lit Kd.string _ 9 ?hg (N := 6) ?hd (xs := ([] : List ByteArray)) (inner := []) (ok := fun _ => True) (okp := fun _ => True) ?hr ?hp (fun _ hk => hk) trivial (Below.refl _ _) (Nat.le_refl _) (by simp) ?_; (case hd => rfl); (case hg => rfl); (case hr => first | (go_simp; done) | (go_simp; rfl)); (case hp => exact (Reps.none _ _)); intro v263 w2 ho3 hb hg_ hnew_; clear hg_ hnew_; (first | rw [← Ny262.out] at ho3 | (simp only [Int.reduceToNat] at ho3; rw [← Ny262.out] at ho3)); have HO264 := am (Kd.R_lower ho3 (below_size (rb HB))); replace HB := am (below_step (rb HB) hb); clear hb ho3))
go_loopg [3, 9] k (fun kq v3 v9 w' => ∃ (x3_1 : List ByteArray) (x9_1 : Int), v9 = .int .i64 x9_1 ∧ Aside0 (impl_spaced.l0 kq x3_1 l0 (l0.length : Int) x9_1 = some r) ∧ Aside0 (kq ≤ k) ∧ Aside0 (Kd.R Kd.string 9 w' w.heap.size (fun _ => True) v3 x3_1) ∧ Aside0 (Below w.heap.size w w'))
case atStart => exact ⟨(y262), (0), (by first | rfl | (simp; done) | (simp [*]; done)), H', ⟨Nat.le_refl _⟩, ⟨rr HO264⟩, ⟨rb HB⟩⟩
case round => (
clear H'
try clear c2
try clear p2
obtain ⟨x3_1, x9_1, rfl, HA, HK1, HO_3, HB⟩ := hrel
cases gk with
| zero => exact absurd HA.out (by simp [impl_spaced.l0])
| succ k1 => (
have H := HA.out
clear HA
simp only [impl_spaced.l0] at H
by_cases c4 : x9_1 < (l0.length : Int)
·(
rw [if_pos c4] at H
have c4b0 : decide (x9_1 < (l0.length : Int)) = true := decide_eq_true c4
clear c4
by_cases c5 : 0 ≤ x9_1
·(
rw [if_pos c5] at H
have c5b0 : decide (0 ≤ x9_1) = true := decide_eq_true c5
clear c5
by_cases c6 : x9_1 < (l0.length : Int)
·(
rw [if_pos c6] at H
have c6b0 : decide (x9_1 < (l0.length : Int)) = true := decide_eq_true c6
clear c6
replace H := Option.bind_eq_some_iff.mp H
obtain ⟨t266, A70, H⟩ := H
(try dsimp only at H)
have A7 := am A70
clear A70
by_cases c8 : x3_1.length < 8796093022208
·(
rw [if_pos c8] at H
have LMc8 := am c8
clear c8
obtain ⟨y267, hy267⟩ : ∃ y_ : List ByteArray, y_ = (x3_1 ++ [t266]) := ⟨_, rfl⟩
replace H : (impl_spaced.l0 k1 y267 l0 (l0.length : Int) (wrap64 (x9_1 + 1))) = some r := by first | (rw [hy267]; with_reducible exact H) | (rw [hy267]; exact H) | exact H
have Ny267 := am hy267
clear hy267
have H' := am H
clear H
have p265 : 0 ≤ (x9_1 : Int) := dt_
have q265 : x9_1 < (l0.length : Int) := dt_
obtain ⟨ad265, e265, hx265_0⟩ := Kd.at_int HR0.out x9_1 p265 q265
cases e265
replace hx265_0 := mv HB.out hx265_0
replace p265 := eq_true p265
replace q265 := eq_true q265
go_wp2_with (first | ((with_reducible refine gate_callee (f := 37) rfl ?_); refine gl_ (some 15) Tryd.func37 #[.int .i64 (rd l0 x9_1)] ?_; (with_reducible refine (impl_decimal.calls (rd l0 x9_1) t266 _ A7.out ?sideT).mono ?_); (case sideT => exact TB.below HT.out (rb HB)); rintro e w9 ⟨rfl, hb⟩; refine ⟨_, rfl, ?_⟩; replace HO_3 := am (Kd.R_below (rr HO_3) hb); replace HB := am (below_step (rb HB) hb); (try clear hb); (try clear hb2); (try clear hk); (try clear hi)) | ((with_reducible refine gate_builtin (b := .append) (xs := #[.tmp 13, .tmp 16]) rfl ?_); at_builtin; refine Kd.R_append Kd.string (w0 := w) w.heap.size rfl (.tmp 13) (.tmp 16) 58 9 (.string ⟨#[]⟩) 16 rfl Tryd.underlying58 info9 rfl (by decide) (by omega) u3 x3_1 t266 [.string t266] (fun _ => True) (fun _ => False) rfl rfl ?aP (fun _ hk => hk.elim) ?aF ?aO ?aB ?aS ?aL ?_; (case aP => exact rfl); (case aB => exact (rb HB)); (case aF => exact (fun _ _ => trivial)); (case aO => exact (rr HO_3)); (case aS => exact (below_size (rb HB))); (case aL => have := LMc8.out; omega); intro v268 w10 ho hb hg hat; rw [← Ny267.out] at ho; replace HB := am (hb); have HO269 := am (ho); clear HO_3; clear ho hb hg hat))
go_roundg k1
case measure => have := HK1.out; omega
case rel => exact ⟨(y267), (wrap64 (x9_1 + 1)), (by first | rfl | (simp; done) | (simp [*]; done)), H', ⟨by have := HK1.out; omega⟩, ⟨rr HO269⟩, ⟨rb HB⟩⟩
)
·(
rw [if_neg c8] at H
exact absurd H (by simp)
)
)
·(
rw [if_neg c6] at H
exact absurd H (by simp)
)
)
·(
rw [if_neg c5] at H
exact absurd H (by simp)
)
)
·(
rw [if_neg c4] at H
have c4b0 : decide (x9_1 < (l0.length : Int)) = false := decide_eq_false c4
clear c4
replace H := Option.bind_eq_some_iff.mp H
obtain ⟨t270, A110, H⟩ := H
replace H : (some t270) = some r := H
have A11 := am A110
clear A110
obtain rfl := Option.some.inj H
obtain ⟨Ao12, co12, eo12⟩ := Kd.R_slice HO_3.out
subst eo12
go_wp2_with (first | ((with_reducible refine gate_callee (f := 38) rfl ?_); refine gl_ (some 20) Tryd.func38 #[.slice Ao12 x3_1.length co12, .string (⟨#[32]⟩ : ByteArray)] ?_; (with_reducible refine (strings_Join.calls _ _ x3_1 (⟨#[32]⟩ : ByteArray) t270 _ ?side1 ?side2 A11.out).mono ?_); (case side1 => repeat (first | exact (Kd.R_reads' HO_3.out).2.2 | (with_reducible refine Kd.C_alloc ?_ _) | (with_reducible refine Kd.C_drewN ?_ _) | (with_reducible refine Kd.C_drew ?_))); (case side2 => exact (Kd.R_reads' HO_3.out).2.1); rintro e w13 ⟨rfl, hb⟩; refine ⟨_, rfl, ?_⟩; replace HO_3 := am (Kd.R_below (rr HO_3) hb); replace HB := am (below_step (rb HB) hb); (try clear hb); (try clear hb2); (try clear hk); (try clear hi)))
go_ret
exact ⟨by first | rfl | (simp [errW_none, errW_some] <;> rfl) | (simp [*, errW_none, errW_some] <;> rfl), by repeat (first | (with_reducible first | exact HB.out | apply b1 | apply b2 | apply b3) | exact HB.out)⟩
)
)
)
)

/-! ### impl_ShowPatch: function 8 -/
def impl_ShowPatch.f (k : Nat) (a0_0 : Int) (a0_1 : Int) (l0_2 : List (S40)) : Option (ByteArray) := if (l0_2.length : Int) > 400 then (some (⟨#[]⟩ : ByteArray)) else ((impl_Patch_numbers.f k a0_0 a0_1 l0_2).bind fun bt272 => (if bt272.2 = true then ((impl_spaced.f k bt272.1).bind fun t276 => (some t276)) else (some (⟨#[]⟩ : ByteArray))))
theorem impl_ShowPatch.mono : ∀ a0 a1 a2 k, LeO (impl_ShowPatch.f k a0 a1 a2) (impl_ShowPatch.f (k + 1) a0 a1 a2) := by
 intro a0 a1 a2 k
 unfold impl_ShowPatch.f
 repeat' first
   | (with_reducible exact impl_Patch_numbers.mono _ _ _ _)
   | (with_reducible exact impl_spaced.mono _ _)
   | (with_reducible exact LeO.refl _)
   | (with_reducible exact LeO.none _)
   | (with_reducible refine LeO.ite ?_ ?_)
   | (with_reducible refine LeO.bind ?_ (fun _ => ?_))
set_option maxHeartbeats 8000000 in
set_option maxRecDepth 100000 in
theorem impl_ShowPatch.calls (k : Nat) (a0_0 : Int) (a0_1 : Int) (A0_2 : Option Addr) (c0_2 : Nat) (l0_2 : List (S40)) (r : ByteArray) (w : World) (hr0_2 : Kd.C k40 w A0_2 l0_2.length l0_2) (hc0_2 : l0_2.length ≤ c0_2) (h : impl_ShowPatch.f k a0_0 a0_1 l0_2 = some r) (hT : TB w) :
  Calls Tryd.prog 8 #[.agg #[.int .i64 a0_0, .int .i64 a0_1, .slice A0_2 l0_2.length c0_2]] w fun e w' => e = .returned (.string r) ∧ Below w.heap.size w w' := by
 (
have HT := am hT
clear hT
have hu29 := Tryd.underlying29
have HR0_2 := am hr0_2
have HC0_2 := am hc0_2
clear hr0_2 hc0_2
have HB := am (Below.refl w.heap.size w)
have H := h
unfold impl_ShowPatch.f at H
clear h
refine em_ (p := (l0_2.length : Int) > 400) (fun c2 => ?g1p) (fun c2 => ?g1n)
case' g1p => (
rw [if_pos c2] at H
have c2b0 : decide (400 < (l0_2.length : Int)) = true := decide_eq_true c2
have c2b1 : decide (400 < l0_2.length) = true := decide_eq_true (by omega)
clear c2
obtain rfl := Option.some.inj H
have lf1_ := trivial
)
case' g1n => (
rw [if_neg c2] at H
have c2b0 : decide (400 < (l0_2.length : Int)) = false := decide_eq_false c2
have c2b1 : decide (400 < l0_2.length) = false := decide_eq_false (by omega)
clear c2
replace H := Option.bind_eq_some_iff.mp H
obtain ⟨⟨t272, t275⟩, A50, H⟩ := H
(try dsimp only at H)
have A5 := am A50
clear A50
refine em_ (p := t275 = true) (fun c6 => ?g0p) (fun c6 => ?g0n)
case' g0p => (
subst c6
have H1 : ((impl_spaced.f k t272).bind fun t276 => (some t276)) = some r := by rw [if_pos rfl] at H; exact H
clear H
have H := H1
clear H1
replace H := Option.bind_eq_some_iff.mp H
obtain ⟨t276, A70, H⟩ := H
replace H : (some t276) = some r := H
have A7 := am A70
clear A70
obtain rfl := Option.some.inj H
have lf2_ := trivial
)
case' g0n => (
replace c6 := Bool.eq_false_iff.mpr c6
subst c6
have H1 : (some (⟨#[]⟩ : ByteArray)) = some r := by rw [if_neg (show ¬ (false = true) by decide)] at H; exact H
clear H
have H := H1
clear H1
obtain rfl := Option.some.inj H
have lf3_ := trivial
)
)
all_goals (
go_enter Tryd.func8, Tryd.ntmps8
go_wp2_with (first | ((with_reducible refine gate_dst (N := 1) rfl ?_); refine box_event ?hg (N := 1) ?hd (cs := #[.int .i64 a0_0, .int .i64 a0_1, .slice A0_2 l0_2.length c0_2]) (t := 29) ?hr ?_; (case hd => rfl); (case hg => rfl); (case hr => first | (go_simp; done) | (go_simp; rfl)); intro gb271 hg w3 hbox hb; have BK271 := am (hbox); have GW271 := am (gw hg (rb HB)); have GE271 := GW271; replace HB := am (below_step (rb HB) hb); clear hb hbox hg; have hcz4_0 : w3.cell? ⟨gb271, 0, none⟩ = some (.int .i64 a0_0) := (blk_cell BK271.out 0).trans rfl; have hcz4_1 : w3.cell? ⟨gb271, 1, none⟩ = some (.int .i64 a0_1) := (blk_cell BK271.out 1).trans rfl; have hcz4_2 : w3.cell? ⟨gb271, 2, none⟩ = some (.slice A0_2 l0_2.length c0_2) := (blk_cell BK271.out 2).trans rfl; have hfz4_0 := blk_frozen BK271.out 0; have hfz4_1 := blk_frozen BK271.out 1; have hfz4_2 := blk_frozen BK271.out 2) | ((with_reducible refine gate_callee (f := 21) rfl ?_); refine gl_ (some 17) Tryd.func21 #[.slice Ao11 t272.length co11] ?_; (with_reducible refine (impl_spaced.calls k _ _ t272 t276 _ ?side1 ?side2 A7.out ?sideT).mono ?_); (case sideT => exact TB.below HT.out (rb1 HB GE271)); (case side1 => repeat (first | exact (Kd.R_reads' HO274.out).2.2 | (with_reducible refine Kd.C_alloc ?_ _) | (with_reducible refine Kd.C_drewN ?_ _) | (with_reducible refine Kd.C_drew ?_))); (case side2 => exact (Kd.R_reads' HO274.out).2.1); rintro e w12 ⟨rfl, hb⟩; refine ⟨_, rfl, ?_⟩; replace HO274 := am (Kd.R_below (rr HO274) hb); replace BK271 := am (blk_below (rk BK271) hb); replace HB := am (below_step (rb1 HB GE271) hb); (try clear hb); (try clear hb2); (try clear hk); (try clear hi)) | ((with_reducible refine gate_callee (f := 20) rfl ?_); refine gl_ (some 11) Tryd.func20 #[.agg #[.int .i64 a0_0, .int .i64 a0_1, .slice A0_2 l0_2.length c0_2]] ?_; (with_reducible refine (impl_Patch_numbers.calls k a0_0 a0_1 _ _ l0_2 t272 true _ ?side1 ?side2 A5.out).mono ?_); (case side1 => exact rc ((Kd.C_below HR0_2.out HB.out))); (case side2 => exact HC0_2.out); rintro e w10 ⟨v273, rfl, ho0, hb⟩; refine ⟨_, rfl, ?_⟩; have HO274 := am (Kd.R_lower ho0 (below_size (rb1 HB GE271))); replace BK271 := am (blk_below (rk BK271) hb); replace HB := am (below_step (rb1 HB GE271) hb); (try clear hb); (try clear hb2); (try clear hk); (try clear hi); (try clear ho0); obtain ⟨Ao11, co11, eo11⟩ := Kd.R_slice HO274.out; subst eo11) | ((with_reducible refine gate_callee (f := 20) rfl ?_); refine gl_ (some 11) Tryd.func20 #[.agg #[.int .i64 a0_0, .int .i64 a0_1, .slice A0_2 l0_2.length c0_2]] ?_; (with_reducible refine (impl_Patch_numbers.calls k a0_0 a0_1 _ _ l0_2 t272 false _ ?side1 ?side2 A5.out).mono ?_); (case side1 => exact rc ((Kd.C_below HR0_2.out HB.out))); (case side2 => exact HC0_2.out); rintro e w15 ⟨v273, rfl, ho0, hb⟩; refine ⟨_, rfl, ?_⟩; have HO274 := am (Kd.R_lower ho0 (below_size (rb1 HB GE271))); replace BK271 := am (blk_below (rk BK271) hb); replace HB := am (below_step (rb1 HB GE271) hb); (try clear hb); (try clear hb2); (try clear hk); (try clear hi); (try clear ho0)))
go_ret
exact ⟨by first | rfl | (simp [errW_none, errW_some] <;> rfl) | (simp [*, errW_none, errW_some] <;> rfl), by repeat (first | (with_reducible first | exact HB.out | apply b1 | apply b2 | apply b3 | refine below_set ?_ GE271.out) | exact HB.out)⟩
)
)

/-! ### laws_eqStyle: function 78 -/
def laws_eqStyle.f (a0_0 : Int) (a0_1 : Int) (a0_2 : Bool) (a0_3 : Bool) (a0_4 : Bool) (a1_0 : Int) (a1_1 : Int) (a1_2 : Bool) (a1_3 : Bool) (a1_4 : Bool) : Option (Bool) := if a0_0 = a1_0 then (if a0_1 = a1_1 then (if (a0_2 != a1_2) = true then (some false) else (if (a0_3 != a1_3) = true then (some false) else (if (a0_4 != a1_4) = true then (some false) else (some true)))) else (some false)) else (some false)
set_option maxHeartbeats 8000000 in
set_option maxRecDepth 100000 in
theorem laws_eqStyle.calls (a0_0 : Int) (a0_1 : Int) (a0_2 : Bool) (a0_3 : Bool) (a0_4 : Bool) (a1_0 : Int) (a1_1 : Int) (a1_2 : Bool) (a1_3 : Bool) (a1_4 : Bool) (r : Bool) (w : World) (h : laws_eqStyle.f a0_0 a0_1 a0_2 a0_3 a0_4 a1_0 a1_1 a1_2 a1_3 a1_4 = some r) :
  Calls Tryd.prog 78 #[.agg #[.int .i64 a0_0, .int .i64 a0_1, .bool a0_2, .bool a0_3, .bool a0_4], .agg #[.int .i64 a1_0, .int .i64 a1_1, .bool a1_2, .bool a1_3, .bool a1_4]] w fun e w' => e = .returned (.bool r) ∧ Below w.heap.size w w' := by
 (
have hu43 := Tryd.underlying43
have HB := am (Below.refl w.heap.size w)
have H := h
unfold laws_eqStyle.f at H
clear h
refine em_ (p := a0_0 = a1_0) (fun c3 => ?g6p) (fun c3 => ?g6n)
case' g6p => (
rw [if_pos c3] at H
have c3b0 : (a0_0 == a1_0) = true := beq_iff_eq.mpr c3
have c3b1 : (a0_0 != a1_0) = false := bne_eq_false_iff_eq.mpr c3
clear c3
refine em_ (p := a0_1 = a1_1) (fun c4 => ?g5p) (fun c4 => ?g5n)
case' g5p => (
rw [if_pos c4] at H
have c4b0 : (a0_1 == a1_1) = true := beq_iff_eq.mpr c4
have c4b1 : (a0_1 != a1_1) = false := bne_eq_false_iff_eq.mpr c4
clear c4
refine em_ (p := (a0_2 != a1_2) = true) (fun c5 => ?g4p) (fun c5 => ?g4n)
case' g4p => (
rw [if_pos c5] at H
have c5b0 : (a0_2 != a1_2) = true := c5
(try (have c5b1 : decide (a0_2 = a1_2) = false := by simpa using c5))
(try (have c5b2 : (a0_2 == a1_2) = false := by simpa using c5))
(try (have c5b3 : ¬ (a0_2 = a1_2) := by simpa using c5))
clear c5
obtain rfl := Option.some.inj H
have lf4_ := trivial
)
case' g4n => (
rw [if_neg c5] at H
have c5b0 : (a0_2 != a1_2) = false := by simpa using c5
(try (have c5b1 : decide (a0_2 = a1_2) = true := by simpa using c5))
(try (have c5b2 : (a0_2 == a1_2) = true := by simpa using c5))
clear c5
refine em_ (p := (a0_3 != a1_3) = true) (fun c11 => ?g3p) (fun c11 => ?g3n)
case' g3p => (
rw [if_pos c11] at H
have c11b0 : (a0_3 != a1_3) = true := c11
(try (have c11b1 : decide (a0_3 = a1_3) = false := by simpa using c11))
(try (have c11b2 : (a0_3 == a1_3) = false := by simpa using c11))
(try (have c11b3 : ¬ (a0_3 = a1_3) := by simpa using c11))
clear c11
obtain rfl := Option.some.inj H
have lf5_ := trivial
)
case' g3n => (
rw [if_neg c11] at H
have c11b0 : (a0_3 != a1_3) = false := by simpa using c11
(try (have c11b1 : decide (a0_3 = a1_3) = true := by simpa using c11))
(try (have c11b2 : (a0_3 == a1_3) = true := by simpa using c11))
clear c11
refine em_ (p := (a0_4 != a1_4) = true) (fun c17 => ?g2p) (fun c17 => ?g2n)
case' g2p => (
rw [if_pos c17] at H
have c17b0 : (a0_4 != a1_4) = true := c17
(try (have c17b1 : decide (a0_4 = a1_4) = false := by simpa using c17))
(try (have c17b2 : (a0_4 == a1_4) = false := by simpa using c17))
(try (have c17b3 : ¬ (a0_4 = a1_4) := by simpa using c17))
clear c17
obtain rfl := Option.some.inj H
have lf6_ := trivial
)
case' g2n => (
rw [if_neg c17] at H
have c17b0 : (a0_4 != a1_4) = false := by simpa using c17
(try (have c17b1 : decide (a0_4 = a1_4) = true := by simpa using c17))
(try (have c17b2 : (a0_4 == a1_4) = true := by simpa using c17))
clear c17
obtain rfl := Option.some.inj H
have lf7_ := trivial
)
)
)
)
case' g5n => (
rw [if_neg c4] at H
have c4b0 : (a0_1 == a1_1) = false := beq_eq_false_iff_ne.mpr c4
have c4b1 : (a0_1 != a1_1) = true := bne_iff_ne.mpr c4
obtain rfl := Option.some.inj H
have lf8_ := trivial
)
)
case' g6n => (
rw [if_neg c3] at H
have c3b0 : (a0_0 == a1_0) = false := beq_eq_false_iff_ne.mpr c3
have c3b1 : (a0_0 != a1_0) = true := bne_iff_ne.mpr c3
obtain rfl := Option.some.inj H
have lf9_ := trivial
)
all_goals (
go_enter Tryd.func78, Tryd.ntmps78
go_wp2_with (first | ((with_reducible refine gate_dst (N := 2) rfl ?_); refine box_event ?hg (N := 2) ?hd (cs := #[.int .i64 a0_0, .int .i64 a0_1, .bool a0_2, .bool a0_3, .bool a0_4]) (t := 43) ?hr ?_; (case hd => rfl); (case hg => rfl); (case hr => first | (go_simp; done) | (go_simp; rfl)); intro gb277 hg w6 hbox hb; have BK277 := am (hbox); have GW277 := am (gw hg (rb HB)); have GE277 := GW277; replace HB := am (below_step (rb HB) hb); clear hb hbox hg) | ((with_reducible refine gate_dst (N := 3) rfl ?_); refine box_event ?hg (N := 3) ?hd (cs := #[.int .i64 a1_0, .int .i64 a1_1, .bool a1_2, .bool a1_3, .bool a1_4]) (t := 43) ?hr ?_; (case hd => rfl); (case hg => rfl); (case hr => first | (go_simp; done) | (go_simp; rfl)); intro gb278 hg w7 hbox hb; have BK278 := am (hbox); have GW278 := am (gw hg (rb1 HB GE277)); have GE278 := GW278; replace HB := am (below_step (rb1 HB GE277) hb); have NB277_278 := am (nl hg (rk BK277)); have NB278_277 := am (ng hg (rk BK277)); replace BK277 := am (blk_below (rk BK277) hb); clear hb hbox hg; have hnb8 := NB277_278.out; have hnc8 := NB278_277.out; have hcz9_0 : w7.cell? ⟨gb277, 0, none⟩ = some (.int .i64 a0_0) := (blk_cell BK277.out 0).trans rfl; have hcz9_1 : w7.cell? ⟨gb277, 1, none⟩ = some (.int .i64 a0_1) := (blk_cell BK277.out 1).trans rfl; have hcz9_2 : w7.cell? ⟨gb277, 2, none⟩ = some (.bool a0_2) := (blk_cell BK277.out 2).trans rfl; have hcz9_3 : w7.cell? ⟨gb277, 3, none⟩ = some (.bool a0_3) := (blk_cell BK277.out 3).trans rfl; have hcz9_4 : w7.cell? ⟨gb277, 4, none⟩ = some (.bool a0_4) := (blk_cell BK277.out 4).trans rfl; have hfz9_0 := blk_frozen BK277.out 0; have hfz9_1 := blk_frozen BK277.out 1; have hfz9_2 := blk_frozen BK277.out 2; have hfz9_3 := blk_frozen BK277.out 3; have hfz9_4 := blk_frozen BK277.out 4; have hcz10_0 : w7.cell? ⟨gb278, 0, none⟩ = some (.int .i64 a1_0) := (blk_cell BK278.out 0).trans rfl; have hcz10_1 : w7.cell? ⟨gb278, 1, none⟩ = some (.int .i64 a1_1) := (blk_cell BK278.out 1).trans rfl; have hcz10_2 : w7.cell? ⟨gb278, 2, none⟩ = some (.bool a1_2) := (blk_cell BK278.out 2).trans rfl; have hcz10_3 : w7.cell? ⟨gb278, 3, none⟩ = some (.bool a1_3) := (blk_cell BK278.out 3).trans rfl; have hcz10_4 : w7.cell? ⟨gb278, 4, none⟩ = some (.bool a1_4) := (blk_cell BK278.out 4).trans rfl; have hfz10_0 := blk_frozen BK278.out 0; have hfz10_1 := blk_frozen BK278.out 1; have hfz10_2 := blk_frozen BK278.out 2; have hfz10_3 := blk_frozen BK278.out 3; have hfz10_4 := blk_frozen BK278.out 4))
go_ret
exact ⟨by first | rfl | (simp [errW_none, errW_some] <;> rfl) | (simp [*, errW_none, errW_some] <;> rfl), rb2 HB GE277 GE278⟩
)
)

/-! ### laws_eqCell: function 63 -/
def laws_eqCell.f (a0_0 : Int) (a0_1 : Int) (a0_2 : Int) (a0_3 : Bool) (a0_4 : Bool) (a0_5 : Bool) (a0_6 : Int) (a1_0 : Int) (a1_1 : Int) (a1_2 : Int) (a1_3 : Bool) (a1_4 : Bool) (a1_5 : Bool) (a1_6 : Int) : Option (Bool) := if a0_0 = a1_0 then ((laws_eqStyle.f a0_1 a0_2 a0_3 a0_4 a0_5 a1_1 a1_2 a1_3 a1_4 a1_5).bind fun t281 => (if t281 = true then (if a0_6 = a1_6 then (some true) else (some false)) else (some false))) else (some false)
set_option maxHeartbeats 8000000 in
set_option maxRecDepth 100000 in
theorem laws_eqCell.calls (a0_0 : Int) (a0_1 : Int) (a0_2 : Int) (a0_3 : Bool) (a0_4 : Bool) (a0_5 : Bool) (a0_6 : Int) (a1_0 : Int) (a1_1 : Int) (a1_2 : Int) (a1_3 : Bool) (a1_4 : Bool) (a1_5 : Bool) (a1_6 : Int) (r : Bool) (w : World) (h : laws_eqCell.f a0_0 a0_1 a0_2 a0_3 a0_4 a0_5 a0_6 a1_0 a1_1 a1_2 a1_3 a1_4 a1_5 a1_6 = some r) :
  Calls Tryd.prog 63 #[.agg #[.int .i64 a0_0, .int .i64 a0_1, .int .i64 a0_2, .bool a0_3, .bool a0_4, .bool a0_5, .int .i64 a0_6], .agg #[.int .i64 a1_0, .int .i64 a1_1, .int .i64 a1_2, .bool a1_3, .bool a1_4, .bool a1_5, .int .i64 a1_6]] w fun e w' => e = .returned (.bool r) ∧ Below w.heap.size w w' := by
 (
have hu45 := Tryd.underlying45
have hu43 := Tryd.underlying43
have HB := am (Below.refl w.heap.size w)
have H := h
unfold laws_eqCell.f at H
clear h
refine em_ (p := a0_0 = a1_0) (fun c3 => ?g9p) (fun c3 => ?g9n)
case' g9p => (
rw [if_pos c3] at H
have c3b0 : (a0_0 == a1_0) = true := beq_iff_eq.mpr c3
have c3b1 : (a0_0 != a1_0) = false := bne_eq_false_iff_eq.mpr c3
clear c3
replace H := Option.bind_eq_some_iff.mp H
obtain ⟨t281, A40, H⟩ := H
(try dsimp only at H)
have A4 := am A40
clear A40
refine em_ (p := t281 = true) (fun c5 => ?g8p) (fun c5 => ?g8n)
case' g8p => (
subst c5
have H1 : (if a0_6 = a1_6 then (some true) else (some false)) = some r := by rw [if_pos rfl] at H; exact H
clear H
have H := H1
clear H1
refine em_ (p := a0_6 = a1_6) (fun c6 => ?g7p) (fun c6 => ?g7n)
case' g7p => (
rw [if_pos c6] at H
have c6b0 : (a0_6 == a1_6) = true := beq_iff_eq.mpr c6
have c6b1 : (a0_6 != a1_6) = false := bne_eq_false_iff_eq.mpr c6
clear c6
obtain rfl := Option.some.inj H
have lf10_ := trivial
)
case' g7n => (
rw [if_neg c6] at H
have c6b0 : (a0_6 == a1_6) = false := beq_eq_false_iff_ne.mpr c6
have c6b1 : (a0_6 != a1_6) = true := bne_iff_ne.mpr c6
obtain rfl := Option.some.inj H
have lf11_ := trivial
)
)
case' g8n => (
replace c5 := Bool.eq_false_iff.mpr c5
subst c5
have H1 : (some false) = some r := by rw [if_neg (show ¬ (false = true) by decide)] at H; exact H
clear H
have H := H1
clear H1
obtain rfl := Option.some.inj H
have lf12_ := trivial
)
)
case' g9n => (
rw [if_neg c3] at H
have c3b0 : (a0_0 == a1_0) = false := beq_eq_false_iff_ne.mpr c3
have c3b1 : (a0_0 != a1_0) = true := bne_iff_ne.mpr c3
obtain rfl := Option.some.inj H
have lf13_ := trivial
)
all_goals (
go_enter Tryd.func63, Tryd.ntmps63
go_wp2_with (first | ((with_reducible refine gate_dst (N := 3) rfl ?_); refine box_event ?hg (N := 3) ?hd (cs := #[.int .i64 a1_0, .int .i64 a1_1, .int .i64 a1_2, .bool a1_3, .bool a1_4, .bool a1_5, .int .i64 a1_6]) (t := 45) ?hr ?_; (case hd => rfl); (case hg => rfl); (case hr => first | (go_simp; done) | (go_simp; rfl)); intro gb280 hg w8 hbox hb; have BK280 := am (hbox); have GW280 := am (gw hg (rb1 HB GE279)); have GE280 := GW280; replace HB := am (below_step (rb1 HB GE279) hb); have NB279_280 := am (nl hg (rk BK279)); have NB280_279 := am (ng hg (rk BK279)); replace BK279 := am (blk_below (rk BK279) hb); clear hb hbox hg; have hnb9 := NB279_280.out; have hnc9 := NB280_279.out; have hcz10_0 : w8.cell? ⟨gb279, 0, none⟩ = some (.int .i64 a0_0) := (blk_cell BK279.out 0).trans rfl; have hcz10_1 : w8.cell? ⟨gb279, 1, none⟩ = some (.int .i64 a0_1) := (blk_cell BK279.out 1).trans rfl; have hcz10_2 : w8.cell? ⟨gb279, 2, none⟩ = some (.int .i64 a0_2) := (blk_cell BK279.out 2).trans rfl; have hcz10_3 : w8.cell? ⟨gb279, 3, none⟩ = some (.bool a0_3) := (blk_cell BK279.out 3).trans rfl; have hcz10_4 : w8.cell? ⟨gb279, 4, none⟩ = some (.bool a0_4) := (blk_cell BK279.out 4).trans rfl; have hcz10_5 : w8.cell? ⟨gb279, 5, none⟩ = some (.bool a0_5) := (blk_cell BK279.out 5).trans rfl; have hcz10_6 : w8.cell? ⟨gb279, 6, none⟩ = some (.int .i64 a0_6) := (blk_cell BK279.out 6).trans rfl; have hfz10_0 := blk_frozen BK279.out 0; have hfz10_1 := blk_frozen BK279.out 1; have hfz10_2 := blk_frozen BK279.out 2; have hfz10_3 := blk_frozen BK279.out 3; have hfz10_4 := blk_frozen BK279.out 4; have hfz10_5 := blk_frozen BK279.out 5; have hfz10_6 := blk_frozen BK279.out 6; have hcz11_0 : w8.cell? ⟨gb280, 0, none⟩ = some (.int .i64 a1_0) := (blk_cell BK280.out 0).trans rfl; have hcz11_1 : w8.cell? ⟨gb280, 1, none⟩ = some (.int .i64 a1_1) := (blk_cell BK280.out 1).trans rfl; have hcz11_2 : w8.cell? ⟨gb280, 2, none⟩ = some (.int .i64 a1_2) := (blk_cell BK280.out 2).trans rfl; have hcz11_3 : w8.cell? ⟨gb280, 3, none⟩ = some (.bool a1_3) := (blk_cell BK280.out 3).trans rfl; have hcz11_4 : w8.cell? ⟨gb280, 4, none⟩ = some (.bool a1_4) := (blk_cell BK280.out 4).trans rfl; have hcz11_5 : w8.cell? ⟨gb280, 5, none⟩ = some (.bool a1_5) := (blk_cell BK280.out 5).trans rfl; have hcz11_6 : w8.cell? ⟨gb280, 6, none⟩ = some (.int .i64 a1_6) := (blk_cell BK280.out 6).trans rfl; have hfz11_0 := blk_frozen BK280.out 0; have hfz11_1 := blk_frozen BK280.out 1; have hfz11_2 := blk_frozen BK280.out 2; have hfz11_3 := blk_frozen BK280.out 3; have hfz11_4 := blk_frozen BK280.out 4; have hfz11_5 := blk_frozen BK280.out 5; have hfz11_6 := blk_frozen BK280.out 6) | ((with_reducible refine gate_callee (f := 78) rfl ?_); refine gl_ (some 14) Tryd.func78 #[.agg #[.int .i64 a0_1, .int .i64 a0_2, .bool a0_3, .bool a0_4, .bool a0_5], .agg #[.int .i64 a1_1, .int .i64 a1_2, .bool a1_3, .bool a1_4, .bool a1_5]] ?_; (with_reducible refine (laws_eqStyle.calls a0_1 a0_2 a0_3 a0_4 a0_5 a1_1 a1_2 a1_3 a1_4 a1_5 true _ A4.out).mono ?_); rintro e w12 ⟨rfl, hb⟩; refine ⟨_, rfl, ?_⟩; replace BK279 := am (blk_below (rk BK279) hb); replace BK280 := am (blk_below (rk BK280) hb); replace HB := am (below_step (rb2 HB GE279 GE280) hb); (try clear hb); (try clear hb2); (try clear hk); (try clear hi); have hcz13_0 : w12.cell? ⟨gb279, 0, none⟩ = some (.int .i64 a0_0) := (blk_cell BK279.out 0).trans rfl; have hcz13_1 : w12.cell? ⟨gb279, 1, none⟩ = some (.int .i64 a0_1) := (blk_cell BK279.out 1).trans rfl; have hcz13_2 : w12.cell? ⟨gb279, 2, none⟩ = some (.int .i64 a0_2) := (blk_cell BK279.out 2).trans rfl; have hcz13_3 : w12.cell? ⟨gb279, 3, none⟩ = some (.bool a0_3) := (blk_cell BK279.out 3).trans rfl; have hcz13_4 : w12.cell? ⟨gb279, 4, none⟩ = some (.bool a0_4) := (blk_cell BK279.out 4).trans rfl; have hcz13_5 : w12.cell? ⟨gb279, 5, none⟩ = some (.bool a0_5) := (blk_cell BK279.out 5).trans rfl; have hcz13_6 : w12.cell? ⟨gb279, 6, none⟩ = some (.int .i64 a0_6) := (blk_cell BK279.out 6).trans rfl; have hfz13_0 := blk_frozen BK279.out 0; have hfz13_1 := blk_frozen BK279.out 1; have hfz13_2 := blk_frozen BK279.out 2; have hfz13_3 := blk_frozen BK279.out 3; have hfz13_4 := blk_frozen BK279.out 4; have hfz13_5 := blk_frozen BK279.out 5; have hfz13_6 := blk_frozen BK279.out 6; have hcz14_0 : w12.cell? ⟨gb280, 0, none⟩ = some (.int .i64 a1_0) := (blk_cell BK280.out 0).trans rfl; have hcz14_1 : w12.cell? ⟨gb280, 1, none⟩ = some (.int .i64 a1_1) := (blk_cell BK280.out 1).trans rfl; have hcz14_2 : w12.cell? ⟨gb280, 2, none⟩ = some (.int .i64 a1_2) := (blk_cell BK280.out 2).trans rfl; have hcz14_3 : w12.cell? ⟨gb280, 3, none⟩ = some (.bool a1_3) := (blk_cell BK280.out 3).trans rfl; have hcz14_4 : w12.cell? ⟨gb280, 4, none⟩ = some (.bool a1_4) := (blk_cell BK280.out 4).trans rfl; have hcz14_5 : w12.cell? ⟨gb280, 5, none⟩ = some (.bool a1_5) := (blk_cell BK280.out 5).trans rfl; have hcz14_6 : w12.cell? ⟨gb280, 6, none⟩ = some (.int .i64 a1_6) := (blk_cell BK280.out 6).trans rfl; have hfz14_0 := blk_frozen BK280.out 0; have hfz14_1 := blk_frozen BK280.out 1; have hfz14_2 := blk_frozen BK280.out 2; have hfz14_3 := blk_frozen BK280.out 3; have hfz14_4 := blk_frozen BK280.out 4; have hfz14_5 := blk_frozen BK280.out 5; have hfz14_6 := blk_frozen BK280.out 6) | ((with_reducible refine gate_callee (f := 78) rfl ?_); refine gl_ (some 14) Tryd.func78 #[.agg #[.int .i64 a0_1, .int .i64 a0_2, .bool a0_3, .bool a0_4, .bool a0_5], .agg #[.int .i64 a1_1, .int .i64 a1_2, .bool a1_3, .bool a1_4, .bool a1_5]] ?_; (with_reducible refine (laws_eqStyle.calls a0_1 a0_2 a0_3 a0_4 a0_5 a1_1 a1_2 a1_3 a1_4 a1_5 false _ A4.out).mono ?_); rintro e w28 ⟨rfl, hb⟩; refine ⟨_, rfl, ?_⟩; replace BK279 := am (blk_below (rk BK279) hb); replace BK280 := am (blk_below (rk BK280) hb); replace HB := am (below_step (rb2 HB GE279 GE280) hb); (try clear hb); (try clear hb2); (try clear hk); (try clear hi)) | ((with_reducible refine gate_dst (N := 2) rfl ?_); refine box_event ?hg (N := 2) ?hd (cs := #[.int .i64 a0_0, .int .i64 a0_1, .int .i64 a0_2, .bool a0_3, .bool a0_4, .bool a0_5, .int .i64 a0_6]) (t := 45) ?hr ?_; (case hd => rfl); (case hg => rfl); (case hr => first | (go_simp; done) | (go_simp; rfl)); intro gb279 hg w7 hbox hb; have BK279 := am (hbox); have GW279 := am (gw hg (rb HB)); have GE279 := GW279; replace HB := am (below_step (rb HB) hb); clear hb hbox hg))
go_ret
exact ⟨by first | rfl | (simp [errW_none, errW_some] <;> rfl) | (simp [*, errW_none, errW_some] <;> rfl), rb2 HB GE279 GE280⟩
)
)

end Go.Proofs.YtalopdcephohgaaDoor.SA
