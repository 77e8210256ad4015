/- Contracts of Go functions that laws of this seat reach: each Lean function answers as its Go function does. No condition. Written by wip/tools/inj.py, over the kit's print. -/
import Derived.Test.YtalopdcephohgaaDoorSAx0
import Derived.Test.YtalopdcephohgaaDoorSAx1
import Derived.Test.YtalopdcephohgaaDoorSAx4
import Derived.Test.YtalopdcephohgaaDoorSAx5
import Derived.Test.YtalopdcephohgaaDoorSAx8
import Derived.Test.YtalopdcephohgaaDoorSAx9
import Derived.Test.YtalopdcephohgaaDoorSAx12
namespace Go.Proofs.YtalopdcephohgaaDoor.SA
open Go.RowKit Go.Proofs.YtalopdcephohgaaDoorW.PrintWords Go.Proofs.YtalopdcephohgaaDoorW.PrintLast Go.Proofs.YtalopdcephohgaaDoorW.PrintMore
attribute [local go_sem] max2_int min2_int max_two min_two max_three min_three max_four min_four   -- for this text's walks alone
set_option linter.unusedVariables false
set_option linter.unusedSimpArgs false

/-! ### laws_eqPatch: function 9 -/
def laws_eqPatch.f (k : Nat) (a0_0 : Int) (a0_1 : Int) (l0_2 : List (S40)) (a1_0 : Int) (a1_1 : Int) (l1_2 : List (S40)) : Option (Bool) := if a0_0 = a1_0 then (if a0_1 = a1_1 then ((laws_eqChangeS.f k l0_2 l1_2).bind fun t293 => (if t293 = true then (some true) else (some false))) else (some false)) else (some false)
theorem laws_eqPatch.mono : ∀ a0 a1 a2 a3 a4 a5 k, LeO (laws_eqPatch.f k a0 a1 a2 a3 a4 a5) (laws_eqPatch.f (k + 1) a0 a1 a2 a3 a4 a5) := by
 intro a0 a1 a2 a3 a4 a5 k
 unfold laws_eqPatch.f
 repeat' first
   | (with_reducible exact laws_eqChangeS.mono _ _ _)
   | (with_reducible exact LeO.refl _)
   | (with_reducible exact LeO.none _)
   | (with_reducible refine LeO.ite ?_ ?_)
   | (with_reducible refine LeO.bind ?_ (fun _ => ?_))
set_option maxHeartbeats 8000000 in
set_option maxRecDepth 100000 in
theorem laws_eqPatch.calls (k : Nat) (a0_0 : Int) (a0_1 : Int) (A0_2 : Option Addr) (c0_2 : Nat) (l0_2 : List (S40)) (a1_0 : Int) (a1_1 : Int) (A1_2 : Option Addr) (c1_2 : Nat) (l1_2 : List (S40)) (r : Bool) (w : World) (hr0_2 : Kd.C k40 w A0_2 l0_2.length l0_2) (hc0_2 : l0_2.length ≤ c0_2) (hr1_2 : Kd.C k40 w A1_2 l1_2.length l1_2) (hc1_2 : l1_2.length ≤ c1_2) (h : laws_eqPatch.f k a0_0 a0_1 l0_2 a1_0 a1_1 l1_2 = some r) :
  Calls Tryd.prog 9 #[.agg #[.int .i64 a0_0, .int .i64 a0_1, .slice A0_2 l0_2.length c0_2], .agg #[.int .i64 a1_0, .int .i64 a1_1, .slice A1_2 l1_2.length c1_2]] w fun e w' => e = .returned (.bool r) ∧ Below w.heap.size w w' := by
 (
have hu29 := Tryd.underlying29
have HR0_2 := am hr0_2
have HC0_2 := am hc0_2
clear hr0_2 hc0_2
have HR1_2 := am hr1_2
have HC1_2 := am hc1_2
clear hr1_2 hc1_2
have HB := am (Below.refl w.heap.size w)
have H := h
unfold laws_eqPatch.f at H
clear h
refine em_ (p := a0_0 = a1_0) (fun c3 => ?g2p) (fun c3 => ?g2n)
case' g2p => (
rw [if_pos c3] at H
have c3b0 : (a0_0 == a1_0) = true := beq_iff_eq.mpr c3
have c3b1 : (a0_0 != a1_0) = false := bne_eq_false_iff_eq.mpr c3
clear c3
refine em_ (p := a0_1 = a1_1) (fun c4 => ?g1p) (fun c4 => ?g1n)
case' g1p => (
rw [if_pos c4] at H
have c4b0 : (a0_1 == a1_1) = true := beq_iff_eq.mpr c4
have c4b1 : (a0_1 != a1_1) = false := bne_eq_false_iff_eq.mpr c4
clear c4
replace H := Option.bind_eq_some_iff.mp H
obtain ⟨t293, A50, H⟩ := H
(try dsimp only at H)
have A5 := am A50
clear A50
refine em_ (p := t293 = true) (fun c6 => ?g0p) (fun c6 => ?g0n)
case' g0p => (
subst c6
have H1 : (some true) = some r := by rw [if_pos rfl] at H; exact H
clear H
have H := H1
clear H1
obtain rfl := Option.some.inj H
have lf1_ := trivial
)
case' g0n => (
replace c6 := Bool.eq_false_iff.mpr c6
subst c6
have H1 : (some false) = some r := by rw [if_neg (show ¬ (false = true) by decide)] at H; exact H
clear H
have H := H1
clear H1
obtain rfl := Option.some.inj H
have lf2_ := trivial
)
)
case' g1n => (
rw [if_neg c4] at H
have c4b0 : (a0_1 == a1_1) = false := beq_eq_false_iff_ne.mpr c4
have c4b1 : (a0_1 != a1_1) = true := bne_iff_ne.mpr c4
obtain rfl := Option.some.inj H
have lf3_ := trivial
)
)
case' g2n => (
rw [if_neg c3] at H
have c3b0 : (a0_0 == a1_0) = false := beq_eq_false_iff_ne.mpr c3
have c3b1 : (a0_0 != a1_0) = true := bne_iff_ne.mpr c3
obtain rfl := Option.some.inj H
have lf4_ := trivial
)
all_goals (
go_enter Tryd.func9, Tryd.ntmps9
go_wp2_with (first | ((with_reducible refine gate_dst (N := 3) rfl ?_); refine box_event ?hg (N := 3) ?hd (cs := #[.int .i64 a1_0, .int .i64 a1_1, .slice A1_2 l1_2.length c1_2]) (t := 29) ?hr ?_; (case hd => rfl); (case hg => rfl); (case hr => first | (go_simp; done) | (go_simp; rfl)); intro gb292 hg w8 hbox hb; have BK292 := am (hbox); have GW292 := am (gw hg (rb1 HB GE291)); have GE292 := GW292; replace HB := am (below_step (rb1 HB GE291) hb); have NB291_292 := am (nl hg (rk BK291)); have NB292_291 := am (ng hg (rk BK291)); replace BK291 := am (blk_below (rk BK291) hb); clear hb hbox hg; have hnb9 := NB291_292.out; have hnc9 := NB292_291.out; have hcz10_0 : w8.cell? ⟨gb291, 0, none⟩ = some (.int .i64 a0_0) := (blk_cell BK291.out 0).trans rfl; have hcz10_1 : w8.cell? ⟨gb291, 1, none⟩ = some (.int .i64 a0_1) := (blk_cell BK291.out 1).trans rfl; have hcz10_2 : w8.cell? ⟨gb291, 2, none⟩ = some (.slice A0_2 l0_2.length c0_2) := (blk_cell BK291.out 2).trans rfl; have hfz10_0 := blk_frozen BK291.out 0; have hfz10_1 := blk_frozen BK291.out 1; have hfz10_2 := blk_frozen BK291.out 2; have hcz11_0 : w8.cell? ⟨gb292, 0, none⟩ = some (.int .i64 a1_0) := (blk_cell BK292.out 0).trans rfl; have hcz11_1 : w8.cell? ⟨gb292, 1, none⟩ = some (.int .i64 a1_1) := (blk_cell BK292.out 1).trans rfl; have hcz11_2 : w8.cell? ⟨gb292, 2, none⟩ = some (.slice A1_2 l1_2.length c1_2) := (blk_cell BK292.out 2).trans rfl; have hfz11_0 := blk_frozen BK292.out 0; have hfz11_1 := blk_frozen BK292.out 1; have hfz11_2 := blk_frozen BK292.out 2) | ((with_reducible refine gate_callee (f := 22) rfl ?_); refine gl_ (some 19) Tryd.func22 #[.slice A0_2 l0_2.length c0_2, .slice A1_2 l1_2.length c1_2] ?_; (with_reducible refine (laws_eqChangeS.calls k _ _ l0_2 _ _ l1_2 false _ ?side1 ?side2 ?side3 ?side4 A5.out).mono ?_); (case side1 => exact rc ((Kd.C_below HR0_2.out HB.out))); (case side2 => exact HC0_2.out); (case side3 => exact rc ((Kd.C_below HR1_2.out HB.out))); (case side4 => exact HC1_2.out); rintro e w18 ⟨rfl, hb⟩; refine ⟨_, rfl, ?_⟩; replace BK291 := am (blk_below (rk BK291) hb); replace BK292 := am (blk_below (rk BK292) hb); replace HB := am (below_step (rb2 HB GE291 GE292) hb); (try clear hb); (try clear hb2); (try clear hk); (try clear hi)) | ((with_reducible refine gate_callee (f := 22) rfl ?_); refine gl_ (some 19) Tryd.func22 #[.slice A0_2 l0_2.length c0_2, .slice A1_2 l1_2.length c1_2] ?_; (with_reducible refine (laws_eqChangeS.calls k _ _ l0_2 _ _ l1_2 true _ ?side1 ?side2 ?side3 ?side4 A5.out).mono ?_); (case side1 => exact rc ((Kd.C_below HR0_2.out HB.out))); (case side2 => exact HC0_2.out); (case side3 => exact rc ((Kd.C_below HR1_2.out HB.out))); (case side4 => exact HC1_2.out); rintro e w12 ⟨rfl, hb⟩; refine ⟨_, rfl, ?_⟩; replace BK291 := am (blk_below (rk BK291) hb); replace BK292 := am (blk_below (rk BK292) hb); replace HB := am (below_step (rb2 HB GE291 GE292) hb); (try clear hb); (try clear hb2); (try clear hk); (try clear hi)) | ((with_reducible refine gate_dst (N := 2) rfl ?_); refine box_event ?hg (N := 2) ?hd (cs := #[.int .i64 a0_0, .int .i64 a0_1, .slice A0_2 l0_2.length c0_2]) (t := 29) ?hr ?_; (case hd => rfl); (case hg => rfl); (case hr => first | (go_simp; done) | (go_simp; rfl)); intro gb291 hg w7 hbox hb; have BK291 := am (hbox); have GW291 := am (gw hg (rb HB)); have GE291 := GW291; replace HB := am (below_step (rb HB) hb); clear hb hbox hg))
go_ret
exact ⟨by first | rfl | (simp [errW_none, errW_some] <;> rfl) | (simp [*, errW_none, errW_some] <;> rfl), rb2 HB GE291 GE292⟩
)
)

/-! ### laws_FnExactShowPatch: function 3 -/
def laws_FnExactShowPatch.f (k : Nat) (a0_0 : Int) (a0_1 : Int) (l0_2 : List (S68)) : Option (Bool) := (laws_szPatch.f k a0_0 a0_1 l0_2 1048576).bind fun t295 => (if t295 < 0 then (some true) else ((laws_toPatch.f k a0_0 a0_1 l0_2).bind fun bt296 => ((spec_ShowPatch.f k bt296.1 bt296.2.1 bt296.2.2).bind fun t301 => ((laws_toPatch.f k a0_0 a0_1 l0_2).bind fun bt302 => ((impl_ShowPatch.f k bt302.1 bt302.2.1 bt302.2.2).bind fun t308 => (if t308.toList = t301.toList then ((laws_toPatch.f k a0_0 a0_1 l0_2).bind fun bt309 => ((laws_eqPatch.f k bt302.1 bt302.2.1 bt302.2.2 bt309.1 bt309.2.1 bt309.2.2).bind fun t314 => (if t314 = true then (some true) else (some false)))) else (some false)))))))
theorem laws_FnExactShowPatch.mono : ∀ a0 a1 a2 k, LeO (laws_FnExactShowPatch.f k a0 a1 a2) (laws_FnExactShowPatch.f (k + 1) a0 a1 a2) := by
 intro a0 a1 a2 k
 unfold laws_FnExactShowPatch.f
 repeat' first
   | (with_reducible exact impl_ShowPatch.mono _ _ _ _)
   | (with_reducible exact laws_eqPatch.mono _ _ _ _ _ _ _)
   | (with_reducible exact laws_szPatch.mono _ _ _ _ _)
   | (with_reducible exact laws_toPatch.mono _ _ _ _)
   | (with_reducible exact spec_ShowPatch.mono _ _ _ _)
   | (with_reducible exact LeO.refl _)
   | (with_reducible exact LeO.none _)
   | (with_reducible refine LeO.ite ?_ ?_)
   | (with_reducible refine LeO.bind ?_ (fun _ => ?_))
set_option maxHeartbeats 8000000 in
set_option maxRecDepth 100000 in
theorem laws_FnExactShowPatch.calls (k : Nat) (a0_0 : Int) (a0_1 : Int) (A0_2 : Option Addr) (c0_2 : Nat) (l0_2 : List (S68)) (r : Bool) (w : World) (hr0_2 : Kd.C k68 w A0_2 l0_2.length l0_2) (hc0_2 : l0_2.length ≤ c0_2) (h : laws_FnExactShowPatch.f k a0_0 a0_1 l0_2 = some r) (hT_ : r = true) (hT : TB w) :
  Calls Tryd.prog 3 #[.agg #[.int .i64 a0_0, .int .i64 a0_1, .slice A0_2 l0_2.length c0_2]] w fun e w' => e = .returned (.bool r) ∧ Below w.heap.size w w' := by
 (
have HT := am hT
clear hT
have hu24 := Tryd.underlying24
have hu29 := Tryd.underlying29
have HR0_2 := am hr0_2
have HC0_2 := am hc0_2
clear hr0_2 hc0_2
have HB := am (Below.refl w.heap.size w)
have H := h
unfold laws_FnExactShowPatch.f at H
clear h
replace H := Option.bind_eq_some_iff.mp H
obtain ⟨t295, A20, H⟩ := H
(try dsimp only at H)
have A2 := am A20
clear A20
by_cases c3 : t295 < 0
·(
rw [if_pos c3] at H
have c3b0 : decide (t295 < 0) = true := decide_eq_true c3
clear c3
obtain rfl := Option.some.inj H
go_enter Tryd.func3, Tryd.ntmps3
go_wp2_with (first | ((with_reducible refine gate_dst (N := 1) rfl ?_); refine box_event ?hg (N := 1) ?hd (cs := #[.int .i64 a0_0, .int .i64 a0_1, .slice A0_2 l0_2.length c0_2]) (t := 24) ?hr ?_; (case hd => rfl); (case hg => rfl); (case hr => first | (go_simp; done) | (go_simp; rfl)); intro gb294 hg w4 hbox hb; have BK294 := am (hbox); have GW294 := am (gw hg (rb HB)); have GE294 := GW294; replace HB := am (below_step (rb HB) hb); clear hb hbox hg; have hcz5_0 : w4.cell? ⟨gb294, 0, none⟩ = some (.int .i64 a0_0) := (blk_cell BK294.out 0).trans rfl; have hcz5_1 : w4.cell? ⟨gb294, 1, none⟩ = some (.int .i64 a0_1) := (blk_cell BK294.out 1).trans rfl; have hcz5_2 : w4.cell? ⟨gb294, 2, none⟩ = some (.slice A0_2 l0_2.length c0_2) := (blk_cell BK294.out 2).trans rfl; have hfz5_0 := blk_frozen BK294.out 0; have hfz5_1 := blk_frozen BK294.out 1; have hfz5_2 := blk_frozen BK294.out 2) | ((with_reducible refine gate_callee (f := 5) rfl ?_); refine gl_ (some 9) Tryd.func5 #[.agg #[.int .i64 a0_0, .int .i64 a0_1, .slice A0_2 l0_2.length c0_2], .int .i64 1048576] ?_; (with_reducible refine (laws_szPatch.calls k a0_0 a0_1 _ _ l0_2 1048576 t295 _ ?side1 ?side2 A2.out).mono ?_); (case side1 => exact rc ((Kd.C_below HR0_2.out HB.out))); (case side2 => exact HC0_2.out); rintro e w6 ⟨rfl, hb⟩; refine ⟨_, rfl, ?_⟩; replace BK294 := am (blk_below (rk BK294) hb); replace HB := am (below_step (rb1 HB GE294) hb); (try clear hb); (try clear hb2); (try clear hk); (try clear hi)))
go_ret
exact ⟨by first | rfl | (simp [errW_none, errW_some] <;> rfl) | (simp [*, errW_none, errW_some] <;> rfl), by repeat (first | (with_reducible first | exact HB.out | apply b1 | apply b2 | apply b3 | refine below_set ?_ GE294.out) | exact HB.out)⟩
)
·(
rw [if_neg c3] at H
have c3b0 : decide (t295 < 0) = false := decide_eq_false c3
clear c3
replace H := Option.bind_eq_some_iff.mp H
obtain ⟨⟨t296, t297, t298⟩, A70, H⟩ := H
(try dsimp only at H)
have A7 := am A70
clear A70
replace H := Option.bind_eq_some_iff.mp H
obtain ⟨t301, A80, H⟩ := H
(try dsimp only at H)
have A8 := am A80
clear A80
replace H := Option.bind_eq_some_iff.mp H
obtain ⟨⟨t302, t303, t304⟩, A90, H⟩ := H
(try dsimp only at H)
have A9 := am A90
clear A90
replace H := Option.bind_eq_some_iff.mp H
obtain ⟨t308, A100, H⟩ := H
(try dsimp only at H)
have A10 := am A100
clear A100
refine em_ (p := t308.toList = t301.toList) (fun c11 => ?g4p) (fun c11 => ?g4n)
case' g4p => (
rw [if_pos c11] at H
have c11b0 : (t308.toList == t301.toList) = true := beq_iff_eq.mpr c11
have c11b1 : (t308.toList != t301.toList) = false := bne_eq_false_iff_eq.mpr c11
clear c11
replace H := Option.bind_eq_some_iff.mp H
obtain ⟨⟨t309, t310, t311⟩, A120, H⟩ := H
(try dsimp only at H)
have A12 := am A120
clear A120
replace H := Option.bind_eq_some_iff.mp H
obtain ⟨t314, A130, H⟩ := H
(try dsimp only at H)
have A13 := am A130
clear A130
refine em_ (p := t314 = true) (fun c14 => ?g3p) (fun c14 => ?g3n)
case' g3p => (
subst c14
have H1 : (some true) = some r := by rw [if_pos rfl] at H; exact H
clear H
have H := H1
clear H1
obtain rfl := Option.some.inj H
have lf6_ := trivial
)
case g3n => (
replace c14 := Bool.eq_false_iff.mpr c14
subst c14
have H1 : (some false) = some r := by rw [if_neg (show ¬ (false = true) by decide)] at H; exact H
clear H
have H := H1
clear H1
exact absurd (Option.some.inj (H.trans (congrArg some hT_))) Bool.false_ne_true
)
)
case g4n => (
rw [if_neg c11] at H
have c11b0 : (t308.toList == t301.toList) = false := beq_eq_false_iff_ne.mpr c11
have c11b1 : (t308.toList != t301.toList) = true := bne_iff_ne.mpr c11
exact absurd (Option.some.inj (H.trans (congrArg some hT_))) Bool.false_ne_true
)
all_goals (
go_enter Tryd.func3, Tryd.ntmps3
try go_wp2_with (first | ((with_reducible refine gate_dst (N := 1) rfl ?_); refine box_event ?hg (N := 1) ?hd (cs := #[.int .i64 a0_0, .int .i64 a0_1, .slice A0_2 l0_2.length c0_2]) (t := 24) ?hr ?_; (case hd => rfl); (case hg => rfl); (case hr => first | (go_simp; done) | (go_simp; rfl)); intro gb294 hg w15 hbox hb; have BK294 := am (hbox); have GW294 := am (gw hg (rb HB)); have GE294 := GW294; replace HB := am (below_step (rb HB) hb); clear hb hbox hg; have hcz16_0 : w15.cell? ⟨gb294, 0, none⟩ = some (.int .i64 a0_0) := (blk_cell BK294.out 0).trans rfl; have hcz16_1 : w15.cell? ⟨gb294, 1, none⟩ = some (.int .i64 a0_1) := (blk_cell BK294.out 1).trans rfl; have hcz16_2 : w15.cell? ⟨gb294, 2, none⟩ = some (.slice A0_2 l0_2.length c0_2) := (blk_cell BK294.out 2).trans rfl; have hfz16_0 := blk_frozen BK294.out 0; have hfz16_1 := blk_frozen BK294.out 1; have hfz16_2 := blk_frozen BK294.out 2) | ((with_reducible refine gate_callee (f := 5) rfl ?_); refine gl_ (some 9) Tryd.func5 #[.agg #[.int .i64 a0_0, .int .i64 a0_1, .slice A0_2 l0_2.length c0_2], .int .i64 1048576] ?_; (with_reducible refine (laws_szPatch.calls k a0_0 a0_1 _ _ l0_2 1048576 t295 _ ?side1 ?side2 A2.out).mono ?_); (case side1 => exact rc ((Kd.C_below HR0_2.out HB.out))); (case side2 => exact HC0_2.out); rintro e w17 ⟨rfl, hb⟩; refine ⟨_, rfl, ?_⟩; replace BK294 := am (blk_below (rk BK294) hb); replace HB := am (below_step (rb1 HB GE294) hb); (try clear hb); (try clear hb2); (try clear hk); (try clear hi); have hcz18_0 : w17.cell? ⟨gb294, 0, none⟩ = some (.int .i64 a0_0) := (blk_cell BK294.out 0).trans rfl; have hcz18_1 : w17.cell? ⟨gb294, 1, none⟩ = some (.int .i64 a0_1) := (blk_cell BK294.out 1).trans rfl; have hcz18_2 : w17.cell? ⟨gb294, 2, none⟩ = some (.slice A0_2 l0_2.length c0_2) := (blk_cell BK294.out 2).trans rfl; have hfz18_0 := blk_frozen BK294.out 0; have hfz18_1 := blk_frozen BK294.out 1; have hfz18_2 := blk_frozen BK294.out 2) | ((with_reducible refine gate_callee (f := 7) rfl ?_); refine gl_ (some 13) Tryd.func7 #[.agg #[.int .i64 a0_0, .int .i64 a0_1, .slice A0_2 l0_2.length c0_2]] ?_; (with_reducible refine (laws_toPatch.calls k a0_0 a0_1 _ _ l0_2 t296 t297 t298 _ ?side1 ?side2 A7.out).mono ?_); (case side1 => exact rc ((Kd.C_below HR0_2.out HB.out))); (case side2 => exact HC0_2.out); rintro e w19 ⟨v299, rfl, ho0, hb⟩; refine ⟨_, rfl, ?_⟩; have HO300 := am (Kd.S_lower ho0 (below_size (rb1 HB GE294))); replace BK294 := am (blk_below (rk BK294) hb); replace HB := am (below_step (rb1 HB GE294) hb); (try clear hb); (try clear hb2); (try clear hk); (try clear hi); (try clear ho0); obtain ⟨Ao20, co20, eo20⟩ := Kd.S_slice HO300.out; subst eo20) | ((with_reducible refine gate_callee (f := 6) rfl ?_); refine gl_ (some 14) Tryd.func6 #[.agg #[.int .i64 t296, .int .i64 t297, .slice Ao20 t298.length co20]] ?_; (with_reducible refine (spec_ShowPatch.calls k t296 t297 _ _ t298 t301 _ ?side1 ?side2 A8.out).mono ?_); (case side1 => exact rcs HO300); (case side2 => exact (Kd.S_reads' HO300.out).2.1); rintro e w21 ⟨rfl, hb⟩; refine ⟨_, rfl, ?_⟩; replace HO300 := am (Kd.S_below (rs HO300) hb); replace BK294 := am (blk_below (rk BK294) hb); replace HB := am (below_step (rb1 HB GE294) hb); (try clear hb); (try clear hb2); (try clear hk); (try clear hi); have hcz22_0 : w21.cell? ⟨gb294, 0, none⟩ = some (.int .i64 a0_0) := (blk_cell BK294.out 0).trans rfl; have hcz22_1 : w21.cell? ⟨gb294, 1, none⟩ = some (.int .i64 a0_1) := (blk_cell BK294.out 1).trans rfl; have hcz22_2 : w21.cell? ⟨gb294, 2, none⟩ = some (.slice A0_2 l0_2.length c0_2) := (blk_cell BK294.out 2).trans rfl; have hfz22_0 := blk_frozen BK294.out 0; have hfz22_1 := blk_frozen BK294.out 1; have hfz22_2 := blk_frozen BK294.out 2) | ((with_reducible refine gate_callee (f := 7) rfl ?_); refine gl_ (some 16) Tryd.func7 #[.agg #[.int .i64 a0_0, .int .i64 a0_1, .slice A0_2 l0_2.length c0_2]] ?_; (with_reducible refine (laws_toPatch.calls k a0_0 a0_1 _ _ l0_2 t302 t303 t304 _ ?side1 ?side2 A9.out).mono ?_); (case side1 => exact rc ((Kd.C_below HR0_2.out HB.out))); (case side2 => exact HC0_2.out); rintro e w23 ⟨v305, rfl, ho0, hb⟩; refine ⟨_, rfl, ?_⟩; have HO306 := am (Kd.S_lower (Kd.S_new' ho0 (Kd.S_lt (rs HO300))) (below_size (rb1 HB GE294))); replace HO300 := am (Kd.S_elder' (rs HO300) (Kd.S_base ho0) hb); replace BK294 := am (blk_below (rk BK294) hb); replace HB := am (below_step (rb1 HB GE294) hb); (try clear hb); (try clear hb2); (try clear hk); (try clear hi); (try clear ho0)) | ((with_reducible refine gate_dst (N := 5) rfl ?_); refine box_event ?hg (N := 5) ?hd (cs := #[.int .i64 0, .int .i64 0, .slice none 0 0]) (t := 29) ?hr ?_; (case hd => rfl); (case hg => rfl); (case hr => first | (go_simp; done) | (go_simp; rfl)); intro gb307 hg w24 hbox hb; replace HO300 := am (Kd.S_below (rs HO300) hb); replace HO306 := am (Kd.S_below (rs HO306) hb); have BK307 := am (hbox); have GW307 := am (gw hg (rb1 HB GE294)); have GE307 := GW307; replace HB := am (below_step (rb1 HB GE294) hb); have NB294_307 := am (nl hg (rk BK294)); have NB307_294 := am (ng hg (rk BK294)); replace BK294 := am (blk_below (rk BK294) hb); clear hb hbox hg; have hnb25 := NB307_294.out; have hnc25 := NB294_307.out; have hcz26_0 : w24.cell? ⟨gb307, 0, none⟩ = some (.int .i64 0) := (blk_cell BK307.out 0).trans rfl; have hcz26_1 : w24.cell? ⟨gb307, 1, none⟩ = some (.int .i64 0) := (blk_cell BK307.out 1).trans rfl; have hcz26_2 : w24.cell? ⟨gb307, 2, none⟩ = some (.slice none 0 0) := (blk_cell BK307.out 2).trans rfl; have hfz26_0 := blk_frozen BK307.out 0; have hfz26_1 := blk_frozen BK307.out 1; have hfz26_2 := blk_frozen BK307.out 2; obtain ⟨Ao27, co27, eo27⟩ := Kd.S_slice HO306.out; subst eo27) | ((with_reducible refine gate_callee (f := 8) rfl ?_); refine gl_ (some 18) Tryd.func8 #[.agg #[.int .i64 t302, .int .i64 t303, .slice Ao27 t304.length co27]] ?_; (with_reducible refine (impl_ShowPatch.calls k t302 t303 _ _ t304 t308 _ ?side1 ?side2 A10.out ?sideT).mono ?_); (case sideT => exact TB.below HT.out (rb2 HB GE294 GE307)); (case side1 => refine (Kd.S_reads' (e := 40) (base := w.heap.size) (ok := fun k_ => (True ∧ some k_ ≠ (.slice Ao20 t298.length co20 : Value).ownBlock)) (n := t304.length) (c := co27) ?_).2.2; exact (sf3 HO306 BK307)); (case side2 => exact (Kd.S_reads' HO306.out).2.1); rintro e w28 ⟨rfl, hb⟩; refine ⟨_, rfl, ?_⟩; replace HO300 := am (Kd.S_below (sf3 HO300 BK307) hb); replace HO306 := am (Kd.S_below (sf3 HO306 BK307) hb); replace BK294 := am (blk_below (g := gb294) (o := .cells #[.int .i64 a0_0, .int .i64 a0_1, .slice A0_2 l0_2.length c0_2] 24 (0, 0)) (rf3 NB294_307 BK294) hb); replace BK307 := am (blk_below (g := gb307) (o := .cells #[.int .i64 t302, .int .i64 t303, .slice Ao27 t304.length co27] 29 (0, 0)) (rp_0_1_2 BK307) hb); replace HB := am (below_step (rb2 HB GE294 GE307) hb); (try clear hb); (try clear hb2); (try clear hk); (try clear hi)))
replace HO300 := am (Kd.S_drew HO300.out)
replace HO306 := am (Kd.S_drew HO306.out)
replace BK294 := am (blk_drew BK294.out)
replace BK307 := am (blk_drew BK307.out)
replace HB := am (below_drew1 HB.out)
refine start_ (n := 5) (S := fun w' => w'.cell? ⟨gb307, 0, none⟩ = some (.int .i64 t302) ∧ w'.cell? ⟨gb307, 1, none⟩ = some (.int .i64 t303) ∧ w'.cell? ⟨gb307, 2, none⟩ = some (.slice Ao27 t304.length co27) ∧ w'.cell? ⟨gb294, 0, none⟩ = some (.int .i64 a0_0) ∧ w'.cell? ⟨gb294, 1, none⟩ = some (.int .i64 a0_1) ∧ w'.cell? ⟨gb294, 2, none⟩ = some (.slice A0_2 l0_2.length c0_2)) (ds := []) (bm 5 0) (by kernel_rfl) rfl rfl ⟨(blk_cell BK307.out 0).trans rfl, (blk_cell BK307.out 1).trans rfl, (blk_cell BK307.out 2).trans rfl, (blk_cell BK294.out 0).trans rfl, (blk_cell BK294.out 1).trans rfl, (blk_cell BK294.out 2).trans rfl⟩ (fun hHeld => ?_)
generalize w28.drew = w29 at HO300 HO306 BK294 BK307 HB hHeld ⊢
refine take_ (i := 0) (N := some 22) (v := ?_) (a' := ?_) (bm 5 1) rfl rfl (by kernel_rfl) (fun _ _ _ h => h) (Or.inl ⟨by rfl, ?_⟩) hHeld ?_ ?_
rotate_left
·(
rintro w' ⟨s0, s1, s2, s3, s4, s5⟩
go_simp
with_reducible rfl
)
rotate_left
·(
simp only [Act.put, List.setIfInBounds_toArray, List.set_cons_zero, List.set_cons_succ, i64_w, i32_w]
rfl
)
refine take_ (i := 1) (N := some 23) (v := ?_) (a' := ?_) (bm 5 3) rfl rfl (by kernel_rfl) (fun _ _ _ h => h) (Or.inl ⟨by rfl, ?_⟩) hHeld ?_ ?_
rotate_left
·(
rintro w' ⟨s0, s1, s2, s3, s4, s5⟩
go_simp
with_reducible rfl
)
rotate_left
·(
simp only [Act.put, List.setIfInBounds_toArray, List.set_cons_zero, List.set_cons_succ, i64_w, i32_w]
rfl
)
refine one_ (i := 2) (N := some 24) (bm 5 7) rfl rfl (by kernel_rfl) (by decide) (fun K hK => ?_)
refine goes_ Tryd.func7 (by kernel_rfl) rfl #[.agg #[.int .i64 a0_0, .int .i64 a0_1, .slice A0_2 l0_2.length c0_2]] (by rfl) rfl rfl mt ?_
with_reducible refine (laws_toPatch.calls k a0_0 a0_1 _ _ l0_2 t309 t310 t311 _ ?side1 ?side2 A12.out).mono ?_
(case side1 => exact rc ((Kd.C_below HR0_2.out HB.out)))
(case side2 => exact HC0_2.out)
rintro e w30 ⟨v312, rfl, ho0, hb⟩
refine ⟨_, rfl, ?_⟩
have HO313 := am (Kd.S_lower (Kd.S_new' (Kd.S_new' ho0 (Kd.S_lt (rs HO300))) (Kd.S_lt (rs HO306))) (below_size (rb2 HB GE294 GE307)))
replace HO300 := am (Kd.S_elder' (rs HO300) (Kd.S_base ho0) hb)
replace HO306 := am (Kd.S_elder' (rs HO306) (Kd.S_base ho0) hb)
replace BK294 := am (blk_below (rk BK294) hb)
replace BK307 := am (blk_below (rk BK307) hb)
replace HB := am (below_step (rb2 HB GE294 GE307) hb)
(try clear hb)
(try clear ho0)
obtain ⟨Ao31, co31, eo31⟩ := Kd.S_slice HO313.out
(first | subst eo31 | (injection eo31 with f1_ f2_ f3_; have f4_ := f1_.symm; have f5_ := f3_.symm; clear f1_ f2_ f3_; subst f4_; subst f5_))
refine hK.out _ _ ⟨(blk_cell BK307.out 0).trans rfl, (blk_cell BK307.out 1).trans rfl, (blk_cell BK307.out 2).trans rfl, (blk_cell BK294.out 0).trans rfl, (blk_cell BK294.out 1).trans rfl, (blk_cell BK294.out 2).trans rfl⟩ (fun hHeld => ?_)
clear hK K
refine norm_ (a' := _) (show Act.put _ (some 24) _ = _ from na) ?_
refine one_ (i := 3) (N := some 25) (bm 5 15) rfl rfl (by kernel_rfl) (by decide) (fun K hK => ?_)
refine goes_ Tryd.func9 (by kernel_rfl) rfl #[.agg #[.int .i64 t302, .int .i64 t303, .slice Ao27 t304.length co27], .agg #[.int .i64 t309, .int .i64 t310, .slice Ao31 t311.length co31]] (by rfl) rfl rfl mt ?_
with_reducible refine (laws_eqPatch.calls k t302 t303 _ _ t304 t309 t310 _ _ t311 true _ ?side1 ?side2 ?side3 ?side4 A13.out).mono ?_
(case side1 => exact rcs HO306)
(case side2 => exact (Kd.S_reads' HO306.out).2.1)
(case side3 => exact rcs HO313)
(case side4 => exact (Kd.S_reads' HO313.out).2.1)
rintro e w32 ⟨rfl, hb⟩
refine ⟨_, rfl, ?_⟩
replace HO300 := am (Kd.S_below (rs HO300) hb)
replace HO306 := am (Kd.S_below (rs HO306) hb)
replace HO313 := am (Kd.S_below (rs HO313) hb)
replace BK294 := am (blk_below (rk BK294) hb)
replace BK307 := am (blk_below (rk BK307) hb)
replace HB := am (below_step (rb2 HB GE294 GE307) hb)
(try clear hb)
refine hK.out _ _ ⟨(blk_cell BK307.out 0).trans rfl, (blk_cell BK307.out 1).trans rfl, (blk_cell BK307.out 2).trans rfl, (blk_cell BK294.out 0).trans rfl, (blk_cell BK294.out 1).trans rfl, (blk_cell BK294.out 2).trans rfl⟩ (fun hHeld => ?_)
clear hK K
refine norm_ (a' := _) (show Act.put _ (some 25) _ = _ from na) ?_
refine pure_ (i := 4) (N := some 26) (v := ?_) (a' := ?_) (bm 5 31) rfl rfl (by kernel_rfl) (fun _ _ _ h => h) (Or.inl ⟨by rfl, ?_⟩) ?_ ?_
rotate_left
·(
intro w'
go_simp
with_reducible rfl
)
rotate_left
·(
simp only [Act.put, List.setIfInBounds_toArray, List.set_cons_zero, List.set_cons_succ, i64_w, i32_w]
rfl
)
refine done_ (by kernel_rfl) ?_
try go_wp2
go_ret
exact ⟨by first | rfl | (simp [errW_none, errW_some] <;> rfl) | (simp [*, errW_none, errW_some] <;> rfl), rb2 HB GE294 GE307⟩
)
)
)

end Go.Proofs.YtalopdcephohgaaDoor.SA
