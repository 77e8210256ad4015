/- Contracts of Go functions that laws of this seat reach: each Lean function answers as its Go function does. No condition. Written by wip/tools/inj.py, over the kit's print. -/
import Derived.Test.YtalopdcephohgaaRBx0
namespace Go.Proofs.Ytalopdcephohgaa.RB
open Go.RowKit Go.Proofs.YtalopdcephohgaaW.PrintWords Go.Proofs.YtalopdcephohgaaW.PrintLast Go.Proofs.YtalopdcephohgaaW.PrintMore
attribute [local go_sem] max2_int min2_int max_two min_two max_three min_three max_four min_four   -- for this text's walks alone
set_option linter.unusedVariables false
set_option linter.unusedSimpArgs false

/-! ### laws_eqStyle: function 138 -/
def laws_eqStyle.f (a0_0 : Int) (a0_1 : Int) (a0_2 : Bool) (a0_3 : Bool) (a0_4 : Bool) (a1_0 : Int) (a1_1 : Int) (a1_2 : Bool) (a1_3 : Bool) (a1_4 : Bool) : Option (Bool) := if a0_0 = a1_0 then (if a0_1 = a1_1 then (if (a0_2 != a1_2) = true then (some false) else (if (a0_3 != a1_3) = true then (some false) else (if (a0_4 != a1_4) = true then (some false) else (some true)))) else (some false)) else (some false)
set_option maxHeartbeats 8000000 in
set_option maxRecDepth 100000 in
theorem laws_eqStyle.calls (a0_0 : Int) (a0_1 : Int) (a0_2 : Bool) (a0_3 : Bool) (a0_4 : Bool) (a1_0 : Int) (a1_1 : Int) (a1_2 : Bool) (a1_3 : Bool) (a1_4 : Bool) (r : Bool) (w : World) (h : laws_eqStyle.f a0_0 a0_1 a0_2 a0_3 a0_4 a1_0 a1_1 a1_2 a1_3 a1_4 = some r) :
  Calls Try.prog 138 #[.agg #[.int .i64 a0_0, .int .i64 a0_1, .bool a0_2, .bool a0_3, .bool a0_4], .agg #[.int .i64 a1_0, .int .i64 a1_1, .bool a1_2, .bool a1_3, .bool a1_4]] w fun e w' => e = .returned (.bool r) ∧ Below w.heap.size w w' := by
 (
have hu96 := Try.underlying96
have HB := am (Below.refl w.heap.size w)
have H := h
unfold laws_eqStyle.f at H
clear h
refine em_ (p := a0_0 = a1_0) (fun c3 => ?g4p) (fun c3 => ?g4n)
case' g4p => (
rw [if_pos c3] at H
have c3b0 : (a0_0 == a1_0) = true := beq_iff_eq.mpr c3
have c3b1 : (a0_0 != a1_0) = false := bne_eq_false_iff_eq.mpr c3
clear c3
refine em_ (p := a0_1 = a1_1) (fun c4 => ?g3p) (fun c4 => ?g3n)
case' g3p => (
rw [if_pos c4] at H
have c4b0 : (a0_1 == a1_1) = true := beq_iff_eq.mpr c4
have c4b1 : (a0_1 != a1_1) = false := bne_eq_false_iff_eq.mpr c4
clear c4
refine em_ (p := (a0_2 != a1_2) = true) (fun c5 => ?g2p) (fun c5 => ?g2n)
case' g2p => (
rw [if_pos c5] at H
have c5b0 : (a0_2 != a1_2) = true := c5
(try (have c5b1 : decide (a0_2 = a1_2) = false := by simpa using c5))
(try (have c5b2 : (a0_2 == a1_2) = false := by simpa using c5))
(try (have c5b3 : ¬ (a0_2 = a1_2) := by simpa using c5))
clear c5
obtain rfl := Option.some.inj H
have lf1_ := trivial
)
case' g2n => (
rw [if_neg c5] at H
have c5b0 : (a0_2 != a1_2) = false := by simpa using c5
(try (have c5b1 : decide (a0_2 = a1_2) = true := by simpa using c5))
(try (have c5b2 : (a0_2 == a1_2) = true := by simpa using c5))
clear c5
refine em_ (p := (a0_3 != a1_3) = true) (fun c11 => ?g1p) (fun c11 => ?g1n)
case' g1p => (
rw [if_pos c11] at H
have c11b0 : (a0_3 != a1_3) = true := c11
(try (have c11b1 : decide (a0_3 = a1_3) = false := by simpa using c11))
(try (have c11b2 : (a0_3 == a1_3) = false := by simpa using c11))
(try (have c11b3 : ¬ (a0_3 = a1_3) := by simpa using c11))
clear c11
obtain rfl := Option.some.inj H
have lf2_ := trivial
)
case' g1n => (
rw [if_neg c11] at H
have c11b0 : (a0_3 != a1_3) = false := by simpa using c11
(try (have c11b1 : decide (a0_3 = a1_3) = true := by simpa using c11))
(try (have c11b2 : (a0_3 == a1_3) = true := by simpa using c11))
clear c11
refine em_ (p := (a0_4 != a1_4) = true) (fun c17 => ?g0p) (fun c17 => ?g0n)
case' g0p => (
rw [if_pos c17] at H
have c17b0 : (a0_4 != a1_4) = true := c17
(try (have c17b1 : decide (a0_4 = a1_4) = false := by simpa using c17))
(try (have c17b2 : (a0_4 == a1_4) = false := by simpa using c17))
(try (have c17b3 : ¬ (a0_4 = a1_4) := by simpa using c17))
clear c17
obtain rfl := Option.some.inj H
have lf3_ := trivial
)
case' g0n => (
rw [if_neg c17] at H
have c17b0 : (a0_4 != a1_4) = false := by simpa using c17
(try (have c17b1 : decide (a0_4 = a1_4) = true := by simpa using c17))
(try (have c17b2 : (a0_4 == a1_4) = true := by simpa using c17))
clear c17
obtain rfl := Option.some.inj H
have lf4_ := trivial
)
)
)
)
case' g3n => (
rw [if_neg c4] at H
have c4b0 : (a0_1 == a1_1) = false := beq_eq_false_iff_ne.mpr c4
have c4b1 : (a0_1 != a1_1) = true := bne_iff_ne.mpr c4
obtain rfl := Option.some.inj H
have lf5_ := trivial
)
)
case' g4n => (
rw [if_neg c3] at H
have c3b0 : (a0_0 == a1_0) = false := beq_eq_false_iff_ne.mpr c3
have c3b1 : (a0_0 != a1_0) = true := bne_iff_ne.mpr c3
obtain rfl := Option.some.inj H
have lf6_ := trivial
)
all_goals (
go_enter Try.func138, Try.ntmps138
go_wp2_with (first | ((with_reducible refine gate_dst (N := 2) rfl ?_); refine box_event ?hg (N := 2) ?hd (cs := #[.int .i64 a0_0, .int .i64 a0_1, .bool a0_2, .bool a0_3, .bool a0_4]) (t := 96) ?hr ?_; (case hd => rfl); (case hg => rfl); (case hr => first | (go_simp; done) | (go_simp; rfl)); intro gb485 hg w6 hbox hb; have BK485 := am (hbox); have GW485 := am (gw hg (rb HB)); have GE485 := GW485; replace HB := am (below_step (rb HB) hb); clear hb hbox hg) | ((with_reducible refine gate_dst (N := 3) rfl ?_); refine box_event ?hg (N := 3) ?hd (cs := #[.int .i64 a1_0, .int .i64 a1_1, .bool a1_2, .bool a1_3, .bool a1_4]) (t := 96) ?hr ?_; (case hd => rfl); (case hg => rfl); (case hr => first | (go_simp; done) | (go_simp; rfl)); intro gb486 hg w7 hbox hb; have BK486 := am (hbox); have GW486 := am (gw hg (rb1 HB GE485)); have GE486 := GW486; replace HB := am (below_step (rb1 HB GE485) hb); have NB485_486 := am (nl hg (rk BK485)); have NB486_485 := am (ng hg (rk BK485)); replace BK485 := am (blk_below (rk BK485) hb); clear hb hbox hg; have hnb8 := NB485_486.out; have hnc8 := NB486_485.out; have hcz9_0 : w7.cell? ⟨gb485, 0, none⟩ = some (.int .i64 a0_0) := (blk_cell BK485.out 0).trans rfl; have hcz9_1 : w7.cell? ⟨gb485, 1, none⟩ = some (.int .i64 a0_1) := (blk_cell BK485.out 1).trans rfl; have hcz9_2 : w7.cell? ⟨gb485, 2, none⟩ = some (.bool a0_2) := (blk_cell BK485.out 2).trans rfl; have hcz9_3 : w7.cell? ⟨gb485, 3, none⟩ = some (.bool a0_3) := (blk_cell BK485.out 3).trans rfl; have hcz9_4 : w7.cell? ⟨gb485, 4, none⟩ = some (.bool a0_4) := (blk_cell BK485.out 4).trans rfl; have hfz9_0 := blk_frozen BK485.out 0; have hfz9_1 := blk_frozen BK485.out 1; have hfz9_2 := blk_frozen BK485.out 2; have hfz9_3 := blk_frozen BK485.out 3; have hfz9_4 := blk_frozen BK485.out 4; have hcz10_0 : w7.cell? ⟨gb486, 0, none⟩ = some (.int .i64 a1_0) := (blk_cell BK486.out 0).trans rfl; have hcz10_1 : w7.cell? ⟨gb486, 1, none⟩ = some (.int .i64 a1_1) := (blk_cell BK486.out 1).trans rfl; have hcz10_2 : w7.cell? ⟨gb486, 2, none⟩ = some (.bool a1_2) := (blk_cell BK486.out 2).trans rfl; have hcz10_3 : w7.cell? ⟨gb486, 3, none⟩ = some (.bool a1_3) := (blk_cell BK486.out 3).trans rfl; have hcz10_4 : w7.cell? ⟨gb486, 4, none⟩ = some (.bool a1_4) := (blk_cell BK486.out 4).trans rfl; have hfz10_0 := blk_frozen BK486.out 0; have hfz10_1 := blk_frozen BK486.out 1; have hfz10_2 := blk_frozen BK486.out 2; have hfz10_3 := blk_frozen BK486.out 3; have hfz10_4 := blk_frozen BK486.out 4))
go_ret
exact ⟨by first | rfl | (simp [errW_none, errW_some] <;> rfl) | (simp [*, errW_none, errW_some] <;> rfl), rb2 HB GE485 GE486⟩
)
)

/-! ### laws_eqCell: function 124 -/
def laws_eqCell.f (a0_0 : Int) (a0_1 : Int) (a0_2 : Int) (a0_3 : Bool) (a0_4 : Bool) (a0_5 : Bool) (a0_6 : Int) (a1_0 : Int) (a1_1 : Int) (a1_2 : Int) (a1_3 : Bool) (a1_4 : Bool) (a1_5 : Bool) (a1_6 : Int) : Option (Bool) := if a0_0 = a1_0 then ((laws_eqStyle.f a0_1 a0_2 a0_3 a0_4 a0_5 a1_1 a1_2 a1_3 a1_4 a1_5).bind fun t489 => (if t489 = true then (if a0_6 = a1_6 then (some true) else (some false)) else (some false))) else (some false)
set_option maxHeartbeats 8000000 in
set_option maxRecDepth 100000 in
theorem laws_eqCell.calls (a0_0 : Int) (a0_1 : Int) (a0_2 : Int) (a0_3 : Bool) (a0_4 : Bool) (a0_5 : Bool) (a0_6 : Int) (a1_0 : Int) (a1_1 : Int) (a1_2 : Int) (a1_3 : Bool) (a1_4 : Bool) (a1_5 : Bool) (a1_6 : Int) (r : Bool) (w : World) (h : laws_eqCell.f a0_0 a0_1 a0_2 a0_3 a0_4 a0_5 a0_6 a1_0 a1_1 a1_2 a1_3 a1_4 a1_5 a1_6 = some r) :
  Calls Try.prog 124 #[.agg #[.int .i64 a0_0, .int .i64 a0_1, .int .i64 a0_2, .bool a0_3, .bool a0_4, .bool a0_5, .int .i64 a0_6], .agg #[.int .i64 a1_0, .int .i64 a1_1, .int .i64 a1_2, .bool a1_3, .bool a1_4, .bool a1_5, .int .i64 a1_6]] w fun e w' => e = .returned (.bool r) ∧ Below w.heap.size w w' := by
 (
have hu98 := Try.underlying98
have hu96 := Try.underlying96
have HB := am (Below.refl w.heap.size w)
have H := h
unfold laws_eqCell.f at H
clear h
refine em_ (p := a0_0 = a1_0) (fun c3 => ?g7p) (fun c3 => ?g7n)
case' g7p => (
rw [if_pos c3] at H
have c3b0 : (a0_0 == a1_0) = true := beq_iff_eq.mpr c3
have c3b1 : (a0_0 != a1_0) = false := bne_eq_false_iff_eq.mpr c3
clear c3
replace H := Option.bind_eq_some_iff.mp H
obtain ⟨t489, A40, H⟩ := H
(try dsimp only at H)
have A4 := am A40
clear A40
refine em_ (p := t489 = true) (fun c5 => ?g6p) (fun c5 => ?g6n)
case' g6p => (
subst c5
have H1 : (if a0_6 = a1_6 then (some true) else (some false)) = some r := by rw [if_pos rfl] at H; exact H
clear H
have H := H1
clear H1
refine em_ (p := a0_6 = a1_6) (fun c6 => ?g5p) (fun c6 => ?g5n)
case' g5p => (
rw [if_pos c6] at H
have c6b0 : (a0_6 == a1_6) = true := beq_iff_eq.mpr c6
have c6b1 : (a0_6 != a1_6) = false := bne_eq_false_iff_eq.mpr c6
clear c6
obtain rfl := Option.some.inj H
have lf7_ := trivial
)
case' g5n => (
rw [if_neg c6] at H
have c6b0 : (a0_6 == a1_6) = false := beq_eq_false_iff_ne.mpr c6
have c6b1 : (a0_6 != a1_6) = true := bne_iff_ne.mpr c6
obtain rfl := Option.some.inj H
have lf8_ := trivial
)
)
case' g6n => (
replace c5 := Bool.eq_false_iff.mpr c5
subst c5
have H1 : (some false) = some r := by rw [if_neg (show ¬ (false = true) by decide)] at H; exact H
clear H
have H := H1
clear H1
obtain rfl := Option.some.inj H
have lf9_ := trivial
)
)
case' g7n => (
rw [if_neg c3] at H
have c3b0 : (a0_0 == a1_0) = false := beq_eq_false_iff_ne.mpr c3
have c3b1 : (a0_0 != a1_0) = true := bne_iff_ne.mpr c3
obtain rfl := Option.some.inj H
have lf10_ := trivial
)
all_goals (
go_enter Try.func124, Try.ntmps124
go_wp2_with (first | ((with_reducible refine gate_dst (N := 3) rfl ?_); refine box_event ?hg (N := 3) ?hd (cs := #[.int .i64 a1_0, .int .i64 a1_1, .int .i64 a1_2, .bool a1_3, .bool a1_4, .bool a1_5, .int .i64 a1_6]) (t := 98) ?hr ?_; (case hd => rfl); (case hg => rfl); (case hr => first | (go_simp; done) | (go_simp; rfl)); intro gb488 hg w8 hbox hb; have BK488 := am (hbox); have GW488 := am (gw hg (rb1 HB GE487)); have GE488 := GW488; replace HB := am (below_step (rb1 HB GE487) hb); have NB487_488 := am (nl hg (rk BK487)); have NB488_487 := am (ng hg (rk BK487)); replace BK487 := am (blk_below (rk BK487) hb); clear hb hbox hg; have hnb9 := NB487_488.out; have hnc9 := NB488_487.out; have hcz10_0 : w8.cell? ⟨gb487, 0, none⟩ = some (.int .i64 a0_0) := (blk_cell BK487.out 0).trans rfl; have hcz10_1 : w8.cell? ⟨gb487, 1, none⟩ = some (.int .i64 a0_1) := (blk_cell BK487.out 1).trans rfl; have hcz10_2 : w8.cell? ⟨gb487, 2, none⟩ = some (.int .i64 a0_2) := (blk_cell BK487.out 2).trans rfl; have hcz10_3 : w8.cell? ⟨gb487, 3, none⟩ = some (.bool a0_3) := (blk_cell BK487.out 3).trans rfl; have hcz10_4 : w8.cell? ⟨gb487, 4, none⟩ = some (.bool a0_4) := (blk_cell BK487.out 4).trans rfl; have hcz10_5 : w8.cell? ⟨gb487, 5, none⟩ = some (.bool a0_5) := (blk_cell BK487.out 5).trans rfl; have hcz10_6 : w8.cell? ⟨gb487, 6, none⟩ = some (.int .i64 a0_6) := (blk_cell BK487.out 6).trans rfl; have hfz10_0 := blk_frozen BK487.out 0; have hfz10_1 := blk_frozen BK487.out 1; have hfz10_2 := blk_frozen BK487.out 2; have hfz10_3 := blk_frozen BK487.out 3; have hfz10_4 := blk_frozen BK487.out 4; have hfz10_5 := blk_frozen BK487.out 5; have hfz10_6 := blk_frozen BK487.out 6; have hcz11_0 : w8.cell? ⟨gb488, 0, none⟩ = some (.int .i64 a1_0) := (blk_cell BK488.out 0).trans rfl; have hcz11_1 : w8.cell? ⟨gb488, 1, none⟩ = some (.int .i64 a1_1) := (blk_cell BK488.out 1).trans rfl; have hcz11_2 : w8.cell? ⟨gb488, 2, none⟩ = some (.int .i64 a1_2) := (blk_cell BK488.out 2).trans rfl; have hcz11_3 : w8.cell? ⟨gb488, 3, none⟩ = some (.bool a1_3) := (blk_cell BK488.out 3).trans rfl; have hcz11_4 : w8.cell? ⟨gb488, 4, none⟩ = some (.bool a1_4) := (blk_cell BK488.out 4).trans rfl; have hcz11_5 : w8.cell? ⟨gb488, 5, none⟩ = some (.bool a1_5) := (blk_cell BK488.out 5).trans rfl; have hcz11_6 : w8.cell? ⟨gb488, 6, none⟩ = some (.int .i64 a1_6) := (blk_cell BK488.out 6).trans rfl; have hfz11_0 := blk_frozen BK488.out 0; have hfz11_1 := blk_frozen BK488.out 1; have hfz11_2 := blk_frozen BK488.out 2; have hfz11_3 := blk_frozen BK488.out 3; have hfz11_4 := blk_frozen BK488.out 4; have hfz11_5 := blk_frozen BK488.out 5; have hfz11_6 := blk_frozen BK488.out 6) | ((with_reducible refine gate_callee (f := 138) rfl ?_); refine gl_ (some 14) Try.func138 #[.agg #[.int .i64 a0_1, .int .i64 a0_2, .bool a0_3, .bool a0_4, .bool a0_5], .agg #[.int .i64 a1_1, .int .i64 a1_2, .bool a1_3, .bool a1_4, .bool a1_5]] ?_; (with_reducible refine (laws_eqStyle.calls a0_1 a0_2 a0_3 a0_4 a0_5 a1_1 a1_2 a1_3 a1_4 a1_5 true _ A4.out).mono ?_); rintro e w12 ⟨rfl, hb⟩; refine ⟨_, rfl, ?_⟩; replace BK487 := am (blk_below (rk BK487) hb); replace BK488 := am (blk_below (rk BK488) hb); replace HB := am (below_step (rb2 HB GE487 GE488) hb); (try clear hb); (try clear hb2); (try clear hk); (try clear hi); have hcz13_0 : w12.cell? ⟨gb487, 0, none⟩ = some (.int .i64 a0_0) := (blk_cell BK487.out 0).trans rfl; have hcz13_1 : w12.cell? ⟨gb487, 1, none⟩ = some (.int .i64 a0_1) := (blk_cell BK487.out 1).trans rfl; have hcz13_2 : w12.cell? ⟨gb487, 2, none⟩ = some (.int .i64 a0_2) := (blk_cell BK487.out 2).trans rfl; have hcz13_3 : w12.cell? ⟨gb487, 3, none⟩ = some (.bool a0_3) := (blk_cell BK487.out 3).trans rfl; have hcz13_4 : w12.cell? ⟨gb487, 4, none⟩ = some (.bool a0_4) := (blk_cell BK487.out 4).trans rfl; have hcz13_5 : w12.cell? ⟨gb487, 5, none⟩ = some (.bool a0_5) := (blk_cell BK487.out 5).trans rfl; have hcz13_6 : w12.cell? ⟨gb487, 6, none⟩ = some (.int .i64 a0_6) := (blk_cell BK487.out 6).trans rfl; have hfz13_0 := blk_frozen BK487.out 0; have hfz13_1 := blk_frozen BK487.out 1; have hfz13_2 := blk_frozen BK487.out 2; have hfz13_3 := blk_frozen BK487.out 3; have hfz13_4 := blk_frozen BK487.out 4; have hfz13_5 := blk_frozen BK487.out 5; have hfz13_6 := blk_frozen BK487.out 6; have hcz14_0 : w12.cell? ⟨gb488, 0, none⟩ = some (.int .i64 a1_0) := (blk_cell BK488.out 0).trans rfl; have hcz14_1 : w12.cell? ⟨gb488, 1, none⟩ = some (.int .i64 a1_1) := (blk_cell BK488.out 1).trans rfl; have hcz14_2 : w12.cell? ⟨gb488, 2, none⟩ = some (.int .i64 a1_2) := (blk_cell BK488.out 2).trans rfl; have hcz14_3 : w12.cell? ⟨gb488, 3, none⟩ = some (.bool a1_3) := (blk_cell BK488.out 3).trans rfl; have hcz14_4 : w12.cell? ⟨gb488, 4, none⟩ = some (.bool a1_4) := (blk_cell BK488.out 4).trans rfl; have hcz14_5 : w12.cell? ⟨gb488, 5, none⟩ = some (.bool a1_5) := (blk_cell BK488.out 5).trans rfl; have hcz14_6 : w12.cell? ⟨gb488, 6, none⟩ = some (.int .i64 a1_6) := (blk_cell BK488.out 6).trans rfl; have hfz14_0 := blk_frozen BK488.out 0; have hfz14_1 := blk_frozen BK488.out 1; have hfz14_2 := blk_frozen BK488.out 2; have hfz14_3 := blk_frozen BK488.out 3; have hfz14_4 := blk_frozen BK488.out 4; have hfz14_5 := blk_frozen BK488.out 5; have hfz14_6 := blk_frozen BK488.out 6) | ((with_reducible refine gate_callee (f := 138) rfl ?_); refine gl_ (some 14) Try.func138 #[.agg #[.int .i64 a0_1, .int .i64 a0_2, .bool a0_3, .bool a0_4, .bool a0_5], .agg #[.int .i64 a1_1, .int .i64 a1_2, .bool a1_3, .bool a1_4, .bool a1_5]] ?_; (with_reducible refine (laws_eqStyle.calls a0_1 a0_2 a0_3 a0_4 a0_5 a1_1 a1_2 a1_3 a1_4 a1_5 false _ A4.out).mono ?_); rintro e w28 ⟨rfl, hb⟩; refine ⟨_, rfl, ?_⟩; replace BK487 := am (blk_below (rk BK487) hb); replace BK488 := am (blk_below (rk BK488) hb); replace HB := am (below_step (rb2 HB GE487 GE488) hb); (try clear hb); (try clear hb2); (try clear hk); (try clear hi)) | ((with_reducible refine gate_dst (N := 2) rfl ?_); refine box_event ?hg (N := 2) ?hd (cs := #[.int .i64 a0_0, .int .i64 a0_1, .int .i64 a0_2, .bool a0_3, .bool a0_4, .bool a0_5, .int .i64 a0_6]) (t := 98) ?hr ?_; (case hd => rfl); (case hg => rfl); (case hr => first | (go_simp; done) | (go_simp; rfl)); intro gb487 hg w7 hbox hb; have BK487 := am (hbox); have GW487 := am (gw hg (rb HB)); have GE487 := GW487; replace HB := am (below_step (rb HB) hb); clear hb hbox hg))
go_ret
exact ⟨by first | rfl | (simp [errW_none, errW_some] <;> rfl) | (simp [*, errW_none, errW_some] <;> rfl), rb2 HB GE487 GE488⟩
)
)

end Go.Proofs.Ytalopdcephohgaa.RB
