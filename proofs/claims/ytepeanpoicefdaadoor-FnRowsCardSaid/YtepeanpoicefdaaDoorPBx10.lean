/- Contracts of Go functions that laws of this seat reach: each Lean function answers as its Go function does. No condition. Written by wip/tools/inj.py, over the kit's print. -/
import Derived.Test.YtepeanpoicefdaaDoorPBx0
import Derived.Test.YtepeanpoicefdaaDoorPBx9
namespace Go.Proofs.YtepeanpoicefdaaDoor.PB
open Go.RowKit Go.Proofs.YtepeanpoicefdaaDoorW.PrintWords Go.Proofs.YtepeanpoicefdaaDoorW.PrintLast Go.Proofs.YtepeanpoicefdaaDoorW.PrintMore
attribute [local go_sem] max2_int min2_int max_two min_two max_three min_three max_four min_four   -- for this text's walks alone
set_option linter.unusedVariables false
set_option linter.unusedSimpArgs false

/-! ### impl_isCell: function 56 -/
def impl_isCell.f (k : Nat) (a0_0 : Int) (a0_1 : Int) (a0_2 : Int) (a0_3 : Bool) (a0_4 : Bool) (a0_5 : Bool) (a0_6 : Int) : Option (Bool) := if a0_6 = 0 then ((impl_Width.f k a0_0).bind fun t424 => (if t424 = 1 then ((impl_StyleOk.f a0_1 a0_2 a0_3 a0_4 a0_5).bind fun t425 => (some t425)) else (some false))) else (if a0_6 = 1 then ((impl_Width.f k a0_0).bind fun t426 => (if t426 = 2 then ((impl_StyleOk.f a0_1 a0_2 a0_3 a0_4 a0_5).bind fun t427 => (some t427)) else (some false))) else (if a0_6 = 2 then (if a0_0 = 0 then ((impl_StyleOk.f a0_1 a0_2 a0_3 a0_4 a0_5).bind fun t428 => (some t428)) else (some false)) else (some false)))
theorem impl_isCell.mono : ∀ a0 a1 a2 a3 a4 a5 a6 k, LeO (impl_isCell.f k a0 a1 a2 a3 a4 a5 a6) (impl_isCell.f (k + 1) a0 a1 a2 a3 a4 a5 a6) := by
 intro a0 a1 a2 a3 a4 a5 a6 k
 unfold impl_isCell.f
 repeat' first
   | (with_reducible exact impl_Width.mono _ _)
   | (with_reducible exact LeO.refl _)
   | (with_reducible exact LeO.none _)
   | (with_reducible refine LeO.ite ?_ ?_)
   | (with_reducible refine LeO.bind ?_ (fun _ => ?_))
set_option maxHeartbeats 8000000 in
set_option maxRecDepth 100000 in
theorem impl_isCell.calls (k : Nat) (a0_0 : Int) (a0_1 : Int) (a0_2 : Int) (a0_3 : Bool) (a0_4 : Bool) (a0_5 : Bool) (a0_6 : Int) (r : Bool) (w : World) (h : impl_isCell.f k a0_0 a0_1 a0_2 a0_3 a0_4 a0_5 a0_6 = some r) :
  Calls Tryd.prog 56 #[.agg #[.int .i64 a0_0, .int .i64 a0_1, .int .i64 a0_2, .bool a0_3, .bool a0_4, .bool a0_5, .int .i64 a0_6]] w fun e w' => e = .returned (.bool r) ∧ Below w.heap.size w w' := by
 have hu48 := Tryd.underlying48
 have hu37 := Tryd.underlying37
 have HB := am (Below.refl w.heap.size w)
 have H := h
 unfold impl_isCell.f at H
 clear h
 refine em_ (p := a0_6 = 0) (fun c2 => ?g5p) (fun c2 => ?g5n)
 case' g5p =>
  rw [if_pos c2] at H
  have c2b0 : (a0_6 == 0) = true := beq_iff_eq.mpr c2
  have c2b1 : (a0_6 != 0) = false := bne_eq_false_iff_eq.mpr c2
  clear c2
  replace H := Option.bind_eq_some_iff.mp H
  obtain ⟨t424, A30, H⟩ := H
  (try dsimp only at H)
  have A3 := am A30
  clear A30
  refine em_ (p := t424 = 1) (fun c4 => ?g0p) (fun c4 => ?g0n)
  case' g0p =>
   rw [if_pos c4] at H
   have c4b0 : (t424 == 1) = true := beq_iff_eq.mpr c4
   have c4b1 : (t424 != 1) = false := bne_eq_false_iff_eq.mpr c4
   clear c4
   replace H := Option.bind_eq_some_iff.mp H
   obtain ⟨t425, A50, H⟩ := H
   replace H : (some t425) = some r := H
   have A5 := am A50
   clear A50
   obtain rfl := Option.some.inj H
   have lf1_ := trivial
  case' g0n =>
   rw [if_neg c4] at H
   have c4b0 : (t424 == 1) = false := beq_eq_false_iff_ne.mpr c4
   have c4b1 : (t424 != 1) = true := bne_iff_ne.mpr c4
   obtain rfl := Option.some.inj H
   have lf2_ := trivial
 case' g5n =>
  rw [if_neg c2] at H
  have c2b0 : (a0_6 == 0) = false := beq_eq_false_iff_ne.mpr c2
  have c2b1 : (a0_6 != 0) = true := bne_iff_ne.mpr c2
  refine em_ (p := a0_6 = 1) (fun c11 => ?g4p) (fun c11 => ?g4n)
  case' g4p =>
   rw [if_pos c11] at H
   have c11b0 : (a0_6 == 1) = true := beq_iff_eq.mpr c11
   have c11b1 : (a0_6 != 1) = false := bne_eq_false_iff_eq.mpr c11
   clear c11
   replace H := Option.bind_eq_some_iff.mp H
   obtain ⟨t426, A120, H⟩ := H
   (try dsimp only at H)
   have A12 := am A120
   clear A120
   refine em_ (p := t426 = 2) (fun c13 => ?g1p) (fun c13 => ?g1n)
   case' g1p =>
    rw [if_pos c13] at H
    have c13b0 : (t426 == 2) = true := beq_iff_eq.mpr c13
    have c13b1 : (t426 != 2) = false := bne_eq_false_iff_eq.mpr c13
    clear c13
    replace H := Option.bind_eq_some_iff.mp H
    obtain ⟨t425, A140, H⟩ := H
    replace H : (some t425) = some r := H
    have A5 := am A140
    clear A140
    obtain rfl := Option.some.inj H
    have lf3_ := trivial
   case' g1n =>
    rw [if_neg c13] at H
    have c13b0 : (t426 == 2) = false := beq_eq_false_iff_ne.mpr c13
    have c13b1 : (t426 != 2) = true := bne_iff_ne.mpr c13
    obtain rfl := Option.some.inj H
    have lf4_ := trivial
  case' g4n =>
   rw [if_neg c11] at H
   have c11b0 : (a0_6 == 1) = false := beq_eq_false_iff_ne.mpr c11
   have c11b1 : (a0_6 != 1) = true := bne_iff_ne.mpr c11
   refine em_ (p := a0_6 = 2) (fun c20 => ?g3p) (fun c20 => ?g3n)
   case' g3p =>
    rw [if_pos c20] at H
    have c20b0 : (a0_6 == 2) = true := beq_iff_eq.mpr c20
    have c20b1 : (a0_6 != 2) = false := bne_eq_false_iff_eq.mpr c20
    clear c20
    refine em_ (p := a0_0 = 0) (fun c21 => ?g2p) (fun c21 => ?g2n)
    case' g2p =>
     rw [if_pos c21] at H
     have c21b0 : (a0_0 == 0) = true := beq_iff_eq.mpr c21
     have c21b1 : (a0_0 != 0) = false := bne_eq_false_iff_eq.mpr c21
     clear c21
     replace H := Option.bind_eq_some_iff.mp H
     obtain ⟨t425, A220, H⟩ := H
     replace H : (some t425) = some r := H
     have A5 := am A220
     clear A220
     obtain rfl := Option.some.inj H
     have lf5_ := trivial
    case' g2n =>
     rw [if_neg c21] at H
     have c21b0 : (a0_0 == 0) = false := beq_eq_false_iff_ne.mpr c21
     have c21b1 : (a0_0 != 0) = true := bne_iff_ne.mpr c21
     obtain rfl := Option.some.inj H
     have lf6_ := trivial
   case' g3n =>
    rw [if_neg c20] at H
    have c20b0 : (a0_6 == 2) = false := beq_eq_false_iff_ne.mpr c20
    have c20b1 : (a0_6 != 2) = true := bne_iff_ne.mpr c20
    obtain rfl := Option.some.inj H
    have lf7_ := trivial
 all_goals
  go_enter Tryd.func56, Tryd.ntmps56
  go_wp2_with (first | ((with_reducible refine gate_dst (N := 1) rfl ?_); refine box_event ?hg (N := 1) ?hd (cs := #[.int .i64 a0_0, .int .i64 a0_1, .int .i64 a0_2, .bool a0_3, .bool a0_4, .bool a0_5, .int .i64 a0_6]) (t := 48) ?hr ?_; (case hd => rfl); (case hg => rfl); (case hr => first | (go_simp; done) | (go_simp; rfl)); intro gb423 hg w6 hbox hb; have n0_ := am (below_step (rb HB) hb); have n1_ := am (hbox); have n2_ := am ((by rw [hg]; exact (below_size (rb HB)) : w.heap.size ≤ gb423)); have n3_ := am ((by rw [hg]; exact (below_size (rb HB)) : w.heap.size ≤ gb423)); clear HB; have HB := n0_; have BK423 := n1_; have GW423 := n2_; have GE423 := n3_; clear n0_ n1_ n2_ n3_; clear hb hbox hg; have hcz7_0 : w6.cell? ⟨gb423, 0, none⟩ = some (.int .i64 a0_0) := (blk_cell BK423.out 0).trans rfl; have hcz7_1 : w6.cell? ⟨gb423, 1, none⟩ = some (.int .i64 a0_1) := (blk_cell BK423.out 1).trans rfl; have hcz7_2 : w6.cell? ⟨gb423, 2, none⟩ = some (.int .i64 a0_2) := (blk_cell BK423.out 2).trans rfl; have hcz7_3 : w6.cell? ⟨gb423, 3, none⟩ = some (.bool a0_3) := (blk_cell BK423.out 3).trans rfl; have hcz7_4 : w6.cell? ⟨gb423, 4, none⟩ = some (.bool a0_4) := (blk_cell BK423.out 4).trans rfl; have hcz7_5 : w6.cell? ⟨gb423, 5, none⟩ = some (.bool a0_5) := (blk_cell BK423.out 5).trans rfl; have hcz7_6 : w6.cell? ⟨gb423, 6, none⟩ = some (.int .i64 a0_6) := (blk_cell BK423.out 6).trans rfl; have hfz7_0 := blk_frozen BK423.out 0; have hfz7_1 := blk_frozen BK423.out 1; have hfz7_2 := blk_frozen BK423.out 2; have hfz7_3 := blk_frozen BK423.out 3; have hfz7_4 := blk_frozen BK423.out 4; have hfz7_5 := blk_frozen BK423.out 5; have hfz7_6 := blk_frozen BK423.out 6) | (go_at_call 42; (with_reducible refine (impl_StyleOk.calls a0_1 a0_2 a0_3 a0_4 a0_5 t425 _ A5.out).mono ?_); rintro e w8 ⟨rfl, hb⟩; have n0_ := am (blk_below (g := gb423) (o := .cells #[.int .i64 a0_0, .int .i64 a0_1, .int .i64 a0_2, .bool a0_3, .bool a0_4, .bool a0_5, .int .i64 a0_6] 48 (0, 0)) (rk BK423) hb); have n1_ := am (below_step (rb1 HB GE423) hb); clear BK423; clear HB; have BK423 := n0_; have HB := n1_; clear n0_ n1_; (try clear hb); (try clear hb2); (try clear hk); (try clear hi)) | ((with_reducible refine gate_callee (f := 41) rfl ?_); refine gl_ (some 20) Tryd.func41 #[.int .i64 a0_0] ?_; (with_reducible refine (impl_Width.calls k a0_0 t426 _ A12.out).mono ?_); rintro e w' ⟨rfl, ⟨nd, rfl⟩⟩; refine ⟨_, rfl, ?_⟩) | ((with_reducible refine gate_callee (f := 41) rfl ?_); refine gl_ (some 9) Tryd.func41 #[.int .i64 a0_0] ?_; (with_reducible refine (impl_Width.calls k a0_0 t424 _ A3.out).mono ?_); rintro e w' ⟨rfl, ⟨nd, rfl⟩⟩; refine ⟨_, rfl, ?_⟩))
  go_ret
  exact ⟨by first | rfl | (simp [errW_none, errW_some] <;> rfl) | (simp [*, errW_none, errW_some] <;> rfl), by repeat (first | (with_reducible first | exact HB.out | apply b1 | apply b2 | apply b3 | refine below_set ?_ GE423.out) | exact HB.out)⟩

end Go.Proofs.YtepeanpoicefdaaDoor.PB
