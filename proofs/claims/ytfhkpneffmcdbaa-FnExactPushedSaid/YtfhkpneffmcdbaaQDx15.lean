/- Contracts of Go functions that laws of this seat reach: each Lean function answers as its Go function does. No condition. Written by wip/tools/inj.py, over the kit's print. -/
import Derived.Test.YtfhkpneffmcdbaaQDx0
import Derived.Test.YtfhkpneffmcdbaaQDx14
namespace Go.Proofs.Ytfhkpneffmcdbaa.QD
open Go.RowKit Go.Proofs.YtfhkpneffmcdbaaW.PrintWords Go.Proofs.YtfhkpneffmcdbaaW.PrintLast Go.Proofs.YtfhkpneffmcdbaaW.PrintMore
attribute [local go_sem] max2_int min2_int max_two min_two max_three min_three max_four min_four   -- for this text's walks alone
set_option linter.unusedVariables false
set_option linter.unusedSimpArgs false

/-! ### laws_eqCell: function 38 -/
def laws_eqCell.f (a0_0 : Int) (a0_1 : Int) (a0_2 : Int) (a0_3 : Bool) (a0_4 : Bool) (a0_5 : Bool) (a0_6 : Int) (a1_0 : Int) (a1_1 : Int) (a1_2 : Int) (a1_3 : Bool) (a1_4 : Bool) (a1_5 : Bool) (a1_6 : Int) : Option (Bool) := if a0_0 = a1_0 then ((laws_eqStyle.f a0_1 a0_2 a0_3 a0_4 a0_5 a1_1 a1_2 a1_3 a1_4 a1_5).bind fun t370 => (if t370 = true then (if a0_6 = a1_6 then (some true) else (some false)) else (some false))) else (some false)
set_option maxHeartbeats 8000000 in
set_option maxRecDepth 100000 in
theorem laws_eqCell.calls (a0_0 : Int) (a0_1 : Int) (a0_2 : Int) (a0_3 : Bool) (a0_4 : Bool) (a0_5 : Bool) (a0_6 : Int) (a1_0 : Int) (a1_1 : Int) (a1_2 : Int) (a1_3 : Bool) (a1_4 : Bool) (a1_5 : Bool) (a1_6 : Int) (r : Bool) (w : World) (h : laws_eqCell.f a0_0 a0_1 a0_2 a0_3 a0_4 a0_5 a0_6 a1_0 a1_1 a1_2 a1_3 a1_4 a1_5 a1_6 = some r) :
  Calls Try.prog 38 #[.agg #[.int .i64 a0_0, .int .i64 a0_1, .int .i64 a0_2, .bool a0_3, .bool a0_4, .bool a0_5, .int .i64 a0_6], .agg #[.int .i64 a1_0, .int .i64 a1_1, .int .i64 a1_2, .bool a1_3, .bool a1_4, .bool a1_5, .int .i64 a1_6]] w fun e w' => e = .returned (.bool r) ∧ Below w.heap.size w w' := by
 have hu40 := Try.underlying40
 have hu29 := Try.underlying29
 have HB := am (Below.refl w.heap.size w)
 have H := h
 unfold laws_eqCell.f at H
 clear h
 refine em_ (p := a0_0 = a1_0) (fun c3 => ?g2p) (fun c3 => ?g2n)
 case' g2p =>
  rw [if_pos c3] at H
  have c3b0 : (a0_0 == a1_0) = true := beq_iff_eq.mpr c3
  have c3b1 : (a0_0 != a1_0) = false := bne_eq_false_iff_eq.mpr c3
  clear c3
  replace H := Option.bind_eq_some_iff.mp H
  obtain ⟨t370, A40, H⟩ := H
  (try dsimp only at H)
  have A4 := am A40
  clear A40
  refine em_ (p := t370 = true) (fun c5 => ?g1p) (fun c5 => ?g1n)
  case' g1p =>
   subst c5
   have H1 : (if a0_6 = a1_6 then (some true) else (some false)) = some r := by rw [if_pos rfl] at H; exact H
   clear H
   have H := H1
   clear H1
   refine em_ (p := a0_6 = a1_6) (fun c6 => ?g0p) (fun c6 => ?g0n)
   case' g0p =>
    rw [if_pos c6] at H
    have c6b0 : (a0_6 == a1_6) = true := beq_iff_eq.mpr c6
    have c6b1 : (a0_6 != a1_6) = false := bne_eq_false_iff_eq.mpr c6
    clear c6
    obtain rfl := Option.some.inj H
    have lf1_ := trivial
   case' g0n =>
    rw [if_neg c6] at H
    have c6b0 : (a0_6 == a1_6) = false := beq_eq_false_iff_ne.mpr c6
    have c6b1 : (a0_6 != a1_6) = true := bne_iff_ne.mpr c6
    obtain rfl := Option.some.inj H
    have lf2_ := trivial
  case' g1n =>
   replace c5 := Bool.eq_false_iff.mpr c5
   subst c5
   have H1 : (some false) = some r := by rw [if_neg (show ¬ (false = true) by decide)] at H; exact H
   clear H
   have H := H1
   clear H1
   obtain rfl := Option.some.inj H
   have lf3_ := trivial
 case' g2n =>
  rw [if_neg c3] at H
  have c3b0 : (a0_0 == a1_0) = false := beq_eq_false_iff_ne.mpr c3
  have c3b1 : (a0_0 != a1_0) = true := bne_iff_ne.mpr c3
  obtain rfl := Option.some.inj H
  have lf4_ := trivial
 all_goals
  go_enter Try.func38, Try.ntmps38
  go_wp2_with (first | ((with_reducible refine gate_dst (N := 3) rfl ?_); refine box_event ?hg (N := 3) ?hd (cs := #[.int .i64 a1_0, .int .i64 a1_1, .int .i64 a1_2, .bool a1_3, .bool a1_4, .bool a1_5, .int .i64 a1_6]) (t := 40) ?hr ?_; (case hd => rfl); (case hg => rfl); (case hr => first | (go_simp; done) | (go_simp; rfl)); intro gb369 hg w8 hbox hb; have n0_ := am (blk_below (g := gb368) (o := .cells #[.int .i64 a0_0, .int .i64 a0_1, .int .i64 a0_2, .bool a0_3, .bool a0_4, .bool a0_5, .int .i64 a0_6] 40 (0, 0)) (rk BK368) hb); have n1_ := am (below_step (rb1 HB GE368) hb); have n2_ := am (hbox); have n3_ := am ((by rw [hg]; exact (below_size (rb1 HB GE368)) : w.heap.size ≤ gb369)); have n4_ := am ((by rw [hg]; exact (below_size (rb1 HB GE368)) : w.heap.size ≤ gb369)); have n5_ := am ((by rw [hg]; exact Nat.ne_of_lt (blk_lt (g := gb368) (o := .cells #[.int .i64 a0_0, .int .i64 a0_1, .int .i64 a0_2, .bool a0_3, .bool a0_4, .bool a0_5, .int .i64 a0_6] 40 (0, 0)) (rk BK368)) : gb368 ≠ gb369)); have n6_ := am ((by rw [hg]; exact Nat.ne_of_gt (blk_lt (g := gb368) (o := .cells #[.int .i64 a0_0, .int .i64 a0_1, .int .i64 a0_2, .bool a0_3, .bool a0_4, .bool a0_5, .int .i64 a0_6] 40 (0, 0)) (rk BK368)) : gb369 ≠ gb368)); clear BK368; clear HB; have BK368 := n0_; have HB := n1_; have BK369 := n2_; have GW369 := n3_; have GE369 := n4_; have NB368_369 := n5_; have NB369_368 := n6_; clear n0_ n1_ n2_ n3_ n4_ n5_ n6_; clear hb hbox hg; have hnb9 := NB368_369.out; have hnc9 := NB369_368.out; have hcz10_0 : w8.cell? ⟨gb368, 0, none⟩ = some (.int .i64 a0_0) := (blk_cell BK368.out 0).trans rfl; have hcz10_1 : w8.cell? ⟨gb368, 1, none⟩ = some (.int .i64 a0_1) := (blk_cell BK368.out 1).trans rfl; have hcz10_2 : w8.cell? ⟨gb368, 2, none⟩ = some (.int .i64 a0_2) := (blk_cell BK368.out 2).trans rfl; have hcz10_3 : w8.cell? ⟨gb368, 3, none⟩ = some (.bool a0_3) := (blk_cell BK368.out 3).trans rfl; have hcz10_4 : w8.cell? ⟨gb368, 4, none⟩ = some (.bool a0_4) := (blk_cell BK368.out 4).trans rfl; have hcz10_5 : w8.cell? ⟨gb368, 5, none⟩ = some (.bool a0_5) := (blk_cell BK368.out 5).trans rfl; have hcz10_6 : w8.cell? ⟨gb368, 6, none⟩ = some (.int .i64 a0_6) := (blk_cell BK368.out 6).trans rfl; have hfz10_0 := blk_frozen BK368.out 0; have hfz10_1 := blk_frozen BK368.out 1; have hfz10_2 := blk_frozen BK368.out 2; have hfz10_3 := blk_frozen BK368.out 3; have hfz10_4 := blk_frozen BK368.out 4; have hfz10_5 := blk_frozen BK368.out 5; have hfz10_6 := blk_frozen BK368.out 6; have hcz11_0 : w8.cell? ⟨gb369, 0, none⟩ = some (.int .i64 a1_0) := (blk_cell BK369.out 0).trans rfl; have hcz11_1 : w8.cell? ⟨gb369, 1, none⟩ = some (.int .i64 a1_1) := (blk_cell BK369.out 1).trans rfl; have hcz11_2 : w8.cell? ⟨gb369, 2, none⟩ = some (.int .i64 a1_2) := (blk_cell BK369.out 2).trans rfl; have hcz11_3 : w8.cell? ⟨gb369, 3, none⟩ = some (.bool a1_3) := (blk_cell BK369.out 3).trans rfl; have hcz11_4 : w8.cell? ⟨gb369, 4, none⟩ = some (.bool a1_4) := (blk_cell BK369.out 4).trans rfl; have hcz11_5 : w8.cell? ⟨gb369, 5, none⟩ = some (.bool a1_5) := (blk_cell BK369.out 5).trans rfl; have hcz11_6 : w8.cell? ⟨gb369, 6, none⟩ = some (.int .i64 a1_6) := (blk_cell BK369.out 6).trans rfl; have hfz11_0 := blk_frozen BK369.out 0; have hfz11_1 := blk_frozen BK369.out 1; have hfz11_2 := blk_frozen BK369.out 2; have hfz11_3 := blk_frozen BK369.out 3; have hfz11_4 := blk_frozen BK369.out 4; have hfz11_5 := blk_frozen BK369.out 5; have hfz11_6 := blk_frozen BK369.out 6) | ((with_reducible refine gate_callee (f := 68) rfl ?_); refine gl_ (some 14) Try.func68 #[.agg #[.int .i64 a0_1, .int .i64 a0_2, .bool a0_3, .bool a0_4, .bool a0_5], .agg #[.int .i64 a1_1, .int .i64 a1_2, .bool a1_3, .bool a1_4, .bool a1_5]] ?_; (with_reducible refine (laws_eqStyle.calls a0_1 a0_2 a0_3 a0_4 a0_5 a1_1 a1_2 a1_3 a1_4 a1_5 true _ A4.out).mono ?_); rintro e w12 ⟨rfl, hb⟩; refine ⟨_, rfl, ?_⟩; have n0_ := am (blk_below (g := gb368) (o := .cells #[.int .i64 a0_0, .int .i64 a0_1, .int .i64 a0_2, .bool a0_3, .bool a0_4, .bool a0_5, .int .i64 a0_6] 40 (0, 0)) (rk BK368) hb); have n1_ := am (blk_below (g := gb369) (o := .cells #[.int .i64 a1_0, .int .i64 a1_1, .int .i64 a1_2, .bool a1_3, .bool a1_4, .bool a1_5, .int .i64 a1_6] 40 (0, 0)) (rk BK369) hb); have n2_ := am (below_step (rb2 HB GE368 GE369) hb); clear BK368; clear BK369; clear HB; have BK368 := n0_; have BK369 := n1_; have HB := n2_; clear n0_ n1_ n2_; (try clear hb); (try clear hb2); (try clear hk); (try clear hi); have hcz13_0 : w12.cell? ⟨gb368, 0, none⟩ = some (.int .i64 a0_0) := (blk_cell BK368.out 0).trans rfl; have hcz13_1 : w12.cell? ⟨gb368, 1, none⟩ = some (.int .i64 a0_1) := (blk_cell BK368.out 1).trans rfl; have hcz13_2 : w12.cell? ⟨gb368, 2, none⟩ = some (.int .i64 a0_2) := (blk_cell BK368.out 2).trans rfl; have hcz13_3 : w12.cell? ⟨gb368, 3, none⟩ = some (.bool a0_3) := (blk_cell BK368.out 3).trans rfl; have hcz13_4 : w12.cell? ⟨gb368, 4, none⟩ = some (.bool a0_4) := (blk_cell BK368.out 4).trans rfl; have hcz13_5 : w12.cell? ⟨gb368, 5, none⟩ = some (.bool a0_5) := (blk_cell BK368.out 5).trans rfl; have hcz13_6 : w12.cell? ⟨gb368, 6, none⟩ = some (.int .i64 a0_6) := (blk_cell BK368.out 6).trans rfl; have hfz13_0 := blk_frozen BK368.out 0; have hfz13_1 := blk_frozen BK368.out 1; have hfz13_2 := blk_frozen BK368.out 2; have hfz13_3 := blk_frozen BK368.out 3; have hfz13_4 := blk_frozen BK368.out 4; have hfz13_5 := blk_frozen BK368.out 5; have hfz13_6 := blk_frozen BK368.out 6; have hcz14_0 : w12.cell? ⟨gb369, 0, none⟩ = some (.int .i64 a1_0) := (blk_cell BK369.out 0).trans rfl; have hcz14_1 : w12.cell? ⟨gb369, 1, none⟩ = some (.int .i64 a1_1) := (blk_cell BK369.out 1).trans rfl; have hcz14_2 : w12.cell? ⟨gb369, 2, none⟩ = some (.int .i64 a1_2) := (blk_cell BK369.out 2).trans rfl; have hcz14_3 : w12.cell? ⟨gb369, 3, none⟩ = some (.bool a1_3) := (blk_cell BK369.out 3).trans rfl; have hcz14_4 : w12.cell? ⟨gb369, 4, none⟩ = some (.bool a1_4) := (blk_cell BK369.out 4).trans rfl; have hcz14_5 : w12.cell? ⟨gb369, 5, none⟩ = some (.bool a1_5) := (blk_cell BK369.out 5).trans rfl; have hcz14_6 : w12.cell? ⟨gb369, 6, none⟩ = some (.int .i64 a1_6) := (blk_cell BK369.out 6).trans rfl; have hfz14_0 := blk_frozen BK369.out 0; have hfz14_1 := blk_frozen BK369.out 1; have hfz14_2 := blk_frozen BK369.out 2; have hfz14_3 := blk_frozen BK369.out 3; have hfz14_4 := blk_frozen BK369.out 4; have hfz14_5 := blk_frozen BK369.out 5; have hfz14_6 := blk_frozen BK369.out 6) | ((with_reducible refine gate_callee (f := 68) rfl ?_); refine gl_ (some 14) Try.func68 #[.agg #[.int .i64 a0_1, .int .i64 a0_2, .bool a0_3, .bool a0_4, .bool a0_5], .agg #[.int .i64 a1_1, .int .i64 a1_2, .bool a1_3, .bool a1_4, .bool a1_5]] ?_; (with_reducible refine (laws_eqStyle.calls a0_1 a0_2 a0_3 a0_4 a0_5 a1_1 a1_2 a1_3 a1_4 a1_5 false _ A4.out).mono ?_); rintro e w28 ⟨rfl, hb⟩; refine ⟨_, rfl, ?_⟩; have n0_ := am (blk_below (g := gb368) (o := .cells #[.int .i64 a0_0, .int .i64 a0_1, .int .i64 a0_2, .bool a0_3, .bool a0_4, .bool a0_5, .int .i64 a0_6] 40 (0, 0)) (rk BK368) hb); have n1_ := am (blk_below (g := gb369) (o := .cells #[.int .i64 a1_0, .int .i64 a1_1, .int .i64 a1_2, .bool a1_3, .bool a1_4, .bool a1_5, .int .i64 a1_6] 40 (0, 0)) (rk BK369) hb); have n2_ := am (below_step (rb2 HB GE368 GE369) hb); clear BK368; clear BK369; clear HB; have BK368 := n0_; have BK369 := n1_; have HB := n2_; clear n0_ n1_ n2_; (try clear hb); (try clear hb2); (try clear hk); (try clear hi)) | ((with_reducible refine gate_dst (N := 2) rfl ?_); refine box_event ?hg (N := 2) ?hd (cs := #[.int .i64 a0_0, .int .i64 a0_1, .int .i64 a0_2, .bool a0_3, .bool a0_4, .bool a0_5, .int .i64 a0_6]) (t := 40) ?hr ?_; (case hd => rfl); (case hg => rfl); (case hr => first | (go_simp; done) | (go_simp; rfl)); intro gb368 hg w7 hbox hb; have n0_ := am (below_step (rb HB) hb); have n1_ := am (hbox); have n2_ := am ((by rw [hg]; exact (below_size (rb HB)) : w.heap.size ≤ gb368)); have n3_ := am ((by rw [hg]; exact (below_size (rb HB)) : w.heap.size ≤ gb368)); clear HB; have HB := n0_; have BK368 := n1_; have GW368 := n2_; have GE368 := n3_; clear n0_ n1_ n2_ n3_; clear hb hbox hg))
  go_ret
  exact ⟨by first | rfl | (simp [errW_none, errW_some] <;> rfl) | (simp [*, errW_none, errW_some] <;> rfl), rb2 HB GE368 GE369⟩

end Go.Proofs.Ytfhkpneffmcdbaa.QD
