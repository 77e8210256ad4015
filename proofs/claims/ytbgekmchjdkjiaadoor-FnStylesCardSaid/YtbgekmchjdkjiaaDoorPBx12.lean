/- Contracts of Go functions that laws of this seat reach: each Lean function answers as its Go function does. No condition. Written by wip/tools/inj.py, over the kit's print. -/
import Derived.Test.YtbgekmchjdkjiaaDoorPBx0
import Derived.Test.YtbgekmchjdkjiaaDoorPBx2
namespace Go.Proofs.YtbgekmchjdkjiaaDoor.PB
open Go.RowKit Go.Proofs.YtbgekmchjdkjiaaDoorW.PrintWords Go.Proofs.YtbgekmchjdkjiaaDoorW.PrintLast Go.Proofs.YtbgekmchjdkjiaaDoorW.PrintMore
attribute [local go_sem] max2_int min2_int max_two min_two max_three min_three max_four min_four   -- for this text's walks alone
set_option linter.unusedVariables false
set_option linter.unusedSimpArgs false

/-! ### spec_l3Param: function 62 -/
mutual
def spec_l3Param.j0 : Nat → Int → Bool → Int → Int → Bool → Bool → Bool → Option (Int × Int × Bool × Bool × Bool)
 | 0, _, _, _, _, _, _, _ => none
 | k + 1, x1, x9, x350000, x350001, x350002, x350003, x350004 => if x9 = true then (some (x350000, x350001, (x1 == 1), x350003, x350004)) else (if x1 = 4 then (spec_l3Param.j1 k x1 true x350000 x350001 x350002 x350003 x350004) else (spec_l3Param.j1 k x1 (x1 == 24) x350000 x350001 x350002 x350003 x350004))
def spec_l3Param.j1 : Nat → Int → Bool → Int → Int → Bool → Bool → Bool → Option (Int × Int × Bool × Bool × Bool)
 | 0, _, _, _, _, _, _, _ => none
 | k + 1, x1, x19, x350000, x350001, x350002, x350003, x350004 => if x19 = true then (some (x350000, x350001, x350002, (x1 == 4), x350004)) else (if x1 = 7 then (spec_l3Param.j2 k x1 true x350000 x350001 x350002 x350003 x350004) else (spec_l3Param.j2 k x1 (x1 == 27) x350000 x350001 x350002 x350003 x350004))
def spec_l3Param.j2 : Nat → Int → Bool → Int → Int → Bool → Bool → Bool → Option (Int × Int × Bool × Bool × Bool)
 | 0, _, _, _, _, _, _, _ => none
 | k + 1, x1, x29, x350000, x350001, x350002, x350003, x350004 => if x29 = true then (some (x350000, x350001, x350002, x350003, (x1 == 7))) else ((spec_l1In.f x1 30 37).bind fun t351 => (if t351 = true then (some (wrap64 (x1 - 29), x350001, x350002, x350003, x350004)) else (if x1 = 39 then (some (0, x350001, x350002, x350003, x350004)) else ((spec_l1In.f x1 40 47).bind fun t352 => (if t352 = true then (some (x350000, wrap64 (x1 - 39), x350002, x350003, x350004)) else (if x1 = 49 then (some (x350000, 0, x350002, x350003, x350004)) else (some (x350000, x350001, x350002, x350003, x350004))))))))
end
def spec_l3Param.f (k : Nat) (a0_0 : Int) (a0_1 : Int) (a0_2 : Bool) (a0_3 : Bool) (a0_4 : Bool) (a1 : Int) : Option (Int × Int × Bool × Bool × Bool) := if a1 = 0 then (some (0, 0, false, false, false)) else (if a1 = 1 then (spec_l3Param.j0 k a1 true a0_0 a0_1 a0_2 a0_3 a0_4) else (spec_l3Param.j0 k a1 (a1 == 22) a0_0 a0_1 a0_2 a0_3 a0_4))
theorem spec_l3Param.mono_l : ∀ k, (∀ y0 y1 y2 y3 y4 y5 y6, LeO (spec_l3Param.j0 k y0 y1 y2 y3 y4 y5 y6) (spec_l3Param.j0 (k + 1) y0 y1 y2 y3 y4 y5 y6)) ∧ (∀ y0 y1 y2 y3 y4 y5 y6, LeO (spec_l3Param.j1 k y0 y1 y2 y3 y4 y5 y6) (spec_l3Param.j1 (k + 1) y0 y1 y2 y3 y4 y5 y6)) ∧ (∀ y0 y1 y2 y3 y4 y5 y6, LeO (spec_l3Param.j2 k y0 y1 y2 y3 y4 y5 y6) (spec_l3Param.j2 (k + 1) y0 y1 y2 y3 y4 y5 y6))
 | 0 => ⟨fun _ _ _ _ _ _ _ r h => by simp [spec_l3Param.j0] at h, fun _ _ _ _ _ _ _ r h => by simp [spec_l3Param.j1] at h, fun _ _ _ _ _ _ _ r h => by simp [spec_l3Param.j2] at h⟩
 | k + 1 => by
  obtain ⟨ih0, ih1, ih2⟩ := spec_l3Param.mono_l k
  refine ⟨?_, ?_, ?_⟩
  ·intro y0 y1 y2 y3 y4 y5 y6
   unfold spec_l3Param.j0
   repeat' first
   | (with_reducible exact ih0 _ _ _ _ _ _ _)
   | (with_reducible exact ih1 _ _ _ _ _ _ _)
   | (with_reducible exact ih2 _ _ _ _ _ _ _)
   | (with_reducible exact LeO.refl _)
   | (with_reducible exact LeO.none _)
   | (with_reducible refine LeO.ite ?_ ?_)
   | (with_reducible refine LeO.bind ?_ (fun _ => ?_))
   | exact ih0 _ _ _ _ _ _ _
   | exact ih1 _ _ _ _ _ _ _
   | exact ih2 _ _ _ _ _ _ _
   | exact LeO.none _
   | refine LeO.ite ?_ ?_
   | refine LeO.bind ?_ (fun _ => ?_)
  ·intro y0 y1 y2 y3 y4 y5 y6
   unfold spec_l3Param.j1
   repeat' first
   | (with_reducible exact ih0 _ _ _ _ _ _ _)
   | (with_reducible exact ih1 _ _ _ _ _ _ _)
   | (with_reducible exact ih2 _ _ _ _ _ _ _)
   | (with_reducible exact LeO.refl _)
   | (with_reducible exact LeO.none _)
   | (with_reducible refine LeO.ite ?_ ?_)
   | (with_reducible refine LeO.bind ?_ (fun _ => ?_))
   | exact ih0 _ _ _ _ _ _ _
   | exact ih1 _ _ _ _ _ _ _
   | exact ih2 _ _ _ _ _ _ _
   | exact LeO.none _
   | refine LeO.ite ?_ ?_
   | refine LeO.bind ?_ (fun _ => ?_)
  ·intro y0 y1 y2 y3 y4 y5 y6
   unfold spec_l3Param.j2
   repeat' first
   | (with_reducible exact ih0 _ _ _ _ _ _ _)
   | (with_reducible exact ih1 _ _ _ _ _ _ _)
   | (with_reducible exact ih2 _ _ _ _ _ _ _)
   | (with_reducible exact LeO.refl _)
   | (with_reducible exact LeO.none _)
   | (with_reducible refine LeO.ite ?_ ?_)
   | (with_reducible refine LeO.bind ?_ (fun _ => ?_))
   | exact ih0 _ _ _ _ _ _ _
   | exact ih1 _ _ _ _ _ _ _
   | exact ih2 _ _ _ _ _ _ _
   | exact LeO.none _
   | refine LeO.ite ?_ ?_
   | refine LeO.bind ?_ (fun _ => ?_)
theorem spec_l3Param.mono : ∀ a0 a1 a2 a3 a4 a5 k, LeO (spec_l3Param.f k a0 a1 a2 a3 a4 a5) (spec_l3Param.f (k + 1) a0 a1 a2 a3 a4 a5) := by
 intro a0 a1 a2 a3 a4 a5 k
 obtain ⟨ih0, ih1, ih2⟩ := spec_l3Param.mono_l k
 unfold spec_l3Param.f
 repeat' first
   | (with_reducible exact ih0 _ _ _ _ _ _ _)
   | (with_reducible exact ih1 _ _ _ _ _ _ _)
   | (with_reducible exact ih2 _ _ _ _ _ _ _)
   | (with_reducible exact LeO.refl _)
   | (with_reducible exact LeO.none _)
   | (with_reducible refine LeO.ite ?_ ?_)
   | (with_reducible refine LeO.bind ?_ (fun _ => ?_))
   | exact ih0 _ _ _ _ _ _ _
   | exact ih1 _ _ _ _ _ _ _
   | exact ih2 _ _ _ _ _ _ _
   | exact LeO.none _
   | refine LeO.ite ?_ ?_
   | refine LeO.bind ?_ (fun _ => ?_)
set_option maxHeartbeats 8000000 in
set_option maxRecDepth 100000 in
theorem spec_l3Param.calls (k : Nat) (a0_0 : Int) (a0_1 : Int) (a0_2 : Bool) (a0_3 : Bool) (a0_4 : Bool) (a1 : Int) (r1 : Int) (r2 : Int) (r3 : Bool) (r4 : Bool) (r5 : Bool) (w : World) (h : spec_l3Param.f k a0_0 a0_1 a0_2 a0_3 a0_4 a1 = some (r1, r2, r3, r4, r5)) :
  Calls Tryd.prog 62 #[.agg #[.int .i64 a0_0, .int .i64 a0_1, .bool a0_2, .bool a0_3, .bool a0_4], .int .i64 a1] w fun e w' => e = .returned (.agg #[.int .i64 r1, .int .i64 r2, .bool r3, .bool r4, .bool r5]) ∧ Below w.heap.size w w' := by
 have hu25 := Tryd.underlying25
 have HB := am (Below.refl w.heap.size w)
 have H : (if a1 = 0 then (some (0, 0, false, false, false)) else (if a1 = 1 then (spec_l3Param.j0 k a1 true a0_0 a0_1 a0_2 a0_3 a0_4) else (spec_l3Param.j0 k a1 (a1 == 22) a0_0 a0_1 a0_2 a0_3 a0_4))) = some (r1, r2, r3, r4, r5) := h
 clear h
 by_cases c3 : a1 = 0
 ·rw [if_pos c3] at H
  have c3b0 : (a1 == 0) = true := beq_iff_eq.mpr c3
  have c3b1 : (a1 != 0) = false := bne_eq_false_iff_eq.mpr c3
  clear c3
  simp only [Option.some.injEq, Prod.mk.injEq] at H
  obtain ⟨rfl, rfl, rfl, rfl, rfl⟩ := H
  go_enter Tryd.func62, Tryd.ntmps62
  go_wp2_with (first | ((with_reducible refine gate_dst (N := 2) rfl ?_); refine box_event ?hg (N := 2) ?hd (cs := #[.int .i64 a0_0, .int .i64 a0_1, .bool a0_2, .bool a0_3, .bool a0_4]) (t := 25) ?hr ?_; (case hd => rfl); (case hg => rfl); (case hr => first | (go_simp; done) | (go_simp; rfl)); intro gb349 hg w4 hbox hb; have n0_ := am (below_step (rb HB) hb); have n1_ := am (hbox); have n2_ := am ((by rw [hg]; exact (below_size (rb HB)) : w.heap.size ≤ gb349)); have n3_ := am ((by rw [hg]; exact (below_size (rb HB)) : w.heap.size ≤ gb349)); clear HB; have HB := n0_; have BK349 := n1_; have GW349 := n2_; have GE349 := n3_; clear n0_ n1_ n2_ n3_; clear hb hbox hg) | ((with_reducible refine gate_dst (N := 4) rfl ?_); refine box_event ?hg (N := 4) ?hd (cs := #[.int .i64 0, .int .i64 0, .bool false, .bool false, .bool false]) (t := 25) ?hr ?_; (case hd => rfl); (case hg => rfl); (case hr => first | (go_simp; done) | (go_simp; rfl)); intro gb350 hg w5 hbox hb; have n0_ := am (blk_below (g := gb349) (o := .cells #[.int .i64 a0_0, .int .i64 a0_1, .bool a0_2, .bool a0_3, .bool a0_4] 25 (0, 0)) (rk BK349) hb); have n1_ := am (below_step (rb1 HB GE349) hb); have n2_ := am (hbox); have n3_ := am ((by rw [hg]; exact (below_size (rb1 HB GE349)) : w.heap.size ≤ gb350)); have n4_ := am ((by rw [hg]; exact (below_size (rb1 HB GE349)) : w.heap.size ≤ gb350)); have n5_ := am ((by rw [hg]; exact Nat.ne_of_lt (blk_lt (g := gb349) (o := .cells #[.int .i64 a0_0, .int .i64 a0_1, .bool a0_2, .bool a0_3, .bool a0_4] 25 (0, 0)) (rk BK349)) : gb349 ≠ gb350)); have n6_ := am ((by rw [hg]; exact Nat.ne_of_gt (blk_lt (g := gb349) (o := .cells #[.int .i64 a0_0, .int .i64 a0_1, .bool a0_2, .bool a0_3, .bool a0_4] 25 (0, 0)) (rk BK349)) : gb350 ≠ gb349)); clear BK349; clear HB; have BK349 := n0_; have HB := n1_; have BK350 := n2_; have GW350 := n3_; have GE350 := n4_; have NB349_350 := n5_; have NB350_349 := n6_; clear n0_ n1_ n2_ n3_ n4_ n5_ n6_; clear hb hbox hg; have hnb6 := NB350_349.out; have hnc6 := NB349_350.out; have hcz7_0 : w5.cell? ⟨gb350, 0, none⟩ = some (.int .i64 0) := (blk_cell BK350.out 0).trans rfl; have hcz7_1 : w5.cell? ⟨gb350, 1, none⟩ = some (.int .i64 0) := (blk_cell BK350.out 1).trans rfl; have hcz7_2 : w5.cell? ⟨gb350, 2, none⟩ = some (.bool false) := (blk_cell BK350.out 2).trans rfl; have hcz7_3 : w5.cell? ⟨gb350, 3, none⟩ = some (.bool false) := (blk_cell BK350.out 3).trans rfl; have hcz7_4 : w5.cell? ⟨gb350, 4, none⟩ = some (.bool false) := (blk_cell BK350.out 4).trans rfl; have hfz7_0 := blk_frozen BK350.out 0; have hfz7_1 := blk_frozen BK350.out 1; have hfz7_2 := blk_frozen BK350.out 2; have hfz7_3 := blk_frozen BK350.out 3; have hfz7_4 := blk_frozen BK350.out 4))
  refine bodyPost_ret (results_cell_row rfl _ _ gb350 25 #[.int .i64 0, .int .i64 0, .bool false, .bool false, .bool false] (0, 0) _ rfl (by (with_reducible repeat (first | apply k1 | apply k2 | apply k3)); refine blk_put (cs := #[.int .i64 0, .int .i64 0, .bool false, .bool false, .bool false]) ?_ 4 _ rfl; (with_reducible repeat (first | apply k1 | apply k2 | apply k3)); refine blk_put (cs := #[.int .i64 0, .int .i64 0, .bool false, .bool false, .bool false]) ?_ 3 _ rfl; (with_reducible repeat (first | apply k1 | apply k2 | apply k3)); refine blk_put (cs := #[.int .i64 0, .int .i64 0, .bool false, .bool false, .bool false]) ?_ 2 _ rfl; (with_reducible repeat (first | apply k1 | apply k2 | apply k3)); refine blk_put (cs := #[.int .i64 0, .int .i64 0, .bool false, .bool false, .bool false]) ?_ 1 _ rfl; (with_reducible repeat (first | apply k1 | apply k2 | apply k3)); refine blk_put (cs := #[.int .i64 0, .int .i64 0, .bool false, .bool false, .bool false]) ?_ 0 _ rfl; (with_reducible repeat (first | apply k1 | apply k2 | apply k3)); exact BK350.out) Tryd.underlying25 rfl (by kernel_rfl)) rfl ?_
  exact ⟨by first | rfl | (simp [errW_none, errW_some] <;> rfl) | (simp [*, errW_none, errW_some] <;> rfl), by repeat (first | (with_reducible first | exact HB.out | apply b1 | apply b2 | apply b3 | refine below_set ?_ GE349.out | refine below_set ?_ GE350.out) | exact HB.out)⟩
 ·rw [if_neg c3] at H
  have c3b0 : (a1 == 0) = false := beq_eq_false_iff_ne.mpr c3
  have c3b1 : (a1 != 0) = true := bne_iff_ne.mpr c3
  have HC8 := am H
  clear H
  go_enter Tryd.func62, Tryd.ntmps62
  go_upto_region 3 with (first | ((with_reducible refine gate_dst (N := 2) rfl ?_); refine box_event ?hg (N := 2) ?hd (cs := #[.int .i64 a0_0, .int .i64 a0_1, .bool a0_2, .bool a0_3, .bool a0_4]) (t := 25) ?hr ?_; (case hd => rfl); (case hg => rfl); (case hr => first | (go_simp; done) | (go_simp; rfl)); intro gb349 hg w9 hbox hb; have n0_ := am (below_step (rb HB) hb); have n1_ := am (hbox); have n2_ := am ((by rw [hg]; exact (below_size (rb HB)) : w.heap.size ≤ gb349)); have n3_ := am ((by rw [hg]; exact (below_size (rb HB)) : w.heap.size ≤ gb349)); clear HB; have HB := n0_; have BK349 := n1_; have GW349 := n2_; have GE349 := n3_; clear n0_ n1_ n2_ n3_; clear hb hbox hg) | ((with_reducible refine gate_dst (N := 4) rfl ?_); refine box_event ?hg (N := 4) ?hd (cs := #[.int .i64 0, .int .i64 0, .bool false, .bool false, .bool false]) (t := 25) ?hr ?_; (case hd => rfl); (case hg => rfl); (case hr => first | (go_simp; done) | (go_simp; rfl)); intro gb350 hg w10 hbox hb; have n0_ := am (blk_below (g := gb349) (o := .cells #[.int .i64 a0_0, .int .i64 a0_1, .bool a0_2, .bool a0_3, .bool a0_4] 25 (0, 0)) (rk BK349) hb); have n1_ := am (below_step (rb1 HB GE349) hb); have n2_ := am (hbox); have n3_ := am ((by rw [hg]; exact (below_size (rb1 HB GE349)) : w.heap.size ≤ gb350)); have n4_ := am ((by rw [hg]; exact (below_size (rb1 HB GE349)) : w.heap.size ≤ gb350)); have n5_ := am ((by rw [hg]; exact Nat.ne_of_lt (blk_lt (g := gb349) (o := .cells #[.int .i64 a0_0, .int .i64 a0_1, .bool a0_2, .bool a0_3, .bool a0_4] 25 (0, 0)) (rk BK349)) : gb349 ≠ gb350)); have n6_ := am ((by rw [hg]; exact Nat.ne_of_gt (blk_lt (g := gb349) (o := .cells #[.int .i64 a0_0, .int .i64 a0_1, .bool a0_2, .bool a0_3, .bool a0_4] 25 (0, 0)) (rk BK349)) : gb350 ≠ gb349)); clear BK349; clear HB; have BK349 := n0_; have HB := n1_; have BK350 := n2_; have GW350 := n3_; have GE350 := n4_; have NB349_350 := n5_; have NB350_349 := n6_; clear n0_ n1_ n2_ n3_ n4_ n5_ n6_; clear hb hbox hg))
  (try simp only [Act.put, List.setIfInBounds_toArray, List.set_cons_zero, List.set_cons_succ])
  go_cut [9] (fun v9 wc => ∃ (kq : Nat) (x9_7 : Bool), v9 = .bool x9_7 ∧ Aside0 (spec_l3Param.j0 kq a1 x9_7 a0_0 a0_1 a0_2 a0_3 a0_4 = some (r1, r2, r3, r4, r5)) ∧ Aside0 (kq ≤ k) ∧ Aside0 (wc.heap[gb349]? = some (.cells #[.int .i64 a0_0, .int .i64 a0_1, .bool a0_2, .bool a0_3, .bool a0_4] 25 (0, 0))) ∧ Aside0 (wc.heap[gb350]? = some (.cells #[.int .i64 0, .int .i64 0, .bool false, .bool false, .bool false] 25 (0, 0))) ∧ Aside0 (Below w.heap.size w wc))
  case first =>
   have H := HC8.out
   clear HC8
   by_cases c11 : a1 = 1
   ·rw [if_pos c11] at H
    have c11b0 : (a1 == 1) = true := beq_iff_eq.mpr c11
    have c11b1 : (a1 != 1) = false := bne_eq_false_iff_eq.mpr c11
    clear c11
    (first | rw [c11b0] | (simp only [i64_w, i32_w]; rw [c11b0]) | skip)
    have H' := am H
    clear H
    go_wp2
    go_meet
    case rel => exact ⟨_, (true), (by first | rfl | (simp; done) | (simp [*]; done)), H', ⟨by first | omega | exact Nat.le_refl _⟩, ⟨rk BK349⟩, ⟨rk BK350⟩, ⟨by repeat (first | (with_reducible first | exact HB.out | apply b1 | apply b2 | apply b3 | refine below_set ?_ GE349.out | refine below_set ?_ GE350.out) | exact HB.out)⟩⟩
   ·rw [if_neg c11] at H
    have c11b0 : (a1 == 1) = false := beq_eq_false_iff_ne.mpr c11
    have c11b1 : (a1 != 1) = true := bne_iff_ne.mpr c11
    (first | rw [c11b0] | (simp only [i64_w, i32_w]; rw [c11b0]) | skip)
    have H' := am H
    clear H
    go_wp2
    go_meet
    case rel => exact ⟨_, ((a1 == 22)), (by first | rfl | (simp; done) | (simp [*]; done)), H', ⟨by first | omega | exact Nat.le_refl _⟩, ⟨rk BK349⟩, ⟨rk BK350⟩, ⟨by repeat (first | (with_reducible first | exact HB.out | apply b1 | apply b2 | apply b3 | refine below_set ?_ GE349.out | refine below_set ?_ GE350.out) | exact HB.out)⟩⟩
  case rest =>
   clear HC8
   try clear c1
   try clear p2
   try clear c3
   try clear c3b0
   try clear c3b1
   try clear c6
   try clear c11
   try clear c11b0
   try clear c11b1
   try clear hcz7_0
   try clear hcz7_1
   try clear hcz7_2
   try clear hcz7_3
   try clear hcz7_4
   try clear hfz7_0
   try clear hfz7_1
   try clear hfz7_2
   try clear hfz7_3
   try clear hfz7_4
   obtain ⟨kq, x9_7, rfl, HA, HJ7, BK349, BK350, HB⟩ := hcut
   cases kq with
   | zero => exact absurd HA.out (by simp [spec_l3Param.j0])
   | succ kj7 =>
    have H := HA.out
    clear HA
    simp only [spec_l3Param.j0] at H
    by_cases c12 : x9_7 = true
    ·subst c12
     have H1 : (some (a0_0, a0_1, (a1 == 1), a0_3, a0_4)) = some (r1, r2, r3, r4, r5) := by rw [if_pos rfl] at H; exact H
     clear H
     have H := H1
     clear H1
     simp only [Option.some.injEq, Prod.mk.injEq] at H
     obtain ⟨rfl, rfl, rfl, rfl, rfl⟩ := H
     have hnb13 := NB349_350.out
     have hnc13 := NB350_349.out
     have hcz14_0 : wc.cell? ⟨gb349, 0, none⟩ = some (.int .i64 a0_0) := (blk_cell BK349.out 0).trans rfl
     have hcz14_1 : wc.cell? ⟨gb349, 1, none⟩ = some (.int .i64 a0_1) := (blk_cell BK349.out 1).trans rfl
     have hcz14_2 : wc.cell? ⟨gb349, 2, none⟩ = some (.bool a0_2) := (blk_cell BK349.out 2).trans rfl
     have hcz14_3 : wc.cell? ⟨gb349, 3, none⟩ = some (.bool a0_3) := (blk_cell BK349.out 3).trans rfl
     have hcz14_4 : wc.cell? ⟨gb349, 4, none⟩ = some (.bool a0_4) := (blk_cell BK349.out 4).trans rfl
     have hfz14_0 := blk_frozen BK349.out 0
     have hfz14_1 := blk_frozen BK349.out 1
     have hfz14_2 := blk_frozen BK349.out 2
     have hfz14_3 := blk_frozen BK349.out 3
     have hfz14_4 := blk_frozen BK349.out 4
     have hcz15_0 : wc.cell? ⟨gb350, 0, none⟩ = some (.int .i64 0) := (blk_cell BK350.out 0).trans rfl
     have hcz15_1 : wc.cell? ⟨gb350, 1, none⟩ = some (.int .i64 0) := (blk_cell BK350.out 1).trans rfl
     have hcz15_2 : wc.cell? ⟨gb350, 2, none⟩ = some (.bool false) := (blk_cell BK350.out 2).trans rfl
     have hcz15_3 : wc.cell? ⟨gb350, 3, none⟩ = some (.bool false) := (blk_cell BK350.out 3).trans rfl
     have hcz15_4 : wc.cell? ⟨gb350, 4, none⟩ = some (.bool false) := (blk_cell BK350.out 4).trans rfl
     have hfz15_0 := blk_frozen BK350.out 0
     have hfz15_1 := blk_frozen BK350.out 1
     have hfz15_2 := blk_frozen BK350.out 2
     have hfz15_3 := blk_frozen BK350.out 3
     have hfz15_4 := blk_frozen BK350.out 4
     go_wp2
     refine bodyPost_ret (results_cell_row rfl _ _ gb350 25 #[.int .i64 a0_0, .int .i64 a0_1, .bool (a1 == 1), .bool a0_3, .bool a0_4] (0, 0) _ rfl (by (with_reducible repeat (first | apply k1 | apply k2 | apply k3)); refine blk_put (cs := #[.int .i64 a0_0, .int .i64 a0_1, .bool (a1 == 1), .bool a0_3, .bool false]) ?_ 4 _ rfl; (with_reducible repeat (first | apply k1 | apply k2 | apply k3)); refine blk_put (cs := #[.int .i64 a0_0, .int .i64 a0_1, .bool (a1 == 1), .bool false, .bool false]) ?_ 3 _ rfl; (with_reducible repeat (first | apply k1 | apply k2 | apply k3)); refine blk_put (cs := #[.int .i64 a0_0, .int .i64 a0_1, .bool false, .bool false, .bool false]) ?_ 2 _ rfl; (with_reducible repeat (first | apply k1 | apply k2 | apply k3)); refine blk_put (cs := #[.int .i64 a0_0, .int .i64 0, .bool false, .bool false, .bool false]) ?_ 1 _ rfl; (with_reducible repeat (first | apply k1 | apply k2 | apply k3)); refine blk_put (cs := #[.int .i64 0, .int .i64 0, .bool false, .bool false, .bool false]) ?_ 0 _ rfl; (with_reducible repeat (first | apply k1 | apply k2 | apply k3)); refine blk_far ?_ NB350_349.out _; (with_reducible repeat (first | apply k1 | apply k2 | apply k3)); exact BK350.out) Tryd.underlying25 rfl (by kernel_rfl)) rfl ?_
     exact ⟨by first | rfl | (simp [errW_none, errW_some] <;> rfl) | (simp [*, errW_none, errW_some] <;> rfl), by repeat (first | (with_reducible first | exact HB.out | apply b1 | apply b2 | apply b3 | refine below_set ?_ GE349.out | refine below_set ?_ GE350.out) | exact HB.out)⟩
    ·replace c12 := Bool.eq_false_iff.mpr c12
     subst c12
     have H1 : (if a1 = 4 then (spec_l3Param.j1 kj7 a1 true a0_0 a0_1 a0_2 a0_3 a0_4) else (spec_l3Param.j1 kj7 a1 (a1 == 24) a0_0 a0_1 a0_2 a0_3 a0_4)) = some (r1, r2, r3, r4, r5) := by rw [if_neg (show ¬ (false = true) by decide)] at H; exact H
     clear H
     have H := H1
     clear H1
     have HC16 := am H
     clear H
     go_upto_region 5 with (fail)
     go_cut [19] (fun v19 wc => ∃ (kq : Nat) (x19_15 : Bool), v19 = .bool x19_15 ∧ Aside0 (spec_l3Param.j1 kq a1 x19_15 a0_0 a0_1 a0_2 a0_3 a0_4 = some (r1, r2, r3, r4, r5)) ∧ Aside0 (kq ≤ kj7) ∧ Aside0 (wc.heap[gb349]? = some (.cells #[.int .i64 a0_0, .int .i64 a0_1, .bool a0_2, .bool a0_3, .bool a0_4] 25 (0, 0))) ∧ Aside0 (wc.heap[gb350]? = some (.cells #[.int .i64 0, .int .i64 0, .bool false, .bool false, .bool false] 25 (0, 0))) ∧ Aside0 (Below w.heap.size w wc))
     case first =>
      have H := HC16.out
      clear HC16
      by_cases c17 : a1 = 4
      ·rw [if_pos c17] at H
       have c17b0 : (a1 == 4) = true := beq_iff_eq.mpr c17
       have c17b1 : (a1 != 4) = false := bne_eq_false_iff_eq.mpr c17
       clear c17
       (first | rw [c17b0] | (simp only [i64_w, i32_w]; rw [c17b0]) | skip)
       have H' := am H
       clear H
       go_wp2
       go_meet
       case rel => exact ⟨_, (true), (by first | rfl | (simp; done) | (simp [*]; done)), H', ⟨by have := HJ7.out; first | omega | exact Nat.le_refl _⟩, ⟨rk BK349⟩, ⟨rk BK350⟩, ⟨by repeat (first | (with_reducible first | exact HB.out | apply b1 | apply b2 | apply b3 | refine below_set ?_ GE349.out | refine below_set ?_ GE350.out) | exact HB.out)⟩⟩
      ·rw [if_neg c17] at H
       have c17b0 : (a1 == 4) = false := beq_eq_false_iff_ne.mpr c17
       have c17b1 : (a1 != 4) = true := bne_iff_ne.mpr c17
       (first | rw [c17b0] | (simp only [i64_w, i32_w]; rw [c17b0]) | skip)
       have H' := am H
       clear H
       go_wp2
       go_meet
       case rel => exact ⟨_, ((a1 == 24)), (by first | rfl | (simp; done) | (simp [*]; done)), H', ⟨by have := HJ7.out; first | omega | exact Nat.le_refl _⟩, ⟨rk BK349⟩, ⟨rk BK350⟩, ⟨by repeat (first | (with_reducible first | exact HB.out | apply b1 | apply b2 | apply b3 | refine below_set ?_ GE349.out | refine below_set ?_ GE350.out) | exact HB.out)⟩⟩
     case rest =>
      clear HC16
      try clear c1
      try clear p2
      try clear c3
      try clear c3b0
      try clear c3b1
      try clear c6
      try clear c11
      try clear c11b0
      try clear c11b1
      try clear c12
      try clear c13
      try clear c17
      try clear c17b0
      try clear c17b1
      try clear hcz14_0
      try clear hcz14_1
      try clear hcz14_2
      try clear hcz14_3
      try clear hcz14_4
      try clear hcz15_0
      try clear hcz15_1
      try clear hcz15_2
      try clear hcz15_3
      try clear hcz15_4
      try clear hcz7_0
      try clear hcz7_1
      try clear hcz7_2
      try clear hcz7_3
      try clear hcz7_4
      try clear hfz14_0
      try clear hfz14_1
      try clear hfz14_2
      try clear hfz14_3
      try clear hfz14_4
      try clear hfz15_0
      try clear hfz15_1
      try clear hfz15_2
      try clear hfz15_3
      try clear hfz15_4
      try clear hfz7_0
      try clear hfz7_1
      try clear hfz7_2
      try clear hfz7_3
      try clear hfz7_4
      try clear p2
      obtain ⟨kq, x19_15, rfl, HA, HJ15, BK349, BK350, HB⟩ := hcut
      cases kq with
      | zero => exact absurd HA.out (by simp [spec_l3Param.j1])
      | succ kj15 =>
       have H := HA.out
       clear HA
       simp only [spec_l3Param.j1] at H
       by_cases c18 : x19_15 = true
       ·subst c18
        have H1 : (some (a0_0, a0_1, a0_2, (a1 == 4), a0_4)) = some (r1, r2, r3, r4, r5) := by rw [if_pos rfl] at H; exact H
        clear H
        have H := H1
        clear H1
        simp only [Option.some.injEq, Prod.mk.injEq] at H
        obtain ⟨rfl, rfl, rfl, rfl, rfl⟩ := H
        have hnb19 := NB349_350.out
        have hnc19 := NB350_349.out
        have hcz20_0 : wc.cell? ⟨gb349, 0, none⟩ = some (.int .i64 a0_0) := (blk_cell BK349.out 0).trans rfl
        have hcz20_1 : wc.cell? ⟨gb349, 1, none⟩ = some (.int .i64 a0_1) := (blk_cell BK349.out 1).trans rfl
        have hcz20_2 : wc.cell? ⟨gb349, 2, none⟩ = some (.bool a0_2) := (blk_cell BK349.out 2).trans rfl
        have hcz20_3 : wc.cell? ⟨gb349, 3, none⟩ = some (.bool a0_3) := (blk_cell BK349.out 3).trans rfl
        have hcz20_4 : wc.cell? ⟨gb349, 4, none⟩ = some (.bool a0_4) := (blk_cell BK349.out 4).trans rfl
        have hfz20_0 := blk_frozen BK349.out 0
        have hfz20_1 := blk_frozen BK349.out 1
        have hfz20_2 := blk_frozen BK349.out 2
        have hfz20_3 := blk_frozen BK349.out 3
        have hfz20_4 := blk_frozen BK349.out 4
        have hcz21_0 : wc.cell? ⟨gb350, 0, none⟩ = some (.int .i64 0) := (blk_cell BK350.out 0).trans rfl
        have hcz21_1 : wc.cell? ⟨gb350, 1, none⟩ = some (.int .i64 0) := (blk_cell BK350.out 1).trans rfl
        have hcz21_2 : wc.cell? ⟨gb350, 2, none⟩ = some (.bool false) := (blk_cell BK350.out 2).trans rfl
        have hcz21_3 : wc.cell? ⟨gb350, 3, none⟩ = some (.bool false) := (blk_cell BK350.out 3).trans rfl
        have hcz21_4 : wc.cell? ⟨gb350, 4, none⟩ = some (.bool false) := (blk_cell BK350.out 4).trans rfl
        have hfz21_0 := blk_frozen BK350.out 0
        have hfz21_1 := blk_frozen BK350.out 1
        have hfz21_2 := blk_frozen BK350.out 2
        have hfz21_3 := blk_frozen BK350.out 3
        have hfz21_4 := blk_frozen BK350.out 4
        go_wp2
        refine bodyPost_ret (results_cell_row rfl _ _ gb350 25 #[.int .i64 a0_0, .int .i64 a0_1, .bool a0_2, .bool (a1 == 4), .bool a0_4] (0, 0) _ rfl (by (with_reducible repeat (first | apply k1 | apply k2 | apply k3)); refine blk_put (cs := #[.int .i64 a0_0, .int .i64 a0_1, .bool a0_2, .bool (a1 == 4), .bool false]) ?_ 4 _ rfl; (with_reducible repeat (first | apply k1 | apply k2 | apply k3)); refine blk_put (cs := #[.int .i64 a0_0, .int .i64 a0_1, .bool a0_2, .bool false, .bool false]) ?_ 3 _ rfl; (with_reducible repeat (first | apply k1 | apply k2 | apply k3)); refine blk_put (cs := #[.int .i64 a0_0, .int .i64 a0_1, .bool false, .bool false, .bool false]) ?_ 2 _ rfl; (with_reducible repeat (first | apply k1 | apply k2 | apply k3)); refine blk_put (cs := #[.int .i64 a0_0, .int .i64 0, .bool false, .bool false, .bool false]) ?_ 1 _ rfl; (with_reducible repeat (first | apply k1 | apply k2 | apply k3)); refine blk_put (cs := #[.int .i64 0, .int .i64 0, .bool false, .bool false, .bool false]) ?_ 0 _ rfl; (with_reducible repeat (first | apply k1 | apply k2 | apply k3)); refine blk_far ?_ NB350_349.out _; (with_reducible repeat (first | apply k1 | apply k2 | apply k3)); exact BK350.out) Tryd.underlying25 rfl (by kernel_rfl)) rfl ?_
        exact ⟨by first | rfl | (simp [errW_none, errW_some] <;> rfl) | (simp [*, errW_none, errW_some] <;> rfl), by repeat (first | (with_reducible first | exact HB.out | apply b1 | apply b2 | apply b3 | refine below_set ?_ GE349.out | refine below_set ?_ GE350.out) | exact HB.out)⟩
       ·replace c18 := Bool.eq_false_iff.mpr c18
        subst c18
        have H1 : (if a1 = 7 then (spec_l3Param.j2 kj15 a1 true a0_0 a0_1 a0_2 a0_3 a0_4) else (spec_l3Param.j2 kj15 a1 (a1 == 27) a0_0 a0_1 a0_2 a0_3 a0_4)) = some (r1, r2, r3, r4, r5) := by rw [if_neg (show ¬ (false = true) by decide)] at H; exact H
        clear H
        have H := H1
        clear H1
        have HC22 := am H
        clear H
        go_upto_region 7 with (fail)
        go_cut [29] (fun v29 wc => ∃ (kq : Nat) (x29_21 : Bool), v29 = .bool x29_21 ∧ Aside0 (spec_l3Param.j2 kq a1 x29_21 a0_0 a0_1 a0_2 a0_3 a0_4 = some (r1, r2, r3, r4, r5)) ∧ Aside0 (kq ≤ kj15) ∧ Aside0 (wc.heap[gb349]? = some (.cells #[.int .i64 a0_0, .int .i64 a0_1, .bool a0_2, .bool a0_3, .bool a0_4] 25 (0, 0))) ∧ Aside0 (wc.heap[gb350]? = some (.cells #[.int .i64 0, .int .i64 0, .bool false, .bool false, .bool false] 25 (0, 0))) ∧ Aside0 (Below w.heap.size w wc))
        case first =>
         have H := HC22.out
         clear HC22
         by_cases c23 : a1 = 7
         ·rw [if_pos c23] at H
          have c23b0 : (a1 == 7) = true := beq_iff_eq.mpr c23
          have c23b1 : (a1 != 7) = false := bne_eq_false_iff_eq.mpr c23
          clear c23
          (first | rw [c23b0] | (simp only [i64_w, i32_w]; rw [c23b0]) | skip)
          have H' := am H
          clear H
          go_wp2
          go_meet
          case rel => exact ⟨_, (true), (by first | rfl | (simp; done) | (simp [*]; done)), H', ⟨by have := HJ7.out; have := HJ15.out; first | omega | exact Nat.le_refl _⟩, ⟨rk BK349⟩, ⟨rk BK350⟩, ⟨by repeat (first | (with_reducible first | exact HB.out | apply b1 | apply b2 | apply b3 | refine below_set ?_ GE349.out | refine below_set ?_ GE350.out) | exact HB.out)⟩⟩
         ·rw [if_neg c23] at H
          have c23b0 : (a1 == 7) = false := beq_eq_false_iff_ne.mpr c23
          have c23b1 : (a1 != 7) = true := bne_iff_ne.mpr c23
          (first | rw [c23b0] | (simp only [i64_w, i32_w]; rw [c23b0]) | skip)
          have H' := am H
          clear H
          go_wp2
          go_meet
          case rel => exact ⟨_, ((a1 == 27)), (by first | rfl | (simp; done) | (simp [*]; done)), H', ⟨by have := HJ7.out; have := HJ15.out; first | omega | exact Nat.le_refl _⟩, ⟨rk BK349⟩, ⟨rk BK350⟩, ⟨by repeat (first | (with_reducible first | exact HB.out | apply b1 | apply b2 | apply b3 | refine below_set ?_ GE349.out | refine below_set ?_ GE350.out) | exact HB.out)⟩⟩
        case rest =>
         clear HC22
         try clear c1
         try clear c2
         try clear p2
         try clear c3
         try clear c3b0
         try clear c3b1
         try clear c6
         try clear c11
         try clear c11b0
         try clear c11b1
         try clear c12
         try clear c13
         try clear c17
         try clear c17b0
         try clear c17b1
         try clear c18
         try clear c19
         try clear c23
         try clear c23b0
         try clear c23b1
         try clear hcz14_0
         try clear hcz14_1
         try clear hcz14_2
         try clear hcz14_3
         try clear hcz14_4
         try clear hcz15_0
         try clear hcz15_1
         try clear hcz15_2
         try clear hcz15_3
         try clear hcz15_4
         try clear hcz20_0
         try clear hcz20_1
         try clear hcz20_2
         try clear hcz20_3
         try clear hcz20_4
         try clear hcz21_0
         try clear hcz21_1
         try clear hcz21_2
         try clear hcz21_3
         try clear hcz21_4
         try clear hcz7_0
         try clear hcz7_1
         try clear hcz7_2
         try clear hcz7_3
         try clear hcz7_4
         try clear hfz14_0
         try clear hfz14_1
         try clear hfz14_2
         try clear hfz14_3
         try clear hfz14_4
         try clear hfz15_0
         try clear hfz15_1
         try clear hfz15_2
         try clear hfz15_3
         try clear hfz15_4
         try clear hfz20_0
         try clear hfz20_1
         try clear hfz20_2
         try clear hfz20_3
         try clear hfz20_4
         try clear hfz21_0
         try clear hfz21_1
         try clear hfz21_2
         try clear hfz21_3
         try clear hfz21_4
         try clear hfz7_0
         try clear hfz7_1
         try clear hfz7_2
         try clear hfz7_3
         try clear hfz7_4
         try clear p2
         obtain ⟨kq, x29_21, rfl, HA, HJ21, BK349, BK350, HB⟩ := hcut
         cases kq with
         | zero => exact absurd HA.out (by simp [spec_l3Param.j2])
         | succ kj21 =>
          have H := HA.out
          clear HA
          simp only [spec_l3Param.j2] at H
          by_cases c24 : x29_21 = true
          ·subst c24
           have H1 : (some (a0_0, a0_1, a0_2, a0_3, (a1 == 7))) = some (r1, r2, r3, r4, r5) := by rw [if_pos rfl] at H; exact H
           clear H
           have H := H1
           clear H1
           simp only [Option.some.injEq, Prod.mk.injEq] at H
           obtain ⟨rfl, rfl, rfl, rfl, rfl⟩ := H
           have hnb25 := NB349_350.out
           have hnc25 := NB350_349.out
           have hcz26_0 : wc.cell? ⟨gb349, 0, none⟩ = some (.int .i64 a0_0) := (blk_cell BK349.out 0).trans rfl
           have hcz26_1 : wc.cell? ⟨gb349, 1, none⟩ = some (.int .i64 a0_1) := (blk_cell BK349.out 1).trans rfl
           have hcz26_2 : wc.cell? ⟨gb349, 2, none⟩ = some (.bool a0_2) := (blk_cell BK349.out 2).trans rfl
           have hcz26_3 : wc.cell? ⟨gb349, 3, none⟩ = some (.bool a0_3) := (blk_cell BK349.out 3).trans rfl
           have hcz26_4 : wc.cell? ⟨gb349, 4, none⟩ = some (.bool a0_4) := (blk_cell BK349.out 4).trans rfl
           have hfz26_0 := blk_frozen BK349.out 0
           have hfz26_1 := blk_frozen BK349.out 1
           have hfz26_2 := blk_frozen BK349.out 2
           have hfz26_3 := blk_frozen BK349.out 3
           have hfz26_4 := blk_frozen BK349.out 4
           have hcz27_0 : wc.cell? ⟨gb350, 0, none⟩ = some (.int .i64 0) := (blk_cell BK350.out 0).trans rfl
           have hcz27_1 : wc.cell? ⟨gb350, 1, none⟩ = some (.int .i64 0) := (blk_cell BK350.out 1).trans rfl
           have hcz27_2 : wc.cell? ⟨gb350, 2, none⟩ = some (.bool false) := (blk_cell BK350.out 2).trans rfl
           have hcz27_3 : wc.cell? ⟨gb350, 3, none⟩ = some (.bool false) := (blk_cell BK350.out 3).trans rfl
           have hcz27_4 : wc.cell? ⟨gb350, 4, none⟩ = some (.bool false) := (blk_cell BK350.out 4).trans rfl
           have hfz27_0 := blk_frozen BK350.out 0
           have hfz27_1 := blk_frozen BK350.out 1
           have hfz27_2 := blk_frozen BK350.out 2
           have hfz27_3 := blk_frozen BK350.out 3
           have hfz27_4 := blk_frozen BK350.out 4
           go_wp2
           refine bodyPost_ret (results_cell_row rfl _ _ gb350 25 #[.int .i64 a0_0, .int .i64 a0_1, .bool a0_2, .bool a0_3, .bool (a1 == 7)] (0, 0) _ rfl (by (with_reducible repeat (first | apply k1 | apply k2 | apply k3)); refine blk_put (cs := #[.int .i64 a0_0, .int .i64 a0_1, .bool a0_2, .bool a0_3, .bool false]) ?_ 4 _ rfl; (with_reducible repeat (first | apply k1 | apply k2 | apply k3)); refine blk_put (cs := #[.int .i64 a0_0, .int .i64 a0_1, .bool a0_2, .bool false, .bool false]) ?_ 3 _ rfl; (with_reducible repeat (first | apply k1 | apply k2 | apply k3)); refine blk_put (cs := #[.int .i64 a0_0, .int .i64 a0_1, .bool false, .bool false, .bool false]) ?_ 2 _ rfl; (with_reducible repeat (first | apply k1 | apply k2 | apply k3)); refine blk_put (cs := #[.int .i64 a0_0, .int .i64 0, .bool false, .bool false, .bool false]) ?_ 1 _ rfl; (with_reducible repeat (first | apply k1 | apply k2 | apply k3)); refine blk_put (cs := #[.int .i64 0, .int .i64 0, .bool false, .bool false, .bool false]) ?_ 0 _ rfl; (with_reducible repeat (first | apply k1 | apply k2 | apply k3)); refine blk_far ?_ NB350_349.out _; (with_reducible repeat (first | apply k1 | apply k2 | apply k3)); exact BK350.out) Tryd.underlying25 rfl (by kernel_rfl)) rfl ?_
           exact ⟨by first | rfl | (simp [errW_none, errW_some] <;> rfl) | (simp [*, errW_none, errW_some] <;> rfl), by repeat (first | (with_reducible first | exact HB.out | apply b1 | apply b2 | apply b3 | refine below_set ?_ GE349.out | refine below_set ?_ GE350.out) | exact HB.out)⟩
          ·replace c24 := Bool.eq_false_iff.mpr c24
           subst c24
           have H1 : ((spec_l1In.f a1 30 37).bind fun t351 => (if t351 = true then (some (wrap64 (a1 - 29), a0_1, a0_2, a0_3, a0_4)) else (if a1 = 39 then (some (0, a0_1, a0_2, a0_3, a0_4)) else ((spec_l1In.f a1 40 47).bind fun t352 => (if t352 = true then (some (a0_0, wrap64 (a1 - 39), a0_2, a0_3, a0_4)) else (if a1 = 49 then (some (a0_0, 0, a0_2, a0_3, a0_4)) else (some (a0_0, a0_1, a0_2, a0_3, a0_4)))))))) = some (r1, r2, r3, r4, r5) := by rw [if_neg (show ¬ (false = true) by decide)] at H; exact H
           clear H
           have H := H1
           clear H1
           replace H := Option.bind_eq_some_iff.mp H
           obtain ⟨t351, A280, H⟩ := H
           replace H : (if t351 = true then (some (wrap64 (a1 - 29), a0_1, a0_2, a0_3, a0_4)) else (if a1 = 39 then (some (0, a0_1, a0_2, a0_3, a0_4)) else ((spec_l1In.f a1 40 47).bind fun t352 => (if t352 = true then (some (a0_0, wrap64 (a1 - 39), a0_2, a0_3, a0_4)) else (if a1 = 49 then (some (a0_0, 0, a0_2, a0_3, a0_4)) else (some (a0_0, a0_1, a0_2, a0_3, a0_4))))))) = some (r1, r2, r3, r4, r5) := H
           have A28 := am A280
           clear A280
           by_cases c29 : t351 = true
           ·subst c29
            have H1 : (some (wrap64 (a1 - 29), a0_1, a0_2, a0_3, a0_4)) = some (r1, r2, r3, r4, r5) := by rw [if_pos rfl] at H; exact H
            clear H
            have H := H1
            clear H1
            simp only [Option.some.injEq, Prod.mk.injEq] at H
            obtain ⟨rfl, rfl, rfl, rfl, rfl⟩ := H
            go_wp2_with (first | ((with_reducible refine gate_callee (f := 45) rfl ?_); refine gl_ (some 41) Tryd.func45 #[.int .i64 a1, .int .i64 30, .int .i64 37] ?_; (with_reducible refine (spec_l1In.calls a1 30 37 true _ A28.out).mono ?_); rintro e w' ⟨rfl, ⟨nd, rfl⟩⟩; refine ⟨_, rfl, ?_⟩; (try (rw [drewN_self wc]; generalize hq_ : World.drewN wc _ = wc; have n0_ : Aside0 (wc.heap[gb349]? = some (.cells #[.int .i64 a0_0, .int .i64 a0_1, .bool a0_2, .bool a0_3, .bool a0_4] 25 (0, 0))) := ⟨by rw [← hq_]; exact (rk BK349)⟩; have n1_ : Aside0 (wc.heap[gb350]? = some (.cells #[.int .i64 0, .int .i64 0, .bool false, .bool false, .bool false] 25 (0, 0))) := ⟨by rw [← hq_]; exact (rk BK350)⟩; have n2_ : Aside0 (Below w.heap.size w wc) := ⟨by rw [← hq_]; exact (by repeat (first | (with_reducible first | exact HB.out | apply b1 | apply b2 | apply b3 | refine below_set ?_ GE349.out | refine below_set ?_ GE350.out) | exact HB.out))⟩; clear BK349 BK350 HB hq_; have BK349 := n0_; have BK350 := n1_; have HB := n2_; clear n0_ n1_ n2_)); have hnb30 := NB349_350.out; have hnc30 := NB350_349.out; have hcz31_0 : wc.cell? ⟨gb349, 0, none⟩ = some (.int .i64 a0_0) := (blk_cell BK349.out 0).trans rfl; have hcz31_1 : wc.cell? ⟨gb349, 1, none⟩ = some (.int .i64 a0_1) := (blk_cell BK349.out 1).trans rfl; have hcz31_2 : wc.cell? ⟨gb349, 2, none⟩ = some (.bool a0_2) := (blk_cell BK349.out 2).trans rfl; have hcz31_3 : wc.cell? ⟨gb349, 3, none⟩ = some (.bool a0_3) := (blk_cell BK349.out 3).trans rfl; have hcz31_4 : wc.cell? ⟨gb349, 4, none⟩ = some (.bool a0_4) := (blk_cell BK349.out 4).trans rfl; have hfz31_0 := blk_frozen BK349.out 0; have hfz31_1 := blk_frozen BK349.out 1; have hfz31_2 := blk_frozen BK349.out 2; have hfz31_3 := blk_frozen BK349.out 3; have hfz31_4 := blk_frozen BK349.out 4; have hcz32_0 : wc.cell? ⟨gb350, 0, none⟩ = some (.int .i64 0) := (blk_cell BK350.out 0).trans rfl; have hcz32_1 : wc.cell? ⟨gb350, 1, none⟩ = some (.int .i64 0) := (blk_cell BK350.out 1).trans rfl; have hcz32_2 : wc.cell? ⟨gb350, 2, none⟩ = some (.bool false) := (blk_cell BK350.out 2).trans rfl; have hcz32_3 : wc.cell? ⟨gb350, 3, none⟩ = some (.bool false) := (blk_cell BK350.out 3).trans rfl; have hcz32_4 : wc.cell? ⟨gb350, 4, none⟩ = some (.bool false) := (blk_cell BK350.out 4).trans rfl; have hfz32_0 := blk_frozen BK350.out 0; have hfz32_1 := blk_frozen BK350.out 1; have hfz32_2 := blk_frozen BK350.out 2; have hfz32_3 := blk_frozen BK350.out 3; have hfz32_4 := blk_frozen BK350.out 4))
            refine bodyPost_ret (results_cell_row rfl _ _ gb350 25 #[.int .i64 (wrap64 (a1 - 29)), .int .i64 a0_1, .bool a0_2, .bool a0_3, .bool a0_4] (0, 0) _ rfl (by (with_reducible repeat (first | apply k1 | apply k2 | apply k3)); refine blk_put (cs := #[.int .i64 (wrap64 (a1 - 29)), .int .i64 a0_1, .bool a0_2, .bool a0_3, .bool false]) ?_ 4 _ rfl; (with_reducible repeat (first | apply k1 | apply k2 | apply k3)); refine blk_put (cs := #[.int .i64 (wrap64 (a1 - 29)), .int .i64 a0_1, .bool a0_2, .bool false, .bool false]) ?_ 3 _ rfl; (with_reducible repeat (first | apply k1 | apply k2 | apply k3)); refine blk_put (cs := #[.int .i64 (wrap64 (a1 - 29)), .int .i64 a0_1, .bool false, .bool false, .bool false]) ?_ 2 _ rfl; (with_reducible repeat (first | apply k1 | apply k2 | apply k3)); refine blk_put (cs := #[.int .i64 (wrap64 (a1 - 29)), .int .i64 0, .bool false, .bool false, .bool false]) ?_ 1 _ rfl; (with_reducible repeat (first | apply k1 | apply k2 | apply k3)); refine blk_put (cs := #[.int .i64 0, .int .i64 0, .bool false, .bool false, .bool false]) ?_ 0 _ rfl; (with_reducible repeat (first | apply k1 | apply k2 | apply k3)); refine blk_far ?_ NB350_349.out _; (with_reducible repeat (first | apply k1 | apply k2 | apply k3)); exact BK350.out) Tryd.underlying25 rfl (by kernel_rfl)) rfl ?_
            exact ⟨by first | rfl | (simp [errW_none, errW_some] <;> rfl) | (simp [*, errW_none, errW_some] <;> rfl), by repeat (first | (with_reducible first | exact HB.out | apply b1 | apply b2 | apply b3 | refine below_set ?_ GE349.out | refine below_set ?_ GE350.out) | exact HB.out)⟩
           ·replace c29 := Bool.eq_false_iff.mpr c29
            subst c29
            have H1 : (if a1 = 39 then (some (0, a0_1, a0_2, a0_3, a0_4)) else ((spec_l1In.f a1 40 47).bind fun t352 => (if t352 = true then (some (a0_0, wrap64 (a1 - 39), a0_2, a0_3, a0_4)) else (if a1 = 49 then (some (a0_0, 0, a0_2, a0_3, a0_4)) else (some (a0_0, a0_1, a0_2, a0_3, a0_4)))))) = some (r1, r2, r3, r4, r5) := by rw [if_neg (show ¬ (false = true) by decide)] at H; exact H
            clear H
            have H := H1
            clear H1
            by_cases c33 : a1 = 39
            ·rw [if_pos c33] at H
             have c33b0 : (a1 == 39) = true := beq_iff_eq.mpr c33
             have c33b1 : (a1 != 39) = false := bne_eq_false_iff_eq.mpr c33
             clear c33
             simp only [Option.some.injEq, Prod.mk.injEq] at H
             obtain ⟨rfl, rfl, rfl, rfl, rfl⟩ := H
             go_wp2_with (first | ((with_reducible refine gate_callee (f := 45) rfl ?_); refine gl_ (some 41) Tryd.func45 #[.int .i64 a1, .int .i64 30, .int .i64 37] ?_; (with_reducible refine (spec_l1In.calls a1 30 37 false _ A28.out).mono ?_); rintro e w' ⟨rfl, ⟨nd, rfl⟩⟩; refine ⟨_, rfl, ?_⟩; (try (rw [drewN_self wc]; generalize hq_ : World.drewN wc _ = wc; have n0_ : Aside0 (wc.heap[gb349]? = some (.cells #[.int .i64 a0_0, .int .i64 a0_1, .bool a0_2, .bool a0_3, .bool a0_4] 25 (0, 0))) := ⟨by rw [← hq_]; exact (rk BK349)⟩; have n1_ : Aside0 (wc.heap[gb350]? = some (.cells #[.int .i64 0, .int .i64 0, .bool false, .bool false, .bool false] 25 (0, 0))) := ⟨by rw [← hq_]; exact (rk BK350)⟩; have n2_ : Aside0 (Below w.heap.size w wc) := ⟨by rw [← hq_]; exact (by repeat (first | (with_reducible first | exact HB.out | apply b1 | apply b2 | apply b3 | refine below_set ?_ GE349.out | refine below_set ?_ GE350.out) | exact HB.out))⟩; clear BK349 BK350 HB hq_; have BK349 := n0_; have BK350 := n1_; have HB := n2_; clear n0_ n1_ n2_)); have hnb34 := NB349_350.out; have hnc34 := NB350_349.out; have hcz35_0 : wc.cell? ⟨gb349, 0, none⟩ = some (.int .i64 a0_0) := (blk_cell BK349.out 0).trans rfl; have hcz35_1 : wc.cell? ⟨gb349, 1, none⟩ = some (.int .i64 a0_1) := (blk_cell BK349.out 1).trans rfl; have hcz35_2 : wc.cell? ⟨gb349, 2, none⟩ = some (.bool a0_2) := (blk_cell BK349.out 2).trans rfl; have hcz35_3 : wc.cell? ⟨gb349, 3, none⟩ = some (.bool a0_3) := (blk_cell BK349.out 3).trans rfl; have hcz35_4 : wc.cell? ⟨gb349, 4, none⟩ = some (.bool a0_4) := (blk_cell BK349.out 4).trans rfl; have hfz35_0 := blk_frozen BK349.out 0; have hfz35_1 := blk_frozen BK349.out 1; have hfz35_2 := blk_frozen BK349.out 2; have hfz35_3 := blk_frozen BK349.out 3; have hfz35_4 := blk_frozen BK349.out 4; have hcz36_0 : wc.cell? ⟨gb350, 0, none⟩ = some (.int .i64 0) := (blk_cell BK350.out 0).trans rfl; have hcz36_1 : wc.cell? ⟨gb350, 1, none⟩ = some (.int .i64 0) := (blk_cell BK350.out 1).trans rfl; have hcz36_2 : wc.cell? ⟨gb350, 2, none⟩ = some (.bool false) := (blk_cell BK350.out 2).trans rfl; have hcz36_3 : wc.cell? ⟨gb350, 3, none⟩ = some (.bool false) := (blk_cell BK350.out 3).trans rfl; have hcz36_4 : wc.cell? ⟨gb350, 4, none⟩ = some (.bool false) := (blk_cell BK350.out 4).trans rfl; have hfz36_0 := blk_frozen BK350.out 0; have hfz36_1 := blk_frozen BK350.out 1; have hfz36_2 := blk_frozen BK350.out 2; have hfz36_3 := blk_frozen BK350.out 3; have hfz36_4 := blk_frozen BK350.out 4))
             refine bodyPost_ret (results_cell_row rfl _ _ gb350 25 #[.int .i64 0, .int .i64 a0_1, .bool a0_2, .bool a0_3, .bool a0_4] (0, 0) _ rfl (by (with_reducible repeat (first | apply k1 | apply k2 | apply k3)); refine blk_put (cs := #[.int .i64 0, .int .i64 a0_1, .bool a0_2, .bool a0_3, .bool false]) ?_ 4 _ rfl; (with_reducible repeat (first | apply k1 | apply k2 | apply k3)); refine blk_put (cs := #[.int .i64 0, .int .i64 a0_1, .bool a0_2, .bool false, .bool false]) ?_ 3 _ rfl; (with_reducible repeat (first | apply k1 | apply k2 | apply k3)); refine blk_put (cs := #[.int .i64 0, .int .i64 a0_1, .bool false, .bool false, .bool false]) ?_ 2 _ rfl; (with_reducible repeat (first | apply k1 | apply k2 | apply k3)); refine blk_put (cs := #[.int .i64 0, .int .i64 0, .bool false, .bool false, .bool false]) ?_ 1 _ rfl; (with_reducible repeat (first | apply k1 | apply k2 | apply k3)); refine blk_put (cs := #[.int .i64 0, .int .i64 0, .bool false, .bool false, .bool false]) ?_ 0 _ rfl; (with_reducible repeat (first | apply k1 | apply k2 | apply k3)); refine blk_far ?_ NB350_349.out _; (with_reducible repeat (first | apply k1 | apply k2 | apply k3)); exact BK350.out) Tryd.underlying25 rfl (by kernel_rfl)) rfl ?_
             exact ⟨by first | rfl | (simp [errW_none, errW_some] <;> rfl) | (simp [*, errW_none, errW_some] <;> rfl), by repeat (first | (with_reducible first | exact HB.out | apply b1 | apply b2 | apply b3 | refine below_set ?_ GE349.out | refine below_set ?_ GE350.out) | exact HB.out)⟩
            ·rw [if_neg c33] at H
             have c33b0 : (a1 == 39) = false := beq_eq_false_iff_ne.mpr c33
             have c33b1 : (a1 != 39) = true := bne_iff_ne.mpr c33
             replace H := Option.bind_eq_some_iff.mp H
             obtain ⟨t352, A370, H⟩ := H
             replace H : (if t352 = true then (some (a0_0, wrap64 (a1 - 39), a0_2, a0_3, a0_4)) else (if a1 = 49 then (some (a0_0, 0, a0_2, a0_3, a0_4)) else (some (a0_0, a0_1, a0_2, a0_3, a0_4)))) = some (r1, r2, r3, r4, r5) := H
             have A37 := am A370
             clear A370
             by_cases c38 : t352 = true
             ·subst c38
              have H1 : (some (a0_0, wrap64 (a1 - 39), a0_2, a0_3, a0_4)) = some (r1, r2, r3, r4, r5) := by rw [if_pos rfl] at H; exact H
              clear H
              have H := H1
              clear H1
              simp only [Option.some.injEq, Prod.mk.injEq] at H
              obtain ⟨rfl, rfl, rfl, rfl, rfl⟩ := H
              go_wp2_with (first | ((with_reducible refine gate_callee (f := 45) rfl ?_); refine gl_ (some 41) Tryd.func45 #[.int .i64 a1, .int .i64 30, .int .i64 37] ?_; (with_reducible refine (spec_l1In.calls a1 30 37 false _ A28.out).mono ?_); rintro e w' ⟨rfl, ⟨nd, rfl⟩⟩; refine ⟨_, rfl, ?_⟩; (try (rw [drewN_self wc]; generalize hq_ : World.drewN wc _ = wc; have n0_ : Aside0 (wc.heap[gb349]? = some (.cells #[.int .i64 a0_0, .int .i64 a0_1, .bool a0_2, .bool a0_3, .bool a0_4] 25 (0, 0))) := ⟨by rw [← hq_]; exact (rk BK349)⟩; have n1_ : Aside0 (wc.heap[gb350]? = some (.cells #[.int .i64 0, .int .i64 0, .bool false, .bool false, .bool false] 25 (0, 0))) := ⟨by rw [← hq_]; exact (rk BK350)⟩; have n2_ : Aside0 (Below w.heap.size w wc) := ⟨by rw [← hq_]; exact (by repeat (first | (with_reducible first | exact HB.out | apply b1 | apply b2 | apply b3 | refine below_set ?_ GE349.out | refine below_set ?_ GE350.out) | exact HB.out))⟩; clear BK349 BK350 HB hq_; have BK349 := n0_; have BK350 := n1_; have HB := n2_; clear n0_ n1_ n2_))) | ((with_reducible refine gate_callee (f := 45) rfl ?_); refine gl_ (some 51) Tryd.func45 #[.int .i64 a1, .int .i64 40, .int .i64 47] ?_; (with_reducible refine (spec_l1In.calls a1 40 47 true _ A37.out).mono ?_); rintro e w' ⟨rfl, ⟨nd, rfl⟩⟩; refine ⟨_, rfl, ?_⟩; (try (rw [drewN_self wc]; generalize hq_ : World.drewN wc _ = wc; have n0_ : Aside0 (wc.heap[gb349]? = some (.cells #[.int .i64 a0_0, .int .i64 a0_1, .bool a0_2, .bool a0_3, .bool a0_4] 25 (0, 0))) := ⟨by rw [← hq_]; exact (rk BK349)⟩; have n1_ : Aside0 (wc.heap[gb350]? = some (.cells #[.int .i64 0, .int .i64 0, .bool false, .bool false, .bool false] 25 (0, 0))) := ⟨by rw [← hq_]; exact (rk BK350)⟩; have n2_ : Aside0 (Below w.heap.size w wc) := ⟨by rw [← hq_]; exact (by repeat (first | (with_reducible first | exact HB.out | apply b1 | apply b2 | apply b3 | refine below_set ?_ GE349.out | refine below_set ?_ GE350.out) | exact HB.out))⟩; clear BK349 BK350 HB hq_; have BK349 := n0_; have BK350 := n1_; have HB := n2_; clear n0_ n1_ n2_)); have hnb39 := NB349_350.out; have hnc39 := NB350_349.out; have hcz40_0 : wc.cell? ⟨gb349, 0, none⟩ = some (.int .i64 a0_0) := (blk_cell BK349.out 0).trans rfl; have hcz40_1 : wc.cell? ⟨gb349, 1, none⟩ = some (.int .i64 a0_1) := (blk_cell BK349.out 1).trans rfl; have hcz40_2 : wc.cell? ⟨gb349, 2, none⟩ = some (.bool a0_2) := (blk_cell BK349.out 2).trans rfl; have hcz40_3 : wc.cell? ⟨gb349, 3, none⟩ = some (.bool a0_3) := (blk_cell BK349.out 3).trans rfl; have hcz40_4 : wc.cell? ⟨gb349, 4, none⟩ = some (.bool a0_4) := (blk_cell BK349.out 4).trans rfl; have hfz40_0 := blk_frozen BK349.out 0; have hfz40_1 := blk_frozen BK349.out 1; have hfz40_2 := blk_frozen BK349.out 2; have hfz40_3 := blk_frozen BK349.out 3; have hfz40_4 := blk_frozen BK349.out 4; have hcz41_0 : wc.cell? ⟨gb350, 0, none⟩ = some (.int .i64 0) := (blk_cell BK350.out 0).trans rfl; have hcz41_1 : wc.cell? ⟨gb350, 1, none⟩ = some (.int .i64 0) := (blk_cell BK350.out 1).trans rfl; have hcz41_2 : wc.cell? ⟨gb350, 2, none⟩ = some (.bool false) := (blk_cell BK350.out 2).trans rfl; have hcz41_3 : wc.cell? ⟨gb350, 3, none⟩ = some (.bool false) := (blk_cell BK350.out 3).trans rfl; have hcz41_4 : wc.cell? ⟨gb350, 4, none⟩ = some (.bool false) := (blk_cell BK350.out 4).trans rfl; have hfz41_0 := blk_frozen BK350.out 0; have hfz41_1 := blk_frozen BK350.out 1; have hfz41_2 := blk_frozen BK350.out 2; have hfz41_3 := blk_frozen BK350.out 3; have hfz41_4 := blk_frozen BK350.out 4))
              refine bodyPost_ret (results_cell_row rfl _ _ gb350 25 #[.int .i64 a0_0, .int .i64 (wrap64 (a1 - 39)), .bool a0_2, .bool a0_3, .bool a0_4] (0, 0) _ rfl (by (with_reducible repeat (first | apply k1 | apply k2 | apply k3)); refine blk_put (cs := #[.int .i64 a0_0, .int .i64 (wrap64 (a1 - 39)), .bool a0_2, .bool a0_3, .bool false]) ?_ 4 _ rfl; (with_reducible repeat (first | apply k1 | apply k2 | apply k3)); refine blk_put (cs := #[.int .i64 a0_0, .int .i64 (wrap64 (a1 - 39)), .bool a0_2, .bool false, .bool false]) ?_ 3 _ rfl; (with_reducible repeat (first | apply k1 | apply k2 | apply k3)); refine blk_put (cs := #[.int .i64 a0_0, .int .i64 (wrap64 (a1 - 39)), .bool false, .bool false, .bool false]) ?_ 2 _ rfl; (with_reducible repeat (first | apply k1 | apply k2 | apply k3)); refine blk_put (cs := #[.int .i64 a0_0, .int .i64 0, .bool false, .bool false, .bool false]) ?_ 1 _ rfl; (with_reducible repeat (first | apply k1 | apply k2 | apply k3)); refine blk_put (cs := #[.int .i64 0, .int .i64 0, .bool false, .bool false, .bool false]) ?_ 0 _ rfl; (with_reducible repeat (first | apply k1 | apply k2 | apply k3)); refine blk_far ?_ NB350_349.out _; (with_reducible repeat (first | apply k1 | apply k2 | apply k3)); exact BK350.out) Tryd.underlying25 rfl (by kernel_rfl)) rfl ?_
              exact ⟨by first | rfl | (simp [errW_none, errW_some] <;> rfl) | (simp [*, errW_none, errW_some] <;> rfl), by repeat (first | (with_reducible first | exact HB.out | apply b1 | apply b2 | apply b3 | refine below_set ?_ GE349.out | refine below_set ?_ GE350.out) | exact HB.out)⟩
             ·replace c38 := Bool.eq_false_iff.mpr c38
              subst c38
              have H1 : (if a1 = 49 then (some (a0_0, 0, a0_2, a0_3, a0_4)) else (some (a0_0, a0_1, a0_2, a0_3, a0_4))) = some (r1, r2, r3, r4, r5) := by rw [if_neg (show ¬ (false = true) by decide)] at H; exact H
              clear H
              have H := H1
              clear H1
              by_cases c42 : a1 = 49
              ·rw [if_pos c42] at H
               have c42b0 : (a1 == 49) = true := beq_iff_eq.mpr c42
               have c42b1 : (a1 != 49) = false := bne_eq_false_iff_eq.mpr c42
               clear c42
               simp only [Option.some.injEq, Prod.mk.injEq] at H
               obtain ⟨rfl, rfl, rfl, rfl, rfl⟩ := H
               go_wp2_with (first | ((with_reducible refine gate_callee (f := 45) rfl ?_); refine gl_ (some 41) Tryd.func45 #[.int .i64 a1, .int .i64 30, .int .i64 37] ?_; (with_reducible refine (spec_l1In.calls a1 30 37 false _ A28.out).mono ?_); rintro e w' ⟨rfl, ⟨nd, rfl⟩⟩; refine ⟨_, rfl, ?_⟩; (try (rw [drewN_self wc]; generalize hq_ : World.drewN wc _ = wc; have n0_ : Aside0 (wc.heap[gb349]? = some (.cells #[.int .i64 a0_0, .int .i64 a0_1, .bool a0_2, .bool a0_3, .bool a0_4] 25 (0, 0))) := ⟨by rw [← hq_]; exact (rk BK349)⟩; have n1_ : Aside0 (wc.heap[gb350]? = some (.cells #[.int .i64 0, .int .i64 0, .bool false, .bool false, .bool false] 25 (0, 0))) := ⟨by rw [← hq_]; exact (rk BK350)⟩; have n2_ : Aside0 (Below w.heap.size w wc) := ⟨by rw [← hq_]; exact (by repeat (first | (with_reducible first | exact HB.out | apply b1 | apply b2 | apply b3 | refine below_set ?_ GE349.out | refine below_set ?_ GE350.out) | exact HB.out))⟩; clear BK349 BK350 HB hq_; have BK349 := n0_; have BK350 := n1_; have HB := n2_; clear n0_ n1_ n2_))) | ((with_reducible refine gate_callee (f := 45) rfl ?_); refine gl_ (some 51) Tryd.func45 #[.int .i64 a1, .int .i64 40, .int .i64 47] ?_; (with_reducible refine (spec_l1In.calls a1 40 47 false _ A37.out).mono ?_); rintro e w' ⟨rfl, ⟨nd, rfl⟩⟩; refine ⟨_, rfl, ?_⟩; (try (rw [drewN_self wc]; generalize hq_ : World.drewN wc _ = wc; have n0_ : Aside0 (wc.heap[gb349]? = some (.cells #[.int .i64 a0_0, .int .i64 a0_1, .bool a0_2, .bool a0_3, .bool a0_4] 25 (0, 0))) := ⟨by rw [← hq_]; exact (rk BK349)⟩; have n1_ : Aside0 (wc.heap[gb350]? = some (.cells #[.int .i64 0, .int .i64 0, .bool false, .bool false, .bool false] 25 (0, 0))) := ⟨by rw [← hq_]; exact (rk BK350)⟩; have n2_ : Aside0 (Below w.heap.size w wc) := ⟨by rw [← hq_]; exact (by repeat (first | (with_reducible first | exact HB.out | apply b1 | apply b2 | apply b3 | refine below_set ?_ GE349.out | refine below_set ?_ GE350.out) | exact HB.out))⟩; clear BK349 BK350 HB hq_; have BK349 := n0_; have BK350 := n1_; have HB := n2_; clear n0_ n1_ n2_)); have hnb43 := NB349_350.out; have hnc43 := NB350_349.out; have hcz44_0 : wc.cell? ⟨gb349, 0, none⟩ = some (.int .i64 a0_0) := (blk_cell BK349.out 0).trans rfl; have hcz44_1 : wc.cell? ⟨gb349, 1, none⟩ = some (.int .i64 a0_1) := (blk_cell BK349.out 1).trans rfl; have hcz44_2 : wc.cell? ⟨gb349, 2, none⟩ = some (.bool a0_2) := (blk_cell BK349.out 2).trans rfl; have hcz44_3 : wc.cell? ⟨gb349, 3, none⟩ = some (.bool a0_3) := (blk_cell BK349.out 3).trans rfl; have hcz44_4 : wc.cell? ⟨gb349, 4, none⟩ = some (.bool a0_4) := (blk_cell BK349.out 4).trans rfl; have hfz44_0 := blk_frozen BK349.out 0; have hfz44_1 := blk_frozen BK349.out 1; have hfz44_2 := blk_frozen BK349.out 2; have hfz44_3 := blk_frozen BK349.out 3; have hfz44_4 := blk_frozen BK349.out 4; have hcz45_0 : wc.cell? ⟨gb350, 0, none⟩ = some (.int .i64 0) := (blk_cell BK350.out 0).trans rfl; have hcz45_1 : wc.cell? ⟨gb350, 1, none⟩ = some (.int .i64 0) := (blk_cell BK350.out 1).trans rfl; have hcz45_2 : wc.cell? ⟨gb350, 2, none⟩ = some (.bool false) := (blk_cell BK350.out 2).trans rfl; have hcz45_3 : wc.cell? ⟨gb350, 3, none⟩ = some (.bool false) := (blk_cell BK350.out 3).trans rfl; have hcz45_4 : wc.cell? ⟨gb350, 4, none⟩ = some (.bool false) := (blk_cell BK350.out 4).trans rfl; have hfz45_0 := blk_frozen BK350.out 0; have hfz45_1 := blk_frozen BK350.out 1; have hfz45_2 := blk_frozen BK350.out 2; have hfz45_3 := blk_frozen BK350.out 3; have hfz45_4 := blk_frozen BK350.out 4))
               refine bodyPost_ret (results_cell_row rfl _ _ gb350 25 #[.int .i64 a0_0, .int .i64 0, .bool a0_2, .bool a0_3, .bool a0_4] (0, 0) _ rfl (by (with_reducible repeat (first | apply k1 | apply k2 | apply k3)); refine blk_put (cs := #[.int .i64 a0_0, .int .i64 0, .bool a0_2, .bool a0_3, .bool false]) ?_ 4 _ rfl; (with_reducible repeat (first | apply k1 | apply k2 | apply k3)); refine blk_put (cs := #[.int .i64 a0_0, .int .i64 0, .bool a0_2, .bool false, .bool false]) ?_ 3 _ rfl; (with_reducible repeat (first | apply k1 | apply k2 | apply k3)); refine blk_put (cs := #[.int .i64 a0_0, .int .i64 0, .bool false, .bool false, .bool false]) ?_ 2 _ rfl; (with_reducible repeat (first | apply k1 | apply k2 | apply k3)); refine blk_put (cs := #[.int .i64 a0_0, .int .i64 0, .bool false, .bool false, .bool false]) ?_ 1 _ rfl; (with_reducible repeat (first | apply k1 | apply k2 | apply k3)); refine blk_put (cs := #[.int .i64 0, .int .i64 0, .bool false, .bool false, .bool false]) ?_ 0 _ rfl; (with_reducible repeat (first | apply k1 | apply k2 | apply k3)); refine blk_far ?_ NB350_349.out _; (with_reducible repeat (first | apply k1 | apply k2 | apply k3)); exact BK350.out) Tryd.underlying25 rfl (by kernel_rfl)) rfl ?_
               exact ⟨by first | rfl | (simp [errW_none, errW_some] <;> rfl) | (simp [*, errW_none, errW_some] <;> rfl), by repeat (first | (with_reducible first | exact HB.out | apply b1 | apply b2 | apply b3 | refine below_set ?_ GE349.out | refine below_set ?_ GE350.out) | exact HB.out)⟩
              ·rw [if_neg c42] at H
               have c42b0 : (a1 == 49) = false := beq_eq_false_iff_ne.mpr c42
               have c42b1 : (a1 != 49) = true := bne_iff_ne.mpr c42
               simp only [Option.some.injEq, Prod.mk.injEq] at H
               obtain ⟨rfl, rfl, rfl, rfl, rfl⟩ := H
               go_wp2_with (first | ((with_reducible refine gate_callee (f := 45) rfl ?_); refine gl_ (some 41) Tryd.func45 #[.int .i64 a1, .int .i64 30, .int .i64 37] ?_; (with_reducible refine (spec_l1In.calls a1 30 37 false _ A28.out).mono ?_); rintro e w' ⟨rfl, ⟨nd, rfl⟩⟩; refine ⟨_, rfl, ?_⟩; (try (rw [drewN_self wc]; generalize hq_ : World.drewN wc _ = wc; have n0_ : Aside0 (wc.heap[gb349]? = some (.cells #[.int .i64 a0_0, .int .i64 a0_1, .bool a0_2, .bool a0_3, .bool a0_4] 25 (0, 0))) := ⟨by rw [← hq_]; exact (rk BK349)⟩; have n1_ : Aside0 (wc.heap[gb350]? = some (.cells #[.int .i64 0, .int .i64 0, .bool false, .bool false, .bool false] 25 (0, 0))) := ⟨by rw [← hq_]; exact (rk BK350)⟩; have n2_ : Aside0 (Below w.heap.size w wc) := ⟨by rw [← hq_]; exact (by repeat (first | (with_reducible first | exact HB.out | apply b1 | apply b2 | apply b3 | refine below_set ?_ GE349.out | refine below_set ?_ GE350.out) | exact HB.out))⟩; clear BK349 BK350 HB hq_; have BK349 := n0_; have BK350 := n1_; have HB := n2_; clear n0_ n1_ n2_))) | ((with_reducible refine gate_callee (f := 45) rfl ?_); refine gl_ (some 51) Tryd.func45 #[.int .i64 a1, .int .i64 40, .int .i64 47] ?_; (with_reducible refine (spec_l1In.calls a1 40 47 false _ A37.out).mono ?_); rintro e w' ⟨rfl, ⟨nd, rfl⟩⟩; refine ⟨_, rfl, ?_⟩; (try (rw [drewN_self wc]; generalize hq_ : World.drewN wc _ = wc; have n0_ : Aside0 (wc.heap[gb349]? = some (.cells #[.int .i64 a0_0, .int .i64 a0_1, .bool a0_2, .bool a0_3, .bool a0_4] 25 (0, 0))) := ⟨by rw [← hq_]; exact (rk BK349)⟩; have n1_ : Aside0 (wc.heap[gb350]? = some (.cells #[.int .i64 0, .int .i64 0, .bool false, .bool false, .bool false] 25 (0, 0))) := ⟨by rw [← hq_]; exact (rk BK350)⟩; have n2_ : Aside0 (Below w.heap.size w wc) := ⟨by rw [← hq_]; exact (by repeat (first | (with_reducible first | exact HB.out | apply b1 | apply b2 | apply b3 | refine below_set ?_ GE349.out | refine below_set ?_ GE350.out) | exact HB.out))⟩; clear BK349 BK350 HB hq_; have BK349 := n0_; have BK350 := n1_; have HB := n2_; clear n0_ n1_ n2_)); have hnb46 := NB349_350.out; have hnc46 := NB350_349.out; have hcz47_0 : wc.cell? ⟨gb349, 0, none⟩ = some (.int .i64 a0_0) := (blk_cell BK349.out 0).trans rfl; have hcz47_1 : wc.cell? ⟨gb349, 1, none⟩ = some (.int .i64 a0_1) := (blk_cell BK349.out 1).trans rfl; have hcz47_2 : wc.cell? ⟨gb349, 2, none⟩ = some (.bool a0_2) := (blk_cell BK349.out 2).trans rfl; have hcz47_3 : wc.cell? ⟨gb349, 3, none⟩ = some (.bool a0_3) := (blk_cell BK349.out 3).trans rfl; have hcz47_4 : wc.cell? ⟨gb349, 4, none⟩ = some (.bool a0_4) := (blk_cell BK349.out 4).trans rfl; have hfz47_0 := blk_frozen BK349.out 0; have hfz47_1 := blk_frozen BK349.out 1; have hfz47_2 := blk_frozen BK349.out 2; have hfz47_3 := blk_frozen BK349.out 3; have hfz47_4 := blk_frozen BK349.out 4; have hcz48_0 : wc.cell? ⟨gb350, 0, none⟩ = some (.int .i64 0) := (blk_cell BK350.out 0).trans rfl; have hcz48_1 : wc.cell? ⟨gb350, 1, none⟩ = some (.int .i64 0) := (blk_cell BK350.out 1).trans rfl; have hcz48_2 : wc.cell? ⟨gb350, 2, none⟩ = some (.bool false) := (blk_cell BK350.out 2).trans rfl; have hcz48_3 : wc.cell? ⟨gb350, 3, none⟩ = some (.bool false) := (blk_cell BK350.out 3).trans rfl; have hcz48_4 : wc.cell? ⟨gb350, 4, none⟩ = some (.bool false) := (blk_cell BK350.out 4).trans rfl; have hfz48_0 := blk_frozen BK350.out 0; have hfz48_1 := blk_frozen BK350.out 1; have hfz48_2 := blk_frozen BK350.out 2; have hfz48_3 := blk_frozen BK350.out 3; have hfz48_4 := blk_frozen BK350.out 4))
               refine bodyPost_ret (results_cell_row rfl _ _ gb350 25 #[.int .i64 a0_0, .int .i64 a0_1, .bool a0_2, .bool a0_3, .bool a0_4] (0, 0) _ rfl (by (with_reducible repeat (first | apply k1 | apply k2 | apply k3)); refine blk_put (cs := #[.int .i64 a0_0, .int .i64 a0_1, .bool a0_2, .bool a0_3, .bool false]) ?_ 4 _ rfl; (with_reducible repeat (first | apply k1 | apply k2 | apply k3)); refine blk_put (cs := #[.int .i64 a0_0, .int .i64 a0_1, .bool a0_2, .bool false, .bool false]) ?_ 3 _ rfl; (with_reducible repeat (first | apply k1 | apply k2 | apply k3)); refine blk_put (cs := #[.int .i64 a0_0, .int .i64 a0_1, .bool false, .bool false, .bool false]) ?_ 2 _ rfl; (with_reducible repeat (first | apply k1 | apply k2 | apply k3)); refine blk_put (cs := #[.int .i64 a0_0, .int .i64 0, .bool false, .bool false, .bool false]) ?_ 1 _ rfl; (with_reducible repeat (first | apply k1 | apply k2 | apply k3)); refine blk_put (cs := #[.int .i64 0, .int .i64 0, .bool false, .bool false, .bool false]) ?_ 0 _ rfl; (with_reducible repeat (first | apply k1 | apply k2 | apply k3)); exact BK350.out) Tryd.underlying25 rfl (by kernel_rfl)) rfl ?_
               exact ⟨by first | rfl | (simp [errW_none, errW_some] <;> rfl) | (simp [*, errW_none, errW_some] <;> rfl), by repeat (first | (with_reducible first | exact HB.out | apply b1 | apply b2 | apply b3 | refine below_set ?_ GE349.out | refine below_set ?_ GE350.out) | exact HB.out)⟩

end Go.Proofs.YtbgekmchjdkjiaaDoor.PB
