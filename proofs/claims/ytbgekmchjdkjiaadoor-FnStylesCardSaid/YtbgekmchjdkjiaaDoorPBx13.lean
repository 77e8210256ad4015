/- Contracts of Go functions that laws of this seat reach: each Lean function answers as its Go function does. No condition. Written by wip/tools/inj.py, over the kit's print. -/
import Derived.Test.YtbgekmchjdkjiaaDoorPBx0
import Derived.Test.YtbgekmchjdkjiaaDoorPBx2
import Derived.Test.YtbgekmchjdkjiaaDoorPBx12
namespace Go.Proofs.YtbgekmchjdkjiaaDoor.PB
open Go.RowKit Go.Proofs.YtbgekmchjdkjiaaDoorW.PrintWords Go.Proofs.YtbgekmchjdkjiaaDoorW.PrintLast Go.Proofs.YtbgekmchjdkjiaaDoorW.PrintMore
attribute [local go_sem] max2_int min2_int max_two min_two max_three min_three max_four min_four   -- for this text's walks alone
set_option linter.unusedVariables false
set_option linter.unusedSimpArgs false

/-! ### spec_l3Styled: function 42 -/
def spec_l3Styled.l0 : Nat → List Int → Int → Int → Int → Bool → Bool → Bool → Option (Int × Int × Bool × Bool × Bool)
 | 0, _, _, _, _, _, _, _ => none
 | k + 1, x1, x5, x354000, x354001, x354002, x354003, x354004 => if x5 < (x1.length : Int) then (if 0 ≤ x5 then ((spec_l3Param.f k x354000 x354001 x354002 x354003 x354004 (rd x1 x5)).bind fun bt356 => (spec_l3Styled.l0 k x1 (wrap64 (x5 + 1)) bt356.1 bt356.2.1 bt356.2.2.1 bt356.2.2.2.1 bt356.2.2.2.2)) else (none)) else (some (x354000, x354001, x354002, x354003, x354004))
def spec_l3Styled.f (k : Nat) (a0_0 : Int) (a0_1 : Int) (a0_2 : Bool) (a0_3 : Bool) (a0_4 : Bool) (l1 : List Int) : Option (Int × Int × Bool × Bool × Bool) := if (l1.length : Int) = 0 then (some (0, 0, false, false, false)) else (spec_l3Styled.l0 k l1 0 a0_0 a0_1 a0_2 a0_3 a0_4)
theorem spec_l3Styled.mono_l : ∀ k, (∀ y0 y1 y2 y3 y4 y5 y6, LeO (spec_l3Styled.l0 k y0 y1 y2 y3 y4 y5 y6) (spec_l3Styled.l0 (k + 1) y0 y1 y2 y3 y4 y5 y6))
 | 0 => fun _ _ _ _ _ _ _ r h => by simp [spec_l3Styled.l0] at h
 | k + 1 => by
  have ih0 := spec_l3Styled.mono_l k
  ·intro y0 y1 y2 y3 y4 y5 y6
   unfold spec_l3Styled.l0
   repeat' first
   | (with_reducible exact ih0 _ _ _ _ _ _ _)
   | (with_reducible exact spec_l3Param.mono _ _ _ _ _ _ _)
   | (with_reducible exact LeO.refl _)
   | (with_reducible exact LeO.none _)
   | (with_reducible refine LeO.ite ?_ ?_)
   | (with_reducible refine LeO.bind ?_ (fun _ => ?_))
   | exact ih0 _ _ _ _ _ _ _
   | exact spec_l3Param.mono _ _ _ _ _ _ _
   | exact LeO.none _
   | refine LeO.ite ?_ ?_
   | refine LeO.bind ?_ (fun _ => ?_)
theorem spec_l3Styled.mono : ∀ a0 a1 a2 a3 a4 a5 k, LeO (spec_l3Styled.f k a0 a1 a2 a3 a4 a5) (spec_l3Styled.f (k + 1) a0 a1 a2 a3 a4 a5) := by
 intro a0 a1 a2 a3 a4 a5 k
 have ih0 := spec_l3Styled.mono_l k
 unfold spec_l3Styled.f
 repeat' first
   | (with_reducible exact ih0 _ _ _ _ _ _ _)
   | (with_reducible exact spec_l3Param.mono _ _ _ _ _ _ _)
   | (with_reducible exact LeO.refl _)
   | (with_reducible exact LeO.none _)
   | (with_reducible refine LeO.ite ?_ ?_)
   | (with_reducible refine LeO.bind ?_ (fun _ => ?_))
   | exact ih0 _ _ _ _ _ _ _
   | exact spec_l3Param.mono _ _ _ _ _ _ _
   | exact LeO.none _
   | refine LeO.ite ?_ ?_
   | refine LeO.bind ?_ (fun _ => ?_)
set_option maxHeartbeats 8000000 in
set_option maxRecDepth 100000 in
theorem spec_l3Styled.calls (k : Nat) (a0_0 : Int) (a0_1 : Int) (a0_2 : Bool) (a0_3 : Bool) (a0_4 : Bool) (A1 : Option Addr) (c1 : Nat) (l1 : List Int) (r1 : Int) (r2 : Int) (r3 : Bool) (r4 : Bool) (r5 : Bool) (w : World) (hr1 : Kd.C (Kd.int .i64) w A1 l1.length l1) (hc1 : l1.length ≤ c1) (h : spec_l3Styled.f k a0_0 a0_1 a0_2 a0_3 a0_4 l1 = some (r1, r2, r3, r4, r5)) :
  Calls Tryd.prog 42 #[.agg #[.int .i64 a0_0, .int .i64 a0_1, .bool a0_2, .bool a0_3, .bool a0_4], .slice A1 l1.length c1] w fun e w' => e = .returned (.agg #[.int .i64 r1, .int .i64 r2, .bool r3, .bool r4, .bool r5]) ∧ Below w.heap.size w w' := by
 have hu25 := Tryd.underlying25
 have HR1 := am hr1
 have HC1 := am hc1
 clear hr1 hc1
 have HB := am (Below.refl w.heap.size w)
 have H : (if (l1.length : Int) = 0 then (some (0, 0, false, false, false)) else (spec_l3Styled.l0 k l1 0 a0_0 a0_1 a0_2 a0_3 a0_4)) = some (r1, r2, r3, r4, r5) := h
 clear h
 by_cases c3 : (l1.length : Int) = 0
 ·rw [if_pos c3] at H
  have c3b0 : ((l1.length : Int) == 0) = true := beq_iff_eq.mpr c3
  have c3b1 : ((l1.length : Int) != 0) = false := bne_eq_false_iff_eq.mpr c3
  clear c3
  simp only [Option.some.injEq, Prod.mk.injEq] at H
  obtain ⟨rfl, rfl, rfl, rfl, rfl⟩ := H
  go_enter Tryd.func42, Tryd.ntmps42
  go_wp2_with (first | ((with_reducible refine gate_dst (N := 2) rfl ?_); refine box_event ?hg (N := 2) ?hd (cs := #[.int .i64 a0_0, .int .i64 a0_1, .bool a0_2, .bool a0_3, .bool a0_4]) (t := 25) ?hr ?_; (case hd => rfl); (case hg => rfl); (case hr => first | (go_simp; done) | (go_simp; rfl)); intro gb353 hg w4 hbox hb; have n0_ := am (below_step (rb HB) hb); have n1_ := am (hbox); have n2_ := am ((by rw [hg]; exact (below_size (rb HB)) : w.heap.size ≤ gb353)); have n3_ := am ((by rw [hg]; exact (below_size (rb HB)) : w.heap.size ≤ gb353)); clear HB; have HB := n0_; have BK353 := n1_; have GW353 := n2_; have GE353 := n3_; clear n0_ n1_ n2_ n3_; clear hb hbox hg) | ((with_reducible refine gate_dst (N := 4) rfl ?_); refine box_event ?hg (N := 4) ?hd (cs := #[.int .i64 0, .int .i64 0, .bool false, .bool false, .bool false]) (t := 25) ?hr ?_; (case hd => rfl); (case hg => rfl); (case hr => first | (go_simp; done) | (go_simp; rfl)); intro gb354 hg w5 hbox hb; have n0_ := am (blk_below (g := gb353) (o := .cells #[.int .i64 a0_0, .int .i64 a0_1, .bool a0_2, .bool a0_3, .bool a0_4] 25 (0, 0)) (rk BK353) hb); have n1_ := am (below_step (rb1 HB GE353) hb); have n2_ := am (hbox); have n3_ := am ((by rw [hg]; exact (below_size (rb1 HB GE353)) : w.heap.size ≤ gb354)); have n4_ := am ((by rw [hg]; exact (below_size (rb1 HB GE353)) : w.heap.size ≤ gb354)); have n5_ := am ((by rw [hg]; exact Nat.ne_of_lt (blk_lt (g := gb353) (o := .cells #[.int .i64 a0_0, .int .i64 a0_1, .bool a0_2, .bool a0_3, .bool a0_4] 25 (0, 0)) (rk BK353)) : gb353 ≠ gb354)); have n6_ := am ((by rw [hg]; exact Nat.ne_of_gt (blk_lt (g := gb353) (o := .cells #[.int .i64 a0_0, .int .i64 a0_1, .bool a0_2, .bool a0_3, .bool a0_4] 25 (0, 0)) (rk BK353)) : gb354 ≠ gb353)); clear BK353; clear HB; have BK353 := n0_; have HB := n1_; have BK354 := n2_; have GW354 := n3_; have GE354 := n4_; have NB353_354 := n5_; have NB354_353 := n6_; clear n0_ n1_ n2_ n3_ n4_ n5_ n6_; clear hb hbox hg; have hnb6 := NB354_353.out; have hnc6 := NB353_354.out; have hcz7_0 : w5.cell? ⟨gb354, 0, none⟩ = some (.int .i64 0) := (blk_cell BK354.out 0).trans rfl; have hcz7_1 : w5.cell? ⟨gb354, 1, none⟩ = some (.int .i64 0) := (blk_cell BK354.out 1).trans rfl; have hcz7_2 : w5.cell? ⟨gb354, 2, none⟩ = some (.bool false) := (blk_cell BK354.out 2).trans rfl; have hcz7_3 : w5.cell? ⟨gb354, 3, none⟩ = some (.bool false) := (blk_cell BK354.out 3).trans rfl; have hcz7_4 : w5.cell? ⟨gb354, 4, none⟩ = some (.bool false) := (blk_cell BK354.out 4).trans rfl; have hfz7_0 := blk_frozen BK354.out 0; have hfz7_1 := blk_frozen BK354.out 1; have hfz7_2 := blk_frozen BK354.out 2; have hfz7_3 := blk_frozen BK354.out 3; have hfz7_4 := blk_frozen BK354.out 4))
  refine bodyPost_ret (results_cell_row rfl _ _ gb354 25 #[.int .i64 0, .int .i64 0, .bool false, .bool false, .bool false] (0, 0) _ rfl (by (with_reducible repeat (first | apply k1 | apply k2 | apply k3)); refine blk_put (cs := #[.int .i64 0, .int .i64 0, .bool false, .bool false, .bool false]) ?_ 4 _ rfl; (with_reducible repeat (first | apply k1 | apply k2 | apply k3)); refine blk_put (cs := #[.int .i64 0, .int .i64 0, .bool false, .bool false, .bool false]) ?_ 3 _ rfl; (with_reducible repeat (first | apply k1 | apply k2 | apply k3)); refine blk_put (cs := #[.int .i64 0, .int .i64 0, .bool false, .bool false, .bool false]) ?_ 2 _ rfl; (with_reducible repeat (first | apply k1 | apply k2 | apply k3)); refine blk_put (cs := #[.int .i64 0, .int .i64 0, .bool false, .bool false, .bool false]) ?_ 1 _ rfl; (with_reducible repeat (first | apply k1 | apply k2 | apply k3)); refine blk_put (cs := #[.int .i64 0, .int .i64 0, .bool false, .bool false, .bool false]) ?_ 0 _ rfl; (with_reducible repeat (first | apply k1 | apply k2 | apply k3)); exact BK354.out) Tryd.underlying25 rfl (by kernel_rfl)) rfl ?_
  exact ⟨by first | rfl | (simp [errW_none, errW_some] <;> rfl) | (simp [*, errW_none, errW_some] <;> rfl), by repeat (first | (with_reducible first | exact HB.out | apply b1 | apply b2 | apply b3 | refine below_set ?_ GE353.out | refine below_set ?_ GE354.out) | exact HB.out)⟩
 ·rw [if_neg c3] at H
  have c3b0 : ((l1.length : Int) == 0) = false := beq_eq_false_iff_ne.mpr c3
  have c3b1 : ((l1.length : Int) != 0) = true := bne_iff_ne.mpr c3
  have c3b2 : ¬ (l1 = []) := fun h_ => c3 (by rw [h_]; rfl)
  have H' := am H
  clear H
  go_enter Tryd.func42, Tryd.ntmps42
  go_wp2_with (first | ((with_reducible refine gate_dst (N := 2) rfl ?_); refine box_event ?hg (N := 2) ?hd (cs := #[.int .i64 a0_0, .int .i64 a0_1, .bool a0_2, .bool a0_3, .bool a0_4]) (t := 25) ?hr ?_; (case hd => rfl); (case hg => rfl); (case hr => first | (go_simp; done) | (go_simp; rfl)); intro gb353 hg w8 hbox hb; have n0_ := am (below_step (rb HB) hb); have n1_ := am (hbox); have n2_ := am ((by rw [hg]; exact (below_size (rb HB)) : w.heap.size ≤ gb353)); have n3_ := am ((by rw [hg]; exact (below_size (rb HB)) : w.heap.size ≤ gb353)); clear HB; have HB := n0_; have BK353 := n1_; have GW353 := n2_; have GE353 := n3_; clear n0_ n1_ n2_ n3_; clear hb hbox hg) | ((with_reducible refine gate_dst (N := 4) rfl ?_); refine box_event ?hg (N := 4) ?hd (cs := #[.int .i64 0, .int .i64 0, .bool false, .bool false, .bool false]) (t := 25) ?hr ?_; (case hd => rfl); (case hg => rfl); (case hr => first | (go_simp; done) | (go_simp; rfl)); intro gb354 hg w9 hbox hb; have n0_ := am (blk_below (g := gb353) (o := .cells #[.int .i64 a0_0, .int .i64 a0_1, .bool a0_2, .bool a0_3, .bool a0_4] 25 (0, 0)) (rk BK353) hb); have n1_ := am (below_step (rb1 HB GE353) hb); have n2_ := am (hbox); have n3_ := am ((by rw [hg]; exact (below_size (rb1 HB GE353)) : w.heap.size ≤ gb354)); have n4_ := am ((by rw [hg]; exact (below_size (rb1 HB GE353)) : w.heap.size ≤ gb354)); have n5_ := am ((by rw [hg]; exact Nat.ne_of_lt (blk_lt (g := gb353) (o := .cells #[.int .i64 a0_0, .int .i64 a0_1, .bool a0_2, .bool a0_3, .bool a0_4] 25 (0, 0)) (rk BK353)) : gb353 ≠ gb354)); have n6_ := am ((by rw [hg]; exact Nat.ne_of_gt (blk_lt (g := gb353) (o := .cells #[.int .i64 a0_0, .int .i64 a0_1, .bool a0_2, .bool a0_3, .bool a0_4] 25 (0, 0)) (rk BK353)) : gb354 ≠ gb353)); clear BK353; clear HB; have BK353 := n0_; have HB := n1_; have BK354 := n2_; have GW354 := n3_; have GE354 := n4_; have NB353_354 := n5_; have NB354_353 := n6_; clear n0_ n1_ n2_ n3_ n4_ n5_ n6_; clear hb hbox hg))
  go_loopg [5] k (fun kq v5 w' => ∃ (x5_1 : Int) (x354000_1 : Int) (x354001_1 : Int) (x354002_1 : Bool) (x354003_1 : Bool) (x354004_1 : Bool), v5 = .int .i64 x5_1 ∧ Aside0 (spec_l3Styled.l0 kq l1 x5_1 x354000_1 x354001_1 x354002_1 x354003_1 x354004_1 = some (r1, r2, r3, r4, r5)) ∧ Aside0 (kq ≤ k) ∧ Aside0 (w'.heap[gb353]? = some (.cells #[.int .i64 x354000_1, .int .i64 x354001_1, .bool x354002_1, .bool x354003_1, .bool x354004_1] 25 (0, 0))) ∧ Aside0 (w'.heap[gb354]? = some (.cells #[.int .i64 0, .int .i64 0, .bool false, .bool false, .bool false] 25 (0, 0))) ∧ Aside0 (Below w.heap.size w w'))
  case atStart => exact ⟨(0), (a0_0), (a0_1), (a0_2), (a0_3), (a0_4), (by first | rfl | (simp; done) | (simp [*]; done)), H', ⟨Nat.le_refl _⟩, ⟨rk BK353⟩, ⟨rk BK354⟩, ⟨by repeat (first | (with_reducible first | exact HB.out | apply b1 | apply b2 | apply b3 | refine below_set ?_ GE353.out | refine below_set ?_ GE354.out) | exact HB.out)⟩⟩
  case round =>
   clear H'
   try clear c1
   try clear p2
   try clear c3
   try clear c3b0
   try clear c3b1
   try clear c3b2
   try clear c4
   try clear c6
   try clear hcz7_0
   try clear hcz7_1
   try clear hcz7_2
   try clear hcz7_3
   try clear hcz7_4
   try clear hfz7_0
   try clear hfz7_1
   try clear hfz7_2
   try clear hfz7_3
   try clear hfz7_4
   obtain ⟨x5_1, x354000_1, x354001_1, x354002_1, x354003_1, x354004_1, rfl, HA, HK1, BK353, BK354, HB⟩ := hrel
   cases gk with
   | zero => exact absurd HA.out (by simp [spec_l3Styled.l0])
   | succ k1 =>
    have H := HA.out
    clear HA
    simp only [spec_l3Styled.l0] at H
    by_cases c10 : x5_1 < (l1.length : Int)
    ·rw [if_pos c10] at H
     have c10b0 : decide (x5_1 < (l1.length : Int)) = true := decide_eq_true c10
     clear c10
     by_cases c11 : 0 ≤ x5_1
     ·rw [if_pos c11] at H
      have c11b0 : decide (0 ≤ x5_1) = true := decide_eq_true c11
      clear c11
      replace H := Option.bind_eq_some_iff.mp H
      obtain ⟨⟨t356, t357, t358, t359, t360⟩, A120, H⟩ := H
      replace H : (spec_l3Styled.l0 k1 l1 (wrap64 (x5_1 + 1)) t356 t357 t358 t359 t360) = some (r1, r2, r3, r4, r5) := H
      have A12 := am A120
      clear A120
      have H' := am H
      clear H
      try go_wp2
      have n0_ := am (blk_drew BK353.out)
      have n1_ := am (blk_drew BK354.out)
      have n2_ := am (below_drew1 HB.out)
      clear BK353
      clear BK354
      clear HB
      have BK353 := n0_
      have BK354 := n1_
      have HB := n2_
      clear n0_ n1_ n2_
      have p355 : 0 ≤ (x5_1 : Int) := dt_
      have q355 : x5_1 < (l1.length : Int) := dt_
      obtain ⟨ad355, e355, hx355_0⟩ := Kd.at_int HR1.out x5_1 p355 q355
      have hw355_0 := hx355_0
      cases e355
      replace hx355_0 := mv HB.out hx355_0
      replace p355 := eq_true p355
      replace q355 := eq_true q355
      refine start_ (n := 7) (S := fun w' => w'.cell? ⟨gb353, 0, none⟩ = some (.int .i64 x354000_1) ∧ w'.cell? ⟨gb353, 1, none⟩ = some (.int .i64 x354001_1) ∧ w'.cell? ⟨gb353, 2, none⟩ = some (.bool x354002_1) ∧ w'.cell? ⟨gb353, 3, none⟩ = some (.bool x354003_1) ∧ w'.cell? ⟨gb353, 4, none⟩ = some (.bool x354004_1) ∧ w'.cell? (ad355.add (x5_1).toNat) = some (.int .i64 (rd l1 x5_1))) (ds := [6]) (bm 7 0) (by kernel_rfl) rfl rfl ⟨(blk_cell BK353.out 0).trans rfl, (blk_cell BK353.out 1).trans rfl, (blk_cell BK353.out 2).trans rfl, (blk_cell BK353.out 3).trans rfl, (blk_cell BK353.out 4).trans rfl, ((HB.out.cell (World.block_lt_of_cell? w _ hw355_0)).trans hw355_0)⟩ (fun hHeld => ?_)
      generalize wr.drew = w13 at BK353 BK354 HB hx355_0 hHeld ⊢
      refine pure_ (i := 1) (N := some 17) (v := ?_) (a' := ?_) (bm 7 2) rfl rfl (by kernel_rfl) (fun _ _ _ h => h) (Or.inl ⟨by rfl, ?_⟩) ?_ ?_
      rotate_left
      ·intro w'
       go_simp
       with_reducible rfl
      rotate_left
      ·simp only [Act.put, List.setIfInBounds_toArray, List.set_cons_zero, List.set_cons_succ, i64_w, i32_w]
       rfl
      refine pure_ (i := 2) (N := some 18) (v := ?_) (a' := ?_) (bm 7 6) rfl rfl (by kernel_rfl) (fun _ _ _ h => h) (Or.inl ⟨by rfl, ?_⟩) ?_ ?_
      rotate_left
      ·intro w'
       go_simp
       with_reducible rfl
      rotate_left
      ·simp only [Act.put, List.setIfInBounds_toArray, List.set_cons_zero, List.set_cons_succ, i64_w, i32_w]
       rfl
      refine pure_ (i := 3) (N := some 19) (v := ?_) (a' := ?_) (bm 7 14) rfl rfl (by kernel_rfl) (fun _ _ _ h => h) (Or.inl ⟨by rfl, ?_⟩) ?_ ?_
      rotate_left
      ·intro w'
       go_simp
       with_reducible rfl
      rotate_left
      ·simp only [Act.put, List.setIfInBounds_toArray, List.set_cons_zero, List.set_cons_succ, i64_w, i32_w]
       rfl
      refine take_ (i := 0) (N := some 16) (v := ?_) (a' := ?_) (bm 7 15) rfl rfl (by kernel_rfl) (fun _ _ _ h => h) (Or.inl ⟨by rfl, ?_⟩) hHeld ?_ ?_
      rotate_left
      ·rintro w' ⟨s0, s1, s2, s3, s4, s5⟩
       go_simp
       with_reducible rfl
      rotate_left
      ·simp only [Act.put, List.setIfInBounds_toArray, List.set_cons_zero, List.set_cons_succ, i64_w, i32_w]
       rfl
      refine take_ (i := 4) (N := some 20) (v := ?_) (a' := ?_) (bm 7 31) rfl rfl (by kernel_rfl) (fun _ _ _ h => h) (Or.inl ⟨by rfl, ?_⟩) hHeld ?_ ?_
      rotate_left
      ·rintro w' ⟨s0, s1, s2, s3, s4, s5⟩
       go_simp
       with_reducible rfl
      rotate_left
      ·simp only [Act.put, List.setIfInBounds_toArray, List.set_cons_zero, List.set_cons_succ, i64_w, i32_w]
       rfl
      refine one_ (i := 5) (N := some 21) (bm 7 63) rfl rfl (by kernel_rfl) (by decide) (fun K hK => ?_)
      refine goes_ Tryd.func62 (by kernel_rfl) rfl #[.agg #[.int .i64 x354000_1, .int .i64 x354001_1, .bool x354002_1, .bool x354003_1, .bool x354004_1], .int .i64 (rd l1 x5_1)] (by rfl) rfl rfl (by (try simp only [List.map_toArray, List.map_cons, List.map_nil]); first | done | rfl | (simp only [List.length_drop, List.length_take]; rfl)) ?_
      with_reducible refine (spec_l3Param.calls k1 x354000_1 x354001_1 x354002_1 x354003_1 x354004_1 (rd l1 x5_1) t356 t357 t358 t359 t360 _ A12.out).mono ?_
      rintro e w14 ⟨rfl, hb⟩
      refine ⟨_, rfl, ?_⟩
      have n0_ := am (blk_below (g := gb353) (o := .cells #[.int .i64 x354000_1, .int .i64 x354001_1, .bool x354002_1, .bool x354003_1, .bool x354004_1] 25 (0, 0)) (rk BK353) hb)
      have n1_ := am (blk_below (g := gb354) (o := .cells #[.int .i64 0, .int .i64 0, .bool false, .bool false, .bool false] 25 (0, 0)) (rk BK354) hb)
      have n2_ := am (below_step (by repeat (first | (with_reducible first | exact HB.out | apply b1 | apply b2 | apply b3 | refine below_set ?_ GE353.out | refine below_set ?_ GE354.out) | exact HB.out)) hb)
      clear BK353
      clear BK354
      clear HB
      have BK353 := n0_
      have BK354 := n1_
      have HB := n2_
      clear n0_ n1_ n2_
      (try clear hb)
      (try clear hb2)
      (try clear hk)
      (try clear hi)
      refine hK.out _ _ ⟨(blk_cell BK353.out 0).trans rfl, (blk_cell BK353.out 1).trans rfl, (blk_cell BK353.out 2).trans rfl, (blk_cell BK353.out 3).trans rfl, (blk_cell BK353.out 4).trans rfl, ((HB.out.cell (World.block_lt_of_cell? w _ hw355_0)).trans hw355_0)⟩ (fun hHeld => ?_)
      clear hK K
      refine norm_ (a' := ?_) ?_ ?_
      rotate_left
      ·show Act.put _ (some 21) _ = _
       simp only [Act.put, List.setIfInBounds_toArray, List.set_cons_zero, List.set_cons_succ, i64_w, i32_w]
       rfl
      refine last_ (i := 6) (N := none) (bm 7 127) rfl rfl (by kernel_rfl) (by decide) (fun K hK => ?_)
      have hs15 : w14.cell? ⟨gb353, 0, none⟩ = some (.int .i64 x354000_1) := (blk_cell BK353.out 0).trans rfl
      have hfs15 := blk_frozen BK353.out 0
      have hns15_1 := NB354_353.out
      have hms15_1 := NB353_354.out
      have hs16 : w14.cell? ⟨gb353, 1, none⟩ = some (.int .i64 x354001_1) := (blk_cell BK353.out 1).trans rfl
      have hfs16 := blk_frozen BK353.out 1
      have hns16_1 := NB354_353.out
      have hms16_1 := NB353_354.out
      have hs17 : w14.cell? ⟨gb353, 2, none⟩ = some (.bool x354002_1) := (blk_cell BK353.out 2).trans rfl
      have hfs17 := blk_frozen BK353.out 2
      have hns17_1 := NB354_353.out
      have hms17_1 := NB353_354.out
      have hs18 : w14.cell? ⟨gb353, 3, none⟩ = some (.bool x354003_1) := (blk_cell BK353.out 3).trans rfl
      have hfs18 := blk_frozen BK353.out 3
      have hns18_1 := NB354_353.out
      have hms18_1 := NB353_354.out
      have hs19 : w14.cell? ⟨gb353, 4, none⟩ = some (.bool x354004_1) := (blk_cell BK353.out 4).trans rfl
      have hfs19 := blk_frozen BK353.out 4
      have hns19_1 := NB354_353.out
      have hms19_1 := NB353_354.out
      refine skip_ (w1 := ?_) (by rfl) rfl ?_ ?_
      rotate_left
      ·go_simp
       rfl
      refine hK.out _ _ ?_
      clear hK K
      refine done_ (by kernel_rfl) ?_
      try go_wp2
      go_roundg k1
      case measure => have := HK1.out; omega
      case rel => exact ⟨(wrap64 (x5_1 + 1)), (t356), (t357), (t358), (t359), (t360), (by first | rfl | (simp; done) | (simp [*]; done)), H', ⟨by have := HK1.out; omega⟩, ⟨by (with_reducible repeat (first | apply k1 | apply k2 | apply k3)); refine blk_put (cs := #[.int .i64 t356, .int .i64 t357, .bool t358, .bool t359, .bool x354004_1]) ?_ 4 _ rfl; (with_reducible repeat (first | apply k1 | apply k2 | apply k3)); refine blk_put (cs := #[.int .i64 t356, .int .i64 t357, .bool t358, .bool x354003_1, .bool x354004_1]) ?_ 3 _ rfl; (with_reducible repeat (first | apply k1 | apply k2 | apply k3)); refine blk_put (cs := #[.int .i64 t356, .int .i64 t357, .bool x354002_1, .bool x354003_1, .bool x354004_1]) ?_ 2 _ rfl; (with_reducible repeat (first | apply k1 | apply k2 | apply k3)); refine blk_put (cs := #[.int .i64 t356, .int .i64 x354001_1, .bool x354002_1, .bool x354003_1, .bool x354004_1]) ?_ 1 _ rfl; (with_reducible repeat (first | apply k1 | apply k2 | apply k3)); refine blk_put (cs := #[.int .i64 x354000_1, .int .i64 x354001_1, .bool x354002_1, .bool x354003_1, .bool x354004_1]) ?_ 0 _ rfl; (with_reducible repeat (first | apply k1 | apply k2 | apply k3)); exact BK353.out⟩, ⟨by (with_reducible repeat (first | apply k1 | apply k2 | apply k3)); refine blk_far ?_ NB354_353.out _; (with_reducible repeat (first | apply k1 | apply k2 | apply k3)); refine blk_far ?_ NB354_353.out _; (with_reducible repeat (first | apply k1 | apply k2 | apply k3)); refine blk_far ?_ NB354_353.out _; (with_reducible repeat (first | apply k1 | apply k2 | apply k3)); refine blk_far ?_ NB354_353.out _; (with_reducible repeat (first | apply k1 | apply k2 | apply k3)); refine blk_far ?_ NB354_353.out _; (with_reducible repeat (first | apply k1 | apply k2 | apply k3)); exact BK354.out⟩, ⟨by repeat (first | (with_reducible first | exact HB.out | apply b1 | apply b2 | apply b3 | refine below_set ?_ GE353.out | refine below_set ?_ GE354.out) | exact HB.out)⟩⟩
     ·rw [if_neg c11] at H
      exact absurd H (by simp)
    ·rw [if_neg c10] at H
     have c10b0 : decide (x5_1 < (l1.length : Int)) = false := decide_eq_false c10
     clear c10
     simp only [Option.some.injEq, Prod.mk.injEq] at H
     obtain ⟨rfl, rfl, rfl, rfl, rfl⟩ := H
     have hnb20 := NB353_354.out
     have hnc20 := NB354_353.out
     have hcz21_0 : wr.cell? ⟨gb353, 0, none⟩ = some (.int .i64 x354000_1) := (blk_cell BK353.out 0).trans rfl
     have hcz21_1 : wr.cell? ⟨gb353, 1, none⟩ = some (.int .i64 x354001_1) := (blk_cell BK353.out 1).trans rfl
     have hcz21_2 : wr.cell? ⟨gb353, 2, none⟩ = some (.bool x354002_1) := (blk_cell BK353.out 2).trans rfl
     have hcz21_3 : wr.cell? ⟨gb353, 3, none⟩ = some (.bool x354003_1) := (blk_cell BK353.out 3).trans rfl
     have hcz21_4 : wr.cell? ⟨gb353, 4, none⟩ = some (.bool x354004_1) := (blk_cell BK353.out 4).trans rfl
     have hfz21_0 := blk_frozen BK353.out 0
     have hfz21_1 := blk_frozen BK353.out 1
     have hfz21_2 := blk_frozen BK353.out 2
     have hfz21_3 := blk_frozen BK353.out 3
     have hfz21_4 := blk_frozen BK353.out 4
     have hcz22_0 : wr.cell? ⟨gb354, 0, none⟩ = some (.int .i64 0) := (blk_cell BK354.out 0).trans rfl
     have hcz22_1 : wr.cell? ⟨gb354, 1, none⟩ = some (.int .i64 0) := (blk_cell BK354.out 1).trans rfl
     have hcz22_2 : wr.cell? ⟨gb354, 2, none⟩ = some (.bool false) := (blk_cell BK354.out 2).trans rfl
     have hcz22_3 : wr.cell? ⟨gb354, 3, none⟩ = some (.bool false) := (blk_cell BK354.out 3).trans rfl
     have hcz22_4 : wr.cell? ⟨gb354, 4, none⟩ = some (.bool false) := (blk_cell BK354.out 4).trans rfl
     have hfz22_0 := blk_frozen BK354.out 0
     have hfz22_1 := blk_frozen BK354.out 1
     have hfz22_2 := blk_frozen BK354.out 2
     have hfz22_3 := blk_frozen BK354.out 3
     have hfz22_4 := blk_frozen BK354.out 4
     go_wp2
     refine bodyPost_ret (results_cell_row rfl _ _ gb354 25 #[.int .i64 x354000_1, .int .i64 x354001_1, .bool x354002_1, .bool x354003_1, .bool x354004_1] (0, 0) _ rfl (by (with_reducible repeat (first | apply k1 | apply k2 | apply k3)); refine blk_put (cs := #[.int .i64 x354000_1, .int .i64 x354001_1, .bool x354002_1, .bool x354003_1, .bool false]) ?_ 4 _ rfl; (with_reducible repeat (first | apply k1 | apply k2 | apply k3)); refine blk_put (cs := #[.int .i64 x354000_1, .int .i64 x354001_1, .bool x354002_1, .bool false, .bool false]) ?_ 3 _ rfl; (with_reducible repeat (first | apply k1 | apply k2 | apply k3)); refine blk_put (cs := #[.int .i64 x354000_1, .int .i64 x354001_1, .bool false, .bool false, .bool false]) ?_ 2 _ rfl; (with_reducible repeat (first | apply k1 | apply k2 | apply k3)); refine blk_put (cs := #[.int .i64 x354000_1, .int .i64 0, .bool false, .bool false, .bool false]) ?_ 1 _ rfl; (with_reducible repeat (first | apply k1 | apply k2 | apply k3)); refine blk_put (cs := #[.int .i64 0, .int .i64 0, .bool false, .bool false, .bool false]) ?_ 0 _ rfl; (with_reducible repeat (first | apply k1 | apply k2 | apply k3)); exact BK354.out) Tryd.underlying25 rfl (by kernel_rfl)) rfl ?_
     exact ⟨by first | rfl | (simp [errW_none, errW_some] <;> rfl) | (simp [*, errW_none, errW_some] <;> rfl), by repeat (first | (with_reducible first | exact HB.out | apply b1 | apply b2 | apply b3 | refine below_set ?_ GE353.out | refine below_set ?_ GE354.out) | exact HB.out)⟩

/-! ### spec_Styled: function 19 -/
def spec_Styled.f (k : Nat) (a0_0 : Int) (a0_1 : Int) (a0_2 : Bool) (a0_3 : Bool) (a0_4 : Bool) (l1 : List Int) : Option (Int × Int × Bool × Bool × Bool) := (spec_StyleOk.f a0_0 a0_1 a0_2 a0_3 a0_4).bind fun t363 => (if t363 = true then (if (l1.length : Int) > 16 then (some (0, 0, false, false, false)) else ((spec_l3Styled.f k a0_0 a0_1 a0_2 a0_3 a0_4 l1).bind fun bt364 => (some (bt364.1, bt364.2.1, bt364.2.2.1, bt364.2.2.2.1, bt364.2.2.2.2)))) else (some (0, 0, false, false, false)))
theorem spec_Styled.mono : ∀ a0 a1 a2 a3 a4 a5 k, LeO (spec_Styled.f k a0 a1 a2 a3 a4 a5) (spec_Styled.f (k + 1) a0 a1 a2 a3 a4 a5) := by
 intro a0 a1 a2 a3 a4 a5 k
 unfold spec_Styled.f
 repeat' first
   | (with_reducible exact spec_l3Styled.mono _ _ _ _ _ _ _)
   | (with_reducible exact LeO.refl _)
   | (with_reducible exact LeO.none _)
   | (with_reducible refine LeO.ite ?_ ?_)
   | (with_reducible refine LeO.bind ?_ (fun _ => ?_))
   | exact spec_l3Styled.mono _ _ _ _ _ _ _
   | exact LeO.none _
   | refine LeO.ite ?_ ?_
   | refine LeO.bind ?_ (fun _ => ?_)
set_option maxHeartbeats 8000000 in
set_option maxRecDepth 100000 in
theorem spec_Styled.calls (k : Nat) (a0_0 : Int) (a0_1 : Int) (a0_2 : Bool) (a0_3 : Bool) (a0_4 : Bool) (A1 : Option Addr) (c1 : Nat) (l1 : List Int) (r1 : Int) (r2 : Int) (r3 : Bool) (r4 : Bool) (r5 : Bool) (w : World) (hr1 : Kd.C (Kd.int .i64) w A1 l1.length l1) (hc1 : l1.length ≤ c1) (h : spec_Styled.f k a0_0 a0_1 a0_2 a0_3 a0_4 l1 = some (r1, r2, r3, r4, r5)) :
  Calls Tryd.prog 19 #[.agg #[.int .i64 a0_0, .int .i64 a0_1, .bool a0_2, .bool a0_3, .bool a0_4], .slice A1 l1.length c1] w fun e w' => e = .returned (.agg #[.int .i64 r1, .int .i64 r2, .bool r3, .bool r4, .bool r5]) ∧ Below w.heap.size w w' := by
 have hu25 := Tryd.underlying25
 have HR1 := am hr1
 have HC1 := am hc1
 clear hr1 hc1
 have HB := am (Below.refl w.heap.size w)
 have H : ((spec_StyleOk.f a0_0 a0_1 a0_2 a0_3 a0_4).bind fun t363 => (if t363 = true then (if (l1.length : Int) > 16 then (some (0, 0, false, false, false)) else ((spec_l3Styled.f k a0_0 a0_1 a0_2 a0_3 a0_4 l1).bind fun bt364 => (some (bt364.1, bt364.2.1, bt364.2.2.1, bt364.2.2.2.1, bt364.2.2.2.2)))) else (some (0, 0, false, false, false)))) = some (r1, r2, r3, r4, r5) := h
 clear h
 replace H := Option.bind_eq_some_iff.mp H
 obtain ⟨t363, A30, H⟩ := H
 replace H : (if t363 = true then (if (l1.length : Int) > 16 then (some (0, 0, false, false, false)) else ((spec_l3Styled.f k a0_0 a0_1 a0_2 a0_3 a0_4 l1).bind fun bt364 => (some (bt364.1, bt364.2.1, bt364.2.2.1, bt364.2.2.2.1, bt364.2.2.2.2)))) else (some (0, 0, false, false, false))) = some (r1, r2, r3, r4, r5) := H
 have A3 := am A30
 clear A30
 by_cases c4 : t363 = true
 ·subst c4
  have H1 : (if (l1.length : Int) > 16 then (some (0, 0, false, false, false)) else ((spec_l3Styled.f k a0_0 a0_1 a0_2 a0_3 a0_4 l1).bind fun bt364 => (some (bt364.1, bt364.2.1, bt364.2.2.1, bt364.2.2.2.1, bt364.2.2.2.2)))) = some (r1, r2, r3, r4, r5) := by rw [if_pos rfl] at H; exact H
  clear H
  have H := H1
  clear H1
  by_cases c5 : (l1.length : Int) > 16
  ·rw [if_pos c5] at H
   have c5b0 : decide (16 < (l1.length : Int)) = true := decide_eq_true c5
   have c5b1 : decide (16 < l1.length) = true := decide_eq_true (by omega)
   clear c5
   simp only [Option.some.injEq, Prod.mk.injEq] at H
   obtain ⟨rfl, rfl, rfl, rfl, rfl⟩ := H
   go_enter Tryd.func19, Tryd.ntmps19
   go_wp2_with (first | ((with_reducible refine gate_dst (N := 2) rfl ?_); (try (refine gate_guard (by rfl) ?_; dsimp only)); refine box_event ?hg (N := 2) ?hd (cs := #[.int .i64 a0_0, .int .i64 a0_1, .bool a0_2, .bool a0_3, .bool a0_4]) (t := 25) ?hr ?_; (case hd => rfl); (case hg => rfl); (case hr => first | (go_simp; done) | (go_simp; rfl)); intro gb361 hg w6 hbox hb; have n0_ := am (below_step (rb HB) hb); have n1_ := am (hbox); have n2_ := am ((by rw [hg]; exact (below_size (rb HB)) : w.heap.size ≤ gb361)); have n3_ := am ((by rw [hg]; exact (below_size (rb HB)) : w.heap.size ≤ gb361)); clear HB; have HB := n0_; have BK361 := n1_; have GW361 := n2_; have GE361 := n3_; clear n0_ n1_ n2_ n3_; clear hb hbox hg) | ((with_reducible refine gate_dst (N := 4) rfl ?_); (try (refine gate_guard (by rfl) ?_; dsimp only)); refine box_event ?hg (N := 4) ?hd (cs := #[.int .i64 0, .int .i64 0, .bool false, .bool false, .bool false]) (t := 25) ?hr ?_; (case hd => rfl); (case hg => rfl); (case hr => first | (go_simp; done) | (go_simp; rfl)); intro gb362 hg w7 hbox hb; have n0_ := am (blk_below (g := gb361) (o := .cells #[.int .i64 a0_0, .int .i64 a0_1, .bool a0_2, .bool a0_3, .bool a0_4] 25 (0, 0)) (rk BK361) hb); have n1_ := am (below_step (rb1 HB GE361) hb); have n2_ := am (hbox); have n3_ := am ((by rw [hg]; exact (below_size (rb1 HB GE361)) : w.heap.size ≤ gb362)); have n4_ := am ((by rw [hg]; exact (below_size (rb1 HB GE361)) : w.heap.size ≤ gb362)); have n5_ := am ((by rw [hg]; exact Nat.ne_of_lt (blk_lt (g := gb361) (o := .cells #[.int .i64 a0_0, .int .i64 a0_1, .bool a0_2, .bool a0_3, .bool a0_4] 25 (0, 0)) (rk BK361)) : gb361 ≠ gb362)); have n6_ := am ((by rw [hg]; exact Nat.ne_of_gt (blk_lt (g := gb361) (o := .cells #[.int .i64 a0_0, .int .i64 a0_1, .bool a0_2, .bool a0_3, .bool a0_4] 25 (0, 0)) (rk BK361)) : gb362 ≠ gb361)); clear BK361; clear HB; have BK361 := n0_; have HB := n1_; have BK362 := n2_; have GW362 := n3_; have GE362 := n4_; have NB361_362 := n5_; have NB362_361 := n6_; clear n0_ n1_ n2_ n3_ n4_ n5_ n6_; clear hb hbox hg; have hnb8 := NB361_362.out; have hnc8 := NB362_361.out; have hcz9_0 : w7.cell? ⟨gb361, 0, none⟩ = some (.int .i64 a0_0) := (blk_cell BK361.out 0).trans rfl; have hcz9_1 : w7.cell? ⟨gb361, 1, none⟩ = some (.int .i64 a0_1) := (blk_cell BK361.out 1).trans rfl; have hcz9_2 : w7.cell? ⟨gb361, 2, none⟩ = some (.bool a0_2) := (blk_cell BK361.out 2).trans rfl; have hcz9_3 : w7.cell? ⟨gb361, 3, none⟩ = some (.bool a0_3) := (blk_cell BK361.out 3).trans rfl; have hcz9_4 : w7.cell? ⟨gb361, 4, none⟩ = some (.bool a0_4) := (blk_cell BK361.out 4).trans rfl; have hfz9_0 := blk_frozen BK361.out 0; have hfz9_1 := blk_frozen BK361.out 1; have hfz9_2 := blk_frozen BK361.out 2; have hfz9_3 := blk_frozen BK361.out 3; have hfz9_4 := blk_frozen BK361.out 4) | ((with_reducible refine gate_callee (f := 23) rfl ?_); refine gl_ (some 6) Tryd.func23 #[.agg #[.int .i64 a0_0, .int .i64 a0_1, .bool a0_2, .bool a0_3, .bool a0_4]] ?_; (with_reducible refine (spec_StyleOk.calls a0_0 a0_1 a0_2 a0_3 a0_4 true _ A3.out).mono ?_); rintro e w10 ⟨rfl, hb⟩; refine ⟨_, rfl, ?_⟩; have n0_ := am (blk_below (g := gb361) (o := .cells #[.int .i64 a0_0, .int .i64 a0_1, .bool a0_2, .bool a0_3, .bool a0_4] 25 (0, 0)) (rk BK361) hb); have n1_ := am (blk_below (g := gb362) (o := .cells #[.int .i64 0, .int .i64 0, .bool false, .bool false, .bool false] 25 (0, 0)) (rk BK362) hb); have n2_ := am (below_step (by repeat (first | (with_reducible first | exact HB.out | apply b1 | apply b2 | apply b3 | refine below_set ?_ GE361.out | refine below_set ?_ GE362.out) | exact HB.out)) hb); clear BK361; clear BK362; clear HB; have BK361 := n0_; have BK362 := n1_; have HB := n2_; clear n0_ n1_ n2_; (try clear hb); (try clear hb2); (try clear hk); (try clear hi); have hcz11_0 : w10.cell? ⟨gb362, 0, none⟩ = some (.int .i64 0) := (blk_cell BK362.out 0).trans rfl; have hcz11_1 : w10.cell? ⟨gb362, 1, none⟩ = some (.int .i64 0) := (blk_cell BK362.out 1).trans rfl; have hcz11_2 : w10.cell? ⟨gb362, 2, none⟩ = some (.bool false) := (blk_cell BK362.out 2).trans rfl; have hcz11_3 : w10.cell? ⟨gb362, 3, none⟩ = some (.bool false) := (blk_cell BK362.out 3).trans rfl; have hcz11_4 : w10.cell? ⟨gb362, 4, none⟩ = some (.bool false) := (blk_cell BK362.out 4).trans rfl; have hfz11_0 := blk_frozen BK362.out 0; have hfz11_1 := blk_frozen BK362.out 1; have hfz11_2 := blk_frozen BK362.out 2; have hfz11_3 := blk_frozen BK362.out 3; have hfz11_4 := blk_frozen BK362.out 4))
   refine bodyPost_ret (results_cell_row rfl _ _ gb362 25 #[.int .i64 0, .int .i64 0, .bool false, .bool false, .bool false] (0, 0) _ rfl (by (with_reducible repeat (first | apply k1 | apply k2 | apply k3)); refine blk_put (cs := #[.int .i64 0, .int .i64 0, .bool false, .bool false, .bool false]) ?_ 4 _ rfl; (with_reducible repeat (first | apply k1 | apply k2 | apply k3)); refine blk_put (cs := #[.int .i64 0, .int .i64 0, .bool false, .bool false, .bool false]) ?_ 3 _ rfl; (with_reducible repeat (first | apply k1 | apply k2 | apply k3)); refine blk_put (cs := #[.int .i64 0, .int .i64 0, .bool false, .bool false, .bool false]) ?_ 2 _ rfl; (with_reducible repeat (first | apply k1 | apply k2 | apply k3)); refine blk_put (cs := #[.int .i64 0, .int .i64 0, .bool false, .bool false, .bool false]) ?_ 1 _ rfl; (with_reducible repeat (first | apply k1 | apply k2 | apply k3)); refine blk_put (cs := #[.int .i64 0, .int .i64 0, .bool false, .bool false, .bool false]) ?_ 0 _ rfl; (with_reducible repeat (first | apply k1 | apply k2 | apply k3)); exact BK362.out) Tryd.underlying25 rfl (by kernel_rfl)) rfl ?_
   exact ⟨by first | rfl | (simp [errW_none, errW_some] <;> rfl) | (simp [*, errW_none, errW_some] <;> rfl), by repeat (first | (with_reducible first | exact HB.out | apply b1 | apply b2 | apply b3 | refine below_set ?_ GE361.out | refine below_set ?_ GE362.out) | exact HB.out)⟩
  ·rw [if_neg c5] at H
   have c5b0 : decide (16 < (l1.length : Int)) = false := decide_eq_false c5
   have c5b1 : decide (16 < l1.length) = false := decide_eq_false (by omega)
   clear c5
   replace H := Option.bind_eq_some_iff.mp H
   obtain ⟨⟨t364, t365, t366, t367, t368⟩, A120, H⟩ := H
   replace H : (some (t364, t365, t366, t367, t368)) = some (r1, r2, r3, r4, r5) := H
   have A12 := am A120
   clear A120
   simp only [Option.some.injEq, Prod.mk.injEq] at H
   obtain ⟨rfl, rfl, rfl, rfl, rfl⟩ := H
   go_enter Tryd.func19, Tryd.ntmps19
   go_wp2_with (first | ((with_reducible refine gate_dst (N := 2) rfl ?_); (try (refine gate_guard (by rfl) ?_; dsimp only)); refine box_event ?hg (N := 2) ?hd (cs := #[.int .i64 a0_0, .int .i64 a0_1, .bool a0_2, .bool a0_3, .bool a0_4]) (t := 25) ?hr ?_; (case hd => rfl); (case hg => rfl); (case hr => first | (go_simp; done) | (go_simp; rfl)); intro gb361 hg w13 hbox hb; have n0_ := am (below_step (rb HB) hb); have n1_ := am (hbox); have n2_ := am ((by rw [hg]; exact (below_size (rb HB)) : w.heap.size ≤ gb361)); have n3_ := am ((by rw [hg]; exact (below_size (rb HB)) : w.heap.size ≤ gb361)); clear HB; have HB := n0_; have BK361 := n1_; have GW361 := n2_; have GE361 := n3_; clear n0_ n1_ n2_ n3_; clear hb hbox hg) | ((with_reducible refine gate_dst (N := 4) rfl ?_); (try (refine gate_guard (by rfl) ?_; dsimp only)); refine box_event ?hg (N := 4) ?hd (cs := #[.int .i64 0, .int .i64 0, .bool false, .bool false, .bool false]) (t := 25) ?hr ?_; (case hd => rfl); (case hg => rfl); (case hr => first | (go_simp; done) | (go_simp; rfl)); intro gb362 hg w14 hbox hb; have n0_ := am (blk_below (g := gb361) (o := .cells #[.int .i64 a0_0, .int .i64 a0_1, .bool a0_2, .bool a0_3, .bool a0_4] 25 (0, 0)) (rk BK361) hb); have n1_ := am (below_step (rb1 HB GE361) hb); have n2_ := am (hbox); have n3_ := am ((by rw [hg]; exact (below_size (rb1 HB GE361)) : w.heap.size ≤ gb362)); have n4_ := am ((by rw [hg]; exact (below_size (rb1 HB GE361)) : w.heap.size ≤ gb362)); have n5_ := am ((by rw [hg]; exact Nat.ne_of_lt (blk_lt (g := gb361) (o := .cells #[.int .i64 a0_0, .int .i64 a0_1, .bool a0_2, .bool a0_3, .bool a0_4] 25 (0, 0)) (rk BK361)) : gb361 ≠ gb362)); have n6_ := am ((by rw [hg]; exact Nat.ne_of_gt (blk_lt (g := gb361) (o := .cells #[.int .i64 a0_0, .int .i64 a0_1, .bool a0_2, .bool a0_3, .bool a0_4] 25 (0, 0)) (rk BK361)) : gb362 ≠ gb361)); clear BK361; clear HB; have BK361 := n0_; have HB := n1_; have BK362 := n2_; have GW362 := n3_; have GE362 := n4_; have NB361_362 := n5_; have NB362_361 := n6_; clear n0_ n1_ n2_ n3_ n4_ n5_ n6_; clear hb hbox hg; have hnb15 := NB361_362.out; have hnc15 := NB362_361.out; have hcz16_0 : w14.cell? ⟨gb361, 0, none⟩ = some (.int .i64 a0_0) := (blk_cell BK361.out 0).trans rfl; have hcz16_1 : w14.cell? ⟨gb361, 1, none⟩ = some (.int .i64 a0_1) := (blk_cell BK361.out 1).trans rfl; have hcz16_2 : w14.cell? ⟨gb361, 2, none⟩ = some (.bool a0_2) := (blk_cell BK361.out 2).trans rfl; have hcz16_3 : w14.cell? ⟨gb361, 3, none⟩ = some (.bool a0_3) := (blk_cell BK361.out 3).trans rfl; have hcz16_4 : w14.cell? ⟨gb361, 4, none⟩ = some (.bool a0_4) := (blk_cell BK361.out 4).trans rfl; have hfz16_0 := blk_frozen BK361.out 0; have hfz16_1 := blk_frozen BK361.out 1; have hfz16_2 := blk_frozen BK361.out 2; have hfz16_3 := blk_frozen BK361.out 3; have hfz16_4 := blk_frozen BK361.out 4) | ((with_reducible refine gate_callee (f := 23) rfl ?_); refine gl_ (some 6) Tryd.func23 #[.agg #[.int .i64 a0_0, .int .i64 a0_1, .bool a0_2, .bool a0_3, .bool a0_4]] ?_; (with_reducible refine (spec_StyleOk.calls a0_0 a0_1 a0_2 a0_3 a0_4 true _ A3.out).mono ?_); rintro e w17 ⟨rfl, hb⟩; refine ⟨_, rfl, ?_⟩; have n0_ := am (blk_below (g := gb361) (o := .cells #[.int .i64 a0_0, .int .i64 a0_1, .bool a0_2, .bool a0_3, .bool a0_4] 25 (0, 0)) (rk BK361) hb); have n1_ := am (blk_below (g := gb362) (o := .cells #[.int .i64 0, .int .i64 0, .bool false, .bool false, .bool false] 25 (0, 0)) (rk BK362) hb); have n2_ := am (below_step (by repeat (first | (with_reducible first | exact HB.out | apply b1 | apply b2 | apply b3 | refine below_set ?_ GE361.out | refine below_set ?_ GE362.out) | exact HB.out)) hb); clear BK361; clear BK362; clear HB; have BK361 := n0_; have BK362 := n1_; have HB := n2_; clear n0_ n1_ n2_; (try clear hb); (try clear hb2); (try clear hk); (try clear hi); have hcz18_0 : w17.cell? ⟨gb361, 0, none⟩ = some (.int .i64 a0_0) := (blk_cell BK361.out 0).trans rfl; have hcz18_1 : w17.cell? ⟨gb361, 1, none⟩ = some (.int .i64 a0_1) := (blk_cell BK361.out 1).trans rfl; have hcz18_2 : w17.cell? ⟨gb361, 2, none⟩ = some (.bool a0_2) := (blk_cell BK361.out 2).trans rfl; have hcz18_3 : w17.cell? ⟨gb361, 3, none⟩ = some (.bool a0_3) := (blk_cell BK361.out 3).trans rfl; have hcz18_4 : w17.cell? ⟨gb361, 4, none⟩ = some (.bool a0_4) := (blk_cell BK361.out 4).trans rfl; have hfz18_0 := blk_frozen BK361.out 0; have hfz18_1 := blk_frozen BK361.out 1; have hfz18_2 := blk_frozen BK361.out 2; have hfz18_3 := blk_frozen BK361.out 3; have hfz18_4 := blk_frozen BK361.out 4) | ((with_reducible refine gate_callee (f := 42) rfl ?_); refine gl_ (some 16) Tryd.func42 #[.agg #[.int .i64 a0_0, .int .i64 a0_1, .bool a0_2, .bool a0_3, .bool a0_4], .slice A1 l1.length c1] ?_; (with_reducible refine (spec_l3Styled.calls k a0_0 a0_1 a0_2 a0_3 a0_4 _ _ l1 t364 t365 t366 t367 t368 _ ?side1 ?side2 A12.out).mono ?_); (case side1 => exact rc ((Kd.C_below HR1.out HB.out))); (case side2 => exact HC1.out); rintro e w19 ⟨rfl, hb⟩; refine ⟨_, rfl, ?_⟩; have n0_ := am (blk_below (g := gb361) (o := .cells #[.int .i64 a0_0, .int .i64 a0_1, .bool a0_2, .bool a0_3, .bool a0_4] 25 (0, 0)) (rk BK361) hb); have n1_ := am (blk_below (g := gb362) (o := .cells #[.int .i64 0, .int .i64 0, .bool false, .bool false, .bool false] 25 (0, 0)) (rk BK362) hb); have n2_ := am (below_step (by repeat (first | (with_reducible first | exact HB.out | apply b1 | apply b2 | apply b3 | refine below_set ?_ GE361.out | refine below_set ?_ GE362.out) | exact HB.out)) hb); clear BK361; clear BK362; clear HB; have BK361 := n0_; have BK362 := n1_; have HB := n2_; clear n0_ n1_ n2_; (try clear hb); (try clear hb2); (try clear hk); (try clear hi); have hcz20_0 : w19.cell? ⟨gb362, 0, none⟩ = some (.int .i64 0) := (blk_cell BK362.out 0).trans rfl; have hcz20_1 : w19.cell? ⟨gb362, 1, none⟩ = some (.int .i64 0) := (blk_cell BK362.out 1).trans rfl; have hcz20_2 : w19.cell? ⟨gb362, 2, none⟩ = some (.bool false) := (blk_cell BK362.out 2).trans rfl; have hcz20_3 : w19.cell? ⟨gb362, 3, none⟩ = some (.bool false) := (blk_cell BK362.out 3).trans rfl; have hcz20_4 : w19.cell? ⟨gb362, 4, none⟩ = some (.bool false) := (blk_cell BK362.out 4).trans rfl; have hfz20_0 := blk_frozen BK362.out 0; have hfz20_1 := blk_frozen BK362.out 1; have hfz20_2 := blk_frozen BK362.out 2; have hfz20_3 := blk_frozen BK362.out 3; have hfz20_4 := blk_frozen BK362.out 4))
   refine bodyPost_ret (results_cell_row rfl _ _ gb362 25 #[.int .i64 t364, .int .i64 t365, .bool t366, .bool t367, .bool t368] (0, 0) _ rfl (by (with_reducible repeat (first | apply k1 | apply k2 | apply k3)); refine blk_put (cs := #[.int .i64 t364, .int .i64 t365, .bool t366, .bool t367, .bool false]) ?_ 4 _ rfl; (with_reducible repeat (first | apply k1 | apply k2 | apply k3)); refine blk_put (cs := #[.int .i64 t364, .int .i64 t365, .bool t366, .bool false, .bool false]) ?_ 3 _ rfl; (with_reducible repeat (first | apply k1 | apply k2 | apply k3)); refine blk_put (cs := #[.int .i64 t364, .int .i64 t365, .bool false, .bool false, .bool false]) ?_ 2 _ rfl; (with_reducible repeat (first | apply k1 | apply k2 | apply k3)); refine blk_put (cs := #[.int .i64 t364, .int .i64 0, .bool false, .bool false, .bool false]) ?_ 1 _ rfl; (with_reducible repeat (first | apply k1 | apply k2 | apply k3)); refine blk_put (cs := #[.int .i64 0, .int .i64 0, .bool false, .bool false, .bool false]) ?_ 0 _ rfl; (with_reducible repeat (first | apply k1 | apply k2 | apply k3)); exact BK362.out) Tryd.underlying25 rfl (by kernel_rfl)) rfl ?_
   exact ⟨by first | rfl | (simp [errW_none, errW_some] <;> rfl) | (simp [*, errW_none, errW_some] <;> rfl), by repeat (first | (with_reducible first | exact HB.out | apply b1 | apply b2 | apply b3 | refine below_set ?_ GE361.out | refine below_set ?_ GE362.out) | exact HB.out)⟩
 ·replace c4 := Bool.eq_false_iff.mpr c4
  subst c4
  have H1 : (some (0, 0, false, false, false)) = some (r1, r2, r3, r4, r5) := by rw [if_neg (show ¬ (false = true) by decide)] at H; exact H
  clear H
  have H := H1
  clear H1
  simp only [Option.some.injEq, Prod.mk.injEq] at H
  obtain ⟨rfl, rfl, rfl, rfl, rfl⟩ := H
  go_enter Tryd.func19, Tryd.ntmps19
  go_wp2_with (first | ((with_reducible refine gate_dst (N := 2) rfl ?_); (try (refine gate_guard (by rfl) ?_; dsimp only)); refine box_event ?hg (N := 2) ?hd (cs := #[.int .i64 a0_0, .int .i64 a0_1, .bool a0_2, .bool a0_3, .bool a0_4]) (t := 25) ?hr ?_; (case hd => rfl); (case hg => rfl); (case hr => first | (go_simp; done) | (go_simp; rfl)); intro gb361 hg w21 hbox hb; have n0_ := am (below_step (rb HB) hb); have n1_ := am (hbox); have n2_ := am ((by rw [hg]; exact (below_size (rb HB)) : w.heap.size ≤ gb361)); have n3_ := am ((by rw [hg]; exact (below_size (rb HB)) : w.heap.size ≤ gb361)); clear HB; have HB := n0_; have BK361 := n1_; have GW361 := n2_; have GE361 := n3_; clear n0_ n1_ n2_ n3_; clear hb hbox hg) | ((with_reducible refine gate_dst (N := 4) rfl ?_); (try (refine gate_guard (by rfl) ?_; dsimp only)); refine box_event ?hg (N := 4) ?hd (cs := #[.int .i64 0, .int .i64 0, .bool false, .bool false, .bool false]) (t := 25) ?hr ?_; (case hd => rfl); (case hg => rfl); (case hr => first | (go_simp; done) | (go_simp; rfl)); intro gb362 hg w22 hbox hb; have n0_ := am (blk_below (g := gb361) (o := .cells #[.int .i64 a0_0, .int .i64 a0_1, .bool a0_2, .bool a0_3, .bool a0_4] 25 (0, 0)) (rk BK361) hb); have n1_ := am (below_step (rb1 HB GE361) hb); have n2_ := am (hbox); have n3_ := am ((by rw [hg]; exact (below_size (rb1 HB GE361)) : w.heap.size ≤ gb362)); have n4_ := am ((by rw [hg]; exact (below_size (rb1 HB GE361)) : w.heap.size ≤ gb362)); have n5_ := am ((by rw [hg]; exact Nat.ne_of_lt (blk_lt (g := gb361) (o := .cells #[.int .i64 a0_0, .int .i64 a0_1, .bool a0_2, .bool a0_3, .bool a0_4] 25 (0, 0)) (rk BK361)) : gb361 ≠ gb362)); have n6_ := am ((by rw [hg]; exact Nat.ne_of_gt (blk_lt (g := gb361) (o := .cells #[.int .i64 a0_0, .int .i64 a0_1, .bool a0_2, .bool a0_3, .bool a0_4] 25 (0, 0)) (rk BK361)) : gb362 ≠ gb361)); clear BK361; clear HB; have BK361 := n0_; have HB := n1_; have BK362 := n2_; have GW362 := n3_; have GE362 := n4_; have NB361_362 := n5_; have NB362_361 := n6_; clear n0_ n1_ n2_ n3_ n4_ n5_ n6_; clear hb hbox hg; have hnb23 := NB361_362.out; have hnc23 := NB362_361.out; have hcz24_0 : w22.cell? ⟨gb361, 0, none⟩ = some (.int .i64 a0_0) := (blk_cell BK361.out 0).trans rfl; have hcz24_1 : w22.cell? ⟨gb361, 1, none⟩ = some (.int .i64 a0_1) := (blk_cell BK361.out 1).trans rfl; have hcz24_2 : w22.cell? ⟨gb361, 2, none⟩ = some (.bool a0_2) := (blk_cell BK361.out 2).trans rfl; have hcz24_3 : w22.cell? ⟨gb361, 3, none⟩ = some (.bool a0_3) := (blk_cell BK361.out 3).trans rfl; have hcz24_4 : w22.cell? ⟨gb361, 4, none⟩ = some (.bool a0_4) := (blk_cell BK361.out 4).trans rfl; have hfz24_0 := blk_frozen BK361.out 0; have hfz24_1 := blk_frozen BK361.out 1; have hfz24_2 := blk_frozen BK361.out 2; have hfz24_3 := blk_frozen BK361.out 3; have hfz24_4 := blk_frozen BK361.out 4) | ((with_reducible refine gate_callee (f := 23) rfl ?_); refine gl_ (some 6) Tryd.func23 #[.agg #[.int .i64 a0_0, .int .i64 a0_1, .bool a0_2, .bool a0_3, .bool a0_4]] ?_; (with_reducible refine (spec_StyleOk.calls a0_0 a0_1 a0_2 a0_3 a0_4 false _ A3.out).mono ?_); rintro e w25 ⟨rfl, hb⟩; refine ⟨_, rfl, ?_⟩; have n0_ := am (blk_below (g := gb361) (o := .cells #[.int .i64 a0_0, .int .i64 a0_1, .bool a0_2, .bool a0_3, .bool a0_4] 25 (0, 0)) (rk BK361) hb); have n1_ := am (blk_below (g := gb362) (o := .cells #[.int .i64 0, .int .i64 0, .bool false, .bool false, .bool false] 25 (0, 0)) (rk BK362) hb); have n2_ := am (below_step (by repeat (first | (with_reducible first | exact HB.out | apply b1 | apply b2 | apply b3 | refine below_set ?_ GE361.out | refine below_set ?_ GE362.out) | exact HB.out)) hb); clear BK361; clear BK362; clear HB; have BK361 := n0_; have BK362 := n1_; have HB := n2_; clear n0_ n1_ n2_; (try clear hb); (try clear hb2); (try clear hk); (try clear hi); have hcz26_0 : w25.cell? ⟨gb362, 0, none⟩ = some (.int .i64 0) := (blk_cell BK362.out 0).trans rfl; have hcz26_1 : w25.cell? ⟨gb362, 1, none⟩ = some (.int .i64 0) := (blk_cell BK362.out 1).trans rfl; have hcz26_2 : w25.cell? ⟨gb362, 2, none⟩ = some (.bool false) := (blk_cell BK362.out 2).trans rfl; have hcz26_3 : w25.cell? ⟨gb362, 3, none⟩ = some (.bool false) := (blk_cell BK362.out 3).trans rfl; have hcz26_4 : w25.cell? ⟨gb362, 4, none⟩ = some (.bool false) := (blk_cell BK362.out 4).trans rfl; have hfz26_0 := blk_frozen BK362.out 0; have hfz26_1 := blk_frozen BK362.out 1; have hfz26_2 := blk_frozen BK362.out 2; have hfz26_3 := blk_frozen BK362.out 3; have hfz26_4 := blk_frozen BK362.out 4))
  refine bodyPost_ret (results_cell_row rfl _ _ gb362 25 #[.int .i64 0, .int .i64 0, .bool false, .bool false, .bool false] (0, 0) _ rfl (by (with_reducible repeat (first | apply k1 | apply k2 | apply k3)); refine blk_put (cs := #[.int .i64 0, .int .i64 0, .bool false, .bool false, .bool false]) ?_ 4 _ rfl; (with_reducible repeat (first | apply k1 | apply k2 | apply k3)); refine blk_put (cs := #[.int .i64 0, .int .i64 0, .bool false, .bool false, .bool false]) ?_ 3 _ rfl; (with_reducible repeat (first | apply k1 | apply k2 | apply k3)); refine blk_put (cs := #[.int .i64 0, .int .i64 0, .bool false, .bool false, .bool false]) ?_ 2 _ rfl; (with_reducible repeat (first | apply k1 | apply k2 | apply k3)); refine blk_put (cs := #[.int .i64 0, .int .i64 0, .bool false, .bool false, .bool false]) ?_ 1 _ rfl; (with_reducible repeat (first | apply k1 | apply k2 | apply k3)); refine blk_put (cs := #[.int .i64 0, .int .i64 0, .bool false, .bool false, .bool false]) ?_ 0 _ rfl; (with_reducible repeat (first | apply k1 | apply k2 | apply k3)); exact BK362.out) Tryd.underlying25 rfl (by kernel_rfl)) rfl ?_
  exact ⟨by first | rfl | (simp [errW_none, errW_some] <;> rfl) | (simp [*, errW_none, errW_some] <;> rfl), by repeat (first | (with_reducible first | exact HB.out | apply b1 | apply b2 | apply b3 | refine below_set ?_ GE361.out | refine below_set ?_ GE362.out) | exact HB.out)⟩

end Go.Proofs.YtbgekmchjdkjiaaDoor.PB
