/- Contracts of Go functions that laws of this seat reach: each Lean function answers as its Go function does. No condition. Written by wip/tools/inj.py, over the kit's print. -/
import Derived.Test.YtbgekmchjdkjiaaDoorPBx0
import Derived.Test.YtbgekmchjdkjiaaDoorPBx1
import Derived.Test.YtbgekmchjdkjiaaDoorPBx2
namespace Go.Proofs.YtbgekmchjdkjiaaDoor.PB
open Go.RowKit Go.Proofs.YtbgekmchjdkjiaaDoorW.PrintWords Go.Proofs.YtbgekmchjdkjiaaDoorW.PrintLast Go.Proofs.YtbgekmchjdkjiaaDoorW.PrintMore
attribute [local go_sem] max2_int min2_int max_two min_two max_three min_three max_four min_four   -- for this text's walks alone
set_option linter.unusedVariables false
set_option linter.unusedSimpArgs false

attribute [local go_sem high] eqA25
/-! ### spec_l3Params: function 43 -/
mutual
def spec_l3Params.j0 : Nat → List Int → Bool → Int → Int → Bool → Bool → Bool → Int → Int → Bool → Bool → Bool → Option (List Int)
 | 0, _, _, _, _, _, _, _, _, _, _, _, _ => none
 | k + 1, x5, x16, x105000, x105001, x105002, x105003, x105004, x106000, x106001, x106002, x106003, x106004 => if x16 = true then (some (([0] : List Int))) else (if (x105002 != x106002) = true then ((spec_l3Flag.f x106002 1 22).bind fun t113 => (if x5.length < 17592186044416 then (spec_l3Params.j1 k (x5 ++ [t113]) x105000 x105001 x105002 x105003 x105004 x106000 x106001 x106002 x106003 x106004) else (none))) else (spec_l3Params.j1 k x5 x105000 x105001 x105002 x105003 x105004 x106000 x106001 x106002 x106003 x106004))
def spec_l3Params.j1 : Nat → List Int → Int → Int → Bool → Bool → Bool → Int → Int → Bool → Bool → Bool → Option (List Int)
 | 0, _, _, _, _, _, _, _, _, _, _, _ => none
 | k + 1, x5, x105000, x105001, x105002, x105003, x105004, x106000, x106001, x106002, x106003, x106004 => if (x105003 != x106003) = true then ((spec_l3Flag.f x106003 4 24).bind fun t117 => (if x5.length < 17592186044416 then (spec_l3Params.j2 k (x5 ++ [t117]) x105000 x105001 x105002 x105003 x105004 x106000 x106001 x106002 x106003 x106004) else (none))) else (spec_l3Params.j2 k x5 x105000 x105001 x105002 x105003 x105004 x106000 x106001 x106002 x106003 x106004)
def spec_l3Params.j2 : Nat → List Int → Int → Int → Bool → Bool → Bool → Int → Int → Bool → Bool → Bool → Option (List Int)
 | 0, _, _, _, _, _, _, _, _, _, _, _ => none
 | k + 1, x5, x105000, x105001, x105002, x105003, x105004, x106000, x106001, x106002, x106003, x106004 => if (x105004 != x106004) = true then ((spec_l3Flag.f x106004 7 27).bind fun t121 => (if x5.length < 17592186044416 then (spec_l3Params.j3 k (x5 ++ [t121]) x105000 x105001 x105002 x105003 x105004 x106000 x106001 x106002 x106003 x106004) else (none))) else (spec_l3Params.j3 k x5 x105000 x105001 x105002 x105003 x105004 x106000 x106001 x106002 x106003 x106004)
def spec_l3Params.j3 : Nat → List Int → Int → Int → Bool → Bool → Bool → Int → Int → Bool → Bool → Bool → Option (List Int)
 | 0, _, _, _, _, _, _, _, _, _, _, _ => none
 | k + 1, x5, x105000, x105001, x105002, x105003, x105004, x106000, x106001, x106002, x106003, x106004 => if x105000 = x106000 then (if x105001 = x106001 then (some x5) else ((spec_l3Flag.f (x106001 == 0) 49 (wrap64 (39 + x106001))).bind fun t125 => (if x5.length < 17592186044416 then (some (x5 ++ [t125])) else (none)))) else ((spec_l3Flag.f (x106000 == 0) 39 (wrap64 (29 + x106000))).bind fun t129 => (if x5.length < 17592186044416 then ((some (x5 ++ [t129] : List Int)).bind fun y130 => (if x105001 = x106001 then (some y130) else ((spec_l3Flag.f (x106001 == 0) 49 (wrap64 (39 + x106001))).bind fun t133 => (if y130.length < 17592186044416 then (some (y130 ++ [t133])) else (none))))) else (none)))
end
def spec_l3Params.f (k : Nat) (a0_0 : Int) (a0_1 : Int) (a0_2 : Bool) (a0_3 : Bool) (a0_4 : Bool) (a1_0 : Int) (a1_1 : Int) (a1_2 : Bool) (a1_3 : Bool) (a1_4 : Bool) : Option (List Int) := (some (([] : List Int) : List Int)).bind fun y106 => (if (a1_0 == 0 && (a1_1 == 0 && (!a1_2 && (!a1_3 && (!a1_4))))) = true then (spec_l3Params.j0 k y106 (!(a0_0 == 0) || (!(a0_1 == 0) || (a0_2 || (a0_3 || (a0_4))))) a0_0 a0_1 a0_2 a0_3 a0_4 a1_0 a1_1 a1_2 a1_3 a1_4) else (spec_l3Params.j0 k y106 false a0_0 a0_1 a0_2 a0_3 a0_4 a1_0 a1_1 a1_2 a1_3 a1_4))
theorem spec_l3Params.mono_l : ∀ k, (∀ y0 y1 y2 y3 y4 y5 y6 y7 y8 y9 y10 y11, LeO (spec_l3Params.j0 k y0 y1 y2 y3 y4 y5 y6 y7 y8 y9 y10 y11) (spec_l3Params.j0 (k + 1) y0 y1 y2 y3 y4 y5 y6 y7 y8 y9 y10 y11)) ∧ (∀ y0 y1 y2 y3 y4 y5 y6 y7 y8 y9 y10, LeO (spec_l3Params.j1 k y0 y1 y2 y3 y4 y5 y6 y7 y8 y9 y10) (spec_l3Params.j1 (k + 1) y0 y1 y2 y3 y4 y5 y6 y7 y8 y9 y10)) ∧ (∀ y0 y1 y2 y3 y4 y5 y6 y7 y8 y9 y10, LeO (spec_l3Params.j2 k y0 y1 y2 y3 y4 y5 y6 y7 y8 y9 y10) (spec_l3Params.j2 (k + 1) y0 y1 y2 y3 y4 y5 y6 y7 y8 y9 y10)) ∧ (∀ y0 y1 y2 y3 y4 y5 y6 y7 y8 y9 y10, LeO (spec_l3Params.j3 k y0 y1 y2 y3 y4 y5 y6 y7 y8 y9 y10) (spec_l3Params.j3 (k + 1) y0 y1 y2 y3 y4 y5 y6 y7 y8 y9 y10))
 | 0 => ⟨fun _ _ _ _ _ _ _ _ _ _ _ _ r h => by simp [spec_l3Params.j0] at h, fun _ _ _ _ _ _ _ _ _ _ _ r h => by simp [spec_l3Params.j1] at h, fun _ _ _ _ _ _ _ _ _ _ _ r h => by simp [spec_l3Params.j2] at h, fun _ _ _ _ _ _ _ _ _ _ _ r h => by simp [spec_l3Params.j3] at h⟩
 | k + 1 => by
  obtain ⟨ih0, ih1, ih2, ih3⟩ := spec_l3Params.mono_l k
  refine ⟨?_, ?_, ?_, ?_⟩
  ·intro y0 y1 y2 y3 y4 y5 y6 y7 y8 y9 y10 y11
   unfold spec_l3Params.j0
   repeat' first
   | (with_reducible exact ih0 _ _ _ _ _ _ _ _ _ _ _ _)
   | (with_reducible exact ih1 _ _ _ _ _ _ _ _ _ _ _)
   | (with_reducible exact ih2 _ _ _ _ _ _ _ _ _ _ _)
   | (with_reducible exact ih3 _ _ _ _ _ _ _ _ _ _ _)
   | (with_reducible exact LeO.refl _)
   | (with_reducible exact LeO.none _)
   | (with_reducible refine LeO.ite ?_ ?_)
   | (with_reducible refine LeO.bind ?_ (fun _ => ?_))
   | exact ih0 _ _ _ _ _ _ _ _ _ _ _ _
   | exact ih1 _ _ _ _ _ _ _ _ _ _ _
   | exact ih2 _ _ _ _ _ _ _ _ _ _ _
   | exact ih3 _ _ _ _ _ _ _ _ _ _ _
   | exact LeO.none _
   | refine LeO.ite ?_ ?_
   | refine LeO.bind ?_ (fun _ => ?_)
  ·intro y0 y1 y2 y3 y4 y5 y6 y7 y8 y9 y10
   unfold spec_l3Params.j1
   repeat' first
   | (with_reducible exact ih0 _ _ _ _ _ _ _ _ _ _ _ _)
   | (with_reducible exact ih1 _ _ _ _ _ _ _ _ _ _ _)
   | (with_reducible exact ih2 _ _ _ _ _ _ _ _ _ _ _)
   | (with_reducible exact ih3 _ _ _ _ _ _ _ _ _ _ _)
   | (with_reducible exact LeO.refl _)
   | (with_reducible exact LeO.none _)
   | (with_reducible refine LeO.ite ?_ ?_)
   | (with_reducible refine LeO.bind ?_ (fun _ => ?_))
   | exact ih0 _ _ _ _ _ _ _ _ _ _ _ _
   | exact ih1 _ _ _ _ _ _ _ _ _ _ _
   | exact ih2 _ _ _ _ _ _ _ _ _ _ _
   | exact ih3 _ _ _ _ _ _ _ _ _ _ _
   | exact LeO.none _
   | refine LeO.ite ?_ ?_
   | refine LeO.bind ?_ (fun _ => ?_)
  ·intro y0 y1 y2 y3 y4 y5 y6 y7 y8 y9 y10
   unfold spec_l3Params.j2
   repeat' first
   | (with_reducible exact ih0 _ _ _ _ _ _ _ _ _ _ _ _)
   | (with_reducible exact ih1 _ _ _ _ _ _ _ _ _ _ _)
   | (with_reducible exact ih2 _ _ _ _ _ _ _ _ _ _ _)
   | (with_reducible exact ih3 _ _ _ _ _ _ _ _ _ _ _)
   | (with_reducible exact LeO.refl _)
   | (with_reducible exact LeO.none _)
   | (with_reducible refine LeO.ite ?_ ?_)
   | (with_reducible refine LeO.bind ?_ (fun _ => ?_))
   | exact ih0 _ _ _ _ _ _ _ _ _ _ _ _
   | exact ih1 _ _ _ _ _ _ _ _ _ _ _
   | exact ih2 _ _ _ _ _ _ _ _ _ _ _
   | exact ih3 _ _ _ _ _ _ _ _ _ _ _
   | exact LeO.none _
   | refine LeO.ite ?_ ?_
   | refine LeO.bind ?_ (fun _ => ?_)
  ·intro y0 y1 y2 y3 y4 y5 y6 y7 y8 y9 y10
   unfold spec_l3Params.j3
   repeat' first
   | (with_reducible exact ih0 _ _ _ _ _ _ _ _ _ _ _ _)
   | (with_reducible exact ih1 _ _ _ _ _ _ _ _ _ _ _)
   | (with_reducible exact ih2 _ _ _ _ _ _ _ _ _ _ _)
   | (with_reducible exact ih3 _ _ _ _ _ _ _ _ _ _ _)
   | (with_reducible exact LeO.refl _)
   | (with_reducible exact LeO.none _)
   | (with_reducible refine LeO.ite ?_ ?_)
   | (with_reducible refine LeO.bind ?_ (fun _ => ?_))
   | exact ih0 _ _ _ _ _ _ _ _ _ _ _ _
   | exact ih1 _ _ _ _ _ _ _ _ _ _ _
   | exact ih2 _ _ _ _ _ _ _ _ _ _ _
   | exact ih3 _ _ _ _ _ _ _ _ _ _ _
   | exact LeO.none _
   | refine LeO.ite ?_ ?_
   | refine LeO.bind ?_ (fun _ => ?_)
theorem spec_l3Params.mono : ∀ a0 a1 a2 a3 a4 a5 a6 a7 a8 a9 k, LeO (spec_l3Params.f k a0 a1 a2 a3 a4 a5 a6 a7 a8 a9) (spec_l3Params.f (k + 1) a0 a1 a2 a3 a4 a5 a6 a7 a8 a9) := by
 intro a0 a1 a2 a3 a4 a5 a6 a7 a8 a9 k
 obtain ⟨ih0, ih1, ih2, ih3⟩ := spec_l3Params.mono_l k
 unfold spec_l3Params.f
 repeat' first
   | (with_reducible exact ih0 _ _ _ _ _ _ _ _ _ _ _ _)
   | (with_reducible exact ih1 _ _ _ _ _ _ _ _ _ _ _)
   | (with_reducible exact ih2 _ _ _ _ _ _ _ _ _ _ _)
   | (with_reducible exact ih3 _ _ _ _ _ _ _ _ _ _ _)
   | (with_reducible exact LeO.refl _)
   | (with_reducible exact LeO.none _)
   | (with_reducible refine LeO.ite ?_ ?_)
   | (with_reducible refine LeO.bind ?_ (fun _ => ?_))
   | exact ih0 _ _ _ _ _ _ _ _ _ _ _ _
   | exact ih1 _ _ _ _ _ _ _ _ _ _ _
   | exact ih2 _ _ _ _ _ _ _ _ _ _ _
   | exact ih3 _ _ _ _ _ _ _ _ _ _ _
   | exact LeO.none _
   | refine LeO.ite ?_ ?_
   | refine LeO.bind ?_ (fun _ => ?_)
set_option maxHeartbeats 8000000 in
set_option maxRecDepth 100000 in
theorem spec_l3Params.calls (k : Nat) (a0_0 : Int) (a0_1 : Int) (a0_2 : Bool) (a0_3 : Bool) (a0_4 : Bool) (a1_0 : Int) (a1_1 : Int) (a1_2 : Bool) (a1_3 : Bool) (a1_4 : Bool) (r : List Int) (w : World) (h : spec_l3Params.f k a0_0 a0_1 a0_2 a0_3 a0_4 a1_0 a1_1 a1_2 a1_3 a1_4 = some r) :
  Calls Tryd.prog 43 #[.agg #[.int .i64 a0_0, .int .i64 a0_1, .bool a0_2, .bool a0_3, .bool a0_4], .agg #[.int .i64 a1_0, .int .i64 a1_1, .bool a1_2, .bool a1_3, .bool a1_4]] w fun e w' => ∃ v0_ : Value, e = .returned (v0_) ∧ Kd.R (Kd.int .i64) 2 w' w.heap.size (fun _ => True) v0_ r ∧ Below w.heap.size w w' := by
 have hu25 := Tryd.underlying25
 have HB := am (Below.refl w.heap.size w)
 have H : ((some (([] : List Int) : List Int)).bind fun y106 => (if (a1_0 == 0 && (a1_1 == 0 && (!a1_2 && (!a1_3 && (!a1_4))))) = true then (spec_l3Params.j0 k y106 (!(a0_0 == 0) || (!(a0_1 == 0) || (a0_2 || (a0_3 || (a0_4))))) a0_0 a0_1 a0_2 a0_3 a0_4 a1_0 a1_1 a1_2 a1_3 a1_4) else (spec_l3Params.j0 k y106 false a0_0 a0_1 a0_2 a0_3 a0_4 a1_0 a1_1 a1_2 a1_3 a1_4))) = some r := h
 clear h
 obtain ⟨y106, hy106⟩ : ∃ y_ : List Int, y_ = (([] : List Int)) := ⟨_, rfl⟩
 replace H : (if (a1_0 == 0 && (a1_1 == 0 && (!a1_2 && (!a1_3 && (!a1_4))))) = true then (spec_l3Params.j0 k y106 (!(a0_0 == 0) || (!(a0_1 == 0) || (a0_2 || (a0_3 || (a0_4))))) a0_0 a0_1 a0_2 a0_3 a0_4 a1_0 a1_1 a1_2 a1_3 a1_4) else (spec_l3Params.j0 k y106 false a0_0 a0_1 a0_2 a0_3 a0_4 a1_0 a1_1 a1_2 a1_3 a1_4)) = some r := by first | (rw [hy106]; with_reducible exact H) | (rw [hy106]; exact H) | exact H
 have Ny106 := am hy106
 clear hy106
 have HC3 := am H
 clear H
 go_enter Tryd.func43, Tryd.ntmps43
 go_upto_region 3 with (first | ((with_reducible refine gate_dst (N := 2) rfl ?_); refine box_event ?hg (N := 2) ?hd (cs := #[.int .i64 a0_0, .int .i64 a0_1, .bool a0_2, .bool a0_3, .bool a0_4]) (t := 25) ?hr ?_; (case hd => rfl); (case hg => rfl); (case hr => first | (go_simp; done) | (go_simp; rfl)); intro gb104 hg w4 hbox hb; have n0_ := am (below_step (rb HB) hb); have n1_ := am (hbox); have n2_ := am ((by rw [hg]; exact (below_size (rb HB)) : w.heap.size ≤ gb104)); have n3_ := am ((by rw [hg]; exact (below_size (rb HB)) : w.heap.size ≤ gb104)); clear HB; have HB := n0_; have BK104 := n1_; have GW104 := n2_; have GE104 := n3_; clear n0_ n1_ n2_ n3_; clear hb hbox hg) | ((with_reducible refine gate_dst (N := 3) rfl ?_); refine box_event ?hg (N := 3) ?hd (cs := #[.int .i64 a1_0, .int .i64 a1_1, .bool a1_2, .bool a1_3, .bool a1_4]) (t := 25) ?hr ?_; (case hd => rfl); (case hg => rfl); (case hr => first | (go_simp; done) | (go_simp; rfl)); intro gb105 hg w5 hbox hb; have n0_ := am (blk_below (g := gb104) (o := .cells #[.int .i64 a0_0, .int .i64 a0_1, .bool a0_2, .bool a0_3, .bool a0_4] 25 (0, 0)) (rk BK104) hb); have n1_ := am (below_step (rb1 HB GE104) hb); have n2_ := am (hbox); have n3_ := am ((by rw [hg]; exact (below_size (rb1 HB GE104)) : w.heap.size ≤ gb105)); have n4_ := am ((by rw [hg]; exact (below_size (rb1 HB GE104)) : w.heap.size ≤ gb105)); have n5_ := am ((by rw [hg]; exact Nat.ne_of_lt (blk_lt (g := gb104) (o := .cells #[.int .i64 a0_0, .int .i64 a0_1, .bool a0_2, .bool a0_3, .bool a0_4] 25 (0, 0)) (rk BK104)) : gb104 ≠ gb105)); have n6_ := am ((by rw [hg]; exact Nat.ne_of_gt (blk_lt (g := gb104) (o := .cells #[.int .i64 a0_0, .int .i64 a0_1, .bool a0_2, .bool a0_3, .bool a0_4] 25 (0, 0)) (rk BK104)) : gb105 ≠ gb104)); clear BK104; clear HB; have BK104 := n0_; have HB := n1_; have BK105 := n2_; have GW105 := n3_; have GE105 := n4_; have NB104_105 := n5_; have NB105_104 := n6_; clear n0_ n1_ n2_ n3_ n4_ n5_ n6_; clear hb hbox hg) | ((with_reducible refine gate_dst (N := 7) rfl ?_); refine Kd.R_lit (Kd.int .i64) _ 2 ?hg (N := 7) ?hd (xs := ([] : List Int)) (inner := []) (ok := fun _ => True) (okp := fun _ => True) ?hr ?hp (fun _ hk => hk) trivial (Below.refl _ _) (Nat.le_refl _) (by simp) ?_; (case hd => rfl); (case hg => rfl); (case hr => first | (go_simp; done) | (go_simp; rfl)); (case hp => exact (Reps.none _ _)); intro v107 w6 ho7 hb hg_ hnew_; clear hg_ hnew_; (first | rw [← Ny106.out] at ho7 | (simp only [Int.reduceToNat] at ho7; rw [← Ny106.out] at ho7)); have n0_ := am (Kd.R_lower ho7 (below_size (by repeat (first | (with_reducible first | exact HB.out | apply b1 | apply b2 | apply b3 | refine below_set ?_ GE104.out | refine below_set ?_ GE105.out) | exact HB.out)))); have n1_ := am (blk_below (g := gb104) (o := .cells #[.int .i64 a0_0, .int .i64 a0_1, .bool a0_2, .bool a0_3, .bool a0_4] 25 (0, 0)) (rk BK104) hb); have n2_ := am (blk_below (g := gb105) (o := .cells #[.int .i64 a1_0, .int .i64 a1_1, .bool a1_2, .bool a1_3, .bool a1_4] 25 (0, 0)) (rk BK105) hb); have n3_ := am (below_step (by repeat (first | (with_reducible first | exact HB.out | apply b1 | apply b2 | apply b3 | refine below_set ?_ GE104.out | refine below_set ?_ GE105.out) | exact HB.out)) hb); clear BK104; clear BK105; clear HB; have HO108 := n0_; have BK104 := n1_; have BK105 := n2_; have HB := n3_; clear n0_ n1_ n2_ n3_; clear hb ho7) | ((with_reducible refine gate_dst (N := 6) rfl ?_); refine box_event ?hg (N := 6) ?hd (cs := #[.int .i64 0, .int .i64 0, .bool false, .bool false, .bool false]) (t := 25) ?hr ?_; (case hd => rfl); (case hg => rfl); (case hr => first | (go_simp; done) | (go_simp; rfl)); intro gb109 hg w8 hbox hb; have n0_ := am (Kd.R_below (rr HO108) hb); have n1_ := am (blk_below (g := gb104) (o := .cells #[.int .i64 a0_0, .int .i64 a0_1, .bool a0_2, .bool a0_3, .bool a0_4] 25 (0, 0)) (rk BK104) hb); have n2_ := am (blk_below (g := gb105) (o := .cells #[.int .i64 a1_0, .int .i64 a1_1, .bool a1_2, .bool a1_3, .bool a1_4] 25 (0, 0)) (rk BK105) hb); have n3_ := am (below_step (by repeat (first | (with_reducible first | exact HB.out | apply b1 | apply b2 | apply b3 | refine below_set ?_ GE104.out | refine below_set ?_ GE105.out) | exact HB.out)) hb); have n4_ := am (hbox); have n5_ := am ((by rw [hg]; exact (below_size (by repeat (first | (with_reducible first | exact HB.out | apply b1 | apply b2 | apply b3 | refine below_set ?_ GE104.out | refine below_set ?_ GE105.out) | exact HB.out))) : w.heap.size ≤ gb109)); have n6_ := am ((by rw [hg]; exact (below_size (by repeat (first | (with_reducible first | exact HB.out | apply b1 | apply b2 | apply b3 | refine below_set ?_ GE104.out | refine below_set ?_ GE105.out) | exact HB.out))) : w.heap.size ≤ gb109)); have n7_ := am ((by rw [hg]; exact Nat.ne_of_lt (blk_lt (g := gb104) (o := .cells #[.int .i64 a0_0, .int .i64 a0_1, .bool a0_2, .bool a0_3, .bool a0_4] 25 (0, 0)) (rk BK104)) : gb104 ≠ gb109)); have n8_ := am ((by rw [hg]; exact Nat.ne_of_gt (blk_lt (g := gb104) (o := .cells #[.int .i64 a0_0, .int .i64 a0_1, .bool a0_2, .bool a0_3, .bool a0_4] 25 (0, 0)) (rk BK104)) : gb109 ≠ gb104)); have n9_ := am ((by rw [hg]; exact Nat.ne_of_lt (blk_lt (g := gb105) (o := .cells #[.int .i64 a1_0, .int .i64 a1_1, .bool a1_2, .bool a1_3, .bool a1_4] 25 (0, 0)) (rk BK105)) : gb105 ≠ gb109)); have n10_ := am ((by rw [hg]; exact Nat.ne_of_gt (blk_lt (g := gb105) (o := .cells #[.int .i64 a1_0, .int .i64 a1_1, .bool a1_2, .bool a1_3, .bool a1_4] 25 (0, 0)) (rk BK105)) : gb109 ≠ gb105)); clear HO108; clear BK104; clear BK105; clear HB; have HO108 := n0_; have BK104 := n1_; have BK105 := n2_; have HB := n3_; have BK109 := n4_; have GW109 := n5_; have GE109 := n6_; have NB104_109 := n7_; have NB109_104 := n8_; have NB105_109 := n9_; have NB109_105 := n10_; clear n0_ n1_ n2_ n3_ n4_ n5_ n6_ n7_ n8_ n9_ n10_; clear hb hbox hg; have hnb9 := NB109_104.out; have hnc9 := NB104_109.out; have hnb10 := NB109_105.out; have hnc10 := NB105_109.out; have hcz11_0 : w8.cell? ⟨gb109, 0, none⟩ = some (.int .i64 0) := (blk_cell BK109.out 0).trans rfl; have hcz11_1 : w8.cell? ⟨gb109, 1, none⟩ = some (.int .i64 0) := (blk_cell BK109.out 1).trans rfl; have hcz11_2 : w8.cell? ⟨gb109, 2, none⟩ = some (.bool false) := (blk_cell BK109.out 2).trans rfl; have hcz11_3 : w8.cell? ⟨gb109, 3, none⟩ = some (.bool false) := (blk_cell BK109.out 3).trans rfl; have hcz11_4 : w8.cell? ⟨gb109, 4, none⟩ = some (.bool false) := (blk_cell BK109.out 4).trans rfl; have hfz11_0 := blk_frozen BK109.out 0; have hfz11_1 := blk_frozen BK109.out 1; have hfz11_2 := blk_frozen BK109.out 2; have hfz11_3 := blk_frozen BK109.out 3; have hfz11_4 := blk_frozen BK109.out 4))
 (try simp only [Act.put, List.setIfInBounds_toArray, List.set_cons_zero, List.set_cons_succ])
 go_cut [16] (fun v16 wc => ∃ (kq : Nat) (x16_2 : Bool), v16 = .bool x16_2 ∧ Aside0 (spec_l3Params.j0 kq y106 x16_2 a0_0 a0_1 a0_2 a0_3 a0_4 a1_0 a1_1 a1_2 a1_3 a1_4 = some r) ∧ Aside0 (kq ≤ k) ∧ Aside0 (Kd.R (Kd.int .i64) 2 wc w.heap.size (fun _ => True) v107 y106) ∧ Aside0 (wc.heap[gb104]? = some (.cells #[.int .i64 a0_0, .int .i64 a0_1, .bool a0_2, .bool a0_3, .bool a0_4] 25 (0, 0))) ∧ Aside0 (wc.heap[gb105]? = some (.cells #[.int .i64 a1_0, .int .i64 a1_1, .bool a1_2, .bool a1_3, .bool a1_4] 25 (0, 0))) ∧ Aside0 (wc.heap[gb109]? = some (.cells #[.int .i64 0, .int .i64 0, .bool false, .bool false, .bool false] 25 (0, 0))) ∧ Aside0 (Below w.heap.size w wc))
 case first =>
  have H := HC3.out
  clear HC3
  by_cases c12 : (a1_0 == 0 && (a1_1 == 0 && (!a1_2 && (!a1_3 && (!a1_4))))) = true
  ·rw [if_pos c12] at H
   have c12b0 : (a1_0 == 0 && (a1_1 == 0 && (!a1_2 && (!a1_3 && (!a1_4))))) = true := c12
   (try (have c12b1 : decide (a1_0 = 0 && (a1_1 == 0 && (!a1_2 && (!a1_3 && (!a1_4))))) = true := by simpa using c12))
   (try (have c12b2 : (a1_0 == 0 && (a1_1 == 0 && (!a1_2 && (!a1_3 && (!a1_4))))) = true := by simpa using c12))
   clear c12
   (first | rw [c12b0] | (simp only [i64_w, i32_w]; rw [c12b0]) | skip)
   have H' := am H
   clear H
   have hnb13 := NB105_104.out
   have hnc13 := NB104_105.out
   have hnb14 := NB105_109.out
   have hnc14 := NB109_105.out
   have hcz15_0 : w8.cell? ⟨gb105, 0, none⟩ = some (.int .i64 a1_0) := (blk_cell BK105.out 0).trans rfl
   have hcz15_1 : w8.cell? ⟨gb105, 1, none⟩ = some (.int .i64 a1_1) := (blk_cell BK105.out 1).trans rfl
   have hcz15_2 : w8.cell? ⟨gb105, 2, none⟩ = some (.bool a1_2) := (blk_cell BK105.out 2).trans rfl
   have hcz15_3 : w8.cell? ⟨gb105, 3, none⟩ = some (.bool a1_3) := (blk_cell BK105.out 3).trans rfl
   have hcz15_4 : w8.cell? ⟨gb105, 4, none⟩ = some (.bool a1_4) := (blk_cell BK105.out 4).trans rfl
   have hfz15_0 := blk_frozen BK105.out 0
   have hfz15_1 := blk_frozen BK105.out 1
   have hfz15_2 := blk_frozen BK105.out 2
   have hfz15_3 := blk_frozen BK105.out 3
   have hfz15_4 := blk_frozen BK105.out 4
   have hnb16 := NB109_104.out
   have hnc16 := NB104_109.out
   have hcz17_0 : w8.cell? ⟨gb109, 0, none⟩ = some (.int .i64 0) := (blk_cell BK109.out 0).trans rfl
   have hcz17_1 : w8.cell? ⟨gb109, 1, none⟩ = some (.int .i64 0) := (blk_cell BK109.out 1).trans rfl
   have hcz17_2 : w8.cell? ⟨gb109, 2, none⟩ = some (.bool false) := (blk_cell BK109.out 2).trans rfl
   have hcz17_3 : w8.cell? ⟨gb109, 3, none⟩ = some (.bool false) := (blk_cell BK109.out 3).trans rfl
   have hcz17_4 : w8.cell? ⟨gb109, 4, none⟩ = some (.bool false) := (blk_cell BK109.out 4).trans rfl
   have hfz17_0 := blk_frozen BK109.out 0
   have hfz17_1 := blk_frozen BK109.out 1
   have hfz17_2 := blk_frozen BK109.out 2
   have hfz17_3 := blk_frozen BK109.out 3
   have hfz17_4 := blk_frozen BK109.out 4
   have hcz18_0 : w8.cell? ⟨gb104, 0, none⟩ = some (.int .i64 a0_0) := (blk_cell BK104.out 0).trans rfl
   have hcz18_1 : w8.cell? ⟨gb104, 1, none⟩ = some (.int .i64 a0_1) := (blk_cell BK104.out 1).trans rfl
   have hcz18_2 : w8.cell? ⟨gb104, 2, none⟩ = some (.bool a0_2) := (blk_cell BK104.out 2).trans rfl
   have hcz18_3 : w8.cell? ⟨gb104, 3, none⟩ = some (.bool a0_3) := (blk_cell BK104.out 3).trans rfl
   have hcz18_4 : w8.cell? ⟨gb104, 4, none⟩ = some (.bool a0_4) := (blk_cell BK104.out 4).trans rfl
   have hfz18_0 := blk_frozen BK104.out 0
   have hfz18_1 := blk_frozen BK104.out 1
   have hfz18_2 := blk_frozen BK104.out 2
   have hfz18_3 := blk_frozen BK104.out 3
   have hfz18_4 := blk_frozen BK104.out 4
   go_wp2
   go_meet
   case rel => exact ⟨_, ((!(a0_0 == 0) || (!(a0_1 == 0) || (a0_2 || (a0_3 || (a0_4)))))), (by first | rfl | (simp; done) | (simp [*]; done)), H', ⟨by first | omega | exact Nat.le_refl _⟩, ⟨by (with_reducible repeat (first | apply r1 | apply r2 | apply r3)); exact Kd.R_mono (Kd.R_far (p := ⟨gb109, 4, none⟩) (Kd.R_far (p := ⟨gb109, 3, none⟩) (Kd.R_far (p := ⟨gb109, 2, none⟩) (Kd.R_far (p := ⟨gb109, 1, none⟩) (Kd.R_far (p := ⟨gb109, 0, none⟩) (Kd.R_types HO108.out BK109.out (by decide)) (fun _ hk => hk.2) (.int .i64 0)) (fun _ hk => hk.2) (.int .i64 0)) (fun _ hk => hk.2) (.bool false)) (fun _ hk => hk.2) (.bool false)) (fun _ hk => hk.2) (.bool false)) (fun _ hk => trivial)⟩, ⟨by (with_reducible repeat (first | apply k1 | apply k2 | apply k3)); refine blk_far ?_ NB104_109.out _; (with_reducible repeat (first | apply k1 | apply k2 | apply k3)); refine blk_far ?_ NB104_109.out _; (with_reducible repeat (first | apply k1 | apply k2 | apply k3)); refine blk_far ?_ NB104_109.out _; (with_reducible repeat (first | apply k1 | apply k2 | apply k3)); refine blk_far ?_ NB104_109.out _; (with_reducible repeat (first | apply k1 | apply k2 | apply k3)); refine blk_far ?_ NB104_109.out _; (with_reducible repeat (first | apply k1 | apply k2 | apply k3)); exact BK104.out⟩, ⟨by (with_reducible repeat (first | apply k1 | apply k2 | apply k3)); refine blk_far ?_ NB105_109.out _; (with_reducible repeat (first | apply k1 | apply k2 | apply k3)); refine blk_far ?_ NB105_109.out _; (with_reducible repeat (first | apply k1 | apply k2 | apply k3)); refine blk_far ?_ NB105_109.out _; (with_reducible repeat (first | apply k1 | apply k2 | apply k3)); refine blk_far ?_ NB105_109.out _; (with_reducible repeat (first | apply k1 | apply k2 | apply k3)); refine blk_far ?_ NB105_109.out _; (with_reducible repeat (first | apply k1 | apply k2 | apply k3)); exact BK105.out⟩, ⟨by (with_reducible repeat (first | apply k1 | apply k2 | apply k3)); refine blk_put (cs := #[.int .i64 0, .int .i64 0, .bool false, .bool false, .bool false]) ?_ 4 _ rfl; (with_reducible repeat (first | apply k1 | apply k2 | apply k3)); refine blk_put (cs := #[.int .i64 0, .int .i64 0, .bool false, .bool false, .bool false]) ?_ 3 _ rfl; (with_reducible repeat (first | apply k1 | apply k2 | apply k3)); refine blk_put (cs := #[.int .i64 0, .int .i64 0, .bool false, .bool false, .bool false]) ?_ 2 _ rfl; (with_reducible repeat (first | apply k1 | apply k2 | apply k3)); refine blk_put (cs := #[.int .i64 0, .int .i64 0, .bool false, .bool false, .bool false]) ?_ 1 _ rfl; (with_reducible repeat (first | apply k1 | apply k2 | apply k3)); refine blk_put (cs := #[.int .i64 0, .int .i64 0, .bool false, .bool false, .bool false]) ?_ 0 _ rfl; (with_reducible repeat (first | apply k1 | apply k2 | apply k3)); exact BK109.out⟩, ⟨by repeat (first | (with_reducible first | exact HB.out | apply b1 | apply b2 | apply b3 | refine below_set ?_ GE104.out | refine below_set ?_ GE105.out | refine below_set ?_ GE109.out) | exact HB.out)⟩⟩
  ·rw [if_neg c12] at H
   have c12b0 : (a1_0 == 0 && (a1_1 == 0 && (!a1_2 && (!a1_3 && (!a1_4))))) = false := by simpa using c12
   (try (have c12b1 : decide (a1_0 = 0 && (a1_1 == 0 && (!a1_2 && (!a1_3 && (!a1_4))))) = false := by simpa using c12))
   (try (have c12b2 : (a1_0 == 0 && (a1_1 == 0 && (!a1_2 && (!a1_3 && (!a1_4))))) = false := by simpa using c12))
   (try (have c12b3 : ¬ (a1_0 = 0 && (a1_1 == 0 && (!a1_2 && (!a1_3 && (!a1_4))))) := by simpa using c12))
   clear c12
   (first | rw [c12b0] | (simp only [i64_w, i32_w]; rw [c12b0]) | skip)
   have H' := am H
   clear H
   have hnb19 := NB105_104.out
   have hnc19 := NB104_105.out
   have hnb20 := NB105_109.out
   have hnc20 := NB109_105.out
   have hcz21_0 : w8.cell? ⟨gb105, 0, none⟩ = some (.int .i64 a1_0) := (blk_cell BK105.out 0).trans rfl
   have hcz21_1 : w8.cell? ⟨gb105, 1, none⟩ = some (.int .i64 a1_1) := (blk_cell BK105.out 1).trans rfl
   have hcz21_2 : w8.cell? ⟨gb105, 2, none⟩ = some (.bool a1_2) := (blk_cell BK105.out 2).trans rfl
   have hcz21_3 : w8.cell? ⟨gb105, 3, none⟩ = some (.bool a1_3) := (blk_cell BK105.out 3).trans rfl
   have hcz21_4 : w8.cell? ⟨gb105, 4, none⟩ = some (.bool a1_4) := (blk_cell BK105.out 4).trans rfl
   have hfz21_0 := blk_frozen BK105.out 0
   have hfz21_1 := blk_frozen BK105.out 1
   have hfz21_2 := blk_frozen BK105.out 2
   have hfz21_3 := blk_frozen BK105.out 3
   have hfz21_4 := blk_frozen BK105.out 4
   have hnb22 := NB109_104.out
   have hnc22 := NB104_109.out
   have hcz23_0 : w8.cell? ⟨gb109, 0, none⟩ = some (.int .i64 0) := (blk_cell BK109.out 0).trans rfl
   have hcz23_1 : w8.cell? ⟨gb109, 1, none⟩ = some (.int .i64 0) := (blk_cell BK109.out 1).trans rfl
   have hcz23_2 : w8.cell? ⟨gb109, 2, none⟩ = some (.bool false) := (blk_cell BK109.out 2).trans rfl
   have hcz23_3 : w8.cell? ⟨gb109, 3, none⟩ = some (.bool false) := (blk_cell BK109.out 3).trans rfl
   have hcz23_4 : w8.cell? ⟨gb109, 4, none⟩ = some (.bool false) := (blk_cell BK109.out 4).trans rfl
   have hfz23_0 := blk_frozen BK109.out 0
   have hfz23_1 := blk_frozen BK109.out 1
   have hfz23_2 := blk_frozen BK109.out 2
   have hfz23_3 := blk_frozen BK109.out 3
   have hfz23_4 := blk_frozen BK109.out 4
   go_wp2
   go_meet
   case rel => exact ⟨_, (false), (by first | rfl | (simp; done) | (simp [*]; done)), H', ⟨by first | omega | exact Nat.le_refl _⟩, ⟨by (with_reducible repeat (first | apply r1 | apply r2 | apply r3)); exact Kd.R_mono (Kd.R_far (p := ⟨gb109, 4, none⟩) (Kd.R_far (p := ⟨gb109, 3, none⟩) (Kd.R_far (p := ⟨gb109, 2, none⟩) (Kd.R_far (p := ⟨gb109, 1, none⟩) (Kd.R_far (p := ⟨gb109, 0, none⟩) (Kd.R_types HO108.out BK109.out (by decide)) (fun _ hk => hk.2) (.int .i64 0)) (fun _ hk => hk.2) (.int .i64 0)) (fun _ hk => hk.2) (.bool false)) (fun _ hk => hk.2) (.bool false)) (fun _ hk => hk.2) (.bool false)) (fun _ hk => trivial)⟩, ⟨by (with_reducible repeat (first | apply k1 | apply k2 | apply k3)); refine blk_far ?_ NB104_109.out _; (with_reducible repeat (first | apply k1 | apply k2 | apply k3)); refine blk_far ?_ NB104_109.out _; (with_reducible repeat (first | apply k1 | apply k2 | apply k3)); refine blk_far ?_ NB104_109.out _; (with_reducible repeat (first | apply k1 | apply k2 | apply k3)); refine blk_far ?_ NB104_109.out _; (with_reducible repeat (first | apply k1 | apply k2 | apply k3)); refine blk_far ?_ NB104_109.out _; (with_reducible repeat (first | apply k1 | apply k2 | apply k3)); exact BK104.out⟩, ⟨by (with_reducible repeat (first | apply k1 | apply k2 | apply k3)); refine blk_far ?_ NB105_109.out _; (with_reducible repeat (first | apply k1 | apply k2 | apply k3)); refine blk_far ?_ NB105_109.out _; (with_reducible repeat (first | apply k1 | apply k2 | apply k3)); refine blk_far ?_ NB105_109.out _; (with_reducible repeat (first | apply k1 | apply k2 | apply k3)); refine blk_far ?_ NB105_109.out _; (with_reducible repeat (first | apply k1 | apply k2 | apply k3)); refine blk_far ?_ NB105_109.out _; (with_reducible repeat (first | apply k1 | apply k2 | apply k3)); exact BK105.out⟩, ⟨by (with_reducible repeat (first | apply k1 | apply k2 | apply k3)); refine blk_put (cs := #[.int .i64 0, .int .i64 0, .bool false, .bool false, .bool false]) ?_ 4 _ rfl; (with_reducible repeat (first | apply k1 | apply k2 | apply k3)); refine blk_put (cs := #[.int .i64 0, .int .i64 0, .bool false, .bool false, .bool false]) ?_ 3 _ rfl; (with_reducible repeat (first | apply k1 | apply k2 | apply k3)); refine blk_put (cs := #[.int .i64 0, .int .i64 0, .bool false, .bool false, .bool false]) ?_ 2 _ rfl; (with_reducible repeat (first | apply k1 | apply k2 | apply k3)); refine blk_put (cs := #[.int .i64 0, .int .i64 0, .bool false, .bool false, .bool false]) ?_ 1 _ rfl; (with_reducible repeat (first | apply k1 | apply k2 | apply k3)); refine blk_put (cs := #[.int .i64 0, .int .i64 0, .bool false, .bool false, .bool false]) ?_ 0 _ rfl; (with_reducible repeat (first | apply k1 | apply k2 | apply k3)); exact BK109.out⟩, ⟨by repeat (first | (with_reducible first | exact HB.out | apply b1 | apply b2 | apply b3 | refine below_set ?_ GE104.out | refine below_set ?_ GE105.out | refine below_set ?_ GE109.out) | exact HB.out)⟩⟩
 case rest =>
  clear HC3
  try clear c1
  try clear c2
  try clear p2
  try clear c4
  try clear c9
  try clear c10
  try clear c12
  try clear c12b0
  try clear c12b1
  try clear c12b2
  try clear c13
  try clear c14
  try clear c16
  try clear c19
  try clear c20
  try clear c22
  try clear hcz11_0
  try clear hcz11_1
  try clear hcz11_2
  try clear hcz11_3
  try clear hcz11_4
  try clear hcz15_0
  try clear hcz15_1
  try clear hcz15_2
  try clear hcz15_3
  try clear hcz15_4
  try clear hcz17_0
  try clear hcz17_1
  try clear hcz17_2
  try clear hcz17_3
  try clear hcz17_4
  try clear hcz18_0
  try clear hcz18_1
  try clear hcz18_2
  try clear hcz18_3
  try clear hcz18_4
  try clear hcz21_0
  try clear hcz21_1
  try clear hcz21_2
  try clear hcz21_3
  try clear hcz21_4
  try clear hcz23_0
  try clear hcz23_1
  try clear hcz23_2
  try clear hcz23_3
  try clear hcz23_4
  try clear hfz11_0
  try clear hfz11_1
  try clear hfz11_2
  try clear hfz11_3
  try clear hfz11_4
  try clear hfz15_0
  try clear hfz15_1
  try clear hfz15_2
  try clear hfz15_3
  try clear hfz15_4
  try clear hfz17_0
  try clear hfz17_1
  try clear hfz17_2
  try clear hfz17_3
  try clear hfz17_4
  try clear hfz18_0
  try clear hfz18_1
  try clear hfz18_2
  try clear hfz18_3
  try clear hfz18_4
  try clear hfz21_0
  try clear hfz21_1
  try clear hfz21_2
  try clear hfz21_3
  try clear hfz21_4
  try clear hfz23_0
  try clear hfz23_1
  try clear hfz23_2
  try clear hfz23_3
  try clear hfz23_4
  obtain ⟨kq, x16_2, rfl, HA, HJ2, HO_5, BK104, BK105, BK109, HB⟩ := hcut
  cases kq with
  | zero => exact absurd HA.out (by simp [spec_l3Params.j0])
  | succ kj2 =>
   have H := HA.out
   clear HA
   simp only [spec_l3Params.j0] at H
   by_cases c24 : x16_2 = true
   ·subst c24
    have H1 : (some (([0] : List Int))) = some r := by rw [if_pos rfl] at H; exact H
    clear H
    have H := H1
    clear H1
    obtain ⟨y110, hy110⟩ : ∃ y_ : List Int, y_ = (([0] : List Int)) := ⟨_, rfl⟩
    replace H : (some y110) = some r := by first | (rw [hy110]; with_reducible exact H) | (rw [hy110]; exact H) | exact H
    have Ny110 := am hy110
    clear hy110
    obtain rfl := Option.some.inj H
    go_wp2_with (first | ((with_reducible refine gate_dst (N := 17) rfl ?_); refine Kd.R_lit (Kd.int .i64) _ 2 ?hg (N := 17) ?hd (xs := ([0] : List Int)) (inner := [.int .i64 0]) (ok := fun _ => True) (okp := fun _ => True) ?hr ?hp (fun _ hk => hk) trivial (Below.refl _ _) (Nat.le_refl _) (by simp) ?_; (case hd => rfl); (case hg => rfl); (case hr => first | (go_simp; done) | (go_simp; rfl)); (case hp => exact (Reps.one (show Kd.M (Kd.int .i64) _ _ _ 0 [.int .i64 0] from rfl) (Reps.none _ _))); intro v111 w25 ho26 hb hg_ hnew_; clear hg_ hnew_; (first | rw [← Ny110.out] at ho26 | (simp only [Int.reduceToNat] at ho26; rw [← Ny110.out] at ho26)); have n0_ := am (Kd.R_elder' (rr HO_5) (Kd.R_base ho26) hb); have n1_ := am (Kd.R_lower (Kd.R_new' ho26 (Kd.R_lt (rr HO_5))) (below_size (by repeat (first | (with_reducible first | exact HB.out | apply b1 | apply b2 | apply b3 | refine below_set ?_ GE104.out | refine below_set ?_ GE105.out | refine below_set ?_ GE109.out) | exact HB.out)))); have n2_ := am (blk_below (g := gb104) (o := .cells #[.int .i64 a0_0, .int .i64 a0_1, .bool a0_2, .bool a0_3, .bool a0_4] 25 (0, 0)) (rk BK104) hb); have n3_ := am (blk_below (g := gb105) (o := .cells #[.int .i64 a1_0, .int .i64 a1_1, .bool a1_2, .bool a1_3, .bool a1_4] 25 (0, 0)) (rk BK105) hb); have n4_ := am (blk_below (g := gb109) (o := .cells #[.int .i64 0, .int .i64 0, .bool false, .bool false, .bool false] 25 (0, 0)) (rk BK109) hb); have n5_ := am (below_step (by repeat (first | (with_reducible first | exact HB.out | apply b1 | apply b2 | apply b3 | refine below_set ?_ GE104.out | refine below_set ?_ GE105.out | refine below_set ?_ GE109.out) | exact HB.out)) hb); clear HO_5; clear BK104; clear BK105; clear BK109; clear HB; have HO_5 := n0_; have HO112 := n1_; have BK104 := n2_; have BK105 := n3_; have BK109 := n4_; have HB := n5_; clear n0_ n1_ n2_ n3_ n4_ n5_; clear hb ho26))
    go_ret
    exact ⟨_, by first | rfl | (simp [errW_none, errW_some] <;> rfl) | (simp [*, errW_none, errW_some] <;> rfl), by (with_reducible repeat (first | apply r1 | apply r2 | apply r3)); exact Kd.R_mono HO112.out (fun _ hk => trivial), by repeat (first | (with_reducible first | exact HB.out | apply b1 | apply b2 | apply b3 | refine below_set ?_ GE104.out | refine below_set ?_ GE105.out | refine below_set ?_ GE109.out) | exact HB.out)⟩
   ·replace c24 := Bool.eq_false_iff.mpr c24
    subst c24
    have H1 : (if (a0_2 != a1_2) = true then ((spec_l3Flag.f a1_2 1 22).bind fun t113 => (if y106.length < 17592186044416 then (spec_l3Params.j1 kj2 (y106 ++ [t113]) a0_0 a0_1 a0_2 a0_3 a0_4 a1_0 a1_1 a1_2 a1_3 a1_4) else (none))) else (spec_l3Params.j1 kj2 y106 a0_0 a0_1 a0_2 a0_3 a0_4 a1_0 a1_1 a1_2 a1_3 a1_4)) = some r := by rw [if_neg (show ¬ (false = true) by decide)] at H; exact H
    clear H
    have H := H1
    clear H1
    have HC27 := am H
    clear H
    have hnb28 := NB104_105.out
    have hnc28 := NB105_104.out
    have hnb29 := NB104_109.out
    have hnc29 := NB109_104.out
    have hcz30_0 : wc.cell? ⟨gb104, 0, none⟩ = some (.int .i64 a0_0) := (blk_cell BK104.out 0).trans rfl
    have hcz30_1 : wc.cell? ⟨gb104, 1, none⟩ = some (.int .i64 a0_1) := (blk_cell BK104.out 1).trans rfl
    have hcz30_2 : wc.cell? ⟨gb104, 2, none⟩ = some (.bool a0_2) := (blk_cell BK104.out 2).trans rfl
    have hcz30_3 : wc.cell? ⟨gb104, 3, none⟩ = some (.bool a0_3) := (blk_cell BK104.out 3).trans rfl
    have hcz30_4 : wc.cell? ⟨gb104, 4, none⟩ = some (.bool a0_4) := (blk_cell BK104.out 4).trans rfl
    have hfz30_0 := blk_frozen BK104.out 0
    have hfz30_1 := blk_frozen BK104.out 1
    have hfz30_2 := blk_frozen BK104.out 2
    have hfz30_3 := blk_frozen BK104.out 3
    have hfz30_4 := blk_frozen BK104.out 4
    have hnb31 := NB105_109.out
    have hnc31 := NB109_105.out
    have hcz32_0 : wc.cell? ⟨gb105, 0, none⟩ = some (.int .i64 a1_0) := (blk_cell BK105.out 0).trans rfl
    have hcz32_1 : wc.cell? ⟨gb105, 1, none⟩ = some (.int .i64 a1_1) := (blk_cell BK105.out 1).trans rfl
    have hcz32_2 : wc.cell? ⟨gb105, 2, none⟩ = some (.bool a1_2) := (blk_cell BK105.out 2).trans rfl
    have hcz32_3 : wc.cell? ⟨gb105, 3, none⟩ = some (.bool a1_3) := (blk_cell BK105.out 3).trans rfl
    have hcz32_4 : wc.cell? ⟨gb105, 4, none⟩ = some (.bool a1_4) := (blk_cell BK105.out 4).trans rfl
    have hfz32_0 := blk_frozen BK105.out 0
    have hfz32_1 := blk_frozen BK105.out 1
    have hfz32_2 := blk_frozen BK105.out 2
    have hfz32_3 := blk_frozen BK105.out 3
    have hfz32_4 := blk_frozen BK105.out 4
    go_upto_if 22 with (fail)
    go_cut [5] (fun v5 wc => ∃ (kq : Nat) (x5_26 : List Int), Aside0 (spec_l3Params.j1 kq x5_26 a0_0 a0_1 a0_2 a0_3 a0_4 a1_0 a1_1 a1_2 a1_3 a1_4 = some r) ∧ Aside0 (kq ≤ kj2) ∧ Aside0 (Kd.R (Kd.int .i64) 2 wc w.heap.size (fun _ => True) v5 x5_26) ∧ Aside0 (wc.heap[gb104]? = some (.cells #[.int .i64 a0_0, .int .i64 a0_1, .bool a0_2, .bool a0_3, .bool a0_4] 25 (0, 0))) ∧ Aside0 (wc.heap[gb105]? = some (.cells #[.int .i64 a1_0, .int .i64 a1_1, .bool a1_2, .bool a1_3, .bool a1_4] 25 (0, 0))) ∧ Aside0 (wc.heap[gb109]? = some (.cells #[.int .i64 0, .int .i64 0, .bool false, .bool false, .bool false] 25 (0, 0))) ∧ Aside0 (Below w.heap.size w wc))
    case first =>
     have H := HC27.out
     clear HC27
     by_cases c33 : (a0_2 != a1_2) = true
     ·rw [if_pos c33] at H
      have c33b0 : (a0_2 != a1_2) = true := c33
      (try (have c33b8 : ¬ ((!(a0_2 == a1_2)) = false) := (by decide : ∀ x y : Bool, (x != y) = true → ¬ ((!(x == y)) = false)) a0_2 a1_2 c33b0))
      (try (have c33b9 : ¬ ((a0_2 == a1_2) = true) := (by decide : ∀ x y : Bool, (x != y) = true → ¬ ((x == y) = true)) a0_2 a1_2 c33b0))
      (try (have c33b1 : decide (a0_2 = a1_2) = false := by simpa using c33))
      (try (have c33b2 : (a0_2 == a1_2) = false := by simpa using c33))
      (try (have c33b3 : ¬ (a0_2 = a1_2) := by simpa using c33))
      clear c33
      (first | rw [c33b0] | rw [show (!(a0_2 == a1_2)) = true from c33b0] | (simp only [i64_w, i32_w]; rw [c33b0]) | skip)
      replace H := Option.bind_eq_some_iff.mp H
      obtain ⟨t113, A340, H⟩ := H
      replace H : (if y106.length < 17592186044416 then (spec_l3Params.j1 kj2 (y106 ++ [t113]) a0_0 a0_1 a0_2 a0_3 a0_4 a1_0 a1_1 a1_2 a1_3 a1_4) else (none)) = some r := H
      have A34 := am A340
      clear A340
      by_cases c35 : y106.length < 17592186044416
      ·rw [if_pos c35] at H
       have LMc35 := am c35
       clear c35
       obtain ⟨y114, hy114⟩ : ∃ y_ : List Int, y_ = (y106 ++ [t113]) := ⟨_, rfl⟩
       replace H : (spec_l3Params.j1 kj2 y114 a0_0 a0_1 a0_2 a0_3 a0_4 a1_0 a1_1 a1_2 a1_3 a1_4) = some r := by first | (rw [hy114]; with_reducible exact H) | (rw [hy114]; exact H) | exact H
       have Ny114 := am hy114
       clear hy114
       have H' := am H
       clear H
       have hnb36 := NB105_104.out
       have hnc36 := NB104_105.out
       have hnb37 := NB105_109.out
       have hnc37 := NB109_105.out
       have hcz38_0 : wc.cell? ⟨gb105, 0, none⟩ = some (.int .i64 a1_0) := (blk_cell BK105.out 0).trans rfl
       have hcz38_1 : wc.cell? ⟨gb105, 1, none⟩ = some (.int .i64 a1_1) := (blk_cell BK105.out 1).trans rfl
       have hcz38_2 : wc.cell? ⟨gb105, 2, none⟩ = some (.bool a1_2) := (blk_cell BK105.out 2).trans rfl
       have hcz38_3 : wc.cell? ⟨gb105, 3, none⟩ = some (.bool a1_3) := (blk_cell BK105.out 3).trans rfl
       have hcz38_4 : wc.cell? ⟨gb105, 4, none⟩ = some (.bool a1_4) := (blk_cell BK105.out 4).trans rfl
       have hfz38_0 := blk_frozen BK105.out 0
       have hfz38_1 := blk_frozen BK105.out 1
       have hfz38_2 := blk_frozen BK105.out 2
       have hfz38_3 := blk_frozen BK105.out 3
       have hfz38_4 := blk_frozen BK105.out 4
       go_wp2_with (first | ((with_reducible refine gate_callee (f := 63) rfl ?_); refine gl_ (some 26) Tryd.func63 #[.bool a1_2, .int .i64 1, .int .i64 22] ?_; (with_reducible refine (spec_l3Flag.calls a1_2 1 22 t113 _ A34.out).mono ?_); rintro e w' ⟨rfl, ⟨nd, rfl⟩⟩; refine ⟨_, rfl, ?_⟩) | ((with_reducible refine gate_builtin (b := .append) (xs := #[.tmp 23, .tmp 27]) rfl ?_); at_builtin; refine Kd.R_append (Kd.int .i64) (w0 := w) w.heap.size rfl (.tmp 23) (.tmp 27) 37 2 (.int .i64 0) 8 rfl Tryd.underlying37 info2 rfl (by decide) (by omega) v107 y106 t113 [.int .i64 t113] (fun _ => True) (fun _ => False) rfl rfl ?aP (fun _ hk => hk.elim) ?aF ?aO ?aB ?aS ?aL ?_; (case aP => exact rfl); (case aB => exact (by repeat (first | (with_reducible first | exact HB.out | apply b1 | apply b2 | apply b3 | refine below_set ?_ GE104.out | refine below_set ?_ GE105.out | refine below_set ?_ GE109.out) | exact HB.out))); (case aF => exact (fun _ _ => trivial)); (case aO => exact (rr HO_5)); (case aS => exact (below_size (by repeat (first | (with_reducible first | exact HB.out | apply b1 | apply b2 | apply b3 | refine below_set ?_ GE104.out | refine below_set ?_ GE105.out | refine below_set ?_ GE109.out) | exact HB.out)))); (case aL => have := LMc35.out; omega); intro v115 w39 ho hb hg hat; rw [← Ny114.out] at ho; have n0_ := am (blk_grown (g := gb104) (o := .cells #[.int .i64 a0_0, .int .i64 a0_1, .bool a0_2, .bool a0_3, .bool a0_4] 25 (0, 0)) (rk BK104) hg (Kd.R_ne HO_5.out BK104.out (by decide))); have n1_ := am (blk_grown (g := gb105) (o := .cells #[.int .i64 a1_0, .int .i64 a1_1, .bool a1_2, .bool a1_3, .bool a1_4] 25 (0, 0)) (rk BK105) hg (Kd.R_ne HO_5.out BK105.out (by decide))); have n2_ := am (blk_grown (g := gb109) (o := .cells #[.int .i64 0, .int .i64 0, .bool false, .bool false, .bool false] 25 (0, 0)) (rk BK109) hg (Kd.R_ne HO_5.out BK109.out (by decide))); have n3_ := am (hb); have n4_ := am (ho); clear BK104; clear BK105; clear BK109; clear HB; clear HO_5; have BK104 := n0_; have BK105 := n1_; have BK109 := n2_; have HB := n3_; have HO116 := n4_; clear n0_ n1_ n2_ n3_ n4_; clear ho hb hg hat))
       go_meet
       case rel => exact ⟨_, (y114), H', ⟨by have := HJ2.out; first | omega | exact Nat.le_refl _⟩, ⟨rr HO116⟩, ⟨rk BK104⟩, ⟨rk BK105⟩, ⟨rk BK109⟩, ⟨by repeat (first | (with_reducible first | exact HB.out | apply b1 | apply b2 | apply b3 | refine below_set ?_ GE104.out | refine below_set ?_ GE105.out | refine below_set ?_ GE109.out) | exact HB.out)⟩⟩
      ·rw [if_neg c35] at H
       exact absurd H (by simp)
     ·rw [if_neg c33] at H
      have c33b0 : (a0_2 != a1_2) = false := by simpa using c33
      (try (have c33b8 : ¬ ((!(a0_2 == a1_2)) = true) := (by decide : ∀ x y : Bool, (x != y) = false → ¬ ((!(x == y)) = true)) a0_2 a1_2 c33b0))
      (try (have c33b9 : ¬ ((a0_2 == a1_2) = false) := (by decide : ∀ x y : Bool, (x != y) = false → ¬ ((x == y) = false)) a0_2 a1_2 c33b0))
      (try (have c33b1 : decide (a0_2 = a1_2) = true := by simpa using c33))
      (try (have c33b2 : (a0_2 == a1_2) = true := by simpa using c33))
      clear c33
      (first | rw [c33b0] | rw [show (!(a0_2 == a1_2)) = false from c33b0] | (simp only [i64_w, i32_w]; rw [c33b0]) | skip)
      have H' := am H
      clear H
      go_wp2
      go_meet
      case rel => exact ⟨_, (y106), H', ⟨by have := HJ2.out; first | omega | exact Nat.le_refl _⟩, ⟨rr HO_5⟩, ⟨rk BK104⟩, ⟨rk BK105⟩, ⟨rk BK109⟩, ⟨by repeat (first | (with_reducible first | exact HB.out | apply b1 | apply b2 | apply b3 | refine below_set ?_ GE104.out | refine below_set ?_ GE105.out | refine below_set ?_ GE109.out) | exact HB.out)⟩⟩
    case rest =>
     clear HC27
     try clear c1
     try clear c2
     try clear p2
     try clear c3
     try clear c4
     try clear c6
     try clear c9
     try clear c10
     try clear c12
     try clear c12b0
     try clear c12b1
     try clear c12b2
     try clear c13
     try clear c14
     try clear c16
     try clear c19
     try clear c20
     try clear c22
     try clear c24
     try clear c28
     try clear c29
     try clear c31
     try clear c33
     try clear c33b0
     try clear c33b1
     try clear c33b2
     try clear c35
     try clear c36
     try clear c37
     try clear hcz11_0
     try clear hcz11_1
     try clear hcz11_2
     try clear hcz11_3
     try clear hcz11_4
     try clear hcz15_0
     try clear hcz15_1
     try clear hcz15_2
     try clear hcz15_3
     try clear hcz15_4
     try clear hcz17_0
     try clear hcz17_1
     try clear hcz17_2
     try clear hcz17_3
     try clear hcz17_4
     try clear hcz18_0
     try clear hcz18_1
     try clear hcz18_2
     try clear hcz18_3
     try clear hcz18_4
     try clear hcz21_0
     try clear hcz21_1
     try clear hcz21_2
     try clear hcz21_3
     try clear hcz21_4
     try clear hcz23_0
     try clear hcz23_1
     try clear hcz23_2
     try clear hcz23_3
     try clear hcz23_4
     try clear hcz30_0
     try clear hcz30_1
     try clear hcz30_2
     try clear hcz30_3
     try clear hcz30_4
     try clear hcz32_0
     try clear hcz32_1
     try clear hcz32_2
     try clear hcz32_3
     try clear hcz32_4
     try clear hcz38_0
     try clear hcz38_1
     try clear hcz38_2
     try clear hcz38_3
     try clear hcz38_4
     try clear hfz11_0
     try clear hfz11_1
     try clear hfz11_2
     try clear hfz11_3
     try clear hfz11_4
     try clear hfz15_0
     try clear hfz15_1
     try clear hfz15_2
     try clear hfz15_3
     try clear hfz15_4
     try clear hfz17_0
     try clear hfz17_1
     try clear hfz17_2
     try clear hfz17_3
     try clear hfz17_4
     try clear hfz18_0
     try clear hfz18_1
     try clear hfz18_2
     try clear hfz18_3
     try clear hfz18_4
     try clear hfz21_0
     try clear hfz21_1
     try clear hfz21_2
     try clear hfz21_3
     try clear hfz21_4
     try clear hfz23_0
     try clear hfz23_1
     try clear hfz23_2
     try clear hfz23_3
     try clear hfz23_4
     try clear hfz30_0
     try clear hfz30_1
     try clear hfz30_2
     try clear hfz30_3
     try clear hfz30_4
     try clear hfz32_0
     try clear hfz32_1
     try clear hfz32_2
     try clear hfz32_3
     try clear hfz32_4
     try clear hfz38_0
     try clear hfz38_1
     try clear hfz38_2
     try clear hfz38_3
     try clear hfz38_4
     try clear p2
     obtain ⟨kq, x5_26, HA, HJ26, HO_5, BK104, BK105, BK109, HB⟩ := hcut
     cases kq with
     | zero => exact absurd HA.out (by simp [spec_l3Params.j1])
     | succ kj26 =>
      have H := HA.out
      clear HA
      simp only [spec_l3Params.j1] at H
      have HC40 := am H
      clear H
      have hnb41 := NB104_105.out
      have hnc41 := NB105_104.out
      have hnb42 := NB104_109.out
      have hnc42 := NB109_104.out
      have hcz43_0 : wc.cell? ⟨gb104, 0, none⟩ = some (.int .i64 a0_0) := (blk_cell BK104.out 0).trans rfl
      have hcz43_1 : wc.cell? ⟨gb104, 1, none⟩ = some (.int .i64 a0_1) := (blk_cell BK104.out 1).trans rfl
      have hcz43_2 : wc.cell? ⟨gb104, 2, none⟩ = some (.bool a0_2) := (blk_cell BK104.out 2).trans rfl
      have hcz43_3 : wc.cell? ⟨gb104, 3, none⟩ = some (.bool a0_3) := (blk_cell BK104.out 3).trans rfl
      have hcz43_4 : wc.cell? ⟨gb104, 4, none⟩ = some (.bool a0_4) := (blk_cell BK104.out 4).trans rfl
      have hfz43_0 := blk_frozen BK104.out 0
      have hfz43_1 := blk_frozen BK104.out 1
      have hfz43_2 := blk_frozen BK104.out 2
      have hfz43_3 := blk_frozen BK104.out 3
      have hfz43_4 := blk_frozen BK104.out 4
      have hnb44 := NB105_109.out
      have hnc44 := NB109_105.out
      have hcz45_0 : wc.cell? ⟨gb105, 0, none⟩ = some (.int .i64 a1_0) := (blk_cell BK105.out 0).trans rfl
      have hcz45_1 : wc.cell? ⟨gb105, 1, none⟩ = some (.int .i64 a1_1) := (blk_cell BK105.out 1).trans rfl
      have hcz45_2 : wc.cell? ⟨gb105, 2, none⟩ = some (.bool a1_2) := (blk_cell BK105.out 2).trans rfl
      have hcz45_3 : wc.cell? ⟨gb105, 3, none⟩ = some (.bool a1_3) := (blk_cell BK105.out 3).trans rfl
      have hcz45_4 : wc.cell? ⟨gb105, 4, none⟩ = some (.bool a1_4) := (blk_cell BK105.out 4).trans rfl
      have hfz45_0 := blk_frozen BK105.out 0
      have hfz45_1 := blk_frozen BK105.out 1
      have hfz45_2 := blk_frozen BK105.out 2
      have hfz45_3 := blk_frozen BK105.out 3
      have hfz45_4 := blk_frozen BK105.out 4
      go_upto_if 33 with (fail)
      go_cut [5] (fun v5 wc => ∃ (kq : Nat) (x5_39 : List Int), Aside0 (spec_l3Params.j2 kq x5_39 a0_0 a0_1 a0_2 a0_3 a0_4 a1_0 a1_1 a1_2 a1_3 a1_4 = some r) ∧ Aside0 (kq ≤ kj26) ∧ Aside0 (Kd.R (Kd.int .i64) 2 wc w.heap.size (fun _ => True) v5 x5_39) ∧ Aside0 (wc.heap[gb104]? = some (.cells #[.int .i64 a0_0, .int .i64 a0_1, .bool a0_2, .bool a0_3, .bool a0_4] 25 (0, 0))) ∧ Aside0 (wc.heap[gb105]? = some (.cells #[.int .i64 a1_0, .int .i64 a1_1, .bool a1_2, .bool a1_3, .bool a1_4] 25 (0, 0))) ∧ Aside0 (wc.heap[gb109]? = some (.cells #[.int .i64 0, .int .i64 0, .bool false, .bool false, .bool false] 25 (0, 0))) ∧ Aside0 (Below w.heap.size w wc))
      case first =>
       have H := HC40.out
       clear HC40
       by_cases c46 : (a0_3 != a1_3) = true
       ·rw [if_pos c46] at H
        have c46b0 : (a0_3 != a1_3) = true := c46
        (try (have c46b8 : ¬ ((!(a0_3 == a1_3)) = false) := (by decide : ∀ x y : Bool, (x != y) = true → ¬ ((!(x == y)) = false)) a0_3 a1_3 c46b0))
        (try (have c46b9 : ¬ ((a0_3 == a1_3) = true) := (by decide : ∀ x y : Bool, (x != y) = true → ¬ ((x == y) = true)) a0_3 a1_3 c46b0))
        (try (have c46b1 : decide (a0_3 = a1_3) = false := by simpa using c46))
        (try (have c46b2 : (a0_3 == a1_3) = false := by simpa using c46))
        (try (have c46b3 : ¬ (a0_3 = a1_3) := by simpa using c46))
        clear c46
        (first | rw [c46b0] | rw [show (!(a0_3 == a1_3)) = true from c46b0] | (simp only [i64_w, i32_w]; rw [c46b0]) | skip)
        replace H := Option.bind_eq_some_iff.mp H
        obtain ⟨t117, A470, H⟩ := H
        replace H : (if x5_26.length < 17592186044416 then (spec_l3Params.j2 kj26 (x5_26 ++ [t117]) a0_0 a0_1 a0_2 a0_3 a0_4 a1_0 a1_1 a1_2 a1_3 a1_4) else (none)) = some r := H
        have A47 := am A470
        clear A470
        by_cases c48 : x5_26.length < 17592186044416
        ·rw [if_pos c48] at H
         have LMc48 := am c48
         clear c48
         obtain ⟨y118, hy118⟩ : ∃ y_ : List Int, y_ = (x5_26 ++ [t117]) := ⟨_, rfl⟩
         replace H : (spec_l3Params.j2 kj26 y118 a0_0 a0_1 a0_2 a0_3 a0_4 a1_0 a1_1 a1_2 a1_3 a1_4) = some r := by first | (rw [hy118]; with_reducible exact H) | (rw [hy118]; exact H) | exact H
         have Ny118 := am hy118
         clear hy118
         have H' := am H
         clear H
         have hnb49 := NB105_104.out
         have hnc49 := NB104_105.out
         have hnb50 := NB105_109.out
         have hnc50 := NB109_105.out
         have hcz51_0 : wc.cell? ⟨gb105, 0, none⟩ = some (.int .i64 a1_0) := (blk_cell BK105.out 0).trans rfl
         have hcz51_1 : wc.cell? ⟨gb105, 1, none⟩ = some (.int .i64 a1_1) := (blk_cell BK105.out 1).trans rfl
         have hcz51_2 : wc.cell? ⟨gb105, 2, none⟩ = some (.bool a1_2) := (blk_cell BK105.out 2).trans rfl
         have hcz51_3 : wc.cell? ⟨gb105, 3, none⟩ = some (.bool a1_3) := (blk_cell BK105.out 3).trans rfl
         have hcz51_4 : wc.cell? ⟨gb105, 4, none⟩ = some (.bool a1_4) := (blk_cell BK105.out 4).trans rfl
         have hfz51_0 := blk_frozen BK105.out 0
         have hfz51_1 := blk_frozen BK105.out 1
         have hfz51_2 := blk_frozen BK105.out 2
         have hfz51_3 := blk_frozen BK105.out 3
         have hfz51_4 := blk_frozen BK105.out 4
         go_wp2_with (first | ((with_reducible refine gate_callee (f := 63) rfl ?_); refine gl_ (some 37) Tryd.func63 #[.bool a1_3, .int .i64 4, .int .i64 24] ?_; (with_reducible refine (spec_l3Flag.calls a1_3 4 24 t117 _ A47.out).mono ?_); rintro e w' ⟨rfl, ⟨nd, rfl⟩⟩; refine ⟨_, rfl, ?_⟩) | ((with_reducible refine gate_builtin (b := .append) (xs := #[.tmp 34, .tmp 38]) rfl ?_); at_builtin; refine Kd.R_append (Kd.int .i64) (w0 := w) w.heap.size rfl (.tmp 34) (.tmp 38) 37 2 (.int .i64 0) 8 rfl Tryd.underlying37 info2 rfl (by decide) (by omega) u5 x5_26 t117 [.int .i64 t117] (fun _ => True) (fun _ => False) rfl rfl ?aP (fun _ hk => hk.elim) ?aF ?aO ?aB ?aS ?aL ?_; (case aP => exact rfl); (case aB => exact (by repeat (first | (with_reducible first | exact HB.out | apply b1 | apply b2 | apply b3 | refine below_set ?_ GE104.out | refine below_set ?_ GE105.out | refine below_set ?_ GE109.out) | exact HB.out))); (case aF => exact (fun _ _ => trivial)); (case aO => exact (rr HO_5)); (case aS => exact (below_size (by repeat (first | (with_reducible first | exact HB.out | apply b1 | apply b2 | apply b3 | refine below_set ?_ GE104.out | refine below_set ?_ GE105.out | refine below_set ?_ GE109.out) | exact HB.out)))); (case aL => have := LMc48.out; omega); intro v119 w52 ho hb hg hat; rw [← Ny118.out] at ho; have n0_ := am (blk_grown (g := gb104) (o := .cells #[.int .i64 a0_0, .int .i64 a0_1, .bool a0_2, .bool a0_3, .bool a0_4] 25 (0, 0)) (rk BK104) hg (Kd.R_ne HO_5.out BK104.out (by decide))); have n1_ := am (blk_grown (g := gb105) (o := .cells #[.int .i64 a1_0, .int .i64 a1_1, .bool a1_2, .bool a1_3, .bool a1_4] 25 (0, 0)) (rk BK105) hg (Kd.R_ne HO_5.out BK105.out (by decide))); have n2_ := am (blk_grown (g := gb109) (o := .cells #[.int .i64 0, .int .i64 0, .bool false, .bool false, .bool false] 25 (0, 0)) (rk BK109) hg (Kd.R_ne HO_5.out BK109.out (by decide))); have n3_ := am (hb); have n4_ := am (ho); clear BK104; clear BK105; clear BK109; clear HB; clear HO_5; have BK104 := n0_; have BK105 := n1_; have BK109 := n2_; have HB := n3_; have HO120 := n4_; clear n0_ n1_ n2_ n3_ n4_; clear ho hb hg hat))
         go_meet
         case rel => exact ⟨_, (y118), H', ⟨by have := HJ2.out; have := HJ26.out; first | omega | exact Nat.le_refl _⟩, ⟨rr HO120⟩, ⟨rk BK104⟩, ⟨rk BK105⟩, ⟨rk BK109⟩, ⟨by repeat (first | (with_reducible first | exact HB.out | apply b1 | apply b2 | apply b3 | refine below_set ?_ GE104.out | refine below_set ?_ GE105.out | refine below_set ?_ GE109.out) | exact HB.out)⟩⟩
        ·rw [if_neg c48] at H
         exact absurd H (by simp)
       ·rw [if_neg c46] at H
        have c46b0 : (a0_3 != a1_3) = false := by simpa using c46
        (try (have c46b8 : ¬ ((!(a0_3 == a1_3)) = true) := (by decide : ∀ x y : Bool, (x != y) = false → ¬ ((!(x == y)) = true)) a0_3 a1_3 c46b0))
        (try (have c46b9 : ¬ ((a0_3 == a1_3) = false) := (by decide : ∀ x y : Bool, (x != y) = false → ¬ ((x == y) = false)) a0_3 a1_3 c46b0))
        (try (have c46b1 : decide (a0_3 = a1_3) = true := by simpa using c46))
        (try (have c46b2 : (a0_3 == a1_3) = true := by simpa using c46))
        clear c46
        (first | rw [c46b0] | rw [show (!(a0_3 == a1_3)) = false from c46b0] | (simp only [i64_w, i32_w]; rw [c46b0]) | skip)
        have H' := am H
        clear H
        go_wp2
        go_meet
        case rel => exact ⟨_, (x5_26), H', ⟨by have := HJ2.out; have := HJ26.out; first | omega | exact Nat.le_refl _⟩, ⟨rr HO_5⟩, ⟨rk BK104⟩, ⟨rk BK105⟩, ⟨rk BK109⟩, ⟨by repeat (first | (with_reducible first | exact HB.out | apply b1 | apply b2 | apply b3 | refine below_set ?_ GE104.out | refine below_set ?_ GE105.out | refine below_set ?_ GE109.out) | exact HB.out)⟩⟩
      case rest =>
       clear HC40
       try clear c1
       try clear c2
       try clear p2
       try clear c3
       try clear c4
       try clear c5
       try clear c6
       try clear c9
       try clear c10
       try clear c12
       try clear c12b0
       try clear c12b1
       try clear c12b2
       try clear c13
       try clear c14
       try clear c16
       try clear c19
       try clear c20
       try clear c22
       try clear c24
       try clear c28
       try clear c29
       try clear c31
       try clear c33
       try clear c33b0
       try clear c33b1
       try clear c33b2
       try clear c35
       try clear c36
       try clear c37
       try clear c41
       try clear c42
       try clear c43
       try clear c44
       try clear c46
       try clear c46b0
       try clear c46b1
       try clear c46b2
       try clear c48
       try clear c49
       try clear c50
       try clear hcz11_0
       try clear hcz11_1
       try clear hcz11_2
       try clear hcz11_3
       try clear hcz11_4
       try clear hcz15_0
       try clear hcz15_1
       try clear hcz15_2
       try clear hcz15_3
       try clear hcz15_4
       try clear hcz17_0
       try clear hcz17_1
       try clear hcz17_2
       try clear hcz17_3
       try clear hcz17_4
       try clear hcz18_0
       try clear hcz18_1
       try clear hcz18_2
       try clear hcz18_3
       try clear hcz18_4
       try clear hcz21_0
       try clear hcz21_1
       try clear hcz21_2
       try clear hcz21_3
       try clear hcz21_4
       try clear hcz23_0
       try clear hcz23_1
       try clear hcz23_2
       try clear hcz23_3
       try clear hcz23_4
       try clear hcz30_0
       try clear hcz30_1
       try clear hcz30_2
       try clear hcz30_3
       try clear hcz30_4
       try clear hcz32_0
       try clear hcz32_1
       try clear hcz32_2
       try clear hcz32_3
       try clear hcz32_4
       try clear hcz38_0
       try clear hcz38_1
       try clear hcz38_2
       try clear hcz38_3
       try clear hcz38_4
       try clear hcz43_0
       try clear hcz43_1
       try clear hcz43_2
       try clear hcz43_3
       try clear hcz43_4
       try clear hcz45_0
       try clear hcz45_1
       try clear hcz45_2
       try clear hcz45_3
       try clear hcz45_4
       try clear hcz51_0
       try clear hcz51_1
       try clear hcz51_2
       try clear hcz51_3
       try clear hcz51_4
       try clear hfz11_0
       try clear hfz11_1
       try clear hfz11_2
       try clear hfz11_3
       try clear hfz11_4
       try clear hfz15_0
       try clear hfz15_1
       try clear hfz15_2
       try clear hfz15_3
       try clear hfz15_4
       try clear hfz17_0
       try clear hfz17_1
       try clear hfz17_2
       try clear hfz17_3
       try clear hfz17_4
       try clear hfz18_0
       try clear hfz18_1
       try clear hfz18_2
       try clear hfz18_3
       try clear hfz18_4
       try clear hfz21_0
       try clear hfz21_1
       try clear hfz21_2
       try clear hfz21_3
       try clear hfz21_4
       try clear hfz23_0
       try clear hfz23_1
       try clear hfz23_2
       try clear hfz23_3
       try clear hfz23_4
       try clear hfz30_0
       try clear hfz30_1
       try clear hfz30_2
       try clear hfz30_3
       try clear hfz30_4
       try clear hfz32_0
       try clear hfz32_1
       try clear hfz32_2
       try clear hfz32_3
       try clear hfz32_4
       try clear hfz38_0
       try clear hfz38_1
       try clear hfz38_2
       try clear hfz38_3
       try clear hfz38_4
       try clear hfz43_0
       try clear hfz43_1
       try clear hfz43_2
       try clear hfz43_3
       try clear hfz43_4
       try clear hfz45_0
       try clear hfz45_1
       try clear hfz45_2
       try clear hfz45_3
       try clear hfz45_4
       try clear hfz51_0
       try clear hfz51_1
       try clear hfz51_2
       try clear hfz51_3
       try clear hfz51_4
       try clear p2
       obtain ⟨kq, x5_39, HA, HJ39, HO_5, BK104, BK105, BK109, HB⟩ := hcut
       cases kq with
       | zero => exact absurd HA.out (by simp [spec_l3Params.j2])
       | succ kj39 =>
        have H := HA.out
        clear HA
        simp only [spec_l3Params.j2] at H
        have HC53 := am H
        clear H
        have hnb54 := NB104_105.out
        have hnc54 := NB105_104.out
        have hnb55 := NB104_109.out
        have hnc55 := NB109_104.out
        have hcz56_0 : wc.cell? ⟨gb104, 0, none⟩ = some (.int .i64 a0_0) := (blk_cell BK104.out 0).trans rfl
        have hcz56_1 : wc.cell? ⟨gb104, 1, none⟩ = some (.int .i64 a0_1) := (blk_cell BK104.out 1).trans rfl
        have hcz56_2 : wc.cell? ⟨gb104, 2, none⟩ = some (.bool a0_2) := (blk_cell BK104.out 2).trans rfl
        have hcz56_3 : wc.cell? ⟨gb104, 3, none⟩ = some (.bool a0_3) := (blk_cell BK104.out 3).trans rfl
        have hcz56_4 : wc.cell? ⟨gb104, 4, none⟩ = some (.bool a0_4) := (blk_cell BK104.out 4).trans rfl
        have hfz56_0 := blk_frozen BK104.out 0
        have hfz56_1 := blk_frozen BK104.out 1
        have hfz56_2 := blk_frozen BK104.out 2
        have hfz56_3 := blk_frozen BK104.out 3
        have hfz56_4 := blk_frozen BK104.out 4
        have hnb57 := NB105_109.out
        have hnc57 := NB109_105.out
        have hcz58_0 : wc.cell? ⟨gb105, 0, none⟩ = some (.int .i64 a1_0) := (blk_cell BK105.out 0).trans rfl
        have hcz58_1 : wc.cell? ⟨gb105, 1, none⟩ = some (.int .i64 a1_1) := (blk_cell BK105.out 1).trans rfl
        have hcz58_2 : wc.cell? ⟨gb105, 2, none⟩ = some (.bool a1_2) := (blk_cell BK105.out 2).trans rfl
        have hcz58_3 : wc.cell? ⟨gb105, 3, none⟩ = some (.bool a1_3) := (blk_cell BK105.out 3).trans rfl
        have hcz58_4 : wc.cell? ⟨gb105, 4, none⟩ = some (.bool a1_4) := (blk_cell BK105.out 4).trans rfl
        have hfz58_0 := blk_frozen BK105.out 0
        have hfz58_1 := blk_frozen BK105.out 1
        have hfz58_2 := blk_frozen BK105.out 2
        have hfz58_3 := blk_frozen BK105.out 3
        have hfz58_4 := blk_frozen BK105.out 4
        go_upto_if 44 with (fail)
        go_cut [5] (fun v5 wc => ∃ (kq : Nat) (x5_52 : List Int), Aside0 (spec_l3Params.j3 kq x5_52 a0_0 a0_1 a0_2 a0_3 a0_4 a1_0 a1_1 a1_2 a1_3 a1_4 = some r) ∧ Aside0 (kq ≤ kj39) ∧ Aside0 (Kd.R (Kd.int .i64) 2 wc w.heap.size (fun _ => True) v5 x5_52) ∧ Aside0 (wc.heap[gb104]? = some (.cells #[.int .i64 a0_0, .int .i64 a0_1, .bool a0_2, .bool a0_3, .bool a0_4] 25 (0, 0))) ∧ Aside0 (wc.heap[gb105]? = some (.cells #[.int .i64 a1_0, .int .i64 a1_1, .bool a1_2, .bool a1_3, .bool a1_4] 25 (0, 0))) ∧ Aside0 (wc.heap[gb109]? = some (.cells #[.int .i64 0, .int .i64 0, .bool false, .bool false, .bool false] 25 (0, 0))) ∧ Aside0 (Below w.heap.size w wc))
        case first =>
         have H := HC53.out
         clear HC53
         by_cases c59 : (a0_4 != a1_4) = true
         ·rw [if_pos c59] at H
          have c59b0 : (a0_4 != a1_4) = true := c59
          (try (have c59b8 : ¬ ((!(a0_4 == a1_4)) = false) := (by decide : ∀ x y : Bool, (x != y) = true → ¬ ((!(x == y)) = false)) a0_4 a1_4 c59b0))
          (try (have c59b9 : ¬ ((a0_4 == a1_4) = true) := (by decide : ∀ x y : Bool, (x != y) = true → ¬ ((x == y) = true)) a0_4 a1_4 c59b0))
          (try (have c59b1 : decide (a0_4 = a1_4) = false := by simpa using c59))
          (try (have c59b2 : (a0_4 == a1_4) = false := by simpa using c59))
          (try (have c59b3 : ¬ (a0_4 = a1_4) := by simpa using c59))
          clear c59
          (first | rw [c59b0] | rw [show (!(a0_4 == a1_4)) = true from c59b0] | (simp only [i64_w, i32_w]; rw [c59b0]) | skip)
          replace H := Option.bind_eq_some_iff.mp H
          obtain ⟨t121, A600, H⟩ := H
          replace H : (if x5_39.length < 17592186044416 then (spec_l3Params.j3 kj39 (x5_39 ++ [t121]) a0_0 a0_1 a0_2 a0_3 a0_4 a1_0 a1_1 a1_2 a1_3 a1_4) else (none)) = some r := H
          have A60 := am A600
          clear A600
          by_cases c61 : x5_39.length < 17592186044416
          ·rw [if_pos c61] at H
           have LMc61 := am c61
           clear c61
           obtain ⟨y122, hy122⟩ : ∃ y_ : List Int, y_ = (x5_39 ++ [t121]) := ⟨_, rfl⟩
           replace H : (spec_l3Params.j3 kj39 y122 a0_0 a0_1 a0_2 a0_3 a0_4 a1_0 a1_1 a1_2 a1_3 a1_4) = some r := by first | (rw [hy122]; with_reducible exact H) | (rw [hy122]; exact H) | exact H
           have Ny122 := am hy122
           clear hy122
           have H' := am H
           clear H
           have hnb62 := NB105_104.out
           have hnc62 := NB104_105.out
           have hnb63 := NB105_109.out
           have hnc63 := NB109_105.out
           have hcz64_0 : wc.cell? ⟨gb105, 0, none⟩ = some (.int .i64 a1_0) := (blk_cell BK105.out 0).trans rfl
           have hcz64_1 : wc.cell? ⟨gb105, 1, none⟩ = some (.int .i64 a1_1) := (blk_cell BK105.out 1).trans rfl
           have hcz64_2 : wc.cell? ⟨gb105, 2, none⟩ = some (.bool a1_2) := (blk_cell BK105.out 2).trans rfl
           have hcz64_3 : wc.cell? ⟨gb105, 3, none⟩ = some (.bool a1_3) := (blk_cell BK105.out 3).trans rfl
           have hcz64_4 : wc.cell? ⟨gb105, 4, none⟩ = some (.bool a1_4) := (blk_cell BK105.out 4).trans rfl
           have hfz64_0 := blk_frozen BK105.out 0
           have hfz64_1 := blk_frozen BK105.out 1
           have hfz64_2 := blk_frozen BK105.out 2
           have hfz64_3 := blk_frozen BK105.out 3
           have hfz64_4 := blk_frozen BK105.out 4
           go_wp2_with (first | ((with_reducible refine gate_callee (f := 63) rfl ?_); refine gl_ (some 48) Tryd.func63 #[.bool a1_4, .int .i64 7, .int .i64 27] ?_; (with_reducible refine (spec_l3Flag.calls a1_4 7 27 t121 _ A60.out).mono ?_); rintro e w' ⟨rfl, ⟨nd, rfl⟩⟩; refine ⟨_, rfl, ?_⟩) | ((with_reducible refine gate_builtin (b := .append) (xs := #[.tmp 45, .tmp 49]) rfl ?_); at_builtin; refine Kd.R_append (Kd.int .i64) (w0 := w) w.heap.size rfl (.tmp 45) (.tmp 49) 37 2 (.int .i64 0) 8 rfl Tryd.underlying37 info2 rfl (by decide) (by omega) u5 x5_39 t121 [.int .i64 t121] (fun _ => True) (fun _ => False) rfl rfl ?aP (fun _ hk => hk.elim) ?aF ?aO ?aB ?aS ?aL ?_; (case aP => exact rfl); (case aB => exact (by repeat (first | (with_reducible first | exact HB.out | apply b1 | apply b2 | apply b3 | refine below_set ?_ GE104.out | refine below_set ?_ GE105.out | refine below_set ?_ GE109.out) | exact HB.out))); (case aF => exact (fun _ _ => trivial)); (case aO => exact (rr HO_5)); (case aS => exact (below_size (by repeat (first | (with_reducible first | exact HB.out | apply b1 | apply b2 | apply b3 | refine below_set ?_ GE104.out | refine below_set ?_ GE105.out | refine below_set ?_ GE109.out) | exact HB.out)))); (case aL => have := LMc61.out; omega); intro v123 w65 ho hb hg hat; rw [← Ny122.out] at ho; have n0_ := am (blk_grown (g := gb104) (o := .cells #[.int .i64 a0_0, .int .i64 a0_1, .bool a0_2, .bool a0_3, .bool a0_4] 25 (0, 0)) (rk BK104) hg (Kd.R_ne HO_5.out BK104.out (by decide))); have n1_ := am (blk_grown (g := gb105) (o := .cells #[.int .i64 a1_0, .int .i64 a1_1, .bool a1_2, .bool a1_3, .bool a1_4] 25 (0, 0)) (rk BK105) hg (Kd.R_ne HO_5.out BK105.out (by decide))); have n2_ := am (blk_grown (g := gb109) (o := .cells #[.int .i64 0, .int .i64 0, .bool false, .bool false, .bool false] 25 (0, 0)) (rk BK109) hg (Kd.R_ne HO_5.out BK109.out (by decide))); have n3_ := am (hb); have n4_ := am (ho); clear BK104; clear BK105; clear BK109; clear HB; clear HO_5; have BK104 := n0_; have BK105 := n1_; have BK109 := n2_; have HB := n3_; have HO124 := n4_; clear n0_ n1_ n2_ n3_ n4_; clear ho hb hg hat))
           go_meet
           case rel => exact ⟨_, (y122), H', ⟨by have := HJ2.out; have := HJ26.out; have := HJ39.out; first | omega | exact Nat.le_refl _⟩, ⟨rr HO124⟩, ⟨rk BK104⟩, ⟨rk BK105⟩, ⟨rk BK109⟩, ⟨by repeat (first | (with_reducible first | exact HB.out | apply b1 | apply b2 | apply b3 | refine below_set ?_ GE104.out | refine below_set ?_ GE105.out | refine below_set ?_ GE109.out) | exact HB.out)⟩⟩
          ·rw [if_neg c61] at H
           exact absurd H (by simp)
         ·rw [if_neg c59] at H
          have c59b0 : (a0_4 != a1_4) = false := by simpa using c59
          (try (have c59b8 : ¬ ((!(a0_4 == a1_4)) = true) := (by decide : ∀ x y : Bool, (x != y) = false → ¬ ((!(x == y)) = true)) a0_4 a1_4 c59b0))
          (try (have c59b9 : ¬ ((a0_4 == a1_4) = false) := (by decide : ∀ x y : Bool, (x != y) = false → ¬ ((x == y) = false)) a0_4 a1_4 c59b0))
          (try (have c59b1 : decide (a0_4 = a1_4) = true := by simpa using c59))
          (try (have c59b2 : (a0_4 == a1_4) = true := by simpa using c59))
          clear c59
          (first | rw [c59b0] | rw [show (!(a0_4 == a1_4)) = false from c59b0] | (simp only [i64_w, i32_w]; rw [c59b0]) | skip)
          have H' := am H
          clear H
          go_wp2
          go_meet
          case rel => exact ⟨_, (x5_39), H', ⟨by have := HJ2.out; have := HJ26.out; have := HJ39.out; first | omega | exact Nat.le_refl _⟩, ⟨rr HO_5⟩, ⟨rk BK104⟩, ⟨rk BK105⟩, ⟨rk BK109⟩, ⟨by repeat (first | (with_reducible first | exact HB.out | apply b1 | apply b2 | apply b3 | refine below_set ?_ GE104.out | refine below_set ?_ GE105.out | refine below_set ?_ GE109.out) | exact HB.out)⟩⟩
        case rest =>
         clear HC53
         try clear c1
         try clear c2
         try clear p2
         try clear c3
         try clear c4
         try clear c5
         try clear c6
         try clear c9
         try clear c10
         try clear c12
         try clear c12b0
         try clear c12b1
         try clear c12b2
         try clear c13
         try clear c14
         try clear c16
         try clear c19
         try clear c20
         try clear c22
         try clear c24
         try clear c28
         try clear c29
         try clear c31
         try clear c33
         try clear c33b0
         try clear c33b1
         try clear c33b2
         try clear c35
         try clear c36
         try clear c37
         try clear c41
         try clear c42
         try clear c43
         try clear c44
         try clear c46
         try clear c46b0
         try clear c46b1
         try clear c46b2
         try clear c48
         try clear c49
         try clear c50
         try clear c54
         try clear c55
         try clear c57
         try clear c59
         try clear c59b0
         try clear c59b1
         try clear c59b2
         try clear c61
         try clear c62
         try clear c63
         try clear hcz11_0
         try clear hcz11_1
         try clear hcz11_2
         try clear hcz11_3
         try clear hcz11_4
         try clear hcz15_0
         try clear hcz15_1
         try clear hcz15_2
         try clear hcz15_3
         try clear hcz15_4
         try clear hcz17_0
         try clear hcz17_1
         try clear hcz17_2
         try clear hcz17_3
         try clear hcz17_4
         try clear hcz18_0
         try clear hcz18_1
         try clear hcz18_2
         try clear hcz18_3
         try clear hcz18_4
         try clear hcz21_0
         try clear hcz21_1
         try clear hcz21_2
         try clear hcz21_3
         try clear hcz21_4
         try clear hcz23_0
         try clear hcz23_1
         try clear hcz23_2
         try clear hcz23_3
         try clear hcz23_4
         try clear hcz30_0
         try clear hcz30_1
         try clear hcz30_2
         try clear hcz30_3
         try clear hcz30_4
         try clear hcz32_0
         try clear hcz32_1
         try clear hcz32_2
         try clear hcz32_3
         try clear hcz32_4
         try clear hcz38_0
         try clear hcz38_1
         try clear hcz38_2
         try clear hcz38_3
         try clear hcz38_4
         try clear hcz43_0
         try clear hcz43_1
         try clear hcz43_2
         try clear hcz43_3
         try clear hcz43_4
         try clear hcz45_0
         try clear hcz45_1
         try clear hcz45_2
         try clear hcz45_3
         try clear hcz45_4
         try clear hcz51_0
         try clear hcz51_1
         try clear hcz51_2
         try clear hcz51_3
         try clear hcz51_4
         try clear hcz56_0
         try clear hcz56_1
         try clear hcz56_2
         try clear hcz56_3
         try clear hcz56_4
         try clear hcz58_0
         try clear hcz58_1
         try clear hcz58_2
         try clear hcz58_3
         try clear hcz58_4
         try clear hcz64_0
         try clear hcz64_1
         try clear hcz64_2
         try clear hcz64_3
         try clear hcz64_4
         try clear hfz11_0
         try clear hfz11_1
         try clear hfz11_2
         try clear hfz11_3
         try clear hfz11_4
         try clear hfz15_0
         try clear hfz15_1
         try clear hfz15_2
         try clear hfz15_3
         try clear hfz15_4
         try clear hfz17_0
         try clear hfz17_1
         try clear hfz17_2
         try clear hfz17_3
         try clear hfz17_4
         try clear hfz18_0
         try clear hfz18_1
         try clear hfz18_2
         try clear hfz18_3
         try clear hfz18_4
         try clear hfz21_0
         try clear hfz21_1
         try clear hfz21_2
         try clear hfz21_3
         try clear hfz21_4
         try clear hfz23_0
         try clear hfz23_1
         try clear hfz23_2
         try clear hfz23_3
         try clear hfz23_4
         try clear hfz30_0
         try clear hfz30_1
         try clear hfz30_2
         try clear hfz30_3
         try clear hfz30_4
         try clear hfz32_0
         try clear hfz32_1
         try clear hfz32_2
         try clear hfz32_3
         try clear hfz32_4
         try clear hfz38_0
         try clear hfz38_1
         try clear hfz38_2
         try clear hfz38_3
         try clear hfz38_4
         try clear hfz43_0
         try clear hfz43_1
         try clear hfz43_2
         try clear hfz43_3
         try clear hfz43_4
         try clear hfz45_0
         try clear hfz45_1
         try clear hfz45_2
         try clear hfz45_3
         try clear hfz45_4
         try clear hfz51_0
         try clear hfz51_1
         try clear hfz51_2
         try clear hfz51_3
         try clear hfz51_4
         try clear hfz56_0
         try clear hfz56_1
         try clear hfz56_2
         try clear hfz56_3
         try clear hfz56_4
         try clear hfz58_0
         try clear hfz58_1
         try clear hfz58_2
         try clear hfz58_3
         try clear hfz58_4
         try clear hfz64_0
         try clear hfz64_1
         try clear hfz64_2
         try clear hfz64_3
         try clear hfz64_4
         try clear p2
         obtain ⟨kq, x5_52, HA, HJ52, HO_5, BK104, BK105, BK109, HB⟩ := hcut
         cases kq with
         | zero => exact absurd HA.out (by simp [spec_l3Params.j3])
         | succ kj52 =>
          have H := HA.out
          clear HA
          simp only [spec_l3Params.j3] at H
          by_cases c66 : a0_0 = a1_0
          ·rw [if_pos c66] at H
           have c66b0 : (a0_0 == a1_0) = true := beq_iff_eq.mpr c66
           have c66b1 : (a0_0 != a1_0) = false := bne_eq_false_iff_eq.mpr c66
           clear c66
           by_cases c67 : a0_1 = a1_1
           ·rw [if_pos c67] at H
            have c67b0 : (a0_1 == a1_1) = true := beq_iff_eq.mpr c67
            have c67b1 : (a0_1 != a1_1) = false := bne_eq_false_iff_eq.mpr c67
            clear c67
            obtain rfl := Option.some.inj H
            have hnb68 := NB104_105.out
            have hnc68 := NB105_104.out
            have hnb69 := NB104_109.out
            have hnc69 := NB109_104.out
            have hcz70_0 : wc.cell? ⟨gb104, 0, none⟩ = some (.int .i64 a0_0) := (blk_cell BK104.out 0).trans rfl
            have hcz70_1 : wc.cell? ⟨gb104, 1, none⟩ = some (.int .i64 a0_1) := (blk_cell BK104.out 1).trans rfl
            have hcz70_2 : wc.cell? ⟨gb104, 2, none⟩ = some (.bool a0_2) := (blk_cell BK104.out 2).trans rfl
            have hcz70_3 : wc.cell? ⟨gb104, 3, none⟩ = some (.bool a0_3) := (blk_cell BK104.out 3).trans rfl
            have hcz70_4 : wc.cell? ⟨gb104, 4, none⟩ = some (.bool a0_4) := (blk_cell BK104.out 4).trans rfl
            have hfz70_0 := blk_frozen BK104.out 0
            have hfz70_1 := blk_frozen BK104.out 1
            have hfz70_2 := blk_frozen BK104.out 2
            have hfz70_3 := blk_frozen BK104.out 3
            have hfz70_4 := blk_frozen BK104.out 4
            have hnb71 := NB105_109.out
            have hnc71 := NB109_105.out
            have hcz72_0 : wc.cell? ⟨gb105, 0, none⟩ = some (.int .i64 a1_0) := (blk_cell BK105.out 0).trans rfl
            have hcz72_1 : wc.cell? ⟨gb105, 1, none⟩ = some (.int .i64 a1_1) := (blk_cell BK105.out 1).trans rfl
            have hcz72_2 : wc.cell? ⟨gb105, 2, none⟩ = some (.bool a1_2) := (blk_cell BK105.out 2).trans rfl
            have hcz72_3 : wc.cell? ⟨gb105, 3, none⟩ = some (.bool a1_3) := (blk_cell BK105.out 3).trans rfl
            have hcz72_4 : wc.cell? ⟨gb105, 4, none⟩ = some (.bool a1_4) := (blk_cell BK105.out 4).trans rfl
            have hfz72_0 := blk_frozen BK105.out 0
            have hfz72_1 := blk_frozen BK105.out 1
            have hfz72_2 := blk_frozen BK105.out 2
            have hfz72_3 := blk_frozen BK105.out 3
            have hfz72_4 := blk_frozen BK105.out 4
            go_wp2
            go_ret
            exact ⟨_, by first | rfl | (simp [errW_none, errW_some] <;> rfl) | (simp [*, errW_none, errW_some] <;> rfl), by (with_reducible repeat (first | apply r1 | apply r2 | apply r3)); exact HO_5.out, by repeat (first | (with_reducible first | exact HB.out | apply b1 | apply b2 | apply b3 | refine below_set ?_ GE104.out | refine below_set ?_ GE105.out | refine below_set ?_ GE109.out) | exact HB.out)⟩
           ·rw [if_neg c67] at H
            have c67b0 : (a0_1 == a1_1) = false := beq_eq_false_iff_ne.mpr c67
            have c67b1 : (a0_1 != a1_1) = true := bne_iff_ne.mpr c67
            replace H := Option.bind_eq_some_iff.mp H
            obtain ⟨t125, A730, H⟩ := H
            replace H : (if x5_52.length < 17592186044416 then (some (x5_52 ++ [t125])) else (none)) = some r := H
            have A73 := am A730
            clear A730
            by_cases c74 : x5_52.length < 17592186044416
            ·rw [if_pos c74] at H
             have LMc74 := am c74
             clear c74
             obtain ⟨y126, hy126⟩ : ∃ y_ : List Int, y_ = (x5_52 ++ [t125]) := ⟨_, rfl⟩
             replace H : (some y126) = some r := by first | (rw [hy126]; with_reducible exact H) | (rw [hy126]; exact H) | exact H
             have Ny126 := am hy126
             clear hy126
             obtain rfl := Option.some.inj H
             have hnb75 := NB104_105.out
             have hnc75 := NB105_104.out
             have hnb76 := NB104_109.out
             have hnc76 := NB109_104.out
             have hcz77_0 : wc.cell? ⟨gb104, 0, none⟩ = some (.int .i64 a0_0) := (blk_cell BK104.out 0).trans rfl
             have hcz77_1 : wc.cell? ⟨gb104, 1, none⟩ = some (.int .i64 a0_1) := (blk_cell BK104.out 1).trans rfl
             have hcz77_2 : wc.cell? ⟨gb104, 2, none⟩ = some (.bool a0_2) := (blk_cell BK104.out 2).trans rfl
             have hcz77_3 : wc.cell? ⟨gb104, 3, none⟩ = some (.bool a0_3) := (blk_cell BK104.out 3).trans rfl
             have hcz77_4 : wc.cell? ⟨gb104, 4, none⟩ = some (.bool a0_4) := (blk_cell BK104.out 4).trans rfl
             have hfz77_0 := blk_frozen BK104.out 0
             have hfz77_1 := blk_frozen BK104.out 1
             have hfz77_2 := blk_frozen BK104.out 2
             have hfz77_3 := blk_frozen BK104.out 3
             have hfz77_4 := blk_frozen BK104.out 4
             have hnb78 := NB105_109.out
             have hnc78 := NB109_105.out
             have hcz79_0 : wc.cell? ⟨gb105, 0, none⟩ = some (.int .i64 a1_0) := (blk_cell BK105.out 0).trans rfl
             have hcz79_1 : wc.cell? ⟨gb105, 1, none⟩ = some (.int .i64 a1_1) := (blk_cell BK105.out 1).trans rfl
             have hcz79_2 : wc.cell? ⟨gb105, 2, none⟩ = some (.bool a1_2) := (blk_cell BK105.out 2).trans rfl
             have hcz79_3 : wc.cell? ⟨gb105, 3, none⟩ = some (.bool a1_3) := (blk_cell BK105.out 3).trans rfl
             have hcz79_4 : wc.cell? ⟨gb105, 4, none⟩ = some (.bool a1_4) := (blk_cell BK105.out 4).trans rfl
             have hfz79_0 := blk_frozen BK105.out 0
             have hfz79_1 := blk_frozen BK105.out 1
             have hfz79_2 := blk_frozen BK105.out 2
             have hfz79_3 := blk_frozen BK105.out 3
             have hfz79_4 := blk_frozen BK105.out 4
             go_wp2_with (first | ((with_reducible refine gate_callee (f := 63) rfl ?_); refine gl_ (some 78) Tryd.func63 #[.bool (a1_1 == 0), .int .i64 49, .int .i64 (wrap64 (39 + a1_1))] ?_; (with_reducible refine (spec_l3Flag.calls (a1_1 == 0) 49 (wrap64 (39 + a1_1)) t125 _ A73.out).mono ?_); rintro e w' ⟨rfl, ⟨nd, rfl⟩⟩; refine ⟨_, rfl, ?_⟩) | ((with_reducible refine gate_builtin (b := .append) (xs := #[.tmp 71, .tmp 79]) rfl ?_); at_builtin; refine Kd.R_append (Kd.int .i64) (w0 := w) w.heap.size rfl (.tmp 71) (.tmp 79) 37 2 (.int .i64 0) 8 rfl Tryd.underlying37 info2 rfl (by decide) (by omega) u5 x5_52 t125 [.int .i64 t125] (fun _ => True) (fun _ => False) rfl rfl ?aP (fun _ hk => hk.elim) ?aF ?aO ?aB ?aS ?aL ?_; (case aP => exact rfl); (case aB => exact (by repeat (first | (with_reducible first | exact HB.out | apply b1 | apply b2 | apply b3 | refine below_set ?_ GE104.out | refine below_set ?_ GE105.out | refine below_set ?_ GE109.out) | exact HB.out))); (case aF => exact (fun _ _ => trivial)); (case aO => exact (rr HO_5)); (case aS => exact (below_size (by repeat (first | (with_reducible first | exact HB.out | apply b1 | apply b2 | apply b3 | refine below_set ?_ GE104.out | refine below_set ?_ GE105.out | refine below_set ?_ GE109.out) | exact HB.out)))); (case aL => have := LMc74.out; omega); intro v127 w80 ho hb hg hat; rw [← Ny126.out] at ho; have n0_ := am (blk_grown (g := gb104) (o := .cells #[.int .i64 a0_0, .int .i64 a0_1, .bool a0_2, .bool a0_3, .bool a0_4] 25 (0, 0)) (rk BK104) hg (Kd.R_ne HO_5.out BK104.out (by decide))); have n1_ := am (blk_grown (g := gb105) (o := .cells #[.int .i64 a1_0, .int .i64 a1_1, .bool a1_2, .bool a1_3, .bool a1_4] 25 (0, 0)) (rk BK105) hg (Kd.R_ne HO_5.out BK105.out (by decide))); have n2_ := am (blk_grown (g := gb109) (o := .cells #[.int .i64 0, .int .i64 0, .bool false, .bool false, .bool false] 25 (0, 0)) (rk BK109) hg (Kd.R_ne HO_5.out BK109.out (by decide))); have n3_ := am (hb); have n4_ := am (ho); clear BK104; clear BK105; clear BK109; clear HB; clear HO_5; have BK104 := n0_; have BK105 := n1_; have BK109 := n2_; have HB := n3_; have HO128 := n4_; clear n0_ n1_ n2_ n3_ n4_; clear ho hb hg hat))
             go_ret
             exact ⟨_, by first | rfl | (simp [errW_none, errW_some] <;> rfl) | (simp [*, errW_none, errW_some] <;> rfl), by (with_reducible repeat (first | apply r1 | apply r2 | apply r3)); exact HO128.out, by repeat (first | (with_reducible first | exact HB.out | apply b1 | apply b2 | apply b3 | refine below_set ?_ GE104.out | refine below_set ?_ GE105.out | refine below_set ?_ GE109.out) | exact HB.out)⟩
            ·rw [if_neg c74] at H
             exact absurd H (by simp)
          ·rw [if_neg c66] at H
           have c66b0 : (a0_0 == a1_0) = false := beq_eq_false_iff_ne.mpr c66
           have c66b1 : (a0_0 != a1_0) = true := bne_iff_ne.mpr c66
           replace H := Option.bind_eq_some_iff.mp H
           obtain ⟨t129, A810, H⟩ := H
           replace H : (if x5_52.length < 17592186044416 then ((some (x5_52 ++ [t129] : List Int)).bind fun y130 => (if a0_1 = a1_1 then (some y130) else ((spec_l3Flag.f (a1_1 == 0) 49 (wrap64 (39 + a1_1))).bind fun t133 => (if y130.length < 17592186044416 then (some (y130 ++ [t133])) else (none))))) else (none)) = some r := H
           have A81 := am A810
           clear A810
           by_cases c82 : x5_52.length < 17592186044416
           ·rw [if_pos c82] at H
            have LMc82 := am c82
            clear c82
            obtain ⟨y130, hy130⟩ : ∃ y_ : List Int, y_ = (x5_52 ++ [t129]) := ⟨_, rfl⟩
            replace H : (if a0_1 = a1_1 then (some y130) else ((spec_l3Flag.f (a1_1 == 0) 49 (wrap64 (39 + a1_1))).bind fun t133 => (if y130.length < 17592186044416 then (some (y130 ++ [t133])) else (none)))) = some r := by first | (rw [hy130]; with_reducible exact H) | (rw [hy130]; exact H) | exact H
            have Ny130 := am hy130
            clear hy130
            by_cases c83 : a0_1 = a1_1
            ·rw [if_pos c83] at H
             have c83b0 : (a0_1 == a1_1) = true := beq_iff_eq.mpr c83
             have c83b1 : (a0_1 != a1_1) = false := bne_eq_false_iff_eq.mpr c83
             clear c83
             obtain rfl := Option.some.inj H
             have hnb84 := NB104_105.out
             have hnc84 := NB105_104.out
             have hnb85 := NB104_109.out
             have hnc85 := NB109_104.out
             have hcz86_0 : wc.cell? ⟨gb104, 0, none⟩ = some (.int .i64 a0_0) := (blk_cell BK104.out 0).trans rfl
             have hcz86_1 : wc.cell? ⟨gb104, 1, none⟩ = some (.int .i64 a0_1) := (blk_cell BK104.out 1).trans rfl
             have hcz86_2 : wc.cell? ⟨gb104, 2, none⟩ = some (.bool a0_2) := (blk_cell BK104.out 2).trans rfl
             have hcz86_3 : wc.cell? ⟨gb104, 3, none⟩ = some (.bool a0_3) := (blk_cell BK104.out 3).trans rfl
             have hcz86_4 : wc.cell? ⟨gb104, 4, none⟩ = some (.bool a0_4) := (blk_cell BK104.out 4).trans rfl
             have hfz86_0 := blk_frozen BK104.out 0
             have hfz86_1 := blk_frozen BK104.out 1
             have hfz86_2 := blk_frozen BK104.out 2
             have hfz86_3 := blk_frozen BK104.out 3
             have hfz86_4 := blk_frozen BK104.out 4
             have hnb87 := NB105_109.out
             have hnc87 := NB109_105.out
             have hcz88_0 : wc.cell? ⟨gb105, 0, none⟩ = some (.int .i64 a1_0) := (blk_cell BK105.out 0).trans rfl
             have hcz88_1 : wc.cell? ⟨gb105, 1, none⟩ = some (.int .i64 a1_1) := (blk_cell BK105.out 1).trans rfl
             have hcz88_2 : wc.cell? ⟨gb105, 2, none⟩ = some (.bool a1_2) := (blk_cell BK105.out 2).trans rfl
             have hcz88_3 : wc.cell? ⟨gb105, 3, none⟩ = some (.bool a1_3) := (blk_cell BK105.out 3).trans rfl
             have hcz88_4 : wc.cell? ⟨gb105, 4, none⟩ = some (.bool a1_4) := (blk_cell BK105.out 4).trans rfl
             have hfz88_0 := blk_frozen BK105.out 0
             have hfz88_1 := blk_frozen BK105.out 1
             have hfz88_2 := blk_frozen BK105.out 2
             have hfz88_3 := blk_frozen BK105.out 3
             have hfz88_4 := blk_frozen BK105.out 4
             go_wp2_with (first | ((with_reducible refine gate_callee (f := 63) rfl ?_); refine gl_ (some 63) Tryd.func63 #[.bool (a1_0 == 0), .int .i64 39, .int .i64 (wrap64 (29 + a1_0))] ?_; (with_reducible refine (spec_l3Flag.calls (a1_0 == 0) 39 (wrap64 (29 + a1_0)) t129 _ A81.out).mono ?_); rintro e w' ⟨rfl, ⟨nd, rfl⟩⟩; refine ⟨_, rfl, ?_⟩) | ((with_reducible refine gate_builtin (b := .append) (xs := #[.tmp 56, .tmp 64]) rfl ?_); at_builtin; refine Kd.R_append (Kd.int .i64) (w0 := w) w.heap.size rfl (.tmp 56) (.tmp 64) 37 2 (.int .i64 0) 8 rfl Tryd.underlying37 info2 rfl (by decide) (by omega) u5 x5_52 t129 [.int .i64 t129] (fun _ => True) (fun _ => False) rfl rfl ?aP (fun _ hk => hk.elim) ?aF ?aO ?aB ?aS ?aL ?_; (case aP => exact rfl); (case aB => exact (by repeat (first | (with_reducible first | exact HB.out | apply b1 | apply b2 | apply b3 | refine below_set ?_ GE104.out | refine below_set ?_ GE105.out | refine below_set ?_ GE109.out) | exact HB.out))); (case aF => exact (fun _ _ => trivial)); (case aO => exact (rr HO_5)); (case aS => exact (below_size (by repeat (first | (with_reducible first | exact HB.out | apply b1 | apply b2 | apply b3 | refine below_set ?_ GE104.out | refine below_set ?_ GE105.out | refine below_set ?_ GE109.out) | exact HB.out)))); (case aL => have := LMc82.out; omega); intro v131 w89 ho hb hg hat; rw [← Ny130.out] at ho; have n0_ := am (blk_grown (g := gb104) (o := .cells #[.int .i64 a0_0, .int .i64 a0_1, .bool a0_2, .bool a0_3, .bool a0_4] 25 (0, 0)) (rk BK104) hg (Kd.R_ne HO_5.out BK104.out (by decide))); have n1_ := am (blk_grown (g := gb105) (o := .cells #[.int .i64 a1_0, .int .i64 a1_1, .bool a1_2, .bool a1_3, .bool a1_4] 25 (0, 0)) (rk BK105) hg (Kd.R_ne HO_5.out BK105.out (by decide))); have n2_ := am (blk_grown (g := gb109) (o := .cells #[.int .i64 0, .int .i64 0, .bool false, .bool false, .bool false] 25 (0, 0)) (rk BK109) hg (Kd.R_ne HO_5.out BK109.out (by decide))); have n3_ := am (hb); have n4_ := am (ho); clear BK104; clear BK105; clear BK109; clear HB; clear HO_5; have BK104 := n0_; have BK105 := n1_; have BK109 := n2_; have HB := n3_; have HO132 := n4_; clear n0_ n1_ n2_ n3_ n4_; clear ho hb hg hat; have hcz90_0 : w89.cell? ⟨gb104, 0, none⟩ = some (.int .i64 a0_0) := (blk_cell BK104.out 0).trans rfl; have hcz90_1 : w89.cell? ⟨gb104, 1, none⟩ = some (.int .i64 a0_1) := (blk_cell BK104.out 1).trans rfl; have hcz90_2 : w89.cell? ⟨gb104, 2, none⟩ = some (.bool a0_2) := (blk_cell BK104.out 2).trans rfl; have hcz90_3 : w89.cell? ⟨gb104, 3, none⟩ = some (.bool a0_3) := (blk_cell BK104.out 3).trans rfl; have hcz90_4 : w89.cell? ⟨gb104, 4, none⟩ = some (.bool a0_4) := (blk_cell BK104.out 4).trans rfl; have hfz90_0 := blk_frozen BK104.out 0; have hfz90_1 := blk_frozen BK104.out 1; have hfz90_2 := blk_frozen BK104.out 2; have hfz90_3 := blk_frozen BK104.out 3; have hfz90_4 := blk_frozen BK104.out 4; have hcz91_0 : w89.cell? ⟨gb105, 0, none⟩ = some (.int .i64 a1_0) := (blk_cell BK105.out 0).trans rfl; have hcz91_1 : w89.cell? ⟨gb105, 1, none⟩ = some (.int .i64 a1_1) := (blk_cell BK105.out 1).trans rfl; have hcz91_2 : w89.cell? ⟨gb105, 2, none⟩ = some (.bool a1_2) := (blk_cell BK105.out 2).trans rfl; have hcz91_3 : w89.cell? ⟨gb105, 3, none⟩ = some (.bool a1_3) := (blk_cell BK105.out 3).trans rfl; have hcz91_4 : w89.cell? ⟨gb105, 4, none⟩ = some (.bool a1_4) := (blk_cell BK105.out 4).trans rfl; have hfz91_0 := blk_frozen BK105.out 0; have hfz91_1 := blk_frozen BK105.out 1; have hfz91_2 := blk_frozen BK105.out 2; have hfz91_3 := blk_frozen BK105.out 3; have hfz91_4 := blk_frozen BK105.out 4))
             go_ret
             exact ⟨_, by first | rfl | (simp [errW_none, errW_some] <;> rfl) | (simp [*, errW_none, errW_some] <;> rfl), by (with_reducible repeat (first | apply r1 | apply r2 | apply r3)); exact HO132.out, by repeat (first | (with_reducible first | exact HB.out | apply b1 | apply b2 | apply b3 | refine below_set ?_ GE104.out | refine below_set ?_ GE105.out | refine below_set ?_ GE109.out) | exact HB.out)⟩
            ·rw [if_neg c83] at H
             have c83b0 : (a0_1 == a1_1) = false := beq_eq_false_iff_ne.mpr c83
             have c83b1 : (a0_1 != a1_1) = true := bne_iff_ne.mpr c83
             replace H := Option.bind_eq_some_iff.mp H
             obtain ⟨t133, A920, H⟩ := H
             replace H : (if y130.length < 17592186044416 then (some (y130 ++ [t133])) else (none)) = some r := H
             have A92 := am A920
             clear A920
             by_cases c93 : y130.length < 17592186044416
             ·rw [if_pos c93] at H
              have LMc93 := am c93
              clear c93
              obtain ⟨y134, hy134⟩ : ∃ y_ : List Int, y_ = (y130 ++ [t133]) := ⟨_, rfl⟩
              replace H : (some y134) = some r := by first | (rw [hy134]; with_reducible exact H) | (rw [hy134]; exact H) | exact H
              have Ny134 := am hy134
              clear hy134
              obtain rfl := Option.some.inj H
              have hnb94 := NB104_105.out
              have hnc94 := NB105_104.out
              have hnb95 := NB104_109.out
              have hnc95 := NB109_104.out
              have hcz96_0 : wc.cell? ⟨gb104, 0, none⟩ = some (.int .i64 a0_0) := (blk_cell BK104.out 0).trans rfl
              have hcz96_1 : wc.cell? ⟨gb104, 1, none⟩ = some (.int .i64 a0_1) := (blk_cell BK104.out 1).trans rfl
              have hcz96_2 : wc.cell? ⟨gb104, 2, none⟩ = some (.bool a0_2) := (blk_cell BK104.out 2).trans rfl
              have hcz96_3 : wc.cell? ⟨gb104, 3, none⟩ = some (.bool a0_3) := (blk_cell BK104.out 3).trans rfl
              have hcz96_4 : wc.cell? ⟨gb104, 4, none⟩ = some (.bool a0_4) := (blk_cell BK104.out 4).trans rfl
              have hfz96_0 := blk_frozen BK104.out 0
              have hfz96_1 := blk_frozen BK104.out 1
              have hfz96_2 := blk_frozen BK104.out 2
              have hfz96_3 := blk_frozen BK104.out 3
              have hfz96_4 := blk_frozen BK104.out 4
              have hnb97 := NB105_109.out
              have hnc97 := NB109_105.out
              have hcz98_0 : wc.cell? ⟨gb105, 0, none⟩ = some (.int .i64 a1_0) := (blk_cell BK105.out 0).trans rfl
              have hcz98_1 : wc.cell? ⟨gb105, 1, none⟩ = some (.int .i64 a1_1) := (blk_cell BK105.out 1).trans rfl
              have hcz98_2 : wc.cell? ⟨gb105, 2, none⟩ = some (.bool a1_2) := (blk_cell BK105.out 2).trans rfl
              have hcz98_3 : wc.cell? ⟨gb105, 3, none⟩ = some (.bool a1_3) := (blk_cell BK105.out 3).trans rfl
              have hcz98_4 : wc.cell? ⟨gb105, 4, none⟩ = some (.bool a1_4) := (blk_cell BK105.out 4).trans rfl
              have hfz98_0 := blk_frozen BK105.out 0
              have hfz98_1 := blk_frozen BK105.out 1
              have hfz98_2 := blk_frozen BK105.out 2
              have hfz98_3 := blk_frozen BK105.out 3
              have hfz98_4 := blk_frozen BK105.out 4
              go_wp2_with (first | ((with_reducible refine gate_callee (f := 63) rfl ?_); refine gl_ (some 63) Tryd.func63 #[.bool (a1_0 == 0), .int .i64 39, .int .i64 (wrap64 (29 + a1_0))] ?_; (with_reducible refine (spec_l3Flag.calls (a1_0 == 0) 39 (wrap64 (29 + a1_0)) t129 _ A81.out).mono ?_); rintro e w' ⟨rfl, ⟨nd, rfl⟩⟩; refine ⟨_, rfl, ?_⟩) | ((with_reducible refine gate_builtin (b := .append) (xs := #[.tmp 56, .tmp 64]) rfl ?_); at_builtin; refine Kd.R_append (Kd.int .i64) (w0 := w) w.heap.size rfl (.tmp 56) (.tmp 64) 37 2 (.int .i64 0) 8 rfl Tryd.underlying37 info2 rfl (by decide) (by omega) u5 x5_52 t129 [.int .i64 t129] (fun _ => True) (fun _ => False) rfl rfl ?aP (fun _ hk => hk.elim) ?aF ?aO ?aB ?aS ?aL ?_; (case aP => exact rfl); (case aB => exact (by repeat (first | (with_reducible first | exact HB.out | apply b1 | apply b2 | apply b3 | refine below_set ?_ GE104.out | refine below_set ?_ GE105.out | refine below_set ?_ GE109.out) | exact HB.out))); (case aF => exact (fun _ _ => trivial)); (case aO => exact (rr HO_5)); (case aS => exact (below_size (by repeat (first | (with_reducible first | exact HB.out | apply b1 | apply b2 | apply b3 | refine below_set ?_ GE104.out | refine below_set ?_ GE105.out | refine below_set ?_ GE109.out) | exact HB.out)))); (case aL => have := LMc82.out; omega); intro v131 w99 ho hb hg hat; rw [← Ny130.out] at ho; have n0_ := am (blk_grown (g := gb104) (o := .cells #[.int .i64 a0_0, .int .i64 a0_1, .bool a0_2, .bool a0_3, .bool a0_4] 25 (0, 0)) (rk BK104) hg (Kd.R_ne HO_5.out BK104.out (by decide))); have n1_ := am (blk_grown (g := gb105) (o := .cells #[.int .i64 a1_0, .int .i64 a1_1, .bool a1_2, .bool a1_3, .bool a1_4] 25 (0, 0)) (rk BK105) hg (Kd.R_ne HO_5.out BK105.out (by decide))); have n2_ := am (blk_grown (g := gb109) (o := .cells #[.int .i64 0, .int .i64 0, .bool false, .bool false, .bool false] 25 (0, 0)) (rk BK109) hg (Kd.R_ne HO_5.out BK109.out (by decide))); have n3_ := am (hb); have n4_ := am (ho); clear BK104; clear BK105; clear BK109; clear HB; clear HO_5; have BK104 := n0_; have BK105 := n1_; have BK109 := n2_; have HB := n3_; have HO132 := n4_; clear n0_ n1_ n2_ n3_ n4_; clear ho hb hg hat; have hcz100_0 : w99.cell? ⟨gb104, 0, none⟩ = some (.int .i64 a0_0) := (blk_cell BK104.out 0).trans rfl; have hcz100_1 : w99.cell? ⟨gb104, 1, none⟩ = some (.int .i64 a0_1) := (blk_cell BK104.out 1).trans rfl; have hcz100_2 : w99.cell? ⟨gb104, 2, none⟩ = some (.bool a0_2) := (blk_cell BK104.out 2).trans rfl; have hcz100_3 : w99.cell? ⟨gb104, 3, none⟩ = some (.bool a0_3) := (blk_cell BK104.out 3).trans rfl; have hcz100_4 : w99.cell? ⟨gb104, 4, none⟩ = some (.bool a0_4) := (blk_cell BK104.out 4).trans rfl; have hfz100_0 := blk_frozen BK104.out 0; have hfz100_1 := blk_frozen BK104.out 1; have hfz100_2 := blk_frozen BK104.out 2; have hfz100_3 := blk_frozen BK104.out 3; have hfz100_4 := blk_frozen BK104.out 4; have hcz101_0 : w99.cell? ⟨gb105, 0, none⟩ = some (.int .i64 a1_0) := (blk_cell BK105.out 0).trans rfl; have hcz101_1 : w99.cell? ⟨gb105, 1, none⟩ = some (.int .i64 a1_1) := (blk_cell BK105.out 1).trans rfl; have hcz101_2 : w99.cell? ⟨gb105, 2, none⟩ = some (.bool a1_2) := (blk_cell BK105.out 2).trans rfl; have hcz101_3 : w99.cell? ⟨gb105, 3, none⟩ = some (.bool a1_3) := (blk_cell BK105.out 3).trans rfl; have hcz101_4 : w99.cell? ⟨gb105, 4, none⟩ = some (.bool a1_4) := (blk_cell BK105.out 4).trans rfl; have hfz101_0 := blk_frozen BK105.out 0; have hfz101_1 := blk_frozen BK105.out 1; have hfz101_2 := blk_frozen BK105.out 2; have hfz101_3 := blk_frozen BK105.out 3; have hfz101_4 := blk_frozen BK105.out 4) | ((with_reducible refine gate_callee (f := 63) rfl ?_); refine gl_ (some 78) Tryd.func63 #[.bool (a1_1 == 0), .int .i64 49, .int .i64 (wrap64 (39 + a1_1))] ?_; (with_reducible refine (spec_l3Flag.calls (a1_1 == 0) 49 (wrap64 (39 + a1_1)) t133 _ A92.out).mono ?_); rintro e w' ⟨rfl, ⟨nd, rfl⟩⟩; refine ⟨_, rfl, ?_⟩) | ((with_reducible refine gate_builtin (b := .append) (xs := #[.tmp 71, .tmp 79]) rfl ?_); at_builtin; refine Kd.R_append (Kd.int .i64) (w0 := w) w.heap.size rfl (.tmp 71) (.tmp 79) 37 2 (.int .i64 0) 8 rfl Tryd.underlying37 info2 rfl (by decide) (by omega) v131 y130 t133 [.int .i64 t133] (fun _ => True) (fun _ => False) rfl rfl ?aP (fun _ hk => hk.elim) ?aF ?aO ?aB ?aS ?aL ?_; (case aP => exact rfl); (case aB => exact (by repeat (first | (with_reducible first | exact HB.out | apply b1 | apply b2 | apply b3 | refine below_set ?_ GE104.out | refine below_set ?_ GE105.out | refine below_set ?_ GE109.out) | exact HB.out))); (case aF => exact (fun _ _ => trivial)); (case aO => exact (rr HO132)); (case aS => exact (below_size (by repeat (first | (with_reducible first | exact HB.out | apply b1 | apply b2 | apply b3 | refine below_set ?_ GE104.out | refine below_set ?_ GE105.out | refine below_set ?_ GE109.out) | exact HB.out)))); (case aL => have := LMc93.out; omega); intro v135 w102 ho hb hg hat; rw [← Ny134.out] at ho; have n0_ := am (blk_grown (g := gb104) (o := .cells #[.int .i64 a0_0, .int .i64 a0_1, .bool a0_2, .bool a0_3, .bool a0_4] 25 (0, 0)) (rk BK104) hg (Kd.R_ne HO132.out BK104.out (by decide))); have n1_ := am (blk_grown (g := gb105) (o := .cells #[.int .i64 a1_0, .int .i64 a1_1, .bool a1_2, .bool a1_3, .bool a1_4] 25 (0, 0)) (rk BK105) hg (Kd.R_ne HO132.out BK105.out (by decide))); have n2_ := am (blk_grown (g := gb109) (o := .cells #[.int .i64 0, .int .i64 0, .bool false, .bool false, .bool false] 25 (0, 0)) (rk BK109) hg (Kd.R_ne HO132.out BK109.out (by decide))); have n3_ := am (hb); have n4_ := am (ho); clear BK104; clear BK105; clear BK109; clear HB; clear HO132; have BK104 := n0_; have BK105 := n1_; have BK109 := n2_; have HB := n3_; have HO136 := n4_; clear n0_ n1_ n2_ n3_ n4_; clear ho hb hg hat))
              go_ret
              exact ⟨_, by first | rfl | (simp [errW_none, errW_some] <;> rfl) | (simp [*, errW_none, errW_some] <;> rfl), by (with_reducible repeat (first | apply r1 | apply r2 | apply r3)); exact HO136.out, by repeat (first | (with_reducible first | exact HB.out | apply b1 | apply b2 | apply b3 | refine below_set ?_ GE104.out | refine below_set ?_ GE105.out | refine below_set ?_ GE109.out) | exact HB.out)⟩
             ·rw [if_neg c93] at H
              exact absurd H (by simp)
           ·rw [if_neg c82] at H
            exact absurd H (by simp)

end Go.Proofs.YtbgekmchjdkjiaaDoor.PB
