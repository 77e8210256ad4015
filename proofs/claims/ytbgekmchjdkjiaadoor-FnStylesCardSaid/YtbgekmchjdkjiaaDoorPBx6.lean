/- Contracts of Go functions that laws of this seat reach: each Lean function answers as its Go function does. No condition. Written by wip/tools/inj.py, over the kit's print. -/
import Derived.Test.YtbgekmchjdkjiaaDoorPBx0
import Derived.Test.YtbgekmchjdkjiaaDoorPBx1
import Derived.Test.YtbgekmchjdkjiaaDoorPBx5
namespace Go.Proofs.YtbgekmchjdkjiaaDoor.PB
open Go.RowKit Go.Proofs.YtbgekmchjdkjiaaDoorW.PrintWords Go.Proofs.YtbgekmchjdkjiaaDoorW.PrintLast Go.Proofs.YtbgekmchjdkjiaaDoorW.PrintMore
attribute [local go_sem] max2_int min2_int max_two min_two max_three min_three max_four min_four   -- for this text's walks alone
set_option linter.unusedVariables false
set_option linter.unusedSimpArgs false

attribute [local go_sem high] eqA25
/-! ### impl_Params: function 18 -/
mutual
def impl_Params.j0 : Nat → List Int → Bool → Int → Int → Bool → Bool → Bool → Int → Int → Bool → Bool → Bool → Option (List Int)
 | 0, _, _, _, _, _, _, _, _, _, _, _, _ => none
 | k + 1, x5, x19, x161000, x161001, x161002, x161003, x161004, x162000, x162001, x162002, x162003, x162004 => if x19 = true then (some x5) else (if (x162000 == 0 && (x162001 == 0 && (!x162002 && (!x162003 && (!x162004))))) = true then (if x5.length < 17592186044416 then (some (x5 ++ [0])) else (none)) else (if (x161002 != x162002) = true then ((impl_paramOf.f x162002 1 22).bind fun t170 => (if x5.length < 17592186044416 then (impl_Params.j1 k (x5 ++ [t170]) x161000 x161001 x161002 x161003 x161004 x162000 x162001 x162002 x162003 x162004) else (none))) else (impl_Params.j1 k x5 x161000 x161001 x161002 x161003 x161004 x162000 x162001 x162002 x162003 x162004)))
def impl_Params.j1 : Nat → List Int → Int → Int → Bool → Bool → Bool → Int → Int → Bool → Bool → Bool → Option (List Int)
 | 0, _, _, _, _, _, _, _, _, _, _, _ => none
 | k + 1, x5, x161000, x161001, x161002, x161003, x161004, x162000, x162001, x162002, x162003, x162004 => if (x161003 != x162003) = true then ((impl_paramOf.f x162003 4 24).bind fun t174 => (if x5.length < 17592186044416 then (impl_Params.j2 k (x5 ++ [t174]) x161000 x161001 x161002 x161003 x161004 x162000 x162001 x162002 x162003 x162004) else (none))) else (impl_Params.j2 k x5 x161000 x161001 x161002 x161003 x161004 x162000 x162001 x162002 x162003 x162004)
def impl_Params.j2 : Nat → List Int → Int → Int → Bool → Bool → Bool → Int → Int → Bool → Bool → Bool → Option (List Int)
 | 0, _, _, _, _, _, _, _, _, _, _, _ => none
 | k + 1, x5, x161000, x161001, x161002, x161003, x161004, x162000, x162001, x162002, x162003, x162004 => if (x161004 != x162004) = true then ((impl_paramOf.f x162004 7 27).bind fun t178 => (if x5.length < 17592186044416 then (impl_Params.j3 k (x5 ++ [t178]) x161000 x161001 x161002 x161003 x161004 x162000 x162001 x162002 x162003 x162004) else (none))) else (impl_Params.j3 k x5 x161000 x161001 x161002 x161003 x161004 x162000 x162001 x162002 x162003 x162004)
def impl_Params.j3 : Nat → List Int → Int → Int → Bool → Bool → Bool → Int → Int → Bool → Bool → Bool → Option (List Int)
 | 0, _, _, _, _, _, _, _, _, _, _, _ => none
 | k + 1, x5, x161000, x161001, x161002, x161003, x161004, x162000, x162001, x162002, x162003, x162004 => if x161000 = x162000 then (if x161001 = x162001 then (some x5) else ((impl_colorOf.f x162001 40).bind fun t182 => (if x5.length < 17592186044416 then (some (x5 ++ [t182])) else (none)))) else ((impl_colorOf.f x162000 30).bind fun t186 => (if x5.length < 17592186044416 then ((some (x5 ++ [t186] : List Int)).bind fun y187 => (if x161001 = x162001 then (some y187) else ((impl_colorOf.f x162001 40).bind fun t190 => (if y187.length < 17592186044416 then (some (y187 ++ [t190])) else (none))))) else (none)))
end
def impl_Params.f (k : Nat) (a0_0 : Int) (a0_1 : Int) (a0_2 : Bool) (a0_3 : Bool) (a0_4 : Bool) (a1_0 : Int) (a1_1 : Int) (a1_2 : Bool) (a1_3 : Bool) (a1_4 : Bool) : Option (List Int) := (some (([] : List Int) : List Int)).bind fun y162 => ((impl_StyleOk.f a0_0 a0_1 a0_2 a0_3 a0_4).bind fun t165 => (if t165 = true then ((impl_StyleOk.f a1_0 a1_1 a1_2 a1_3 a1_4).bind fun t166 => (if t166 = true then (impl_Params.j0 k y162 (a0_0 == a1_0 && (a0_1 == a1_1 && (a0_2 == a1_2 && (a0_3 == a1_3 && (a0_4 == a1_4))))) a0_0 a0_1 a0_2 a0_3 a0_4 a1_0 a1_1 a1_2 a1_3 a1_4) else (impl_Params.j0 k y162 true a0_0 a0_1 a0_2 a0_3 a0_4 a1_0 a1_1 a1_2 a1_3 a1_4))) else (impl_Params.j0 k y162 true a0_0 a0_1 a0_2 a0_3 a0_4 a1_0 a1_1 a1_2 a1_3 a1_4)))
theorem impl_Params.mono_l : ∀ k, (∀ y0 y1 y2 y3 y4 y5 y6 y7 y8 y9 y10 y11, LeO (impl_Params.j0 k y0 y1 y2 y3 y4 y5 y6 y7 y8 y9 y10 y11) (impl_Params.j0 (k + 1) y0 y1 y2 y3 y4 y5 y6 y7 y8 y9 y10 y11)) ∧ (∀ y0 y1 y2 y3 y4 y5 y6 y7 y8 y9 y10, LeO (impl_Params.j1 k y0 y1 y2 y3 y4 y5 y6 y7 y8 y9 y10) (impl_Params.j1 (k + 1) y0 y1 y2 y3 y4 y5 y6 y7 y8 y9 y10)) ∧ (∀ y0 y1 y2 y3 y4 y5 y6 y7 y8 y9 y10, LeO (impl_Params.j2 k y0 y1 y2 y3 y4 y5 y6 y7 y8 y9 y10) (impl_Params.j2 (k + 1) y0 y1 y2 y3 y4 y5 y6 y7 y8 y9 y10)) ∧ (∀ y0 y1 y2 y3 y4 y5 y6 y7 y8 y9 y10, LeO (impl_Params.j3 k y0 y1 y2 y3 y4 y5 y6 y7 y8 y9 y10) (impl_Params.j3 (k + 1) y0 y1 y2 y3 y4 y5 y6 y7 y8 y9 y10))
 | 0 => ⟨fun _ _ _ _ _ _ _ _ _ _ _ _ r h => by simp [impl_Params.j0] at h, fun _ _ _ _ _ _ _ _ _ _ _ r h => by simp [impl_Params.j1] at h, fun _ _ _ _ _ _ _ _ _ _ _ r h => by simp [impl_Params.j2] at h, fun _ _ _ _ _ _ _ _ _ _ _ r h => by simp [impl_Params.j3] at h⟩
 | k + 1 => by
  obtain ⟨ih0, ih1, ih2, ih3⟩ := impl_Params.mono_l k
  refine ⟨?_, ?_, ?_, ?_⟩
  ·intro y0 y1 y2 y3 y4 y5 y6 y7 y8 y9 y10 y11
   unfold impl_Params.j0
   repeat' first
   | (with_reducible exact ih0 _ _ _ _ _ _ _ _ _ _ _ _)
   | (with_reducible exact ih1 _ _ _ _ _ _ _ _ _ _ _)
   | (with_reducible exact ih2 _ _ _ _ _ _ _ _ _ _ _)
   | (with_reducible exact ih3 _ _ _ _ _ _ _ _ _ _ _)
   | (with_reducible exact LeO.refl _)
   | (with_reducible exact LeO.none _)
   | (with_reducible refine LeO.ite ?_ ?_)
   | (with_reducible refine LeO.bind ?_ (fun _ => ?_))
   | exact ih0 _ _ _ _ _ _ _ _ _ _ _ _
   | exact ih1 _ _ _ _ _ _ _ _ _ _ _
   | exact ih2 _ _ _ _ _ _ _ _ _ _ _
   | exact ih3 _ _ _ _ _ _ _ _ _ _ _
   | exact LeO.none _
   | refine LeO.ite ?_ ?_
   | refine LeO.bind ?_ (fun _ => ?_)
  ·intro y0 y1 y2 y3 y4 y5 y6 y7 y8 y9 y10
   unfold impl_Params.j1
   repeat' first
   | (with_reducible exact ih0 _ _ _ _ _ _ _ _ _ _ _ _)
   | (with_reducible exact ih1 _ _ _ _ _ _ _ _ _ _ _)
   | (with_reducible exact ih2 _ _ _ _ _ _ _ _ _ _ _)
   | (with_reducible exact ih3 _ _ _ _ _ _ _ _ _ _ _)
   | (with_reducible exact LeO.refl _)
   | (with_reducible exact LeO.none _)
   | (with_reducible refine LeO.ite ?_ ?_)
   | (with_reducible refine LeO.bind ?_ (fun _ => ?_))
   | exact ih0 _ _ _ _ _ _ _ _ _ _ _ _
   | exact ih1 _ _ _ _ _ _ _ _ _ _ _
   | exact ih2 _ _ _ _ _ _ _ _ _ _ _
   | exact ih3 _ _ _ _ _ _ _ _ _ _ _
   | exact LeO.none _
   | refine LeO.ite ?_ ?_
   | refine LeO.bind ?_ (fun _ => ?_)
  ·intro y0 y1 y2 y3 y4 y5 y6 y7 y8 y9 y10
   unfold impl_Params.j2
   repeat' first
   | (with_reducible exact ih0 _ _ _ _ _ _ _ _ _ _ _ _)
   | (with_reducible exact ih1 _ _ _ _ _ _ _ _ _ _ _)
   | (with_reducible exact ih2 _ _ _ _ _ _ _ _ _ _ _)
   | (with_reducible exact ih3 _ _ _ _ _ _ _ _ _ _ _)
   | (with_reducible exact LeO.refl _)
   | (with_reducible exact LeO.none _)
   | (with_reducible refine LeO.ite ?_ ?_)
   | (with_reducible refine LeO.bind ?_ (fun _ => ?_))
   | exact ih0 _ _ _ _ _ _ _ _ _ _ _ _
   | exact ih1 _ _ _ _ _ _ _ _ _ _ _
   | exact ih2 _ _ _ _ _ _ _ _ _ _ _
   | exact ih3 _ _ _ _ _ _ _ _ _ _ _
   | exact LeO.none _
   | refine LeO.ite ?_ ?_
   | refine LeO.bind ?_ (fun _ => ?_)
  ·intro y0 y1 y2 y3 y4 y5 y6 y7 y8 y9 y10
   unfold impl_Params.j3
   repeat' first
   | (with_reducible exact ih0 _ _ _ _ _ _ _ _ _ _ _ _)
   | (with_reducible exact ih1 _ _ _ _ _ _ _ _ _ _ _)
   | (with_reducible exact ih2 _ _ _ _ _ _ _ _ _ _ _)
   | (with_reducible exact ih3 _ _ _ _ _ _ _ _ _ _ _)
   | (with_reducible exact LeO.refl _)
   | (with_reducible exact LeO.none _)
   | (with_reducible refine LeO.ite ?_ ?_)
   | (with_reducible refine LeO.bind ?_ (fun _ => ?_))
   | exact ih0 _ _ _ _ _ _ _ _ _ _ _ _
   | exact ih1 _ _ _ _ _ _ _ _ _ _ _
   | exact ih2 _ _ _ _ _ _ _ _ _ _ _
   | exact ih3 _ _ _ _ _ _ _ _ _ _ _
   | exact LeO.none _
   | refine LeO.ite ?_ ?_
   | refine LeO.bind ?_ (fun _ => ?_)
theorem impl_Params.mono : ∀ a0 a1 a2 a3 a4 a5 a6 a7 a8 a9 k, LeO (impl_Params.f k a0 a1 a2 a3 a4 a5 a6 a7 a8 a9) (impl_Params.f (k + 1) a0 a1 a2 a3 a4 a5 a6 a7 a8 a9) := by
 intro a0 a1 a2 a3 a4 a5 a6 a7 a8 a9 k
 obtain ⟨ih0, ih1, ih2, ih3⟩ := impl_Params.mono_l k
 unfold impl_Params.f
 repeat' first
   | (with_reducible exact ih0 _ _ _ _ _ _ _ _ _ _ _ _)
   | (with_reducible exact ih1 _ _ _ _ _ _ _ _ _ _ _)
   | (with_reducible exact ih2 _ _ _ _ _ _ _ _ _ _ _)
   | (with_reducible exact ih3 _ _ _ _ _ _ _ _ _ _ _)
   | (with_reducible exact LeO.refl _)
   | (with_reducible exact LeO.none _)
   | (with_reducible refine LeO.ite ?_ ?_)
   | (with_reducible refine LeO.bind ?_ (fun _ => ?_))
   | exact ih0 _ _ _ _ _ _ _ _ _ _ _ _
   | exact ih1 _ _ _ _ _ _ _ _ _ _ _
   | exact ih2 _ _ _ _ _ _ _ _ _ _ _
   | exact ih3 _ _ _ _ _ _ _ _ _ _ _
   | exact LeO.none _
   | refine LeO.ite ?_ ?_
   | refine LeO.bind ?_ (fun _ => ?_)
set_option maxHeartbeats 8000000 in
set_option maxRecDepth 100000 in
theorem impl_Params.calls (k : Nat) (a0_0 : Int) (a0_1 : Int) (a0_2 : Bool) (a0_3 : Bool) (a0_4 : Bool) (a1_0 : Int) (a1_1 : Int) (a1_2 : Bool) (a1_3 : Bool) (a1_4 : Bool) (r : List Int) (w : World) (h : impl_Params.f k a0_0 a0_1 a0_2 a0_3 a0_4 a1_0 a1_1 a1_2 a1_3 a1_4 = some r) :
  Calls Tryd.prog 18 #[.agg #[.int .i64 a0_0, .int .i64 a0_1, .bool a0_2, .bool a0_3, .bool a0_4], .agg #[.int .i64 a1_0, .int .i64 a1_1, .bool a1_2, .bool a1_3, .bool a1_4]] w fun e w' => ∃ v0_ : Value, e = .returned (v0_) ∧ Kd.R (Kd.int .i64) 2 w' w.heap.size (fun _ => True) v0_ r ∧ Below w.heap.size w w' := by
 have hu25 := Tryd.underlying25
 have HB := am (Below.refl w.heap.size w)
 have H : ((some (([] : List Int) : List Int)).bind fun y162 => ((impl_StyleOk.f a0_0 a0_1 a0_2 a0_3 a0_4).bind fun t165 => (if t165 = true then ((impl_StyleOk.f a1_0 a1_1 a1_2 a1_3 a1_4).bind fun t166 => (if t166 = true then (impl_Params.j0 k y162 (a0_0 == a1_0 && (a0_1 == a1_1 && (a0_2 == a1_2 && (a0_3 == a1_3 && (a0_4 == a1_4))))) a0_0 a0_1 a0_2 a0_3 a0_4 a1_0 a1_1 a1_2 a1_3 a1_4) else (impl_Params.j0 k y162 true a0_0 a0_1 a0_2 a0_3 a0_4 a1_0 a1_1 a1_2 a1_3 a1_4))) else (impl_Params.j0 k y162 true a0_0 a0_1 a0_2 a0_3 a0_4 a1_0 a1_1 a1_2 a1_3 a1_4)))) = some r := h
 clear h
 obtain ⟨y162, hy162⟩ : ∃ y_ : List Int, y_ = (([] : List Int)) := ⟨_, rfl⟩
 replace H : ((impl_StyleOk.f a0_0 a0_1 a0_2 a0_3 a0_4).bind fun t165 => (if t165 = true then ((impl_StyleOk.f a1_0 a1_1 a1_2 a1_3 a1_4).bind fun t166 => (if t166 = true then (impl_Params.j0 k y162 (a0_0 == a1_0 && (a0_1 == a1_1 && (a0_2 == a1_2 && (a0_3 == a1_3 && (a0_4 == a1_4))))) a0_0 a0_1 a0_2 a0_3 a0_4 a1_0 a1_1 a1_2 a1_3 a1_4) else (impl_Params.j0 k y162 true a0_0 a0_1 a0_2 a0_3 a0_4 a1_0 a1_1 a1_2 a1_3 a1_4))) else (impl_Params.j0 k y162 true a0_0 a0_1 a0_2 a0_3 a0_4 a1_0 a1_1 a1_2 a1_3 a1_4))) = some r := by first | (rw [hy162]; with_reducible exact H) | (rw [hy162]; exact H) | exact H
 have Ny162 := am hy162
 clear hy162
 have HC3 := am H
 clear H
 go_enter Tryd.func18, Tryd.ntmps18
 go_upto_region 2 with (first | ((with_reducible refine gate_dst (N := 2) rfl ?_); refine box_event ?hg (N := 2) ?hd (cs := #[.int .i64 a0_0, .int .i64 a0_1, .bool a0_2, .bool a0_3, .bool a0_4]) (t := 25) ?hr ?_; (case hd => rfl); (case hg => rfl); (case hr => first | (go_simp; done) | (go_simp; rfl)); intro gb160 hg w4 hbox hb; have n0_ := am (below_step (rb HB) hb); have n1_ := am (hbox); have n2_ := am ((by rw [hg]; exact (below_size (rb HB)) : w.heap.size ≤ gb160)); have n3_ := am ((by rw [hg]; exact (below_size (rb HB)) : w.heap.size ≤ gb160)); clear HB; have HB := n0_; have BK160 := n1_; have GW160 := n2_; have GE160 := n3_; clear n0_ n1_ n2_ n3_; clear hb hbox hg) | ((with_reducible refine gate_dst (N := 3) rfl ?_); refine box_event ?hg (N := 3) ?hd (cs := #[.int .i64 a1_0, .int .i64 a1_1, .bool a1_2, .bool a1_3, .bool a1_4]) (t := 25) ?hr ?_; (case hd => rfl); (case hg => rfl); (case hr => first | (go_simp; done) | (go_simp; rfl)); intro gb161 hg w5 hbox hb; have n0_ := am (blk_below (g := gb160) (o := .cells #[.int .i64 a0_0, .int .i64 a0_1, .bool a0_2, .bool a0_3, .bool a0_4] 25 (0, 0)) (rk BK160) hb); have n1_ := am (below_step (rb1 HB GE160) hb); have n2_ := am (hbox); have n3_ := am ((by rw [hg]; exact (below_size (rb1 HB GE160)) : w.heap.size ≤ gb161)); have n4_ := am ((by rw [hg]; exact (below_size (rb1 HB GE160)) : w.heap.size ≤ gb161)); have n5_ := am ((by rw [hg]; exact Nat.ne_of_lt (blk_lt (g := gb160) (o := .cells #[.int .i64 a0_0, .int .i64 a0_1, .bool a0_2, .bool a0_3, .bool a0_4] 25 (0, 0)) (rk BK160)) : gb160 ≠ gb161)); have n6_ := am ((by rw [hg]; exact Nat.ne_of_gt (blk_lt (g := gb160) (o := .cells #[.int .i64 a0_0, .int .i64 a0_1, .bool a0_2, .bool a0_3, .bool a0_4] 25 (0, 0)) (rk BK160)) : gb161 ≠ gb160)); clear BK160; clear HB; have BK160 := n0_; have HB := n1_; have BK161 := n2_; have GW161 := n3_; have GE161 := n4_; have NB160_161 := n5_; have NB161_160 := n6_; clear n0_ n1_ n2_ n3_ n4_ n5_ n6_; clear hb hbox hg) | ((with_reducible refine gate_dst (N := 6) rfl ?_); refine Kd.R_lit (Kd.int .i64) _ 2 ?hg (N := 6) ?hd (xs := ([] : List Int)) (inner := []) (ok := fun _ => True) (okp := fun _ => True) ?hr ?hp (fun _ hk => hk) trivial (Below.refl _ _) (Nat.le_refl _) (by simp) ?_; (case hd => rfl); (case hg => rfl); (case hr => first | (go_simp; done) | (go_simp; rfl)); (case hp => exact (Reps.none _ _)); intro v163 w6 ho7 hb hg_ hnew_; clear hg_ hnew_; (first | rw [← Ny162.out] at ho7 | (simp only [Int.reduceToNat] at ho7; rw [← Ny162.out] at ho7)); have n0_ := am (Kd.R_lower ho7 (below_size (by repeat (first | (with_reducible first | exact HB.out | apply b1 | apply b2 | apply b3 | refine below_set ?_ GE160.out | refine below_set ?_ GE161.out) | exact HB.out)))); have n1_ := am (blk_below (g := gb160) (o := .cells #[.int .i64 a0_0, .int .i64 a0_1, .bool a0_2, .bool a0_3, .bool a0_4] 25 (0, 0)) (rk BK160) hb); have n2_ := am (blk_below (g := gb161) (o := .cells #[.int .i64 a1_0, .int .i64 a1_1, .bool a1_2, .bool a1_3, .bool a1_4] 25 (0, 0)) (rk BK161) hb); have n3_ := am (below_step (by repeat (first | (with_reducible first | exact HB.out | apply b1 | apply b2 | apply b3 | refine below_set ?_ GE160.out | refine below_set ?_ GE161.out) | exact HB.out)) hb); clear BK160; clear BK161; clear HB; have HO164 := n0_; have BK160 := n1_; have BK161 := n2_; have HB := n3_; clear n0_ n1_ n2_ n3_; clear hb ho7))
 (try simp only [Act.put, List.setIfInBounds_toArray, List.set_cons_zero, List.set_cons_succ])
 go_cut [19] (fun v19 wc => ∃ (kq : Nat) (x19_2 : Bool), v19 = .bool x19_2 ∧ Aside0 (impl_Params.j0 kq y162 x19_2 a0_0 a0_1 a0_2 a0_3 a0_4 a1_0 a1_1 a1_2 a1_3 a1_4 = some r) ∧ Aside0 (kq ≤ k) ∧ Aside0 (Kd.R (Kd.int .i64) 2 wc w.heap.size (fun _ => True) v163 y162) ∧ Aside0 (wc.heap[gb160]? = some (.cells #[.int .i64 a0_0, .int .i64 a0_1, .bool a0_2, .bool a0_3, .bool a0_4] 25 (0, 0))) ∧ Aside0 (wc.heap[gb161]? = some (.cells #[.int .i64 a1_0, .int .i64 a1_1, .bool a1_2, .bool a1_3, .bool a1_4] 25 (0, 0))) ∧ Aside0 (Below w.heap.size w wc))
 case first =>
  have H := HC3.out
  clear HC3
  replace H := Option.bind_eq_some_iff.mp H
  obtain ⟨t165, A80, H⟩ := H
  replace H : (if t165 = true then ((impl_StyleOk.f a1_0 a1_1 a1_2 a1_3 a1_4).bind fun t166 => (if t166 = true then (impl_Params.j0 k y162 (a0_0 == a1_0 && (a0_1 == a1_1 && (a0_2 == a1_2 && (a0_3 == a1_3 && (a0_4 == a1_4))))) a0_0 a0_1 a0_2 a0_3 a0_4 a1_0 a1_1 a1_2 a1_3 a1_4) else (impl_Params.j0 k y162 true a0_0 a0_1 a0_2 a0_3 a0_4 a1_0 a1_1 a1_2 a1_3 a1_4))) else (impl_Params.j0 k y162 true a0_0 a0_1 a0_2 a0_3 a0_4 a1_0 a1_1 a1_2 a1_3 a1_4)) = some r := H
  have A8 := am A80
  clear A80
  by_cases c9 : t165 = true
  ·subst c9
   have H1 : ((impl_StyleOk.f a1_0 a1_1 a1_2 a1_3 a1_4).bind fun t166 => (if t166 = true then (impl_Params.j0 k y162 (a0_0 == a1_0 && (a0_1 == a1_1 && (a0_2 == a1_2 && (a0_3 == a1_3 && (a0_4 == a1_4))))) a0_0 a0_1 a0_2 a0_3 a0_4 a1_0 a1_1 a1_2 a1_3 a1_4) else (impl_Params.j0 k y162 true a0_0 a0_1 a0_2 a0_3 a0_4 a1_0 a1_1 a1_2 a1_3 a1_4))) = some r := by rw [if_pos rfl] at H; exact H
   clear H
   have H := H1
   clear H1
   replace H := Option.bind_eq_some_iff.mp H
   obtain ⟨t166, A100, H⟩ := H
   replace H : (if t166 = true then (impl_Params.j0 k y162 (a0_0 == a1_0 && (a0_1 == a1_1 && (a0_2 == a1_2 && (a0_3 == a1_3 && (a0_4 == a1_4))))) a0_0 a0_1 a0_2 a0_3 a0_4 a1_0 a1_1 a1_2 a1_3 a1_4) else (impl_Params.j0 k y162 true a0_0 a0_1 a0_2 a0_3 a0_4 a1_0 a1_1 a1_2 a1_3 a1_4)) = some r := H
   have A10 := am A100
   clear A100
   by_cases c11 : t166 = true
   ·subst c11
    have H1 : (impl_Params.j0 k y162 (a0_0 == a1_0 && (a0_1 == a1_1 && (a0_2 == a1_2 && (a0_3 == a1_3 && (a0_4 == a1_4))))) a0_0 a0_1 a0_2 a0_3 a0_4 a1_0 a1_1 a1_2 a1_3 a1_4) = some r := by rw [if_pos rfl] at H; exact H
    clear H
    have H := H1
    clear H1
    have H' := am H
    clear H
    have hnb12 := NB160_161.out
    have hnc12 := NB161_160.out
    have hcz13_0 : w6.cell? ⟨gb160, 0, none⟩ = some (.int .i64 a0_0) := (blk_cell BK160.out 0).trans rfl
    have hcz13_1 : w6.cell? ⟨gb160, 1, none⟩ = some (.int .i64 a0_1) := (blk_cell BK160.out 1).trans rfl
    have hcz13_2 : w6.cell? ⟨gb160, 2, none⟩ = some (.bool a0_2) := (blk_cell BK160.out 2).trans rfl
    have hcz13_3 : w6.cell? ⟨gb160, 3, none⟩ = some (.bool a0_3) := (blk_cell BK160.out 3).trans rfl
    have hcz13_4 : w6.cell? ⟨gb160, 4, none⟩ = some (.bool a0_4) := (blk_cell BK160.out 4).trans rfl
    have hfz13_0 := blk_frozen BK160.out 0
    have hfz13_1 := blk_frozen BK160.out 1
    have hfz13_2 := blk_frozen BK160.out 2
    have hfz13_3 := blk_frozen BK160.out 3
    have hfz13_4 := blk_frozen BK160.out 4
    go_wp2_with (first | ((with_reducible refine gate_callee (f := 22) rfl ?_); refine gl_ (some 8) Tryd.func22 #[.agg #[.int .i64 a0_0, .int .i64 a0_1, .bool a0_2, .bool a0_3, .bool a0_4]] ?_; (with_reducible refine (impl_StyleOk.calls a0_0 a0_1 a0_2 a0_3 a0_4 true _ A8.out).mono ?_); rintro e w14 ⟨rfl, hb⟩; refine ⟨_, rfl, ?_⟩; have n0_ := am (Kd.R_below (rr HO164) hb); have n1_ := am (blk_below (g := gb160) (o := .cells #[.int .i64 a0_0, .int .i64 a0_1, .bool a0_2, .bool a0_3, .bool a0_4] 25 (0, 0)) (rk BK160) hb); have n2_ := am (blk_below (g := gb161) (o := .cells #[.int .i64 a1_0, .int .i64 a1_1, .bool a1_2, .bool a1_3, .bool a1_4] 25 (0, 0)) (rk BK161) hb); have n3_ := am (below_step (by repeat (first | (with_reducible first | exact HB.out | apply b1 | apply b2 | apply b3 | refine below_set ?_ GE160.out | refine below_set ?_ GE161.out) | exact HB.out)) hb); clear HO164; clear BK160; clear BK161; clear HB; have HO164 := n0_; have BK160 := n1_; have BK161 := n2_; have HB := n3_; clear n0_ n1_ n2_ n3_; (try clear hb); (try clear hb2); (try clear hk); (try clear hi); have hcz15_0 : w14.cell? ⟨gb161, 0, none⟩ = some (.int .i64 a1_0) := (blk_cell BK161.out 0).trans rfl; have hcz15_1 : w14.cell? ⟨gb161, 1, none⟩ = some (.int .i64 a1_1) := (blk_cell BK161.out 1).trans rfl; have hcz15_2 : w14.cell? ⟨gb161, 2, none⟩ = some (.bool a1_2) := (blk_cell BK161.out 2).trans rfl; have hcz15_3 : w14.cell? ⟨gb161, 3, none⟩ = some (.bool a1_3) := (blk_cell BK161.out 3).trans rfl; have hcz15_4 : w14.cell? ⟨gb161, 4, none⟩ = some (.bool a1_4) := (blk_cell BK161.out 4).trans rfl; have hfz15_0 := blk_frozen BK161.out 0; have hfz15_1 := blk_frozen BK161.out 1; have hfz15_2 := blk_frozen BK161.out 2; have hfz15_3 := blk_frozen BK161.out 3; have hfz15_4 := blk_frozen BK161.out 4) | (go_at_call 22; (with_reducible refine (impl_StyleOk.calls a1_0 a1_1 a1_2 a1_3 a1_4 true _ A10.out).mono ?_); rintro e w16 ⟨rfl, hb⟩; have n0_ := am (Kd.R_below (rr HO164) hb); have n1_ := am (blk_below (g := gb160) (o := .cells #[.int .i64 a0_0, .int .i64 a0_1, .bool a0_2, .bool a0_3, .bool a0_4] 25 (0, 0)) (rk BK160) hb); have n2_ := am (blk_below (g := gb161) (o := .cells #[.int .i64 a1_0, .int .i64 a1_1, .bool a1_2, .bool a1_3, .bool a1_4] 25 (0, 0)) (rk BK161) hb); have n3_ := am (below_step (by repeat (first | (with_reducible first | exact HB.out | apply b1 | apply b2 | apply b3 | refine below_set ?_ GE160.out | refine below_set ?_ GE161.out) | exact HB.out)) hb); clear HO164; clear BK160; clear BK161; clear HB; have HO164 := n0_; have BK160 := n1_; have BK161 := n2_; have HB := n3_; clear n0_ n1_ n2_ n3_; (try clear hb); (try clear hb2); (try clear hk); (try clear hi); have hcz17_0 : w16.cell? ⟨gb160, 0, none⟩ = some (.int .i64 a0_0) := (blk_cell BK160.out 0).trans rfl; have hcz17_1 : w16.cell? ⟨gb160, 1, none⟩ = some (.int .i64 a0_1) := (blk_cell BK160.out 1).trans rfl; have hcz17_2 : w16.cell? ⟨gb160, 2, none⟩ = some (.bool a0_2) := (blk_cell BK160.out 2).trans rfl; have hcz17_3 : w16.cell? ⟨gb160, 3, none⟩ = some (.bool a0_3) := (blk_cell BK160.out 3).trans rfl; have hcz17_4 : w16.cell? ⟨gb160, 4, none⟩ = some (.bool a0_4) := (blk_cell BK160.out 4).trans rfl; have hfz17_0 := blk_frozen BK160.out 0; have hfz17_1 := blk_frozen BK160.out 1; have hfz17_2 := blk_frozen BK160.out 2; have hfz17_3 := blk_frozen BK160.out 3; have hfz17_4 := blk_frozen BK160.out 4; have hcz18_0 : w16.cell? ⟨gb161, 0, none⟩ = some (.int .i64 a1_0) := (blk_cell BK161.out 0).trans rfl; have hcz18_1 : w16.cell? ⟨gb161, 1, none⟩ = some (.int .i64 a1_1) := (blk_cell BK161.out 1).trans rfl; have hcz18_2 : w16.cell? ⟨gb161, 2, none⟩ = some (.bool a1_2) := (blk_cell BK161.out 2).trans rfl; have hcz18_3 : w16.cell? ⟨gb161, 3, none⟩ = some (.bool a1_3) := (blk_cell BK161.out 3).trans rfl; have hcz18_4 : w16.cell? ⟨gb161, 4, none⟩ = some (.bool a1_4) := (blk_cell BK161.out 4).trans rfl; have hfz18_0 := blk_frozen BK161.out 0; have hfz18_1 := blk_frozen BK161.out 1; have hfz18_2 := blk_frozen BK161.out 2; have hfz18_3 := blk_frozen BK161.out 3; have hfz18_4 := blk_frozen BK161.out 4))
    go_meet
    case rel => exact ⟨_, ((a0_0 == a1_0 && (a0_1 == a1_1 && (a0_2 == a1_2 && (a0_3 == a1_3 && (a0_4 == a1_4)))))), (by first | rfl | (simp; done) | (simp [*]; done)), H', ⟨by first | omega | exact Nat.le_refl _⟩, ⟨rr HO164⟩, ⟨rk BK160⟩, ⟨rk BK161⟩, ⟨by repeat (first | (with_reducible first | exact HB.out | apply b1 | apply b2 | apply b3 | refine below_set ?_ GE160.out | refine below_set ?_ GE161.out) | exact HB.out)⟩⟩
   ·replace c11 := Bool.eq_false_iff.mpr c11
    subst c11
    have H1 : (impl_Params.j0 k y162 true a0_0 a0_1 a0_2 a0_3 a0_4 a1_0 a1_1 a1_2 a1_3 a1_4) = some r := by rw [if_neg (show ¬ (false = true) by decide)] at H; exact H
    clear H
    have H := H1
    clear H1
    have H' := am H
    clear H
    have hnb19 := NB160_161.out
    have hnc19 := NB161_160.out
    have hcz20_0 : w6.cell? ⟨gb160, 0, none⟩ = some (.int .i64 a0_0) := (blk_cell BK160.out 0).trans rfl
    have hcz20_1 : w6.cell? ⟨gb160, 1, none⟩ = some (.int .i64 a0_1) := (blk_cell BK160.out 1).trans rfl
    have hcz20_2 : w6.cell? ⟨gb160, 2, none⟩ = some (.bool a0_2) := (blk_cell BK160.out 2).trans rfl
    have hcz20_3 : w6.cell? ⟨gb160, 3, none⟩ = some (.bool a0_3) := (blk_cell BK160.out 3).trans rfl
    have hcz20_4 : w6.cell? ⟨gb160, 4, none⟩ = some (.bool a0_4) := (blk_cell BK160.out 4).trans rfl
    have hfz20_0 := blk_frozen BK160.out 0
    have hfz20_1 := blk_frozen BK160.out 1
    have hfz20_2 := blk_frozen BK160.out 2
    have hfz20_3 := blk_frozen BK160.out 3
    have hfz20_4 := blk_frozen BK160.out 4
    go_wp2_with (first | ((with_reducible refine gate_callee (f := 22) rfl ?_); refine gl_ (some 8) Tryd.func22 #[.agg #[.int .i64 a0_0, .int .i64 a0_1, .bool a0_2, .bool a0_3, .bool a0_4]] ?_; (with_reducible refine (impl_StyleOk.calls a0_0 a0_1 a0_2 a0_3 a0_4 true _ A8.out).mono ?_); rintro e w21 ⟨rfl, hb⟩; refine ⟨_, rfl, ?_⟩; have n0_ := am (Kd.R_below (rr HO164) hb); have n1_ := am (blk_below (g := gb160) (o := .cells #[.int .i64 a0_0, .int .i64 a0_1, .bool a0_2, .bool a0_3, .bool a0_4] 25 (0, 0)) (rk BK160) hb); have n2_ := am (blk_below (g := gb161) (o := .cells #[.int .i64 a1_0, .int .i64 a1_1, .bool a1_2, .bool a1_3, .bool a1_4] 25 (0, 0)) (rk BK161) hb); have n3_ := am (below_step (by repeat (first | (with_reducible first | exact HB.out | apply b1 | apply b2 | apply b3 | refine below_set ?_ GE160.out | refine below_set ?_ GE161.out) | exact HB.out)) hb); clear HO164; clear BK160; clear BK161; clear HB; have HO164 := n0_; have BK160 := n1_; have BK161 := n2_; have HB := n3_; clear n0_ n1_ n2_ n3_; (try clear hb); (try clear hb2); (try clear hk); (try clear hi); have hcz22_0 : w21.cell? ⟨gb161, 0, none⟩ = some (.int .i64 a1_0) := (blk_cell BK161.out 0).trans rfl; have hcz22_1 : w21.cell? ⟨gb161, 1, none⟩ = some (.int .i64 a1_1) := (blk_cell BK161.out 1).trans rfl; have hcz22_2 : w21.cell? ⟨gb161, 2, none⟩ = some (.bool a1_2) := (blk_cell BK161.out 2).trans rfl; have hcz22_3 : w21.cell? ⟨gb161, 3, none⟩ = some (.bool a1_3) := (blk_cell BK161.out 3).trans rfl; have hcz22_4 : w21.cell? ⟨gb161, 4, none⟩ = some (.bool a1_4) := (blk_cell BK161.out 4).trans rfl; have hfz22_0 := blk_frozen BK161.out 0; have hfz22_1 := blk_frozen BK161.out 1; have hfz22_2 := blk_frozen BK161.out 2; have hfz22_3 := blk_frozen BK161.out 3; have hfz22_4 := blk_frozen BK161.out 4) | (go_at_call 22; (with_reducible refine (impl_StyleOk.calls a1_0 a1_1 a1_2 a1_3 a1_4 false _ A10.out).mono ?_); rintro e w23 ⟨rfl, hb⟩; have n0_ := am (Kd.R_below (rr HO164) hb); have n1_ := am (blk_below (g := gb160) (o := .cells #[.int .i64 a0_0, .int .i64 a0_1, .bool a0_2, .bool a0_3, .bool a0_4] 25 (0, 0)) (rk BK160) hb); have n2_ := am (blk_below (g := gb161) (o := .cells #[.int .i64 a1_0, .int .i64 a1_1, .bool a1_2, .bool a1_3, .bool a1_4] 25 (0, 0)) (rk BK161) hb); have n3_ := am (below_step (by repeat (first | (with_reducible first | exact HB.out | apply b1 | apply b2 | apply b3 | refine below_set ?_ GE160.out | refine below_set ?_ GE161.out) | exact HB.out)) hb); clear HO164; clear BK160; clear BK161; clear HB; have HO164 := n0_; have BK160 := n1_; have BK161 := n2_; have HB := n3_; clear n0_ n1_ n2_ n3_; (try clear hb); (try clear hb2); (try clear hk); (try clear hi)))
    go_meet
    case rel => exact ⟨_, (true), (by first | rfl | (simp; done) | (simp [*]; done)), H', ⟨by first | omega | exact Nat.le_refl _⟩, ⟨rr HO164⟩, ⟨rk BK160⟩, ⟨rk BK161⟩, ⟨by repeat (first | (with_reducible first | exact HB.out | apply b1 | apply b2 | apply b3 | refine below_set ?_ GE160.out | refine below_set ?_ GE161.out) | exact HB.out)⟩⟩
  ·replace c9 := Bool.eq_false_iff.mpr c9
   subst c9
   have H1 : (impl_Params.j0 k y162 true a0_0 a0_1 a0_2 a0_3 a0_4 a1_0 a1_1 a1_2 a1_3 a1_4) = some r := by rw [if_neg (show ¬ (false = true) by decide)] at H; exact H
   clear H
   have H := H1
   clear H1
   have H' := am H
   clear H
   have hnb24 := NB160_161.out
   have hnc24 := NB161_160.out
   have hcz25_0 : w6.cell? ⟨gb160, 0, none⟩ = some (.int .i64 a0_0) := (blk_cell BK160.out 0).trans rfl
   have hcz25_1 : w6.cell? ⟨gb160, 1, none⟩ = some (.int .i64 a0_1) := (blk_cell BK160.out 1).trans rfl
   have hcz25_2 : w6.cell? ⟨gb160, 2, none⟩ = some (.bool a0_2) := (blk_cell BK160.out 2).trans rfl
   have hcz25_3 : w6.cell? ⟨gb160, 3, none⟩ = some (.bool a0_3) := (blk_cell BK160.out 3).trans rfl
   have hcz25_4 : w6.cell? ⟨gb160, 4, none⟩ = some (.bool a0_4) := (blk_cell BK160.out 4).trans rfl
   have hfz25_0 := blk_frozen BK160.out 0
   have hfz25_1 := blk_frozen BK160.out 1
   have hfz25_2 := blk_frozen BK160.out 2
   have hfz25_3 := blk_frozen BK160.out 3
   have hfz25_4 := blk_frozen BK160.out 4
   go_wp2_with (first | ((with_reducible refine gate_callee (f := 22) rfl ?_); refine gl_ (some 8) Tryd.func22 #[.agg #[.int .i64 a0_0, .int .i64 a0_1, .bool a0_2, .bool a0_3, .bool a0_4]] ?_; (with_reducible refine (impl_StyleOk.calls a0_0 a0_1 a0_2 a0_3 a0_4 false _ A8.out).mono ?_); rintro e w26 ⟨rfl, hb⟩; refine ⟨_, rfl, ?_⟩; have n0_ := am (Kd.R_below (rr HO164) hb); have n1_ := am (blk_below (g := gb160) (o := .cells #[.int .i64 a0_0, .int .i64 a0_1, .bool a0_2, .bool a0_3, .bool a0_4] 25 (0, 0)) (rk BK160) hb); have n2_ := am (blk_below (g := gb161) (o := .cells #[.int .i64 a1_0, .int .i64 a1_1, .bool a1_2, .bool a1_3, .bool a1_4] 25 (0, 0)) (rk BK161) hb); have n3_ := am (below_step (by repeat (first | (with_reducible first | exact HB.out | apply b1 | apply b2 | apply b3 | refine below_set ?_ GE160.out | refine below_set ?_ GE161.out) | exact HB.out)) hb); clear HO164; clear BK160; clear BK161; clear HB; have HO164 := n0_; have BK160 := n1_; have BK161 := n2_; have HB := n3_; clear n0_ n1_ n2_ n3_; (try clear hb); (try clear hb2); (try clear hk); (try clear hi)))
   go_meet
   case rel => exact ⟨_, (true), (by first | rfl | (simp; done) | (simp [*]; done)), H', ⟨by first | omega | exact Nat.le_refl _⟩, ⟨rr HO164⟩, ⟨rk BK160⟩, ⟨rk BK161⟩, ⟨by repeat (first | (with_reducible first | exact HB.out | apply b1 | apply b2 | apply b3 | refine below_set ?_ GE160.out | refine below_set ?_ GE161.out) | exact HB.out)⟩⟩
 case rest =>
  clear HC3
  try clear c1
  try clear c2
  try clear p2
  try clear c9
  try clear c11
  try clear c12
  try clear c18
  try clear c19
  try clear c22
  try clear c24
  try clear hcz13_0
  try clear hcz13_1
  try clear hcz13_2
  try clear hcz13_3
  try clear hcz13_4
  try clear hcz15_0
  try clear hcz15_1
  try clear hcz15_2
  try clear hcz15_3
  try clear hcz15_4
  try clear hcz17_0
  try clear hcz17_1
  try clear hcz17_2
  try clear hcz17_3
  try clear hcz17_4
  try clear hcz18_0
  try clear hcz18_1
  try clear hcz18_2
  try clear hcz18_3
  try clear hcz18_4
  try clear hcz20_0
  try clear hcz20_1
  try clear hcz20_2
  try clear hcz20_3
  try clear hcz20_4
  try clear hcz22_0
  try clear hcz22_1
  try clear hcz22_2
  try clear hcz22_3
  try clear hcz22_4
  try clear hcz25_0
  try clear hcz25_1
  try clear hcz25_2
  try clear hcz25_3
  try clear hcz25_4
  try clear hfz13_0
  try clear hfz13_1
  try clear hfz13_2
  try clear hfz13_3
  try clear hfz13_4
  try clear hfz15_0
  try clear hfz15_1
  try clear hfz15_2
  try clear hfz15_3
  try clear hfz15_4
  try clear hfz17_0
  try clear hfz17_1
  try clear hfz17_2
  try clear hfz17_3
  try clear hfz17_4
  try clear hfz18_0
  try clear hfz18_1
  try clear hfz18_2
  try clear hfz18_3
  try clear hfz18_4
  try clear hfz20_0
  try clear hfz20_1
  try clear hfz20_2
  try clear hfz20_3
  try clear hfz20_4
  try clear hfz22_0
  try clear hfz22_1
  try clear hfz22_2
  try clear hfz22_3
  try clear hfz22_4
  try clear hfz25_0
  try clear hfz25_1
  try clear hfz25_2
  try clear hfz25_3
  try clear hfz25_4
  obtain ⟨kq, x19_2, rfl, HA, HJ2, HO_5, BK160, BK161, HB⟩ := hcut
  cases kq with
  | zero => exact absurd HA.out (by simp [impl_Params.j0])
  | succ kj2 =>
   have H := HA.out
   clear HA
   simp only [impl_Params.j0] at H
   by_cases c27 : x19_2 = true
   ·subst c27
    have H1 : (some y162) = some r := by rw [if_pos rfl] at H; exact H
    clear H
    have H := H1
    clear H1
    obtain rfl := Option.some.inj H
    go_wp2
    go_ret
    exact ⟨_, by first | rfl | (simp [errW_none, errW_some] <;> rfl) | (simp [*, errW_none, errW_some] <;> rfl), by (with_reducible repeat (first | apply r1 | apply r2 | apply r3)); exact HO_5.out, by repeat (first | (with_reducible first | exact HB.out | apply b1 | apply b2 | apply b3 | refine below_set ?_ GE160.out | refine below_set ?_ GE161.out) | exact HB.out)⟩
   ·replace c27 := Bool.eq_false_iff.mpr c27
    subst c27
    have H1 : (if (a1_0 == 0 && (a1_1 == 0 && (!a1_2 && (!a1_3 && (!a1_4))))) = true then (if y162.length < 17592186044416 then (some (y162 ++ [0])) else (none)) else (if (a0_2 != a1_2) = true then ((impl_paramOf.f a1_2 1 22).bind fun t170 => (if y162.length < 17592186044416 then (impl_Params.j1 kj2 (y162 ++ [t170]) a0_0 a0_1 a0_2 a0_3 a0_4 a1_0 a1_1 a1_2 a1_3 a1_4) else (none))) else (impl_Params.j1 kj2 y162 a0_0 a0_1 a0_2 a0_3 a0_4 a1_0 a1_1 a1_2 a1_3 a1_4))) = some r := by rw [if_neg (show ¬ (false = true) by decide)] at H; exact H
    clear H
    have H := H1
    clear H1
    by_cases c28 : (a1_0 == 0 && (a1_1 == 0 && (!a1_2 && (!a1_3 && (!a1_4))))) = true
    ·rw [if_pos c28] at H
     have c28b0 : (a1_0 == 0 && (a1_1 == 0 && (!a1_2 && (!a1_3 && (!a1_4))))) = true := c28
     (try (have c28b1 : decide (a1_0 = 0 && (a1_1 == 0 && (!a1_2 && (!a1_3 && (!a1_4))))) = true := by simpa using c28))
     (try (have c28b2 : (a1_0 == 0 && (a1_1 == 0 && (!a1_2 && (!a1_3 && (!a1_4))))) = true := by simpa using c28))
     clear c28
     by_cases c29 : y162.length < 17592186044416
     ·rw [if_pos c29] at H
      have LMc29 := am c29
      clear c29
      obtain ⟨y167, hy167⟩ : ∃ y_ : List Int, y_ = (y162 ++ [0]) := ⟨_, rfl⟩
      replace H : (some y167) = some r := by first | (rw [hy167]; with_reducible exact H) | (rw [hy167]; exact H) | exact H
      have Ny167 := am hy167
      clear hy167
      obtain rfl := Option.some.inj H
      have hnb30 := NB161_160.out
      have hnc30 := NB160_161.out
      have hcz31_0 : wc.cell? ⟨gb161, 0, none⟩ = some (.int .i64 a1_0) := (blk_cell BK161.out 0).trans rfl
      have hcz31_1 : wc.cell? ⟨gb161, 1, none⟩ = some (.int .i64 a1_1) := (blk_cell BK161.out 1).trans rfl
      have hcz31_2 : wc.cell? ⟨gb161, 2, none⟩ = some (.bool a1_2) := (blk_cell BK161.out 2).trans rfl
      have hcz31_3 : wc.cell? ⟨gb161, 3, none⟩ = some (.bool a1_3) := (blk_cell BK161.out 3).trans rfl
      have hcz31_4 : wc.cell? ⟨gb161, 4, none⟩ = some (.bool a1_4) := (blk_cell BK161.out 4).trans rfl
      have hfz31_0 := blk_frozen BK161.out 0
      have hfz31_1 := blk_frozen BK161.out 1
      have hfz31_2 := blk_frozen BK161.out 2
      have hfz31_3 := blk_frozen BK161.out 3
      have hfz31_4 := blk_frozen BK161.out 4
      go_wp2_with (first | ((with_reducible refine gate_builtin (b := .append) (xs := #[.tmp 24, .tmp 25]) rfl ?_); at_builtin; refine Kd.R_append (Kd.int .i64) (w0 := w) w.heap.size rfl (.tmp 24) (.tmp 25) 37 2 (.int .i64 0) 8 rfl Tryd.underlying37 info2 rfl (by decide) (by omega) v163 y162 0 [.int .i64 0] (fun _ => True) (fun _ => False) rfl rfl ?aP (fun _ hk => hk.elim) ?aF ?aO ?aB ?aS ?aL ?_; (case aP => exact rfl); (case aB => exact (by repeat (first | (with_reducible first | exact HB.out | apply b1 | apply b2 | apply b3 | refine below_set ?_ GE160.out | refine below_set ?_ GE161.out) | exact HB.out))); (case aF => exact (fun _ _ => trivial)); (case aO => exact (rr HO_5)); (case aS => exact (below_size (by repeat (first | (with_reducible first | exact HB.out | apply b1 | apply b2 | apply b3 | refine below_set ?_ GE160.out | refine below_set ?_ GE161.out) | exact HB.out)))); (case aL => have := LMc29.out; omega); intro v168 w32 ho hb hg hat; rw [← Ny167.out] at ho; have n0_ := am (blk_grown (g := gb160) (o := .cells #[.int .i64 a0_0, .int .i64 a0_1, .bool a0_2, .bool a0_3, .bool a0_4] 25 (0, 0)) (rk BK160) hg (Kd.R_ne HO_5.out BK160.out (by decide))); have n1_ := am (blk_grown (g := gb161) (o := .cells #[.int .i64 a1_0, .int .i64 a1_1, .bool a1_2, .bool a1_3, .bool a1_4] 25 (0, 0)) (rk BK161) hg (Kd.R_ne HO_5.out BK161.out (by decide))); have n2_ := am (hb); have n3_ := am (ho); clear BK160; clear BK161; clear HB; clear HO_5; have BK160 := n0_; have BK161 := n1_; have HB := n2_; have HO169 := n3_; clear n0_ n1_ n2_ n3_; clear ho hb hg hat))
      go_ret
      exact ⟨_, by first | rfl | (simp [errW_none, errW_some] <;> rfl) | (simp [*, errW_none, errW_some] <;> rfl), by (with_reducible repeat (first | apply r1 | apply r2 | apply r3)); exact HO169.out, by repeat (first | (with_reducible first | exact HB.out | apply b1 | apply b2 | apply b3 | refine below_set ?_ GE160.out | refine below_set ?_ GE161.out) | exact HB.out)⟩
     ·rw [if_neg c29] at H
      exact absurd H (by simp)
    ·rw [if_neg c28] at H
     have c28b0 : (a1_0 == 0 && (a1_1 == 0 && (!a1_2 && (!a1_3 && (!a1_4))))) = false := by simpa using c28
     (try (have c28b1 : decide (a1_0 = 0 && (a1_1 == 0 && (!a1_2 && (!a1_3 && (!a1_4))))) = false := by simpa using c28))
     (try (have c28b2 : (a1_0 == 0 && (a1_1 == 0 && (!a1_2 && (!a1_3 && (!a1_4))))) = false := by simpa using c28))
     (try (have c28b3 : ¬ (a1_0 = 0 && (a1_1 == 0 && (!a1_2 && (!a1_3 && (!a1_4))))) := by simpa using c28))
     clear c28
     have HC33 := am H
     clear H
     have hnb34 := NB161_160.out
     have hnc34 := NB160_161.out
     have hcz35_0 : wc.cell? ⟨gb161, 0, none⟩ = some (.int .i64 a1_0) := (blk_cell BK161.out 0).trans rfl
     have hcz35_1 : wc.cell? ⟨gb161, 1, none⟩ = some (.int .i64 a1_1) := (blk_cell BK161.out 1).trans rfl
     have hcz35_2 : wc.cell? ⟨gb161, 2, none⟩ = some (.bool a1_2) := (blk_cell BK161.out 2).trans rfl
     have hcz35_3 : wc.cell? ⟨gb161, 3, none⟩ = some (.bool a1_3) := (blk_cell BK161.out 3).trans rfl
     have hcz35_4 : wc.cell? ⟨gb161, 4, none⟩ = some (.bool a1_4) := (blk_cell BK161.out 4).trans rfl
     have hfz35_0 := blk_frozen BK161.out 0
     have hfz35_1 := blk_frozen BK161.out 1
     have hfz35_2 := blk_frozen BK161.out 2
     have hfz35_3 := blk_frozen BK161.out 3
     have hfz35_4 := blk_frozen BK161.out 4
     have hcz36_0 : wc.cell? ⟨gb160, 0, none⟩ = some (.int .i64 a0_0) := (blk_cell BK160.out 0).trans rfl
     have hcz36_1 : wc.cell? ⟨gb160, 1, none⟩ = some (.int .i64 a0_1) := (blk_cell BK160.out 1).trans rfl
     have hcz36_2 : wc.cell? ⟨gb160, 2, none⟩ = some (.bool a0_2) := (blk_cell BK160.out 2).trans rfl
     have hcz36_3 : wc.cell? ⟨gb160, 3, none⟩ = some (.bool a0_3) := (blk_cell BK160.out 3).trans rfl
     have hcz36_4 : wc.cell? ⟨gb160, 4, none⟩ = some (.bool a0_4) := (blk_cell BK160.out 4).trans rfl
     have hfz36_0 := blk_frozen BK160.out 0
     have hfz36_1 := blk_frozen BK160.out 1
     have hfz36_2 := blk_frozen BK160.out 2
     have hfz36_3 := blk_frozen BK160.out 3
     have hfz36_4 := blk_frozen BK160.out 4
     go_upto_if 31 with (fail)
     go_cut [5] (fun v5 wc => ∃ (kq : Nat) (x5_32 : List Int), Aside0 (impl_Params.j1 kq x5_32 a0_0 a0_1 a0_2 a0_3 a0_4 a1_0 a1_1 a1_2 a1_3 a1_4 = some r) ∧ Aside0 (kq ≤ kj2) ∧ Aside0 (Kd.R (Kd.int .i64) 2 wc w.heap.size (fun _ => True) v5 x5_32) ∧ Aside0 (wc.heap[gb160]? = some (.cells #[.int .i64 a0_0, .int .i64 a0_1, .bool a0_2, .bool a0_3, .bool a0_4] 25 (0, 0))) ∧ Aside0 (wc.heap[gb161]? = some (.cells #[.int .i64 a1_0, .int .i64 a1_1, .bool a1_2, .bool a1_3, .bool a1_4] 25 (0, 0))) ∧ Aside0 (Below w.heap.size w wc))
     case first =>
      have H := HC33.out
      clear HC33
      by_cases c37 : (a0_2 != a1_2) = true
      ·rw [if_pos c37] at H
       have c37b0 : (a0_2 != a1_2) = true := c37
       (try (have c37b8 : ¬ ((!(a0_2 == a1_2)) = false) := (by decide : ∀ x y : Bool, (x != y) = true → ¬ ((!(x == y)) = false)) a0_2 a1_2 c37b0))
       (try (have c37b9 : ¬ ((a0_2 == a1_2) = true) := (by decide : ∀ x y : Bool, (x != y) = true → ¬ ((x == y) = true)) a0_2 a1_2 c37b0))
       (try (have c37b1 : decide (a0_2 = a1_2) = false := by simpa using c37))
       (try (have c37b2 : (a0_2 == a1_2) = false := by simpa using c37))
       (try (have c37b3 : ¬ (a0_2 = a1_2) := by simpa using c37))
       clear c37
       (first | rw [c37b0] | rw [show (!(a0_2 == a1_2)) = true from c37b0] | (simp only [i64_w, i32_w]; rw [c37b0]) | skip)
       replace H := Option.bind_eq_some_iff.mp H
       obtain ⟨t170, A380, H⟩ := H
       replace H : (if y162.length < 17592186044416 then (impl_Params.j1 kj2 (y162 ++ [t170]) a0_0 a0_1 a0_2 a0_3 a0_4 a1_0 a1_1 a1_2 a1_3 a1_4) else (none)) = some r := H
       have A38 := am A380
       clear A380
       by_cases c39 : y162.length < 17592186044416
       ·rw [if_pos c39] at H
        have LMc39 := am c39
        clear c39
        obtain ⟨y171, hy171⟩ : ∃ y_ : List Int, y_ = (y162 ++ [t170]) := ⟨_, rfl⟩
        replace H : (impl_Params.j1 kj2 y171 a0_0 a0_1 a0_2 a0_3 a0_4 a1_0 a1_1 a1_2 a1_3 a1_4) = some r := by first | (rw [hy171]; with_reducible exact H) | (rw [hy171]; exact H) | exact H
        have Ny171 := am hy171
        clear hy171
        have H' := am H
        clear H
        have hnb40 := NB161_160.out
        have hnc40 := NB160_161.out
        have hcz41_0 : wc.cell? ⟨gb161, 0, none⟩ = some (.int .i64 a1_0) := (blk_cell BK161.out 0).trans rfl
        have hcz41_1 : wc.cell? ⟨gb161, 1, none⟩ = some (.int .i64 a1_1) := (blk_cell BK161.out 1).trans rfl
        have hcz41_2 : wc.cell? ⟨gb161, 2, none⟩ = some (.bool a1_2) := (blk_cell BK161.out 2).trans rfl
        have hcz41_3 : wc.cell? ⟨gb161, 3, none⟩ = some (.bool a1_3) := (blk_cell BK161.out 3).trans rfl
        have hcz41_4 : wc.cell? ⟨gb161, 4, none⟩ = some (.bool a1_4) := (blk_cell BK161.out 4).trans rfl
        have hfz41_0 := blk_frozen BK161.out 0
        have hfz41_1 := blk_frozen BK161.out 1
        have hfz41_2 := blk_frozen BK161.out 2
        have hfz41_3 := blk_frozen BK161.out 3
        have hfz41_4 := blk_frozen BK161.out 4
        go_wp2_with (first | ((with_reducible refine gate_callee (f := 40) rfl ?_); refine gl_ (some 35) Tryd.func40 #[.bool a1_2, .int .i64 1, .int .i64 22] ?_; (with_reducible refine (impl_paramOf.calls a1_2 1 22 t170 _ A38.out).mono ?_); rintro e w' ⟨rfl, ⟨nd, rfl⟩⟩; refine ⟨_, rfl, ?_⟩) | ((with_reducible refine gate_builtin (b := .append) (xs := #[.tmp 32, .tmp 36]) rfl ?_); at_builtin; refine Kd.R_append (Kd.int .i64) (w0 := w) w.heap.size rfl (.tmp 32) (.tmp 36) 37 2 (.int .i64 0) 8 rfl Tryd.underlying37 info2 rfl (by decide) (by omega) v163 y162 t170 [.int .i64 t170] (fun _ => True) (fun _ => False) rfl rfl ?aP (fun _ hk => hk.elim) ?aF ?aO ?aB ?aS ?aL ?_; (case aP => exact rfl); (case aB => exact (by repeat (first | (with_reducible first | exact HB.out | apply b1 | apply b2 | apply b3 | refine below_set ?_ GE160.out | refine below_set ?_ GE161.out) | exact HB.out))); (case aF => exact (fun _ _ => trivial)); (case aO => exact (rr HO_5)); (case aS => exact (below_size (by repeat (first | (with_reducible first | exact HB.out | apply b1 | apply b2 | apply b3 | refine below_set ?_ GE160.out | refine below_set ?_ GE161.out) | exact HB.out)))); (case aL => have := LMc39.out; omega); intro v172 w42 ho hb hg hat; rw [← Ny171.out] at ho; have n0_ := am (blk_grown (g := gb160) (o := .cells #[.int .i64 a0_0, .int .i64 a0_1, .bool a0_2, .bool a0_3, .bool a0_4] 25 (0, 0)) (rk BK160) hg (Kd.R_ne HO_5.out BK160.out (by decide))); have n1_ := am (blk_grown (g := gb161) (o := .cells #[.int .i64 a1_0, .int .i64 a1_1, .bool a1_2, .bool a1_3, .bool a1_4] 25 (0, 0)) (rk BK161) hg (Kd.R_ne HO_5.out BK161.out (by decide))); have n2_ := am (hb); have n3_ := am (ho); clear BK160; clear BK161; clear HB; clear HO_5; have BK160 := n0_; have BK161 := n1_; have HB := n2_; have HO173 := n3_; clear n0_ n1_ n2_ n3_; clear ho hb hg hat))
        go_meet
        case rel => exact ⟨_, (y171), H', ⟨by have := HJ2.out; first | omega | exact Nat.le_refl _⟩, ⟨rr HO173⟩, ⟨rk BK160⟩, ⟨rk BK161⟩, ⟨by repeat (first | (with_reducible first | exact HB.out | apply b1 | apply b2 | apply b3 | refine below_set ?_ GE160.out | refine below_set ?_ GE161.out) | exact HB.out)⟩⟩
       ·rw [if_neg c39] at H
        exact absurd H (by simp)
      ·rw [if_neg c37] at H
       have c37b0 : (a0_2 != a1_2) = false := by simpa using c37
       (try (have c37b8 : ¬ ((!(a0_2 == a1_2)) = true) := (by decide : ∀ x y : Bool, (x != y) = false → ¬ ((!(x == y)) = true)) a0_2 a1_2 c37b0))
       (try (have c37b9 : ¬ ((a0_2 == a1_2) = false) := (by decide : ∀ x y : Bool, (x != y) = false → ¬ ((x == y) = false)) a0_2 a1_2 c37b0))
       (try (have c37b1 : decide (a0_2 = a1_2) = true := by simpa using c37))
       (try (have c37b2 : (a0_2 == a1_2) = true := by simpa using c37))
       clear c37
       (first | rw [c37b0] | rw [show (!(a0_2 == a1_2)) = false from c37b0] | (simp only [i64_w, i32_w]; rw [c37b0]) | skip)
       have H' := am H
       clear H
       go_wp2
       go_meet
       case rel => exact ⟨_, (y162), H', ⟨by have := HJ2.out; first | omega | exact Nat.le_refl _⟩, ⟨rr HO_5⟩, ⟨rk BK160⟩, ⟨rk BK161⟩, ⟨by repeat (first | (with_reducible first | exact HB.out | apply b1 | apply b2 | apply b3 | refine below_set ?_ GE160.out | refine below_set ?_ GE161.out) | exact HB.out)⟩⟩
     case rest =>
      clear HC33
      try clear c1
      try clear c2
      try clear p2
      try clear c3
      try clear c4
      try clear c9
      try clear c11
      try clear c12
      try clear c18
      try clear c19
      try clear c22
      try clear c24
      try clear c27
      try clear c28
      try clear c28b0
      try clear c28b1
      try clear c28b2
      try clear c29
      try clear c30
      try clear c34
      try clear c37
      try clear c37b0
      try clear c37b1
      try clear c37b2
      try clear c39
      try clear c40
      try clear hcz13_0
      try clear hcz13_1
      try clear hcz13_2
      try clear hcz13_3
      try clear hcz13_4
      try clear hcz15_0
      try clear hcz15_1
      try clear hcz15_2
      try clear hcz15_3
      try clear hcz15_4
      try clear hcz17_0
      try clear hcz17_1
      try clear hcz17_2
      try clear hcz17_3
      try clear hcz17_4
      try clear hcz18_0
      try clear hcz18_1
      try clear hcz18_2
      try clear hcz18_3
      try clear hcz18_4
      try clear hcz20_0
      try clear hcz20_1
      try clear hcz20_2
      try clear hcz20_3
      try clear hcz20_4
      try clear hcz22_0
      try clear hcz22_1
      try clear hcz22_2
      try clear hcz22_3
      try clear hcz22_4
      try clear hcz25_0
      try clear hcz25_1
      try clear hcz25_2
      try clear hcz25_3
      try clear hcz25_4
      try clear hcz31_0
      try clear hcz31_1
      try clear hcz31_2
      try clear hcz31_3
      try clear hcz31_4
      try clear hcz35_0
      try clear hcz35_1
      try clear hcz35_2
      try clear hcz35_3
      try clear hcz35_4
      try clear hcz36_0
      try clear hcz36_1
      try clear hcz36_2
      try clear hcz36_3
      try clear hcz36_4
      try clear hcz41_0
      try clear hcz41_1
      try clear hcz41_2
      try clear hcz41_3
      try clear hcz41_4
      try clear hfz13_0
      try clear hfz13_1
      try clear hfz13_2
      try clear hfz13_3
      try clear hfz13_4
      try clear hfz15_0
      try clear hfz15_1
      try clear hfz15_2
      try clear hfz15_3
      try clear hfz15_4
      try clear hfz17_0
      try clear hfz17_1
      try clear hfz17_2
      try clear hfz17_3
      try clear hfz17_4
      try clear hfz18_0
      try clear hfz18_1
      try clear hfz18_2
      try clear hfz18_3
      try clear hfz18_4
      try clear hfz20_0
      try clear hfz20_1
      try clear hfz20_2
      try clear hfz20_3
      try clear hfz20_4
      try clear hfz22_0
      try clear hfz22_1
      try clear hfz22_2
      try clear hfz22_3
      try clear hfz22_4
      try clear hfz25_0
      try clear hfz25_1
      try clear hfz25_2
      try clear hfz25_3
      try clear hfz25_4
      try clear hfz31_0
      try clear hfz31_1
      try clear hfz31_2
      try clear hfz31_3
      try clear hfz31_4
      try clear hfz35_0
      try clear hfz35_1
      try clear hfz35_2
      try clear hfz35_3
      try clear hfz35_4
      try clear hfz36_0
      try clear hfz36_1
      try clear hfz36_2
      try clear hfz36_3
      try clear hfz36_4
      try clear hfz41_0
      try clear hfz41_1
      try clear hfz41_2
      try clear hfz41_3
      try clear hfz41_4
      try clear p2
      obtain ⟨kq, x5_32, HA, HJ32, HO_5, BK160, BK161, HB⟩ := hcut
      cases kq with
      | zero => exact absurd HA.out (by simp [impl_Params.j1])
      | succ kj32 =>
       have H := HA.out
       clear HA
       simp only [impl_Params.j1] at H
       have HC43 := am H
       clear H
       have hnb44 := NB160_161.out
       have hnc44 := NB161_160.out
       have hcz45_0 : wc.cell? ⟨gb160, 0, none⟩ = some (.int .i64 a0_0) := (blk_cell BK160.out 0).trans rfl
       have hcz45_1 : wc.cell? ⟨gb160, 1, none⟩ = some (.int .i64 a0_1) := (blk_cell BK160.out 1).trans rfl
       have hcz45_2 : wc.cell? ⟨gb160, 2, none⟩ = some (.bool a0_2) := (blk_cell BK160.out 2).trans rfl
       have hcz45_3 : wc.cell? ⟨gb160, 3, none⟩ = some (.bool a0_3) := (blk_cell BK160.out 3).trans rfl
       have hcz45_4 : wc.cell? ⟨gb160, 4, none⟩ = some (.bool a0_4) := (blk_cell BK160.out 4).trans rfl
       have hfz45_0 := blk_frozen BK160.out 0
       have hfz45_1 := blk_frozen BK160.out 1
       have hfz45_2 := blk_frozen BK160.out 2
       have hfz45_3 := blk_frozen BK160.out 3
       have hfz45_4 := blk_frozen BK160.out 4
       have hcz46_0 : wc.cell? ⟨gb161, 0, none⟩ = some (.int .i64 a1_0) := (blk_cell BK161.out 0).trans rfl
       have hcz46_1 : wc.cell? ⟨gb161, 1, none⟩ = some (.int .i64 a1_1) := (blk_cell BK161.out 1).trans rfl
       have hcz46_2 : wc.cell? ⟨gb161, 2, none⟩ = some (.bool a1_2) := (blk_cell BK161.out 2).trans rfl
       have hcz46_3 : wc.cell? ⟨gb161, 3, none⟩ = some (.bool a1_3) := (blk_cell BK161.out 3).trans rfl
       have hcz46_4 : wc.cell? ⟨gb161, 4, none⟩ = some (.bool a1_4) := (blk_cell BK161.out 4).trans rfl
       have hfz46_0 := blk_frozen BK161.out 0
       have hfz46_1 := blk_frozen BK161.out 1
       have hfz46_2 := blk_frozen BK161.out 2
       have hfz46_3 := blk_frozen BK161.out 3
       have hfz46_4 := blk_frozen BK161.out 4
       go_upto_if 42 with (fail)
       go_cut [5] (fun v5 wc => ∃ (kq : Nat) (x5_42 : List Int), Aside0 (impl_Params.j2 kq x5_42 a0_0 a0_1 a0_2 a0_3 a0_4 a1_0 a1_1 a1_2 a1_3 a1_4 = some r) ∧ Aside0 (kq ≤ kj32) ∧ Aside0 (Kd.R (Kd.int .i64) 2 wc w.heap.size (fun _ => True) v5 x5_42) ∧ Aside0 (wc.heap[gb160]? = some (.cells #[.int .i64 a0_0, .int .i64 a0_1, .bool a0_2, .bool a0_3, .bool a0_4] 25 (0, 0))) ∧ Aside0 (wc.heap[gb161]? = some (.cells #[.int .i64 a1_0, .int .i64 a1_1, .bool a1_2, .bool a1_3, .bool a1_4] 25 (0, 0))) ∧ Aside0 (Below w.heap.size w wc))
       case first =>
        have H := HC43.out
        clear HC43
        by_cases c47 : (a0_3 != a1_3) = true
        ·rw [if_pos c47] at H
         have c47b0 : (a0_3 != a1_3) = true := c47
         (try (have c47b8 : ¬ ((!(a0_3 == a1_3)) = false) := (by decide : ∀ x y : Bool, (x != y) = true → ¬ ((!(x == y)) = false)) a0_3 a1_3 c47b0))
         (try (have c47b9 : ¬ ((a0_3 == a1_3) = true) := (by decide : ∀ x y : Bool, (x != y) = true → ¬ ((x == y) = true)) a0_3 a1_3 c47b0))
         (try (have c47b1 : decide (a0_3 = a1_3) = false := by simpa using c47))
         (try (have c47b2 : (a0_3 == a1_3) = false := by simpa using c47))
         (try (have c47b3 : ¬ (a0_3 = a1_3) := by simpa using c47))
         clear c47
         (first | rw [c47b0] | rw [show (!(a0_3 == a1_3)) = true from c47b0] | (simp only [i64_w, i32_w]; rw [c47b0]) | skip)
         replace H := Option.bind_eq_some_iff.mp H
         obtain ⟨t174, A480, H⟩ := H
         replace H : (if x5_32.length < 17592186044416 then (impl_Params.j2 kj32 (x5_32 ++ [t174]) a0_0 a0_1 a0_2 a0_3 a0_4 a1_0 a1_1 a1_2 a1_3 a1_4) else (none)) = some r := H
         have A48 := am A480
         clear A480
         by_cases c49 : x5_32.length < 17592186044416
         ·rw [if_pos c49] at H
          have LMc49 := am c49
          clear c49
          obtain ⟨y175, hy175⟩ : ∃ y_ : List Int, y_ = (x5_32 ++ [t174]) := ⟨_, rfl⟩
          replace H : (impl_Params.j2 kj32 y175 a0_0 a0_1 a0_2 a0_3 a0_4 a1_0 a1_1 a1_2 a1_3 a1_4) = some r := by first | (rw [hy175]; with_reducible exact H) | (rw [hy175]; exact H) | exact H
          have Ny175 := am hy175
          clear hy175
          have H' := am H
          clear H
          have hnb50 := NB161_160.out
          have hnc50 := NB160_161.out
          have hcz51_0 : wc.cell? ⟨gb161, 0, none⟩ = some (.int .i64 a1_0) := (blk_cell BK161.out 0).trans rfl
          have hcz51_1 : wc.cell? ⟨gb161, 1, none⟩ = some (.int .i64 a1_1) := (blk_cell BK161.out 1).trans rfl
          have hcz51_2 : wc.cell? ⟨gb161, 2, none⟩ = some (.bool a1_2) := (blk_cell BK161.out 2).trans rfl
          have hcz51_3 : wc.cell? ⟨gb161, 3, none⟩ = some (.bool a1_3) := (blk_cell BK161.out 3).trans rfl
          have hcz51_4 : wc.cell? ⟨gb161, 4, none⟩ = some (.bool a1_4) := (blk_cell BK161.out 4).trans rfl
          have hfz51_0 := blk_frozen BK161.out 0
          have hfz51_1 := blk_frozen BK161.out 1
          have hfz51_2 := blk_frozen BK161.out 2
          have hfz51_3 := blk_frozen BK161.out 3
          have hfz51_4 := blk_frozen BK161.out 4
          go_wp2_with (first | ((with_reducible refine gate_callee (f := 40) rfl ?_); refine gl_ (some 46) Tryd.func40 #[.bool a1_3, .int .i64 4, .int .i64 24] ?_; (with_reducible refine (impl_paramOf.calls a1_3 4 24 t174 _ A48.out).mono ?_); rintro e w' ⟨rfl, ⟨nd, rfl⟩⟩; refine ⟨_, rfl, ?_⟩) | ((with_reducible refine gate_builtin (b := .append) (xs := #[.tmp 43, .tmp 47]) rfl ?_); at_builtin; refine Kd.R_append (Kd.int .i64) (w0 := w) w.heap.size rfl (.tmp 43) (.tmp 47) 37 2 (.int .i64 0) 8 rfl Tryd.underlying37 info2 rfl (by decide) (by omega) u5 x5_32 t174 [.int .i64 t174] (fun _ => True) (fun _ => False) rfl rfl ?aP (fun _ hk => hk.elim) ?aF ?aO ?aB ?aS ?aL ?_; (case aP => exact rfl); (case aB => exact (by repeat (first | (with_reducible first | exact HB.out | apply b1 | apply b2 | apply b3 | refine below_set ?_ GE160.out | refine below_set ?_ GE161.out) | exact HB.out))); (case aF => exact (fun _ _ => trivial)); (case aO => exact (rr HO_5)); (case aS => exact (below_size (by repeat (first | (with_reducible first | exact HB.out | apply b1 | apply b2 | apply b3 | refine below_set ?_ GE160.out | refine below_set ?_ GE161.out) | exact HB.out)))); (case aL => have := LMc49.out; omega); intro v176 w52 ho hb hg hat; rw [← Ny175.out] at ho; have n0_ := am (blk_grown (g := gb160) (o := .cells #[.int .i64 a0_0, .int .i64 a0_1, .bool a0_2, .bool a0_3, .bool a0_4] 25 (0, 0)) (rk BK160) hg (Kd.R_ne HO_5.out BK160.out (by decide))); have n1_ := am (blk_grown (g := gb161) (o := .cells #[.int .i64 a1_0, .int .i64 a1_1, .bool a1_2, .bool a1_3, .bool a1_4] 25 (0, 0)) (rk BK161) hg (Kd.R_ne HO_5.out BK161.out (by decide))); have n2_ := am (hb); have n3_ := am (ho); clear BK160; clear BK161; clear HB; clear HO_5; have BK160 := n0_; have BK161 := n1_; have HB := n2_; have HO177 := n3_; clear n0_ n1_ n2_ n3_; clear ho hb hg hat))
          go_meet
          case rel => exact ⟨_, (y175), H', ⟨by have := HJ2.out; have := HJ32.out; first | omega | exact Nat.le_refl _⟩, ⟨rr HO177⟩, ⟨rk BK160⟩, ⟨rk BK161⟩, ⟨by repeat (first | (with_reducible first | exact HB.out | apply b1 | apply b2 | apply b3 | refine below_set ?_ GE160.out | refine below_set ?_ GE161.out) | exact HB.out)⟩⟩
         ·rw [if_neg c49] at H
          exact absurd H (by simp)
        ·rw [if_neg c47] at H
         have c47b0 : (a0_3 != a1_3) = false := by simpa using c47
         (try (have c47b8 : ¬ ((!(a0_3 == a1_3)) = true) := (by decide : ∀ x y : Bool, (x != y) = false → ¬ ((!(x == y)) = true)) a0_3 a1_3 c47b0))
         (try (have c47b9 : ¬ ((a0_3 == a1_3) = false) := (by decide : ∀ x y : Bool, (x != y) = false → ¬ ((x == y) = false)) a0_3 a1_3 c47b0))
         (try (have c47b1 : decide (a0_3 = a1_3) = true := by simpa using c47))
         (try (have c47b2 : (a0_3 == a1_3) = true := by simpa using c47))
         clear c47
         (first | rw [c47b0] | rw [show (!(a0_3 == a1_3)) = false from c47b0] | (simp only [i64_w, i32_w]; rw [c47b0]) | skip)
         have H' := am H
         clear H
         go_wp2
         go_meet
         case rel => exact ⟨_, (x5_32), H', ⟨by have := HJ2.out; have := HJ32.out; first | omega | exact Nat.le_refl _⟩, ⟨rr HO_5⟩, ⟨rk BK160⟩, ⟨rk BK161⟩, ⟨by repeat (first | (with_reducible first | exact HB.out | apply b1 | apply b2 | apply b3 | refine below_set ?_ GE160.out | refine below_set ?_ GE161.out) | exact HB.out)⟩⟩
       case rest =>
        clear HC43
        try clear c1
        try clear c2
        try clear p2
        try clear c3
        try clear c4
        try clear c5
        try clear c9
        try clear c11
        try clear c12
        try clear c18
        try clear c19
        try clear c22
        try clear c24
        try clear c27
        try clear c28
        try clear c28b0
        try clear c28b1
        try clear c28b2
        try clear c29
        try clear c30
        try clear c34
        try clear c37
        try clear c37b0
        try clear c37b1
        try clear c37b2
        try clear c39
        try clear c40
        try clear c44
        try clear c47
        try clear c47b0
        try clear c47b1
        try clear c47b2
        try clear c49
        try clear c50
        try clear hcz13_0
        try clear hcz13_1
        try clear hcz13_2
        try clear hcz13_3
        try clear hcz13_4
        try clear hcz15_0
        try clear hcz15_1
        try clear hcz15_2
        try clear hcz15_3
        try clear hcz15_4
        try clear hcz17_0
        try clear hcz17_1
        try clear hcz17_2
        try clear hcz17_3
        try clear hcz17_4
        try clear hcz18_0
        try clear hcz18_1
        try clear hcz18_2
        try clear hcz18_3
        try clear hcz18_4
        try clear hcz20_0
        try clear hcz20_1
        try clear hcz20_2
        try clear hcz20_3
        try clear hcz20_4
        try clear hcz22_0
        try clear hcz22_1
        try clear hcz22_2
        try clear hcz22_3
        try clear hcz22_4
        try clear hcz25_0
        try clear hcz25_1
        try clear hcz25_2
        try clear hcz25_3
        try clear hcz25_4
        try clear hcz31_0
        try clear hcz31_1
        try clear hcz31_2
        try clear hcz31_3
        try clear hcz31_4
        try clear hcz35_0
        try clear hcz35_1
        try clear hcz35_2
        try clear hcz35_3
        try clear hcz35_4
        try clear hcz36_0
        try clear hcz36_1
        try clear hcz36_2
        try clear hcz36_3
        try clear hcz36_4
        try clear hcz41_0
        try clear hcz41_1
        try clear hcz41_2
        try clear hcz41_3
        try clear hcz41_4
        try clear hcz45_0
        try clear hcz45_1
        try clear hcz45_2
        try clear hcz45_3
        try clear hcz45_4
        try clear hcz46_0
        try clear hcz46_1
        try clear hcz46_2
        try clear hcz46_3
        try clear hcz46_4
        try clear hcz51_0
        try clear hcz51_1
        try clear hcz51_2
        try clear hcz51_3
        try clear hcz51_4
        try clear hfz13_0
        try clear hfz13_1
        try clear hfz13_2
        try clear hfz13_3
        try clear hfz13_4
        try clear hfz15_0
        try clear hfz15_1
        try clear hfz15_2
        try clear hfz15_3
        try clear hfz15_4
        try clear hfz17_0
        try clear hfz17_1
        try clear hfz17_2
        try clear hfz17_3
        try clear hfz17_4
        try clear hfz18_0
        try clear hfz18_1
        try clear hfz18_2
        try clear hfz18_3
        try clear hfz18_4
        try clear hfz20_0
        try clear hfz20_1
        try clear hfz20_2
        try clear hfz20_3
        try clear hfz20_4
        try clear hfz22_0
        try clear hfz22_1
        try clear hfz22_2
        try clear hfz22_3
        try clear hfz22_4
        try clear hfz25_0
        try clear hfz25_1
        try clear hfz25_2
        try clear hfz25_3
        try clear hfz25_4
        try clear hfz31_0
        try clear hfz31_1
        try clear hfz31_2
        try clear hfz31_3
        try clear hfz31_4
        try clear hfz35_0
        try clear hfz35_1
        try clear hfz35_2
        try clear hfz35_3
        try clear hfz35_4
        try clear hfz36_0
        try clear hfz36_1
        try clear hfz36_2
        try clear hfz36_3
        try clear hfz36_4
        try clear hfz41_0
        try clear hfz41_1
        try clear hfz41_2
        try clear hfz41_3
        try clear hfz41_4
        try clear hfz45_0
        try clear hfz45_1
        try clear hfz45_2
        try clear hfz45_3
        try clear hfz45_4
        try clear hfz46_0
        try clear hfz46_1
        try clear hfz46_2
        try clear hfz46_3
        try clear hfz46_4
        try clear hfz51_0
        try clear hfz51_1
        try clear hfz51_2
        try clear hfz51_3
        try clear hfz51_4
        try clear p2
        obtain ⟨kq, x5_42, HA, HJ42, HO_5, BK160, BK161, HB⟩ := hcut
        cases kq with
        | zero => exact absurd HA.out (by simp [impl_Params.j2])
        | succ kj42 =>
         have H := HA.out
         clear HA
         simp only [impl_Params.j2] at H
         have HC53 := am H
         clear H
         have hnb54 := NB160_161.out
         have hnc54 := NB161_160.out
         have hcz55_0 : wc.cell? ⟨gb160, 0, none⟩ = some (.int .i64 a0_0) := (blk_cell BK160.out 0).trans rfl
         have hcz55_1 : wc.cell? ⟨gb160, 1, none⟩ = some (.int .i64 a0_1) := (blk_cell BK160.out 1).trans rfl
         have hcz55_2 : wc.cell? ⟨gb160, 2, none⟩ = some (.bool a0_2) := (blk_cell BK160.out 2).trans rfl
         have hcz55_3 : wc.cell? ⟨gb160, 3, none⟩ = some (.bool a0_3) := (blk_cell BK160.out 3).trans rfl
         have hcz55_4 : wc.cell? ⟨gb160, 4, none⟩ = some (.bool a0_4) := (blk_cell BK160.out 4).trans rfl
         have hfz55_0 := blk_frozen BK160.out 0
         have hfz55_1 := blk_frozen BK160.out 1
         have hfz55_2 := blk_frozen BK160.out 2
         have hfz55_3 := blk_frozen BK160.out 3
         have hfz55_4 := blk_frozen BK160.out 4
         have hcz56_0 : wc.cell? ⟨gb161, 0, none⟩ = some (.int .i64 a1_0) := (blk_cell BK161.out 0).trans rfl
         have hcz56_1 : wc.cell? ⟨gb161, 1, none⟩ = some (.int .i64 a1_1) := (blk_cell BK161.out 1).trans rfl
         have hcz56_2 : wc.cell? ⟨gb161, 2, none⟩ = some (.bool a1_2) := (blk_cell BK161.out 2).trans rfl
         have hcz56_3 : wc.cell? ⟨gb161, 3, none⟩ = some (.bool a1_3) := (blk_cell BK161.out 3).trans rfl
         have hcz56_4 : wc.cell? ⟨gb161, 4, none⟩ = some (.bool a1_4) := (blk_cell BK161.out 4).trans rfl
         have hfz56_0 := blk_frozen BK161.out 0
         have hfz56_1 := blk_frozen BK161.out 1
         have hfz56_2 := blk_frozen BK161.out 2
         have hfz56_3 := blk_frozen BK161.out 3
         have hfz56_4 := blk_frozen BK161.out 4
         go_upto_if 53 with (fail)
         go_cut [5] (fun v5 wc => ∃ (kq : Nat) (x5_52 : List Int), Aside0 (impl_Params.j3 kq x5_52 a0_0 a0_1 a0_2 a0_3 a0_4 a1_0 a1_1 a1_2 a1_3 a1_4 = some r) ∧ Aside0 (kq ≤ kj42) ∧ Aside0 (Kd.R (Kd.int .i64) 2 wc w.heap.size (fun _ => True) v5 x5_52) ∧ Aside0 (wc.heap[gb160]? = some (.cells #[.int .i64 a0_0, .int .i64 a0_1, .bool a0_2, .bool a0_3, .bool a0_4] 25 (0, 0))) ∧ Aside0 (wc.heap[gb161]? = some (.cells #[.int .i64 a1_0, .int .i64 a1_1, .bool a1_2, .bool a1_3, .bool a1_4] 25 (0, 0))) ∧ Aside0 (Below w.heap.size w wc))
         case first =>
          have H := HC53.out
          clear HC53
          by_cases c57 : (a0_4 != a1_4) = true
          ·rw [if_pos c57] at H
           have c57b0 : (a0_4 != a1_4) = true := c57
           (try (have c57b8 : ¬ ((!(a0_4 == a1_4)) = false) := (by decide : ∀ x y : Bool, (x != y) = true → ¬ ((!(x == y)) = false)) a0_4 a1_4 c57b0))
           (try (have c57b9 : ¬ ((a0_4 == a1_4) = true) := (by decide : ∀ x y : Bool, (x != y) = true → ¬ ((x == y) = true)) a0_4 a1_4 c57b0))
           (try (have c57b1 : decide (a0_4 = a1_4) = false := by simpa using c57))
           (try (have c57b2 : (a0_4 == a1_4) = false := by simpa using c57))
           (try (have c57b3 : ¬ (a0_4 = a1_4) := by simpa using c57))
           clear c57
           (first | rw [c57b0] | rw [show (!(a0_4 == a1_4)) = true from c57b0] | (simp only [i64_w, i32_w]; rw [c57b0]) | skip)
           replace H := Option.bind_eq_some_iff.mp H
           obtain ⟨t178, A580, H⟩ := H
           replace H : (if x5_42.length < 17592186044416 then (impl_Params.j3 kj42 (x5_42 ++ [t178]) a0_0 a0_1 a0_2 a0_3 a0_4 a1_0 a1_1 a1_2 a1_3 a1_4) else (none)) = some r := H
           have A58 := am A580
           clear A580
           by_cases c59 : x5_42.length < 17592186044416
           ·rw [if_pos c59] at H
            have LMc59 := am c59
            clear c59
            obtain ⟨y179, hy179⟩ : ∃ y_ : List Int, y_ = (x5_42 ++ [t178]) := ⟨_, rfl⟩
            replace H : (impl_Params.j3 kj42 y179 a0_0 a0_1 a0_2 a0_3 a0_4 a1_0 a1_1 a1_2 a1_3 a1_4) = some r := by first | (rw [hy179]; with_reducible exact H) | (rw [hy179]; exact H) | exact H
            have Ny179 := am hy179
            clear hy179
            have H' := am H
            clear H
            have hnb60 := NB161_160.out
            have hnc60 := NB160_161.out
            have hcz61_0 : wc.cell? ⟨gb161, 0, none⟩ = some (.int .i64 a1_0) := (blk_cell BK161.out 0).trans rfl
            have hcz61_1 : wc.cell? ⟨gb161, 1, none⟩ = some (.int .i64 a1_1) := (blk_cell BK161.out 1).trans rfl
            have hcz61_2 : wc.cell? ⟨gb161, 2, none⟩ = some (.bool a1_2) := (blk_cell BK161.out 2).trans rfl
            have hcz61_3 : wc.cell? ⟨gb161, 3, none⟩ = some (.bool a1_3) := (blk_cell BK161.out 3).trans rfl
            have hcz61_4 : wc.cell? ⟨gb161, 4, none⟩ = some (.bool a1_4) := (blk_cell BK161.out 4).trans rfl
            have hfz61_0 := blk_frozen BK161.out 0
            have hfz61_1 := blk_frozen BK161.out 1
            have hfz61_2 := blk_frozen BK161.out 2
            have hfz61_3 := blk_frozen BK161.out 3
            have hfz61_4 := blk_frozen BK161.out 4
            go_wp2_with (first | ((with_reducible refine gate_callee (f := 40) rfl ?_); refine gl_ (some 57) Tryd.func40 #[.bool a1_4, .int .i64 7, .int .i64 27] ?_; (with_reducible refine (impl_paramOf.calls a1_4 7 27 t178 _ A58.out).mono ?_); rintro e w' ⟨rfl, ⟨nd, rfl⟩⟩; refine ⟨_, rfl, ?_⟩) | ((with_reducible refine gate_builtin (b := .append) (xs := #[.tmp 54, .tmp 58]) rfl ?_); at_builtin; refine Kd.R_append (Kd.int .i64) (w0 := w) w.heap.size rfl (.tmp 54) (.tmp 58) 37 2 (.int .i64 0) 8 rfl Tryd.underlying37 info2 rfl (by decide) (by omega) u5 x5_42 t178 [.int .i64 t178] (fun _ => True) (fun _ => False) rfl rfl ?aP (fun _ hk => hk.elim) ?aF ?aO ?aB ?aS ?aL ?_; (case aP => exact rfl); (case aB => exact (by repeat (first | (with_reducible first | exact HB.out | apply b1 | apply b2 | apply b3 | refine below_set ?_ GE160.out | refine below_set ?_ GE161.out) | exact HB.out))); (case aF => exact (fun _ _ => trivial)); (case aO => exact (rr HO_5)); (case aS => exact (below_size (by repeat (first | (with_reducible first | exact HB.out | apply b1 | apply b2 | apply b3 | refine below_set ?_ GE160.out | refine below_set ?_ GE161.out) | exact HB.out)))); (case aL => have := LMc59.out; omega); intro v180 w62 ho hb hg hat; rw [← Ny179.out] at ho; have n0_ := am (blk_grown (g := gb160) (o := .cells #[.int .i64 a0_0, .int .i64 a0_1, .bool a0_2, .bool a0_3, .bool a0_4] 25 (0, 0)) (rk BK160) hg (Kd.R_ne HO_5.out BK160.out (by decide))); have n1_ := am (blk_grown (g := gb161) (o := .cells #[.int .i64 a1_0, .int .i64 a1_1, .bool a1_2, .bool a1_3, .bool a1_4] 25 (0, 0)) (rk BK161) hg (Kd.R_ne HO_5.out BK161.out (by decide))); have n2_ := am (hb); have n3_ := am (ho); clear BK160; clear BK161; clear HB; clear HO_5; have BK160 := n0_; have BK161 := n1_; have HB := n2_; have HO181 := n3_; clear n0_ n1_ n2_ n3_; clear ho hb hg hat))
            go_meet
            case rel => exact ⟨_, (y179), H', ⟨by have := HJ2.out; have := HJ32.out; have := HJ42.out; first | omega | exact Nat.le_refl _⟩, ⟨rr HO181⟩, ⟨rk BK160⟩, ⟨rk BK161⟩, ⟨by repeat (first | (with_reducible first | exact HB.out | apply b1 | apply b2 | apply b3 | refine below_set ?_ GE160.out | refine below_set ?_ GE161.out) | exact HB.out)⟩⟩
           ·rw [if_neg c59] at H
            exact absurd H (by simp)
          ·rw [if_neg c57] at H
           have c57b0 : (a0_4 != a1_4) = false := by simpa using c57
           (try (have c57b8 : ¬ ((!(a0_4 == a1_4)) = true) := (by decide : ∀ x y : Bool, (x != y) = false → ¬ ((!(x == y)) = true)) a0_4 a1_4 c57b0))
           (try (have c57b9 : ¬ ((a0_4 == a1_4) = false) := (by decide : ∀ x y : Bool, (x != y) = false → ¬ ((x == y) = false)) a0_4 a1_4 c57b0))
           (try (have c57b1 : decide (a0_4 = a1_4) = true := by simpa using c57))
           (try (have c57b2 : (a0_4 == a1_4) = true := by simpa using c57))
           clear c57
           (first | rw [c57b0] | rw [show (!(a0_4 == a1_4)) = false from c57b0] | (simp only [i64_w, i32_w]; rw [c57b0]) | skip)
           have H' := am H
           clear H
           go_wp2
           go_meet
           case rel => exact ⟨_, (x5_42), H', ⟨by have := HJ2.out; have := HJ32.out; have := HJ42.out; first | omega | exact Nat.le_refl _⟩, ⟨rr HO_5⟩, ⟨rk BK160⟩, ⟨rk BK161⟩, ⟨by repeat (first | (with_reducible first | exact HB.out | apply b1 | apply b2 | apply b3 | refine below_set ?_ GE160.out | refine below_set ?_ GE161.out) | exact HB.out)⟩⟩
         case rest =>
          clear HC53
          try clear c1
          try clear c2
          try clear p2
          try clear c3
          try clear c4
          try clear c5
          try clear c6
          try clear c9
          try clear c11
          try clear c12
          try clear c18
          try clear c19
          try clear c22
          try clear c24
          try clear c27
          try clear c28
          try clear c28b0
          try clear c28b1
          try clear c28b2
          try clear c29
          try clear c30
          try clear c34
          try clear c37
          try clear c37b0
          try clear c37b1
          try clear c37b2
          try clear c39
          try clear c40
          try clear c44
          try clear c47
          try clear c47b0
          try clear c47b1
          try clear c47b2
          try clear c49
          try clear c50
          try clear c54
          try clear c57
          try clear c57b0
          try clear c57b1
          try clear c57b2
          try clear c59
          try clear c60
          try clear hcz13_0
          try clear hcz13_1
          try clear hcz13_2
          try clear hcz13_3
          try clear hcz13_4
          try clear hcz15_0
          try clear hcz15_1
          try clear hcz15_2
          try clear hcz15_3
          try clear hcz15_4
          try clear hcz17_0
          try clear hcz17_1
          try clear hcz17_2
          try clear hcz17_3
          try clear hcz17_4
          try clear hcz18_0
          try clear hcz18_1
          try clear hcz18_2
          try clear hcz18_3
          try clear hcz18_4
          try clear hcz20_0
          try clear hcz20_1
          try clear hcz20_2
          try clear hcz20_3
          try clear hcz20_4
          try clear hcz22_0
          try clear hcz22_1
          try clear hcz22_2
          try clear hcz22_3
          try clear hcz22_4
          try clear hcz25_0
          try clear hcz25_1
          try clear hcz25_2
          try clear hcz25_3
          try clear hcz25_4
          try clear hcz31_0
          try clear hcz31_1
          try clear hcz31_2
          try clear hcz31_3
          try clear hcz31_4
          try clear hcz35_0
          try clear hcz35_1
          try clear hcz35_2
          try clear hcz35_3
          try clear hcz35_4
          try clear hcz36_0
          try clear hcz36_1
          try clear hcz36_2
          try clear hcz36_3
          try clear hcz36_4
          try clear hcz41_0
          try clear hcz41_1
          try clear hcz41_2
          try clear hcz41_3
          try clear hcz41_4
          try clear hcz45_0
          try clear hcz45_1
          try clear hcz45_2
          try clear hcz45_3
          try clear hcz45_4
          try clear hcz46_0
          try clear hcz46_1
          try clear hcz46_2
          try clear hcz46_3
          try clear hcz46_4
          try clear hcz51_0
          try clear hcz51_1
          try clear hcz51_2
          try clear hcz51_3
          try clear hcz51_4
          try clear hcz55_0
          try clear hcz55_1
          try clear hcz55_2
          try clear hcz55_3
          try clear hcz55_4
          try clear hcz56_0
          try clear hcz56_1
          try clear hcz56_2
          try clear hcz56_3
          try clear hcz56_4
          try clear hcz61_0
          try clear hcz61_1
          try clear hcz61_2
          try clear hcz61_3
          try clear hcz61_4
          try clear hfz13_0
          try clear hfz13_1
          try clear hfz13_2
          try clear hfz13_3
          try clear hfz13_4
          try clear hfz15_0
          try clear hfz15_1
          try clear hfz15_2
          try clear hfz15_3
          try clear hfz15_4
          try clear hfz17_0
          try clear hfz17_1
          try clear hfz17_2
          try clear hfz17_3
          try clear hfz17_4
          try clear hfz18_0
          try clear hfz18_1
          try clear hfz18_2
          try clear hfz18_3
          try clear hfz18_4
          try clear hfz20_0
          try clear hfz20_1
          try clear hfz20_2
          try clear hfz20_3
          try clear hfz20_4
          try clear hfz22_0
          try clear hfz22_1
          try clear hfz22_2
          try clear hfz22_3
          try clear hfz22_4
          try clear hfz25_0
          try clear hfz25_1
          try clear hfz25_2
          try clear hfz25_3
          try clear hfz25_4
          try clear hfz31_0
          try clear hfz31_1
          try clear hfz31_2
          try clear hfz31_3
          try clear hfz31_4
          try clear hfz35_0
          try clear hfz35_1
          try clear hfz35_2
          try clear hfz35_3
          try clear hfz35_4
          try clear hfz36_0
          try clear hfz36_1
          try clear hfz36_2
          try clear hfz36_3
          try clear hfz36_4
          try clear hfz41_0
          try clear hfz41_1
          try clear hfz41_2
          try clear hfz41_3
          try clear hfz41_4
          try clear hfz45_0
          try clear hfz45_1
          try clear hfz45_2
          try clear hfz45_3
          try clear hfz45_4
          try clear hfz46_0
          try clear hfz46_1
          try clear hfz46_2
          try clear hfz46_3
          try clear hfz46_4
          try clear hfz51_0
          try clear hfz51_1
          try clear hfz51_2
          try clear hfz51_3
          try clear hfz51_4
          try clear hfz55_0
          try clear hfz55_1
          try clear hfz55_2
          try clear hfz55_3
          try clear hfz55_4
          try clear hfz56_0
          try clear hfz56_1
          try clear hfz56_2
          try clear hfz56_3
          try clear hfz56_4
          try clear hfz61_0
          try clear hfz61_1
          try clear hfz61_2
          try clear hfz61_3
          try clear hfz61_4
          try clear p2
          obtain ⟨kq, x5_52, HA, HJ52, HO_5, BK160, BK161, HB⟩ := hcut
          cases kq with
          | zero => exact absurd HA.out (by simp [impl_Params.j3])
          | succ kj52 =>
           have H := HA.out
           clear HA
           simp only [impl_Params.j3] at H
           by_cases c63 : a0_0 = a1_0
           ·rw [if_pos c63] at H
            have c63b0 : (a0_0 == a1_0) = true := beq_iff_eq.mpr c63
            have c63b1 : (a0_0 != a1_0) = false := bne_eq_false_iff_eq.mpr c63
            clear c63
            by_cases c64 : a0_1 = a1_1
            ·rw [if_pos c64] at H
             have c64b0 : (a0_1 == a1_1) = true := beq_iff_eq.mpr c64
             have c64b1 : (a0_1 != a1_1) = false := bne_eq_false_iff_eq.mpr c64
             clear c64
             obtain rfl := Option.some.inj H
             have hnb65 := NB160_161.out
             have hnc65 := NB161_160.out
             have hcz66_0 : wc.cell? ⟨gb160, 0, none⟩ = some (.int .i64 a0_0) := (blk_cell BK160.out 0).trans rfl
             have hcz66_1 : wc.cell? ⟨gb160, 1, none⟩ = some (.int .i64 a0_1) := (blk_cell BK160.out 1).trans rfl
             have hcz66_2 : wc.cell? ⟨gb160, 2, none⟩ = some (.bool a0_2) := (blk_cell BK160.out 2).trans rfl
             have hcz66_3 : wc.cell? ⟨gb160, 3, none⟩ = some (.bool a0_3) := (blk_cell BK160.out 3).trans rfl
             have hcz66_4 : wc.cell? ⟨gb160, 4, none⟩ = some (.bool a0_4) := (blk_cell BK160.out 4).trans rfl
             have hfz66_0 := blk_frozen BK160.out 0
             have hfz66_1 := blk_frozen BK160.out 1
             have hfz66_2 := blk_frozen BK160.out 2
             have hfz66_3 := blk_frozen BK160.out 3
             have hfz66_4 := blk_frozen BK160.out 4
             have hcz67_0 : wc.cell? ⟨gb161, 0, none⟩ = some (.int .i64 a1_0) := (blk_cell BK161.out 0).trans rfl
             have hcz67_1 : wc.cell? ⟨gb161, 1, none⟩ = some (.int .i64 a1_1) := (blk_cell BK161.out 1).trans rfl
             have hcz67_2 : wc.cell? ⟨gb161, 2, none⟩ = some (.bool a1_2) := (blk_cell BK161.out 2).trans rfl
             have hcz67_3 : wc.cell? ⟨gb161, 3, none⟩ = some (.bool a1_3) := (blk_cell BK161.out 3).trans rfl
             have hcz67_4 : wc.cell? ⟨gb161, 4, none⟩ = some (.bool a1_4) := (blk_cell BK161.out 4).trans rfl
             have hfz67_0 := blk_frozen BK161.out 0
             have hfz67_1 := blk_frozen BK161.out 1
             have hfz67_2 := blk_frozen BK161.out 2
             have hfz67_3 := blk_frozen BK161.out 3
             have hfz67_4 := blk_frozen BK161.out 4
             go_wp2
             go_ret
             exact ⟨_, by first | rfl | (simp [errW_none, errW_some] <;> rfl) | (simp [*, errW_none, errW_some] <;> rfl), by (with_reducible repeat (first | apply r1 | apply r2 | apply r3)); exact HO_5.out, by repeat (first | (with_reducible first | exact HB.out | apply b1 | apply b2 | apply b3 | refine below_set ?_ GE160.out | refine below_set ?_ GE161.out) | exact HB.out)⟩
            ·rw [if_neg c64] at H
             have c64b0 : (a0_1 == a1_1) = false := beq_eq_false_iff_ne.mpr c64
             have c64b1 : (a0_1 != a1_1) = true := bne_iff_ne.mpr c64
             replace H := Option.bind_eq_some_iff.mp H
             obtain ⟨t182, A680, H⟩ := H
             replace H : (if x5_52.length < 17592186044416 then (some (x5_52 ++ [t182])) else (none)) = some r := H
             have A68 := am A680
             clear A680
             by_cases c69 : x5_52.length < 17592186044416
             ·rw [if_pos c69] at H
              have LMc69 := am c69
              clear c69
              obtain ⟨y183, hy183⟩ : ∃ y_ : List Int, y_ = (x5_52 ++ [t182]) := ⟨_, rfl⟩
              replace H : (some y183) = some r := by first | (rw [hy183]; with_reducible exact H) | (rw [hy183]; exact H) | exact H
              have Ny183 := am hy183
              clear hy183
              obtain rfl := Option.some.inj H
              have hnb70 := NB160_161.out
              have hnc70 := NB161_160.out
              have hcz71_0 : wc.cell? ⟨gb160, 0, none⟩ = some (.int .i64 a0_0) := (blk_cell BK160.out 0).trans rfl
              have hcz71_1 : wc.cell? ⟨gb160, 1, none⟩ = some (.int .i64 a0_1) := (blk_cell BK160.out 1).trans rfl
              have hcz71_2 : wc.cell? ⟨gb160, 2, none⟩ = some (.bool a0_2) := (blk_cell BK160.out 2).trans rfl
              have hcz71_3 : wc.cell? ⟨gb160, 3, none⟩ = some (.bool a0_3) := (blk_cell BK160.out 3).trans rfl
              have hcz71_4 : wc.cell? ⟨gb160, 4, none⟩ = some (.bool a0_4) := (blk_cell BK160.out 4).trans rfl
              have hfz71_0 := blk_frozen BK160.out 0
              have hfz71_1 := blk_frozen BK160.out 1
              have hfz71_2 := blk_frozen BK160.out 2
              have hfz71_3 := blk_frozen BK160.out 3
              have hfz71_4 := blk_frozen BK160.out 4
              have hcz72_0 : wc.cell? ⟨gb161, 0, none⟩ = some (.int .i64 a1_0) := (blk_cell BK161.out 0).trans rfl
              have hcz72_1 : wc.cell? ⟨gb161, 1, none⟩ = some (.int .i64 a1_1) := (blk_cell BK161.out 1).trans rfl
              have hcz72_2 : wc.cell? ⟨gb161, 2, none⟩ = some (.bool a1_2) := (blk_cell BK161.out 2).trans rfl
              have hcz72_3 : wc.cell? ⟨gb161, 3, none⟩ = some (.bool a1_3) := (blk_cell BK161.out 3).trans rfl
              have hcz72_4 : wc.cell? ⟨gb161, 4, none⟩ = some (.bool a1_4) := (blk_cell BK161.out 4).trans rfl
              have hfz72_0 := blk_frozen BK161.out 0
              have hfz72_1 := blk_frozen BK161.out 1
              have hfz72_2 := blk_frozen BK161.out 2
              have hfz72_3 := blk_frozen BK161.out 3
              have hfz72_4 := blk_frozen BK161.out 4
              go_wp2_with (first | ((with_reducible refine gate_callee (f := 41) rfl ?_); refine gl_ (some 79) Tryd.func41 #[.int .i64 a1_1, .int .i64 40] ?_; (with_reducible refine (impl_colorOf.calls a1_1 40 t182 _ A68.out).mono ?_); rintro e w' ⟨rfl, ⟨nd, rfl⟩⟩; refine ⟨_, rfl, ?_⟩) | ((with_reducible refine gate_builtin (b := .append) (xs := #[.tmp 76, .tmp 80]) rfl ?_); at_builtin; refine Kd.R_append (Kd.int .i64) (w0 := w) w.heap.size rfl (.tmp 76) (.tmp 80) 37 2 (.int .i64 0) 8 rfl Tryd.underlying37 info2 rfl (by decide) (by omega) u5 x5_52 t182 [.int .i64 t182] (fun _ => True) (fun _ => False) rfl rfl ?aP (fun _ hk => hk.elim) ?aF ?aO ?aB ?aS ?aL ?_; (case aP => exact rfl); (case aB => exact (by repeat (first | (with_reducible first | exact HB.out | apply b1 | apply b2 | apply b3 | refine below_set ?_ GE160.out | refine below_set ?_ GE161.out) | exact HB.out))); (case aF => exact (fun _ _ => trivial)); (case aO => exact (rr HO_5)); (case aS => exact (below_size (by repeat (first | (with_reducible first | exact HB.out | apply b1 | apply b2 | apply b3 | refine below_set ?_ GE160.out | refine below_set ?_ GE161.out) | exact HB.out)))); (case aL => have := LMc69.out; omega); intro v184 w73 ho hb hg hat; rw [← Ny183.out] at ho; have n0_ := am (blk_grown (g := gb160) (o := .cells #[.int .i64 a0_0, .int .i64 a0_1, .bool a0_2, .bool a0_3, .bool a0_4] 25 (0, 0)) (rk BK160) hg (Kd.R_ne HO_5.out BK160.out (by decide))); have n1_ := am (blk_grown (g := gb161) (o := .cells #[.int .i64 a1_0, .int .i64 a1_1, .bool a1_2, .bool a1_3, .bool a1_4] 25 (0, 0)) (rk BK161) hg (Kd.R_ne HO_5.out BK161.out (by decide))); have n2_ := am (hb); have n3_ := am (ho); clear BK160; clear BK161; clear HB; clear HO_5; have BK160 := n0_; have BK161 := n1_; have HB := n2_; have HO185 := n3_; clear n0_ n1_ n2_ n3_; clear ho hb hg hat))
              go_ret
              exact ⟨_, by first | rfl | (simp [errW_none, errW_some] <;> rfl) | (simp [*, errW_none, errW_some] <;> rfl), by (with_reducible repeat (first | apply r1 | apply r2 | apply r3)); exact HO185.out, by repeat (first | (with_reducible first | exact HB.out | apply b1 | apply b2 | apply b3 | refine below_set ?_ GE160.out | refine below_set ?_ GE161.out) | exact HB.out)⟩
             ·rw [if_neg c69] at H
              exact absurd H (by simp)
           ·rw [if_neg c63] at H
            have c63b0 : (a0_0 == a1_0) = false := beq_eq_false_iff_ne.mpr c63
            have c63b1 : (a0_0 != a1_0) = true := bne_iff_ne.mpr c63
            replace H := Option.bind_eq_some_iff.mp H
            obtain ⟨t186, A740, H⟩ := H
            replace H : (if x5_52.length < 17592186044416 then ((some (x5_52 ++ [t186] : List Int)).bind fun y187 => (if a0_1 = a1_1 then (some y187) else ((impl_colorOf.f a1_1 40).bind fun t190 => (if y187.length < 17592186044416 then (some (y187 ++ [t190])) else (none))))) else (none)) = some r := H
            have A74 := am A740
            clear A740
            by_cases c75 : x5_52.length < 17592186044416
            ·rw [if_pos c75] at H
             have LMc75 := am c75
             clear c75
             obtain ⟨y187, hy187⟩ : ∃ y_ : List Int, y_ = (x5_52 ++ [t186]) := ⟨_, rfl⟩
             replace H : (if a0_1 = a1_1 then (some y187) else ((impl_colorOf.f a1_1 40).bind fun t190 => (if y187.length < 17592186044416 then (some (y187 ++ [t190])) else (none)))) = some r := by first | (rw [hy187]; with_reducible exact H) | (rw [hy187]; exact H) | exact H
             have Ny187 := am hy187
             clear hy187
             by_cases c76 : a0_1 = a1_1
             ·rw [if_pos c76] at H
              have c76b0 : (a0_1 == a1_1) = true := beq_iff_eq.mpr c76
              have c76b1 : (a0_1 != a1_1) = false := bne_eq_false_iff_eq.mpr c76
              clear c76
              obtain rfl := Option.some.inj H
              have hnb77 := NB160_161.out
              have hnc77 := NB161_160.out
              have hcz78_0 : wc.cell? ⟨gb160, 0, none⟩ = some (.int .i64 a0_0) := (blk_cell BK160.out 0).trans rfl
              have hcz78_1 : wc.cell? ⟨gb160, 1, none⟩ = some (.int .i64 a0_1) := (blk_cell BK160.out 1).trans rfl
              have hcz78_2 : wc.cell? ⟨gb160, 2, none⟩ = some (.bool a0_2) := (blk_cell BK160.out 2).trans rfl
              have hcz78_3 : wc.cell? ⟨gb160, 3, none⟩ = some (.bool a0_3) := (blk_cell BK160.out 3).trans rfl
              have hcz78_4 : wc.cell? ⟨gb160, 4, none⟩ = some (.bool a0_4) := (blk_cell BK160.out 4).trans rfl
              have hfz78_0 := blk_frozen BK160.out 0
              have hfz78_1 := blk_frozen BK160.out 1
              have hfz78_2 := blk_frozen BK160.out 2
              have hfz78_3 := blk_frozen BK160.out 3
              have hfz78_4 := blk_frozen BK160.out 4
              have hcz79_0 : wc.cell? ⟨gb161, 0, none⟩ = some (.int .i64 a1_0) := (blk_cell BK161.out 0).trans rfl
              have hcz79_1 : wc.cell? ⟨gb161, 1, none⟩ = some (.int .i64 a1_1) := (blk_cell BK161.out 1).trans rfl
              have hcz79_2 : wc.cell? ⟨gb161, 2, none⟩ = some (.bool a1_2) := (blk_cell BK161.out 2).trans rfl
              have hcz79_3 : wc.cell? ⟨gb161, 3, none⟩ = some (.bool a1_3) := (blk_cell BK161.out 3).trans rfl
              have hcz79_4 : wc.cell? ⟨gb161, 4, none⟩ = some (.bool a1_4) := (blk_cell BK161.out 4).trans rfl
              have hfz79_0 := blk_frozen BK161.out 0
              have hfz79_1 := blk_frozen BK161.out 1
              have hfz79_2 := blk_frozen BK161.out 2
              have hfz79_3 := blk_frozen BK161.out 3
              have hfz79_4 := blk_frozen BK161.out 4
              go_wp2_with (first | ((with_reducible refine gate_callee (f := 41) rfl ?_); refine gl_ (some 68) Tryd.func41 #[.int .i64 a1_0, .int .i64 30] ?_; (with_reducible refine (impl_colorOf.calls a1_0 30 t186 _ A74.out).mono ?_); rintro e w' ⟨rfl, ⟨nd, rfl⟩⟩; refine ⟨_, rfl, ?_⟩) | ((with_reducible refine gate_builtin (b := .append) (xs := #[.tmp 65, .tmp 69]) rfl ?_); at_builtin; refine Kd.R_append (Kd.int .i64) (w0 := w) w.heap.size rfl (.tmp 65) (.tmp 69) 37 2 (.int .i64 0) 8 rfl Tryd.underlying37 info2 rfl (by decide) (by omega) u5 x5_52 t186 [.int .i64 t186] (fun _ => True) (fun _ => False) rfl rfl ?aP (fun _ hk => hk.elim) ?aF ?aO ?aB ?aS ?aL ?_; (case aP => exact rfl); (case aB => exact (by repeat (first | (with_reducible first | exact HB.out | apply b1 | apply b2 | apply b3 | refine below_set ?_ GE160.out | refine below_set ?_ GE161.out) | exact HB.out))); (case aF => exact (fun _ _ => trivial)); (case aO => exact (rr HO_5)); (case aS => exact (below_size (by repeat (first | (with_reducible first | exact HB.out | apply b1 | apply b2 | apply b3 | refine below_set ?_ GE160.out | refine below_set ?_ GE161.out) | exact HB.out)))); (case aL => have := LMc75.out; omega); intro v188 w80 ho hb hg hat; rw [← Ny187.out] at ho; have n0_ := am (blk_grown (g := gb160) (o := .cells #[.int .i64 a0_0, .int .i64 a0_1, .bool a0_2, .bool a0_3, .bool a0_4] 25 (0, 0)) (rk BK160) hg (Kd.R_ne HO_5.out BK160.out (by decide))); have n1_ := am (blk_grown (g := gb161) (o := .cells #[.int .i64 a1_0, .int .i64 a1_1, .bool a1_2, .bool a1_3, .bool a1_4] 25 (0, 0)) (rk BK161) hg (Kd.R_ne HO_5.out BK161.out (by decide))); have n2_ := am (hb); have n3_ := am (ho); clear BK160; clear BK161; clear HB; clear HO_5; have BK160 := n0_; have BK161 := n1_; have HB := n2_; have HO189 := n3_; clear n0_ n1_ n2_ n3_; clear ho hb hg hat; have hcz81_0 : w80.cell? ⟨gb160, 0, none⟩ = some (.int .i64 a0_0) := (blk_cell BK160.out 0).trans rfl; have hcz81_1 : w80.cell? ⟨gb160, 1, none⟩ = some (.int .i64 a0_1) := (blk_cell BK160.out 1).trans rfl; have hcz81_2 : w80.cell? ⟨gb160, 2, none⟩ = some (.bool a0_2) := (blk_cell BK160.out 2).trans rfl; have hcz81_3 : w80.cell? ⟨gb160, 3, none⟩ = some (.bool a0_3) := (blk_cell BK160.out 3).trans rfl; have hcz81_4 : w80.cell? ⟨gb160, 4, none⟩ = some (.bool a0_4) := (blk_cell BK160.out 4).trans rfl; have hfz81_0 := blk_frozen BK160.out 0; have hfz81_1 := blk_frozen BK160.out 1; have hfz81_2 := blk_frozen BK160.out 2; have hfz81_3 := blk_frozen BK160.out 3; have hfz81_4 := blk_frozen BK160.out 4; have hcz82_0 : w80.cell? ⟨gb161, 0, none⟩ = some (.int .i64 a1_0) := (blk_cell BK161.out 0).trans rfl; have hcz82_1 : w80.cell? ⟨gb161, 1, none⟩ = some (.int .i64 a1_1) := (blk_cell BK161.out 1).trans rfl; have hcz82_2 : w80.cell? ⟨gb161, 2, none⟩ = some (.bool a1_2) := (blk_cell BK161.out 2).trans rfl; have hcz82_3 : w80.cell? ⟨gb161, 3, none⟩ = some (.bool a1_3) := (blk_cell BK161.out 3).trans rfl; have hcz82_4 : w80.cell? ⟨gb161, 4, none⟩ = some (.bool a1_4) := (blk_cell BK161.out 4).trans rfl; have hfz82_0 := blk_frozen BK161.out 0; have hfz82_1 := blk_frozen BK161.out 1; have hfz82_2 := blk_frozen BK161.out 2; have hfz82_3 := blk_frozen BK161.out 3; have hfz82_4 := blk_frozen BK161.out 4))
              go_ret
              exact ⟨_, by first | rfl | (simp [errW_none, errW_some] <;> rfl) | (simp [*, errW_none, errW_some] <;> rfl), by (with_reducible repeat (first | apply r1 | apply r2 | apply r3)); exact HO189.out, by repeat (first | (with_reducible first | exact HB.out | apply b1 | apply b2 | apply b3 | refine below_set ?_ GE160.out | refine below_set ?_ GE161.out) | exact HB.out)⟩
             ·rw [if_neg c76] at H
              have c76b0 : (a0_1 == a1_1) = false := beq_eq_false_iff_ne.mpr c76
              have c76b1 : (a0_1 != a1_1) = true := bne_iff_ne.mpr c76
              replace H := Option.bind_eq_some_iff.mp H
              obtain ⟨t190, A830, H⟩ := H
              replace H : (if y187.length < 17592186044416 then (some (y187 ++ [t190])) else (none)) = some r := H
              have A83 := am A830
              clear A830
              by_cases c84 : y187.length < 17592186044416
              ·rw [if_pos c84] at H
               have LMc84 := am c84
               clear c84
               obtain ⟨y191, hy191⟩ : ∃ y_ : List Int, y_ = (y187 ++ [t190]) := ⟨_, rfl⟩
               replace H : (some y191) = some r := by first | (rw [hy191]; with_reducible exact H) | (rw [hy191]; exact H) | exact H
               have Ny191 := am hy191
               clear hy191
               obtain rfl := Option.some.inj H
               have hnb85 := NB160_161.out
               have hnc85 := NB161_160.out
               have hcz86_0 : wc.cell? ⟨gb160, 0, none⟩ = some (.int .i64 a0_0) := (blk_cell BK160.out 0).trans rfl
               have hcz86_1 : wc.cell? ⟨gb160, 1, none⟩ = some (.int .i64 a0_1) := (blk_cell BK160.out 1).trans rfl
               have hcz86_2 : wc.cell? ⟨gb160, 2, none⟩ = some (.bool a0_2) := (blk_cell BK160.out 2).trans rfl
               have hcz86_3 : wc.cell? ⟨gb160, 3, none⟩ = some (.bool a0_3) := (blk_cell BK160.out 3).trans rfl
               have hcz86_4 : wc.cell? ⟨gb160, 4, none⟩ = some (.bool a0_4) := (blk_cell BK160.out 4).trans rfl
               have hfz86_0 := blk_frozen BK160.out 0
               have hfz86_1 := blk_frozen BK160.out 1
               have hfz86_2 := blk_frozen BK160.out 2
               have hfz86_3 := blk_frozen BK160.out 3
               have hfz86_4 := blk_frozen BK160.out 4
               have hcz87_0 : wc.cell? ⟨gb161, 0, none⟩ = some (.int .i64 a1_0) := (blk_cell BK161.out 0).trans rfl
               have hcz87_1 : wc.cell? ⟨gb161, 1, none⟩ = some (.int .i64 a1_1) := (blk_cell BK161.out 1).trans rfl
               have hcz87_2 : wc.cell? ⟨gb161, 2, none⟩ = some (.bool a1_2) := (blk_cell BK161.out 2).trans rfl
               have hcz87_3 : wc.cell? ⟨gb161, 3, none⟩ = some (.bool a1_3) := (blk_cell BK161.out 3).trans rfl
               have hcz87_4 : wc.cell? ⟨gb161, 4, none⟩ = some (.bool a1_4) := (blk_cell BK161.out 4).trans rfl
               have hfz87_0 := blk_frozen BK161.out 0
               have hfz87_1 := blk_frozen BK161.out 1
               have hfz87_2 := blk_frozen BK161.out 2
               have hfz87_3 := blk_frozen BK161.out 3
               have hfz87_4 := blk_frozen BK161.out 4
               go_wp2_with (first | ((with_reducible refine gate_callee (f := 41) rfl ?_); refine gl_ (some 68) Tryd.func41 #[.int .i64 a1_0, .int .i64 30] ?_; (with_reducible refine (impl_colorOf.calls a1_0 30 t186 _ A74.out).mono ?_); rintro e w' ⟨rfl, ⟨nd, rfl⟩⟩; refine ⟨_, rfl, ?_⟩) | ((with_reducible refine gate_builtin (b := .append) (xs := #[.tmp 65, .tmp 69]) rfl ?_); at_builtin; refine Kd.R_append (Kd.int .i64) (w0 := w) w.heap.size rfl (.tmp 65) (.tmp 69) 37 2 (.int .i64 0) 8 rfl Tryd.underlying37 info2 rfl (by decide) (by omega) u5 x5_52 t186 [.int .i64 t186] (fun _ => True) (fun _ => False) rfl rfl ?aP (fun _ hk => hk.elim) ?aF ?aO ?aB ?aS ?aL ?_; (case aP => exact rfl); (case aB => exact (by repeat (first | (with_reducible first | exact HB.out | apply b1 | apply b2 | apply b3 | refine below_set ?_ GE160.out | refine below_set ?_ GE161.out) | exact HB.out))); (case aF => exact (fun _ _ => trivial)); (case aO => exact (rr HO_5)); (case aS => exact (below_size (by repeat (first | (with_reducible first | exact HB.out | apply b1 | apply b2 | apply b3 | refine below_set ?_ GE160.out | refine below_set ?_ GE161.out) | exact HB.out)))); (case aL => have := LMc75.out; omega); intro v188 w88 ho hb hg hat; rw [← Ny187.out] at ho; have n0_ := am (blk_grown (g := gb160) (o := .cells #[.int .i64 a0_0, .int .i64 a0_1, .bool a0_2, .bool a0_3, .bool a0_4] 25 (0, 0)) (rk BK160) hg (Kd.R_ne HO_5.out BK160.out (by decide))); have n1_ := am (blk_grown (g := gb161) (o := .cells #[.int .i64 a1_0, .int .i64 a1_1, .bool a1_2, .bool a1_3, .bool a1_4] 25 (0, 0)) (rk BK161) hg (Kd.R_ne HO_5.out BK161.out (by decide))); have n2_ := am (hb); have n3_ := am (ho); clear BK160; clear BK161; clear HB; clear HO_5; have BK160 := n0_; have BK161 := n1_; have HB := n2_; have HO189 := n3_; clear n0_ n1_ n2_ n3_; clear ho hb hg hat; have hcz89_0 : w88.cell? ⟨gb160, 0, none⟩ = some (.int .i64 a0_0) := (blk_cell BK160.out 0).trans rfl; have hcz89_1 : w88.cell? ⟨gb160, 1, none⟩ = some (.int .i64 a0_1) := (blk_cell BK160.out 1).trans rfl; have hcz89_2 : w88.cell? ⟨gb160, 2, none⟩ = some (.bool a0_2) := (blk_cell BK160.out 2).trans rfl; have hcz89_3 : w88.cell? ⟨gb160, 3, none⟩ = some (.bool a0_3) := (blk_cell BK160.out 3).trans rfl; have hcz89_4 : w88.cell? ⟨gb160, 4, none⟩ = some (.bool a0_4) := (blk_cell BK160.out 4).trans rfl; have hfz89_0 := blk_frozen BK160.out 0; have hfz89_1 := blk_frozen BK160.out 1; have hfz89_2 := blk_frozen BK160.out 2; have hfz89_3 := blk_frozen BK160.out 3; have hfz89_4 := blk_frozen BK160.out 4; have hcz90_0 : w88.cell? ⟨gb161, 0, none⟩ = some (.int .i64 a1_0) := (blk_cell BK161.out 0).trans rfl; have hcz90_1 : w88.cell? ⟨gb161, 1, none⟩ = some (.int .i64 a1_1) := (blk_cell BK161.out 1).trans rfl; have hcz90_2 : w88.cell? ⟨gb161, 2, none⟩ = some (.bool a1_2) := (blk_cell BK161.out 2).trans rfl; have hcz90_3 : w88.cell? ⟨gb161, 3, none⟩ = some (.bool a1_3) := (blk_cell BK161.out 3).trans rfl; have hcz90_4 : w88.cell? ⟨gb161, 4, none⟩ = some (.bool a1_4) := (blk_cell BK161.out 4).trans rfl; have hfz90_0 := blk_frozen BK161.out 0; have hfz90_1 := blk_frozen BK161.out 1; have hfz90_2 := blk_frozen BK161.out 2; have hfz90_3 := blk_frozen BK161.out 3; have hfz90_4 := blk_frozen BK161.out 4) | ((with_reducible refine gate_callee (f := 41) rfl ?_); refine gl_ (some 79) Tryd.func41 #[.int .i64 a1_1, .int .i64 40] ?_; (with_reducible refine (impl_colorOf.calls a1_1 40 t190 _ A83.out).mono ?_); rintro e w' ⟨rfl, ⟨nd, rfl⟩⟩; refine ⟨_, rfl, ?_⟩) | ((with_reducible refine gate_builtin (b := .append) (xs := #[.tmp 76, .tmp 80]) rfl ?_); at_builtin; refine Kd.R_append (Kd.int .i64) (w0 := w) w.heap.size rfl (.tmp 76) (.tmp 80) 37 2 (.int .i64 0) 8 rfl Tryd.underlying37 info2 rfl (by decide) (by omega) v188 y187 t190 [.int .i64 t190] (fun _ => True) (fun _ => False) rfl rfl ?aP (fun _ hk => hk.elim) ?aF ?aO ?aB ?aS ?aL ?_; (case aP => exact rfl); (case aB => exact (by repeat (first | (with_reducible first | exact HB.out | apply b1 | apply b2 | apply b3 | refine below_set ?_ GE160.out | refine below_set ?_ GE161.out) | exact HB.out))); (case aF => exact (fun _ _ => trivial)); (case aO => exact (rr HO189)); (case aS => exact (below_size (by repeat (first | (with_reducible first | exact HB.out | apply b1 | apply b2 | apply b3 | refine below_set ?_ GE160.out | refine below_set ?_ GE161.out) | exact HB.out)))); (case aL => have := LMc84.out; omega); intro v192 w91 ho hb hg hat; rw [← Ny191.out] at ho; have n0_ := am (blk_grown (g := gb160) (o := .cells #[.int .i64 a0_0, .int .i64 a0_1, .bool a0_2, .bool a0_3, .bool a0_4] 25 (0, 0)) (rk BK160) hg (Kd.R_ne HO189.out BK160.out (by decide))); have n1_ := am (blk_grown (g := gb161) (o := .cells #[.int .i64 a1_0, .int .i64 a1_1, .bool a1_2, .bool a1_3, .bool a1_4] 25 (0, 0)) (rk BK161) hg (Kd.R_ne HO189.out BK161.out (by decide))); have n2_ := am (hb); have n3_ := am (ho); clear BK160; clear BK161; clear HB; clear HO189; have BK160 := n0_; have BK161 := n1_; have HB := n2_; have HO193 := n3_; clear n0_ n1_ n2_ n3_; clear ho hb hg hat))
               go_ret
               exact ⟨_, by first | rfl | (simp [errW_none, errW_some] <;> rfl) | (simp [*, errW_none, errW_some] <;> rfl), by (with_reducible repeat (first | apply r1 | apply r2 | apply r3)); exact HO193.out, by repeat (first | (with_reducible first | exact HB.out | apply b1 | apply b2 | apply b3 | refine below_set ?_ GE160.out | refine below_set ?_ GE161.out) | exact HB.out)⟩
              ·rw [if_neg c84] at H
               exact absurd H (by simp)
            ·rw [if_neg c75] at H
             exact absurd H (by simp)

end Go.Proofs.YtbgekmchjdkjiaaDoor.PB
