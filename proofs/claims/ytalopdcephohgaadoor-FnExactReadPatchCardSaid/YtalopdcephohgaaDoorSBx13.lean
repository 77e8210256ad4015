/- Contracts of Go functions that laws of this seat reach: each Lean function answers as its Go function does. No condition. Written by wip/tools/inj.py, over the kit's print. -/
import Derived.Test.YtalopdcephohgaaDoorSBx0
import Derived.Test.YtalopdcephohgaaDoorSBx12
namespace Go.Proofs.YtalopdcephohgaaDoor.SB
open Go.RowKit Go.Proofs.YtalopdcephohgaaDoorW.PrintWords Go.Proofs.YtalopdcephohgaaDoorW.PrintLast Go.Proofs.YtalopdcephohgaaDoorW.PrintMore
attribute [local go_sem] max2_int min2_int max_two min_two max_three min_three max_four min_four   -- for this text's walks alone
set_option linter.unusedVariables false
set_option linter.unusedSimpArgs false

/-! ### impl_Patch_numbers: function 20 -/
mutual
def impl_Patch_numbers.l0 : Nat → List Int → List (S40) → Int → Int → Option (List Int × Bool)
 | 0, _, _, _, _ => none
 | k + 1, x4, x15, x16, x17 => if x17 < x16 then (if 0 ≤ x17 then (if x17 < (x15.length : Int) then ((impl_in.f (((rd_T40 x15 x17).f2).length : Int) 1 60).bind fun t238 => (if t238 = true then ((some (([(rd_T40 x15 x17).f0, (rd_T40 x15 x17).f1, (((rd_T40 x15 x17).f2).length : Int)] : List Int) : List Int)).bind fun y239 => (if x4.length + y239.length < 17592186044416 then (impl_Patch_numbers.l1 k (x4 ++ y239) x15 x16 x17 ((rd_T40 x15 x17).f2) (((rd_T40 x15 x17).f2).length : Int) 0) else (none))) else (some (([] : List Int), false)))) else (none)) else (none)) else ((slices_ContainsFunc_int64_int64_impl_Patch_numbers_lit1.f k x4).bind fun t235 => (some (x4, !t235)))
def impl_Patch_numbers.l1 : Nat → List Int → List (S40) → Int → Int → List (S45) → Int → Int → Option (List Int × Bool)
 | 0, _, _, _, _, _, _, _ => none
 | k + 1, x4, x15, x16, x17, x37, x38, x39 => if x39 < x38 then (if 0 ≤ x39 then (if x39 < (x37.length : Int) then ((impl_StyleOk.f ((rd_T45 x37 x39).f1.f0) ((rd_T45 x37 x39).f1.f1) ((rd_T45 x37 x39).f1.f2) ((rd_T45 x37 x39).f1.f3) ((rd_T45 x37 x39).f1.f4)).bind fun t247 => (if t247 = true then ((impl_Style_flags.f ((rd_T45 x37 x39).f1.f0) ((rd_T45 x37 x39).f1.f1) ((rd_T45 x37 x39).f1.f2) ((rd_T45 x37 x39).f1.f3) ((rd_T45 x37 x39).f1.f4)).bind fun t248 => ((some (([(rd_T45 x37 x39).f0, (rd_T45 x37 x39).f1.f0, (rd_T45 x37 x39).f1.f1, t248, (rd_T45 x37 x39).f2] : List Int) : List Int)).bind fun y249 => (if x4.length + y249.length < 17592186044416 then (impl_Patch_numbers.l1 k (x4 ++ y249) x15 x16 x17 x37 x38 (wrap64 (x39 + 1))) else (none)))) else (some (([] : List Int), false)))) else (none)) else (none)) else (impl_Patch_numbers.l0 k x4 x15 x16 (wrap64 (x17 + 1)))
end
def impl_Patch_numbers.f (k : Nat) (a0_0 : Int) (a0_1 : Int) (l0_2 : List (S40)) : Option (List Int × Bool) := impl_Patch_numbers.l0 k (([a0_0, a0_1] : List Int)) l0_2 (l0_2.length : Int) 0
theorem impl_Patch_numbers.mono_l : ∀ k, (∀ y0 y1 y2 y3, LeO (impl_Patch_numbers.l0 k y0 y1 y2 y3) (impl_Patch_numbers.l0 (k + 1) y0 y1 y2 y3)) ∧ (∀ y0 y1 y2 y3 y4 y5 y6, LeO (impl_Patch_numbers.l1 k y0 y1 y2 y3 y4 y5 y6) (impl_Patch_numbers.l1 (k + 1) y0 y1 y2 y3 y4 y5 y6))
 | 0 => ⟨fun _ _ _ _ r h => by simp [impl_Patch_numbers.l0] at h, fun _ _ _ _ _ _ _ r h => by simp [impl_Patch_numbers.l1] at h⟩
 | k + 1 => by
  obtain ⟨ih0, ih1⟩ := impl_Patch_numbers.mono_l k
  refine ⟨?_, ?_⟩
  ·intro y0 y1 y2 y3
   unfold impl_Patch_numbers.l0
   repeat' first
   | (with_reducible exact ih0 _ _ _ _)
   | (with_reducible exact ih1 _ _ _ _ _ _ _)
   | (with_reducible exact slices_ContainsFunc_int64_int64_impl_Patch_numbers_lit1.mono _ _)
   | (with_reducible exact LeO.refl _)
   | (with_reducible exact LeO.none _)
   | (with_reducible refine LeO.ite ?_ ?_)
   | (with_reducible refine LeO.bind ?_ (fun _ => ?_))
   | exact ih0 _ _ _ _
   | exact ih1 _ _ _ _ _ _ _
   | exact slices_ContainsFunc_int64_int64_impl_Patch_numbers_lit1.mono _ _
   | exact LeO.none _
   | refine LeO.ite ?_ ?_
   | refine LeO.bind ?_ (fun _ => ?_)
  ·intro y0 y1 y2 y3 y4 y5 y6
   unfold impl_Patch_numbers.l1
   repeat' first
   | (with_reducible exact ih0 _ _ _ _)
   | (with_reducible exact ih1 _ _ _ _ _ _ _)
   | (with_reducible exact slices_ContainsFunc_int64_int64_impl_Patch_numbers_lit1.mono _ _)
   | (with_reducible exact LeO.refl _)
   | (with_reducible exact LeO.none _)
   | (with_reducible refine LeO.ite ?_ ?_)
   | (with_reducible refine LeO.bind ?_ (fun _ => ?_))
   | exact ih0 _ _ _ _
   | exact ih1 _ _ _ _ _ _ _
   | exact slices_ContainsFunc_int64_int64_impl_Patch_numbers_lit1.mono _ _
   | exact LeO.none _
   | refine LeO.ite ?_ ?_
   | refine LeO.bind ?_ (fun _ => ?_)
theorem impl_Patch_numbers.mono : ∀ a0 a1 a2 k, LeO (impl_Patch_numbers.f k a0 a1 a2) (impl_Patch_numbers.f (k + 1) a0 a1 a2) := by
 intro a0 a1 a2 k
 obtain ⟨ih0, ih1⟩ := impl_Patch_numbers.mono_l k
 unfold impl_Patch_numbers.f
 repeat' first
   | (with_reducible exact ih0 _ _ _ _)
   | (with_reducible exact ih1 _ _ _ _ _ _ _)
   | (with_reducible exact slices_ContainsFunc_int64_int64_impl_Patch_numbers_lit1.mono _ _)
   | (with_reducible exact LeO.refl _)
   | (with_reducible exact LeO.none _)
   | (with_reducible refine LeO.ite ?_ ?_)
   | (with_reducible refine LeO.bind ?_ (fun _ => ?_))
   | exact ih0 _ _ _ _
   | exact ih1 _ _ _ _ _ _ _
   | exact slices_ContainsFunc_int64_int64_impl_Patch_numbers_lit1.mono _ _
   | exact LeO.none _
   | refine LeO.ite ?_ ?_
   | refine LeO.bind ?_ (fun _ => ?_)
def impl_Patch_numbers.T13 : Bool × List (List Nat × List Nat) := (true, [([], []), ([], []), ([1], [1]), ([], []), ([3], [3]), ([4], [4]), ([], []), ([6], [6]), ([7], [7]), ([], []), ([9], [9]), ([10], [10]), ([], []), ([12], [12]), ([2, 5, 8, 11, 13], [2, 5, 8, 11, 13]), ([0, 14, 11], [0, 14]), ([15, 15, 0, 1, 2, 3, 4, 5, 6, 7, 8, 9, 10, 11, 12, 13, 14, 15], [0, 15])])
def impl_Patch_numbers.B13 : List Nat := [0, 0, 2, 0, 8, 24, 0, 64, 192, 0, 512, 1536, 0, 4096, 16382, 32767, 65535]
theorem impl_Patch_numbers.tab13 : rtab .any (opsOf Tryd.f20 13) = impl_Patch_numbers.T13 := by kernel_rfl
theorem impl_Patch_numbers.bits13 : waitsOk impl_Patch_numbers.T13.2 impl_Patch_numbers.B13 = true := by kernel_rfl
set_option maxHeartbeats 8000000 in
set_option maxRecDepth 100000 in
theorem impl_Patch_numbers.calls (k : Nat) (a0_0 : Int) (a0_1 : Int) (A0_2 : Option Addr) (c0_2 : Nat) (l0_2 : List (S40)) (r1 : List Int) (r2 : Bool) (w : World) (hr0_2 : Kd.C k40 w A0_2 l0_2.length l0_2) (hc0_2 : l0_2.length ≤ c0_2) (h : impl_Patch_numbers.f k a0_0 a0_1 l0_2 = some (r1, r2)) :
  Calls Tryd.prog 20 #[.agg #[.int .i64 a0_0, .int .i64 a0_1, .slice A0_2 l0_2.length c0_2]] w fun e w' => ∃ v0_ : Value, e = .returned (.tuple #[v0_, .bool r2]) ∧ Kd.R (Kd.int .i64) 2 w' w.heap.size (fun _ => True) v0_ r1 ∧ Below w.heap.size w w' := by
 have hu29 := Tryd.underlying29
 have hu40 := Tryd.underlying40
 have hu45 := Tryd.underlying45
 have hu43 := Tryd.underlying43
 have HR0_2 := am hr0_2
 have HC0_2 := am hc0_2
 clear hr0_2 hc0_2
 have HB := am (Below.refl w.heap.size w)
 have H : (impl_Patch_numbers.l0 k (([a0_0, a0_1] : List Int)) l0_2 (l0_2.length : Int) 0) = some (r1, r2) := h
 clear h
 obtain ⟨y232, hy232⟩ : ∃ y_ : List Int, y_ = (([a0_0, a0_1] : List Int)) := ⟨_, rfl⟩
 replace H : (impl_Patch_numbers.l0 k y232 l0_2 (l0_2.length : Int) 0) = some (r1, r2) := by first | (rw [hy232]; with_reducible exact H) | (rw [hy232]; exact H) | exact H
 have Ny232 := am hy232
 clear hy232
 have H' := am H
 clear H
 go_enter Tryd.func20, Tryd.ntmps20
 go_wp2_with (first | ((with_reducible refine gate_dst (N := 1) rfl ?_); refine box_event ?hg (N := 1) ?hd (cs := #[.int .i64 a0_0, .int .i64 a0_1, .slice A0_2 l0_2.length c0_2]) (t := 29) ?hr ?_; (case hd => rfl); (case hg => rfl); (case hr => first | (go_simp; done) | (go_simp; rfl)); intro gb231 hg w2 hbox hb; have n0_ := am (below_step (rb HB) hb); have n1_ := am (hbox); have n2_ := am ((by rw [hg]; exact (below_size (rb HB)) : w.heap.size ≤ gb231)); have n3_ := am ((by rw [hg]; exact (below_size (rb HB)) : w.heap.size ≤ gb231)); clear HB; have HB := n0_; have BK231 := n1_; have GW231 := n2_; have GE231 := n3_; clear n0_ n1_ n2_ n3_; clear hb hbox hg; have hcz3_0 : w2.cell? ⟨gb231, 0, none⟩ = some (.int .i64 a0_0) := (blk_cell BK231.out 0).trans rfl; have hcz3_1 : w2.cell? ⟨gb231, 1, none⟩ = some (.int .i64 a0_1) := (blk_cell BK231.out 1).trans rfl; have hcz3_2 : w2.cell? ⟨gb231, 2, none⟩ = some (.slice A0_2 l0_2.length c0_2) := (blk_cell BK231.out 2).trans rfl; have hfz3_0 := blk_frozen BK231.out 0; have hfz3_1 := blk_frozen BK231.out 1; have hfz3_2 := blk_frozen BK231.out 2) | ((with_reducible refine gate_dst (N := 13) rfl ?_); refine Kd.R_lit (Kd.int .i64) _ 2 ?hg (N := 13) ?hd (xs := ([a0_0, a0_1] : List Int)) (inner := [.int .i64 a0_0, .int .i64 a0_1]) (ok := fun _ => True) (okp := fun _ => True) ?hr ?hp (fun _ hk => hk) trivial (Below.refl _ _) (Nat.le_refl _) (by simp) ?_; (case hd => rfl); (case hg => rfl); (case hr => first | (go_simp; done) | (go_simp; rfl)); (case hp => exact (Reps.one (show Kd.M (Kd.int .i64) _ _ _ a0_0 [.int .i64 a0_0] from rfl) (Reps.one (show Kd.M (Kd.int .i64) _ _ _ a0_1 [.int .i64 a0_1] from rfl) (Reps.none _ _)))); intro v233 w4 ho5 hb hg_ hnew_; clear hg_ hnew_; (first | rw [← Ny232.out] at ho5 | (simp only [Int.reduceToNat] at ho5; rw [← Ny232.out] at ho5)); have n0_ := am (Kd.R_lower ho5 (below_size (rb1 HB GE231))); have n1_ := am (blk_below (g := gb231) (o := .cells #[.int .i64 a0_0, .int .i64 a0_1, .slice A0_2 l0_2.length c0_2] 29 (0, 0)) (rk BK231) hb); have n2_ := am (below_step (rb1 HB GE231) hb); clear BK231; clear HB; have HO234 := n0_; have BK231 := n1_; have HB := n2_; clear n0_ n1_ n2_; clear hb ho5; have hcz6_0 : w4.cell? ⟨gb231, 0, none⟩ = some (.int .i64 a0_0) := (blk_cell BK231.out 0).trans rfl; have hcz6_1 : w4.cell? ⟨gb231, 1, none⟩ = some (.int .i64 a0_1) := (blk_cell BK231.out 1).trans rfl; have hcz6_2 : w4.cell? ⟨gb231, 2, none⟩ = some (.slice A0_2 l0_2.length c0_2) := (blk_cell BK231.out 2).trans rfl; have hfz6_0 := blk_frozen BK231.out 0; have hfz6_1 := blk_frozen BK231.out 1; have hfz6_2 := blk_frozen BK231.out 2))
 go_loopg [4, 17] k (fun kq v4 v17 w' => ∃ (x4_1 : List Int) (x17_1 : Int), v17 = .int .i64 x17_1 ∧ Aside0 (impl_Patch_numbers.l0 kq x4_1 l0_2 (l0_2.length : Int) x17_1 = some (r1, r2)) ∧ Aside0 (kq ≤ k) ∧ Aside0 (Kd.R (Kd.int .i64) 2 w' w.heap.size (fun _ => True) v4 x4_1) ∧ Aside0 (w'.heap[gb231]? = some (.cells #[.int .i64 a0_0, .int .i64 a0_1, (.slice A0_2 l0_2.length c0_2)] 29 (0, 0))) ∧ Aside0 (Below w.heap.size w w'))
 case atStart => exact ⟨(y232), (0), (by first | rfl | (simp; done) | (simp [*]; done)), H', ⟨Nat.le_refl _⟩, ⟨rr HO234⟩, ⟨rk BK231⟩, ⟨by repeat (first | (with_reducible first | exact HB.out | apply b1 | apply b2 | apply b3 | refine below_set ?_ GE231.out) | exact HB.out)⟩⟩
 case round =>
  clear H'
  try clear c2
  try clear p2
  try clear hcz3_0
  try clear hcz3_1
  try clear hcz3_2
  try clear hcz6_0
  try clear hcz6_1
  try clear hcz6_2
  try clear hfz3_0
  try clear hfz3_1
  try clear hfz3_2
  try clear hfz6_0
  try clear hfz6_1
  try clear hfz6_2
  obtain ⟨x4_1, x17_1, rfl, HA, HK1, HO_4, BK231, HB⟩ := hrel
  cases gk with
  | zero => exact absurd HA.out (by simp [impl_Patch_numbers.l0])
  | succ k1 =>
   have H := HA.out
   clear HA
   simp only [impl_Patch_numbers.l0] at H
   by_cases c7 : x17_1 < (l0_2.length : Int)
   ·rw [if_pos c7] at H
    have c7b0 : decide (x17_1 < (l0_2.length : Int)) = true := decide_eq_true c7
    clear c7
    by_cases c8 : 0 ≤ x17_1
    ·rw [if_pos c8] at H
     have c8b0 : decide (0 ≤ x17_1) = true := decide_eq_true c8
     clear c8
     by_cases c9 : x17_1 < (l0_2.length : Int)
     ·rw [if_pos c9] at H
      have c9b0 : decide (x17_1 < (l0_2.length : Int)) = true := decide_eq_true c9
      clear c9
      replace H := Option.bind_eq_some_iff.mp H
      obtain ⟨t238, A100, H⟩ := H
      replace H : (if t238 = true then ((some (([(rd_T40 l0_2 x17_1).f0, (rd_T40 l0_2 x17_1).f1, (((rd_T40 l0_2 x17_1).f2).length : Int)] : List Int) : List Int)).bind fun y239 => (if x4_1.length + y239.length < 17592186044416 then (impl_Patch_numbers.l1 k1 (x4_1 ++ y239) l0_2 (l0_2.length : Int) x17_1 ((rd_T40 l0_2 x17_1).f2) (((rd_T40 l0_2 x17_1).f2).length : Int) 0) else (none))) else (some (([] : List Int), false))) = some (r1, r2) := H
      have A10 := am A100
      clear A100
      by_cases c11 : t238 = true
      ·subst c11
       have H1 : ((some (([(rd_T40 l0_2 x17_1).f0, (rd_T40 l0_2 x17_1).f1, (((rd_T40 l0_2 x17_1).f2).length : Int)] : List Int) : List Int)).bind fun y239 => (if x4_1.length + y239.length < 17592186044416 then (impl_Patch_numbers.l1 k1 (x4_1 ++ y239) l0_2 (l0_2.length : Int) x17_1 ((rd_T40 l0_2 x17_1).f2) (((rd_T40 l0_2 x17_1).f2).length : Int) 0) else (none))) = some (r1, r2) := by rw [if_pos rfl] at H; exact H
       clear H
       have H := H1
       clear H1
       obtain ⟨y239, hy239⟩ : ∃ y_ : List Int, y_ = (([(rd_T40 l0_2 x17_1).f0, (rd_T40 l0_2 x17_1).f1, (((rd_T40 l0_2 x17_1).f2).length : Int)] : List Int)) := ⟨_, rfl⟩
       replace H : (if x4_1.length + y239.length < 17592186044416 then (impl_Patch_numbers.l1 k1 (x4_1 ++ y239) l0_2 (l0_2.length : Int) x17_1 ((rd_T40 l0_2 x17_1).f2) (((rd_T40 l0_2 x17_1).f2).length : Int) 0) else (none)) = some (r1, r2) := by first | (rw [hy239]; with_reducible exact H) | (rw [hy239]; exact H) | exact H
       have Ny239 := am hy239
       clear hy239
       by_cases c12 : x4_1.length + y239.length < 17592186044416
       ·rw [if_pos c12] at H
        have LMc12 := am c12
        clear c12
        obtain ⟨y242, hy242⟩ : ∃ y_ : List Int, y_ = (x4_1 ++ y239) := ⟨_, rfl⟩
        replace H : (impl_Patch_numbers.l1 k1 y242 l0_2 (l0_2.length : Int) x17_1 ((rd_T40 l0_2 x17_1).f2) (((rd_T40 l0_2 x17_1).f2).length : Int) 0) = some (r1, r2) := by first | (rw [hy242]; with_reducible exact H) | (rw [hy242]; exact H) | exact H
        have Ny242 := am hy242
        clear hy242
        have H' := am H
        clear H
        have p236 : 0 ≤ (x17_1 : Int) := dt_
        have q236 : x17_1 < (l0_2.length : Int) := dt_
        obtain ⟨ad236, A236_2, c236_2, e236, hx236_0, hx236_1, hx236_2, hl236_2, hi236_2⟩ := at_T40 HR0_2.out x17_1 p236 q236
        cases e236
        replace hx236_0 := mv HB.out hx236_0
        replace hx236_1 := mv HB.out hx236_1
        replace hx236_2 := mv HB.out hx236_2
        have HR236_2 := am hi236_2
        have HC236_2 := am hl236_2
        clear hi236_2 hl236_2
        replace p236 := eq_true p236
        replace q236 := eq_true q236
        go_wp2_with (first | ((with_reducible refine gate_dst (N := 6) rfl ?_); refine box_event ?hg (N := 6) ?hd (cs := #[.int .i64 0, .int .i64 0, .slice none 0 0]) (t := 40) ?hr ?_; (case hd => rfl); (case hg => rfl); (case hr => first | (go_simp; done) | (go_simp; rfl)); intro gb237 hg w13 hbox hb; have n0_ := am (Kd.R_below (rr HO_4) hb); have n1_ := am (blk_below (g := gb231) (o := .cells #[.int .i64 a0_0, .int .i64 a0_1, .slice (some ad236) l0_2.length c0_2] 29 (0, 0)) (rk BK231) hb); have n2_ := am (below_step (rb1 HB GE231) hb); have n3_ := am (hbox); have n4_ := am ((by rw [hg]; exact (below_size (rb1 HB GE231)) : w.heap.size ≤ gb237)); have n5_ := am ((by rw [hg]; exact (below_size (rb1 HB GE231)) : w.heap.size ≤ gb237)); have n6_ := am ((by rw [hg]; exact Nat.ne_of_lt (blk_lt (g := gb231) (o := .cells #[.int .i64 a0_0, .int .i64 a0_1, .slice (some ad236) l0_2.length c0_2] 29 (0, 0)) (rk BK231)) : gb231 ≠ gb237)); have n7_ := am ((by rw [hg]; exact Nat.ne_of_gt (blk_lt (g := gb231) (o := .cells #[.int .i64 a0_0, .int .i64 a0_1, .slice (some ad236) l0_2.length c0_2] 29 (0, 0)) (rk BK231)) : gb237 ≠ gb231)); clear HO_4; clear BK231; clear HB; have HO_4 := n0_; have BK231 := n1_; have HB := n2_; have BK237 := n3_; have GW237 := n4_; have GE237 := n5_; have NB231_237 := n6_; have NB237_231 := n7_; clear n0_ n1_ n2_ n3_ n4_ n5_ n6_ n7_; clear hb hbox hg; have hnb14 := NB237_231.out; have hnc14 := NB231_237.out; have hcz15_0 : w13.cell? ⟨gb237, 0, none⟩ = some (.int .i64 0) := (blk_cell BK237.out 0).trans rfl; have hcz15_1 : w13.cell? ⟨gb237, 1, none⟩ = some (.int .i64 0) := (blk_cell BK237.out 1).trans rfl; have hcz15_2 : w13.cell? ⟨gb237, 2, none⟩ = some (.slice none 0 0) := (blk_cell BK237.out 2).trans rfl; have hfz15_0 := blk_frozen BK237.out 0; have hfz15_1 := blk_frozen BK237.out 1; have hfz15_2 := blk_frozen BK237.out 2) | ((with_reducible refine gate_callee (f := 26) rfl ?_); refine gl_ (some 24) Tryd.func26 #[.int .i64 (((rd_T40 l0_2 x17_1).f2).length : Int), .int .i64 1, .int .i64 60] ?_; (with_reducible refine (impl_in.calls (((rd_T40 l0_2 x17_1).f2).length : Int) 1 60 true _ A10.out).mono ?_); rintro e w' ⟨rfl, ⟨nd, rfl⟩⟩; refine ⟨_, rfl, ?_⟩) | ((with_reducible refine gate_dst (N := 34) rfl ?_); refine Kd.R_lit (Kd.int .i64) _ 2 ?hg (N := 34) ?hd (xs := ([(rd_T40 l0_2 x17_1).f0, (rd_T40 l0_2 x17_1).f1, (((rd_T40 l0_2 x17_1).f2).length : Int)] : List Int)) (inner := [.int .i64 ((rd_T40 l0_2 x17_1).f0), .int .i64 ((rd_T40 l0_2 x17_1).f1), .int .i64 (((rd_T40 l0_2 x17_1).f2).length : Int)]) (ok := fun _ => True) (okp := fun _ => True) ?hr ?hp (fun _ hk => hk) trivial (Below.refl _ _) (Nat.le_refl _) (by simp) ?_; (case hd => rfl); (case hg => rfl); (case hr => first | (go_simp; done) | (go_simp; rfl)); (case hp => exact (Reps.one (show Kd.M (Kd.int .i64) _ _ _ ((rd_T40 l0_2 x17_1).f0) [.int .i64 ((rd_T40 l0_2 x17_1).f0)] from rfl) (Reps.one (show Kd.M (Kd.int .i64) _ _ _ ((rd_T40 l0_2 x17_1).f1) [.int .i64 ((rd_T40 l0_2 x17_1).f1)] from rfl) (Reps.one (show Kd.M (Kd.int .i64) _ _ _ (((rd_T40 l0_2 x17_1).f2).length : Int) [.int .i64 (((rd_T40 l0_2 x17_1).f2).length : Int)] from rfl) (Reps.none _ _))))); intro v240 w16 ho17 hb hg_ hnew_; clear hg_ hnew_; (first | rw [← Ny239.out] at ho17 | (simp only [Int.reduceToNat] at ho17; rw [← Ny239.out] at ho17)); have n0_ := am (Kd.R_elder' (by (with_reducible repeat (first | apply r1 | apply r2 | apply r3)); exact (Kd.R_mono (Kd.R_far (p := ⟨gb237, 2, none⟩) (Kd.R_far (p := ⟨gb237, 1, none⟩) (Kd.R_far (p := ⟨gb237, 0, none⟩) (Kd.R_types HO_4.out BK237.out (by decide)) (fun _ hk => hk.2) (.int .i64 ((rd_T40 l0_2 x17_1).f0))) (fun _ hk => hk.2) (.int .i64 ((rd_T40 l0_2 x17_1).f1))) (fun _ hk => hk.2) (.slice A236_2 ((rd_T40 l0_2 x17_1).f2).length c236_2)) (fun _ h_ => h_.1))) (Kd.R_base ho17) hb); have n1_ := am (Kd.R_lower (Kd.R_new' ho17 (Kd.R_lt (by (with_reducible repeat (first | apply r1 | apply r2 | apply r3)); exact (Kd.R_mono (Kd.R_far (p := ⟨gb237, 2, none⟩) (Kd.R_far (p := ⟨gb237, 1, none⟩) (Kd.R_far (p := ⟨gb237, 0, none⟩) (Kd.R_types HO_4.out BK237.out (by decide)) (fun _ hk => hk.2) (.int .i64 ((rd_T40 l0_2 x17_1).f0))) (fun _ hk => hk.2) (.int .i64 ((rd_T40 l0_2 x17_1).f1))) (fun _ hk => hk.2) (.slice A236_2 ((rd_T40 l0_2 x17_1).f2).length c236_2)) (fun _ h_ => h_.1))))) (below_size (by repeat (first | (with_reducible first | exact HB.out | apply b1 | apply b2 | apply b3 | refine below_set ?_ GE231.out | refine below_set ?_ GE237.out) | exact HB.out)))); have n2_ := am (blk_below (g := gb231) (o := .cells #[.int .i64 a0_0, .int .i64 a0_1, .slice (some ad236) l0_2.length c0_2] 29 (0, 0)) (by (with_reducible repeat (first | apply k1 | apply k2 | apply k3)); refine blk_far ?_ NB231_237.out _; (with_reducible repeat (first | apply k1 | apply k2 | apply k3)); refine blk_far ?_ NB231_237.out _; (with_reducible repeat (first | apply k1 | apply k2 | apply k3)); refine blk_far ?_ NB231_237.out _; (with_reducible repeat (first | apply k1 | apply k2 | apply k3)); exact BK231.out) hb); have n3_ := am (blk_below (g := gb237) (o := .cells #[.int .i64 ((rd_T40 l0_2 x17_1).f0), .int .i64 ((rd_T40 l0_2 x17_1).f1), .slice A236_2 ((rd_T40 l0_2 x17_1).f2).length c236_2] 40 (0, 0)) (by (with_reducible repeat (first | apply k1 | apply k2 | apply k3)); refine blk_put (cs := #[.int .i64 ((rd_T40 l0_2 x17_1).f0), .int .i64 ((rd_T40 l0_2 x17_1).f1), .slice none 0 0]) ?_ 2 _ rfl; (with_reducible repeat (first | apply k1 | apply k2 | apply k3)); refine blk_put (cs := #[.int .i64 ((rd_T40 l0_2 x17_1).f0), .int .i64 0, .slice none 0 0]) ?_ 1 _ rfl; (with_reducible repeat (first | apply k1 | apply k2 | apply k3)); refine blk_put (cs := #[.int .i64 0, .int .i64 0, .slice none 0 0]) ?_ 0 _ rfl; (with_reducible repeat (first | apply k1 | apply k2 | apply k3)); exact BK237.out) hb); have n4_ := am (below_step (by repeat (first | (with_reducible first | exact HB.out | apply b1 | apply b2 | apply b3 | refine below_set ?_ GE231.out | refine below_set ?_ GE237.out) | exact HB.out)) hb); clear HO_4; clear BK231; clear BK237; clear HB; have HO_4 := n0_; have HO241 := n1_; have BK231 := n2_; have BK237 := n3_; have HB := n4_; clear n0_ n1_ n2_ n3_ n4_; clear hb ho17; obtain ⟨Ao19, co19, eo19⟩ := Kd.R_slice HO241.out; subst eo19) | ((with_reducible refine gate_builtin (b := .append) (xs := #[.tmp 26, .tmp 34]) rfl ?_); at_builtin; refine Kd.R_append_rows (Kd.int .i64) (w0 := w) w.heap.size rfl (.tmp 26) (.tmp 34) 47 2 (.int .i64 0) 8 rfl Tryd.underlying47 info2 rfl (by decide) (by omega) u4 x4_1 y239 _ _ _ (fun k_ => some k_ ≠ (.slice Ao19 y239.length co19 : Value).ownBlock) (fun _ => False) rfl rfl ?aO ?aR (fun _ _ h => h) (fun _ h => h.elim) ?aF ?aB ?aS ?aL ?_; (case aR => repeat (first | exact (Kd.R_reads' HO241.out).2.2 | (with_reducible refine Kd.C_alloc ?_ _) | (with_reducible refine Kd.C_drewN ?_ _) | (with_reducible refine Kd.C_drew ?_))); (case aB => exact (by repeat (first | (with_reducible first | exact HB.out | apply b1 | apply b2 | apply b3 | refine below_set ?_ GE231.out | refine below_set ?_ GE237.out) | exact HB.out))); (case aF => exact (fun k_ hk => Kd.fresh' (Kd.R_lt (rr HO241)) k_ hk)); (case aO => exact (by (with_reducible repeat (first | apply r1 | apply r2 | apply r3)); exact Kd.R_mono HO_4.out (fun _ hk => hk.2))); (case aS => exact (below_size (by repeat (first | (with_reducible first | exact HB.out | apply b1 | apply b2 | apply b3 | refine below_set ?_ GE231.out | refine below_set ?_ GE237.out) | exact HB.out)))); (case aL => have := LMc12.out; omega); intro v243 w18 ho hb hg hat; rw [← Ny242.out] at ho; have n0_ := am (blk_grown (g := gb231) (o := .cells #[.int .i64 a0_0, .int .i64 a0_1, .slice (some ad236) l0_2.length c0_2] 29 (0, 0)) (rk BK231) hg (Kd.R_ne HO_4.out BK231.out (by decide))); have n1_ := am (blk_grown (g := gb237) (o := .cells #[.int .i64 ((rd_T40 l0_2 x17_1).f0), .int .i64 ((rd_T40 l0_2 x17_1).f1), .slice A236_2 ((rd_T40 l0_2 x17_1).f2).length c236_2] 40 (0, 0)) (rk BK237) hg (Kd.R_ne HO_4.out BK237.out (by decide))); have n2_ := am (Kd.R_after (ok := (fun _ => True)) (rr HO241) hg hat); have n3_ := am (hb); have n4_ := am (ho); clear BK231; clear BK237; clear HO241; clear HB; clear HO_4; have BK231 := n0_; have BK237 := n1_; have HO241 := n2_; have HB := n3_; have HO244 := n4_; clear n0_ n1_ n2_ n3_ n4_; clear ho hb hg hat; have hcz20_0 : w18.cell? ⟨gb237, 0, none⟩ = some (.int .i64 ((rd_T40 l0_2 x17_1).f0)) := (blk_cell BK237.out 0).trans rfl; have hcz20_1 : w18.cell? ⟨gb237, 1, none⟩ = some (.int .i64 ((rd_T40 l0_2 x17_1).f1)) := (blk_cell BK237.out 1).trans rfl; have hcz20_2 : w18.cell? ⟨gb237, 2, none⟩ = some (.slice A236_2 ((rd_T40 l0_2 x17_1).f2).length c236_2) := (blk_cell BK237.out 2).trans rfl; have hfz20_0 := blk_frozen BK237.out 0; have hfz20_1 := blk_frozen BK237.out 1; have hfz20_2 := blk_frozen BK237.out 2))
        go_loopg [4, 39] k1 (fun kq v4 v39 w' => ∃ (x4_2 : List Int) (x39_2 : Int), v39 = .int .i64 x39_2 ∧ Aside0 (impl_Patch_numbers.l1 kq x4_2 l0_2 (l0_2.length : Int) x17_1 ((rd_T40 l0_2 x17_1).f2) (((rd_T40 l0_2 x17_1).f2).length : Int) x39_2 = some (r1, r2)) ∧ Aside0 (kq ≤ k1) ∧ Aside0 (Kd.R (Kd.int .i64) 2 w' w.heap.size (fun _ => True) v4 x4_2) ∧ Aside0 (w'.heap[gb231]? = some (.cells #[.int .i64 a0_0, .int .i64 a0_1, (.slice (some ad236) l0_2.length c0_2)] 29 (0, 0))) ∧ Aside0 (w'.heap[gb237]? = some (.cells #[.int .i64 ((rd_T40 l0_2 x17_1).f0), .int .i64 ((rd_T40 l0_2 x17_1).f1), (.slice A236_2 ((rd_T40 l0_2 x17_1).f2).length c236_2)] 40 (0, 0))) ∧ Aside0 (Below w.heap.size w w'))
        case atStart => exact ⟨(y242), (0), (by first | rfl | (simp; done) | (simp [*]; done)), H', ⟨Nat.le_refl _⟩, ⟨by (with_reducible repeat (first | apply r1 | apply r2 | apply r3)); exact Kd.R_mono HO244.out (fun _ hk => trivial)⟩, ⟨rk BK231⟩, ⟨rk BK237⟩, ⟨by repeat (first | (with_reducible first | exact HB.out | apply b1 | apply b2 | apply b3 | refine below_set ?_ GE231.out | refine below_set ?_ GE237.out) | exact HB.out)⟩⟩
        case round =>
         clear H'
         try clear c1
         try clear c2
         try clear p2
         try clear q2
         try clear hx2
         try clear c7
         try clear c7b0
         try clear c8
         try clear c8b0
         try clear c9
         try clear c9b0
         try clear c11
         try clear c12
         try clear c14
         try clear c20
         try clear hcz15_0
         try clear hcz15_1
         try clear hcz15_2
         try clear hcz20_0
         try clear hcz20_1
         try clear hcz20_2
         try clear hcz3_0
         try clear hcz3_1
         try clear hcz3_2
         try clear hcz6_0
         try clear hcz6_1
         try clear hcz6_2
         try clear hfz15_0
         try clear hfz15_1
         try clear hfz15_2
         try clear hfz20_0
         try clear hfz20_1
         try clear hfz20_2
         try clear hfz3_0
         try clear hfz3_1
         try clear hfz3_2
         try clear hfz6_0
         try clear hfz6_1
         try clear hfz6_2
         try clear hx236_0
         try clear hx236_1
         try clear hx236_2
         try clear p2
         try clear p236
         try clear q236
         obtain ⟨x4_2, x39_2, rfl, HA, HK2, HO_4, BK231, BK237, HB⟩ := hrel
         cases gk with
         | zero => exact absurd HA.out (by simp [impl_Patch_numbers.l1])
         | succ k2 =>
          have H := HA.out
          clear HA
          simp only [impl_Patch_numbers.l1] at H
          by_cases c21 : x39_2 < (((rd_T40 l0_2 x17_1).f2).length : Int)
          ·rw [if_pos c21] at H
           have c21b0 : decide (x39_2 < (((rd_T40 l0_2 x17_1).f2).length : Int)) = true := decide_eq_true c21
           clear c21
           by_cases c22 : 0 ≤ x39_2
           ·rw [if_pos c22] at H
            have c22b0 : decide (0 ≤ x39_2) = true := decide_eq_true c22
            clear c22
            by_cases c23 : x39_2 < (((rd_T40 l0_2 x17_1).f2).length : Int)
            ·rw [if_pos c23] at H
             have c23b0 : decide (x39_2 < (((rd_T40 l0_2 x17_1).f2).length : Int)) = true := decide_eq_true c23
             clear c23
             replace H := Option.bind_eq_some_iff.mp H
             obtain ⟨t247, A240, H⟩ := H
             replace H : (if t247 = true then ((impl_Style_flags.f ((rd_T45 ((rd_T40 l0_2 x17_1).f2) x39_2).f1.f0) ((rd_T45 ((rd_T40 l0_2 x17_1).f2) x39_2).f1.f1) ((rd_T45 ((rd_T40 l0_2 x17_1).f2) x39_2).f1.f2) ((rd_T45 ((rd_T40 l0_2 x17_1).f2) x39_2).f1.f3) ((rd_T45 ((rd_T40 l0_2 x17_1).f2) x39_2).f1.f4)).bind fun t248 => ((some (([(rd_T45 ((rd_T40 l0_2 x17_1).f2) x39_2).f0, (rd_T45 ((rd_T40 l0_2 x17_1).f2) x39_2).f1.f0, (rd_T45 ((rd_T40 l0_2 x17_1).f2) x39_2).f1.f1, t248, (rd_T45 ((rd_T40 l0_2 x17_1).f2) x39_2).f2] : List Int) : List Int)).bind fun y249 => (if x4_2.length + y249.length < 17592186044416 then (impl_Patch_numbers.l1 k2 (x4_2 ++ y249) l0_2 (l0_2.length : Int) x17_1 ((rd_T40 l0_2 x17_1).f2) (((rd_T40 l0_2 x17_1).f2).length : Int) (wrap64 (x39_2 + 1))) else (none)))) else (some (([] : List Int), false))) = some (r1, r2) := H
             have A24 := am A240
             clear A240
             by_cases c25 : t247 = true
             ·subst c25
              have H1 : ((impl_Style_flags.f ((rd_T45 ((rd_T40 l0_2 x17_1).f2) x39_2).f1.f0) ((rd_T45 ((rd_T40 l0_2 x17_1).f2) x39_2).f1.f1) ((rd_T45 ((rd_T40 l0_2 x17_1).f2) x39_2).f1.f2) ((rd_T45 ((rd_T40 l0_2 x17_1).f2) x39_2).f1.f3) ((rd_T45 ((rd_T40 l0_2 x17_1).f2) x39_2).f1.f4)).bind fun t248 => ((some (([(rd_T45 ((rd_T40 l0_2 x17_1).f2) x39_2).f0, (rd_T45 ((rd_T40 l0_2 x17_1).f2) x39_2).f1.f0, (rd_T45 ((rd_T40 l0_2 x17_1).f2) x39_2).f1.f1, t248, (rd_T45 ((rd_T40 l0_2 x17_1).f2) x39_2).f2] : List Int) : List Int)).bind fun y249 => (if x4_2.length + y249.length < 17592186044416 then (impl_Patch_numbers.l1 k2 (x4_2 ++ y249) l0_2 (l0_2.length : Int) x17_1 ((rd_T40 l0_2 x17_1).f2) (((rd_T40 l0_2 x17_1).f2).length : Int) (wrap64 (x39_2 + 1))) else (none)))) = some (r1, r2) := by rw [if_pos rfl] at H; exact H
              clear H
              have H := H1
              clear H1
              replace H := Option.bind_eq_some_iff.mp H
              obtain ⟨t248, A260, H⟩ := H
              replace H : ((some (([(rd_T45 ((rd_T40 l0_2 x17_1).f2) x39_2).f0, (rd_T45 ((rd_T40 l0_2 x17_1).f2) x39_2).f1.f0, (rd_T45 ((rd_T40 l0_2 x17_1).f2) x39_2).f1.f1, t248, (rd_T45 ((rd_T40 l0_2 x17_1).f2) x39_2).f2] : List Int) : List Int)).bind fun y249 => (if x4_2.length + y249.length < 17592186044416 then (impl_Patch_numbers.l1 k2 (x4_2 ++ y249) l0_2 (l0_2.length : Int) x17_1 ((rd_T40 l0_2 x17_1).f2) (((rd_T40 l0_2 x17_1).f2).length : Int) (wrap64 (x39_2 + 1))) else (none))) = some (r1, r2) := H
              have A26 := am A260
              clear A260
              obtain ⟨y249, hy249⟩ : ∃ y_ : List Int, y_ = (([(rd_T45 ((rd_T40 l0_2 x17_1).f2) x39_2).f0, (rd_T45 ((rd_T40 l0_2 x17_1).f2) x39_2).f1.f0, (rd_T45 ((rd_T40 l0_2 x17_1).f2) x39_2).f1.f1, t248, (rd_T45 ((rd_T40 l0_2 x17_1).f2) x39_2).f2] : List Int)) := ⟨_, rfl⟩
              replace H : (if x4_2.length + y249.length < 17592186044416 then (impl_Patch_numbers.l1 k2 (x4_2 ++ y249) l0_2 (l0_2.length : Int) x17_1 ((rd_T40 l0_2 x17_1).f2) (((rd_T40 l0_2 x17_1).f2).length : Int) (wrap64 (x39_2 + 1))) else (none)) = some (r1, r2) := by first | (rw [hy249]; with_reducible exact H) | (rw [hy249]; exact H) | exact H
              have Ny249 := am hy249
              clear hy249
              by_cases c27 : x4_2.length + y249.length < 17592186044416
              ·rw [if_pos c27] at H
               have LMc27 := am c27
               clear c27
               obtain ⟨y252, hy252⟩ : ∃ y_ : List Int, y_ = (x4_2 ++ y249) := ⟨_, rfl⟩
               replace H : (impl_Patch_numbers.l1 k2 y252 l0_2 (l0_2.length : Int) x17_1 ((rd_T40 l0_2 x17_1).f2) (((rd_T40 l0_2 x17_1).f2).length : Int) (wrap64 (x39_2 + 1))) = some (r1, r2) := by first | (rw [hy252]; with_reducible exact H) | (rw [hy252]; exact H) | exact H
               have Ny252 := am hy252
               clear hy252
               have H' := am H
               clear H
               have p245 : 0 ≤ (x39_2 : Int) := dt_
               have q245 : x39_2 < (((rd_T40 l0_2 x17_1).f2).length : Int) := dt_
               obtain ⟨ad245, e245, hx245_0, hx245_1, hx245_2, hx245_3, hx245_4, hx245_5, hx245_6⟩ := at_T45 HR236_2.out x39_2 p245 q245
               cases e245
               replace hx245_0 := mv HB.out hx245_0
               replace hx245_1 := mv HB.out hx245_1
               replace hx245_2 := mv HB.out hx245_2
               replace hx245_3 := mv HB.out hx245_3
               replace hx245_4 := mv HB.out hx245_4
               replace hx245_5 := mv HB.out hx245_5
               replace hx245_6 := mv HB.out hx245_6
               replace p245 := eq_true p245
               replace q245 := eq_true q245
               try go_wp2_with (first | ((with_reducible refine gate_dst (N := 8) rfl ?_); refine box_event ?hg (N := 8) ?hd (cs := #[.int .i64 0, .int .i64 0, .int .i64 0, .bool false, .bool false, .bool false, .int .i64 0]) (t := 45) ?hr ?_; (case hd => rfl); (case hg => rfl); (case hr => first | (go_simp; done) | (go_simp; rfl)); intro gb246 hg w28 hbox hb; have n0_ := am (Kd.R_below (rr HO_4) hb); have n1_ := am (blk_below (g := gb231) (o := .cells #[.int .i64 a0_0, .int .i64 a0_1, .slice (some ad236) l0_2.length c0_2] 29 (0, 0)) (rk BK231) hb); have n2_ := am (blk_below (g := gb237) (o := .cells #[.int .i64 ((rd_T40 l0_2 x17_1).f0), .int .i64 ((rd_T40 l0_2 x17_1).f1), .slice (some ad245) ((rd_T40 l0_2 x17_1).f2).length c236_2] 40 (0, 0)) (rk BK237) hb); have n3_ := am (below_step (by repeat (first | (with_reducible first | exact HB.out | apply b1 | apply b2 | apply b3 | refine below_set ?_ GE231.out | refine below_set ?_ GE237.out) | exact HB.out)) hb); have n4_ := am (hbox); have n5_ := am ((by rw [hg]; exact (below_size (by repeat (first | (with_reducible first | exact HB.out | apply b1 | apply b2 | apply b3 | refine below_set ?_ GE231.out | refine below_set ?_ GE237.out) | exact HB.out))) : w.heap.size ≤ gb246)); have n6_ := am ((by rw [hg]; exact (below_size (by repeat (first | (with_reducible first | exact HB.out | apply b1 | apply b2 | apply b3 | refine below_set ?_ GE231.out | refine below_set ?_ GE237.out) | exact HB.out))) : w.heap.size ≤ gb246)); have n7_ := am ((by rw [hg]; exact Nat.ne_of_lt (blk_lt (g := gb231) (o := .cells #[.int .i64 a0_0, .int .i64 a0_1, .slice (some ad236) l0_2.length c0_2] 29 (0, 0)) (rk BK231)) : gb231 ≠ gb246)); have n8_ := am ((by rw [hg]; exact Nat.ne_of_gt (blk_lt (g := gb231) (o := .cells #[.int .i64 a0_0, .int .i64 a0_1, .slice (some ad236) l0_2.length c0_2] 29 (0, 0)) (rk BK231)) : gb246 ≠ gb231)); have n9_ := am ((by rw [hg]; exact Nat.ne_of_lt (blk_lt (g := gb237) (o := .cells #[.int .i64 ((rd_T40 l0_2 x17_1).f0), .int .i64 ((rd_T40 l0_2 x17_1).f1), .slice (some ad245) ((rd_T40 l0_2 x17_1).f2).length c236_2] 40 (0, 0)) (rk BK237)) : gb237 ≠ gb246)); have n10_ := am ((by rw [hg]; exact Nat.ne_of_gt (blk_lt (g := gb237) (o := .cells #[.int .i64 ((rd_T40 l0_2 x17_1).f0), .int .i64 ((rd_T40 l0_2 x17_1).f1), .slice (some ad245) ((rd_T40 l0_2 x17_1).f2).length c236_2] 40 (0, 0)) (rk BK237)) : gb246 ≠ gb237)); clear HO_4; clear BK231; clear BK237; clear HB; have HO_4 := n0_; have BK231 := n1_; have BK237 := n2_; have HB := n3_; have BK246 := n4_; have GW246 := n5_; have GE246 := n6_; have NB231_246 := n7_; have NB246_231 := n8_; have NB237_246 := n9_; have NB246_237 := n10_; clear n0_ n1_ n2_ n3_ n4_ n5_ n6_ n7_ n8_ n9_ n10_; clear hb hbox hg; have hnb29 := NB246_231.out; have hnc29 := NB231_246.out; have hnb30 := NB246_237.out; have hnc30 := NB237_246.out; have hcz31_0 : w28.cell? ⟨gb246, 0, none⟩ = some (.int .i64 0) := (blk_cell BK246.out 0).trans rfl; have hcz31_1 : w28.cell? ⟨gb246, 1, none⟩ = some (.int .i64 0) := (blk_cell BK246.out 1).trans rfl; have hcz31_2 : w28.cell? ⟨gb246, 2, none⟩ = some (.int .i64 0) := (blk_cell BK246.out 2).trans rfl; have hcz31_3 : w28.cell? ⟨gb246, 3, none⟩ = some (.bool false) := (blk_cell BK246.out 3).trans rfl; have hcz31_4 : w28.cell? ⟨gb246, 4, none⟩ = some (.bool false) := (blk_cell BK246.out 4).trans rfl; have hcz31_5 : w28.cell? ⟨gb246, 5, none⟩ = some (.bool false) := (blk_cell BK246.out 5).trans rfl; have hcz31_6 : w28.cell? ⟨gb246, 6, none⟩ = some (.int .i64 0) := (blk_cell BK246.out 6).trans rfl; have hfz31_0 := blk_frozen BK246.out 0; have hfz31_1 := blk_frozen BK246.out 1; have hfz31_2 := blk_frozen BK246.out 2; have hfz31_3 := blk_frozen BK246.out 3; have hfz31_4 := blk_frozen BK246.out 4; have hfz31_5 := blk_frozen BK246.out 5; have hfz31_6 := blk_frozen BK246.out 6) | ((with_reducible refine gate_callee (f := 33) rfl ?_); refine gl_ (some 45) Tryd.func33 #[.agg #[.int .i64 ((rd_T45 ((rd_T40 l0_2 x17_1).f2) x39_2).f1.f0), .int .i64 ((rd_T45 ((rd_T40 l0_2 x17_1).f2) x39_2).f1.f1), .bool ((rd_T45 ((rd_T40 l0_2 x17_1).f2) x39_2).f1.f2), .bool ((rd_T45 ((rd_T40 l0_2 x17_1).f2) x39_2).f1.f3), .bool ((rd_T45 ((rd_T40 l0_2 x17_1).f2) x39_2).f1.f4)]] ?_; (with_reducible refine (impl_StyleOk.calls ((rd_T45 ((rd_T40 l0_2 x17_1).f2) x39_2).f1.f0) ((rd_T45 ((rd_T40 l0_2 x17_1).f2) x39_2).f1.f1) ((rd_T45 ((rd_T40 l0_2 x17_1).f2) x39_2).f1.f2) ((rd_T45 ((rd_T40 l0_2 x17_1).f2) x39_2).f1.f3) ((rd_T45 ((rd_T40 l0_2 x17_1).f2) x39_2).f1.f4) true _ A24.out).mono ?_); rintro e w32 ⟨rfl, hb⟩; refine ⟨_, rfl, ?_⟩; have n0_ := am (Kd.R_below (by (with_reducible repeat (first | apply r1 | apply r2 | apply r3)); exact (Kd.R_mono (Kd.R_far (p := ⟨gb246, 6, none⟩) (Kd.R_far (p := ⟨gb246, 5, none⟩) (Kd.R_far (p := ⟨gb246, 4, none⟩) (Kd.R_far (p := ⟨gb246, 3, none⟩) (Kd.R_far (p := ⟨gb246, 2, none⟩) (Kd.R_far (p := ⟨gb246, 1, none⟩) (Kd.R_far (p := ⟨gb246, 0, none⟩) (Kd.R_types HO_4.out BK246.out (by decide)) (fun _ hk => hk.2) (.int .i64 ((rd_T45 ((rd_T40 l0_2 x17_1).f2) x39_2).f0))) (fun _ hk => hk.2) (.int .i64 ((rd_T45 ((rd_T40 l0_2 x17_1).f2) x39_2).f1.f0))) (fun _ hk => hk.2) (.int .i64 ((rd_T45 ((rd_T40 l0_2 x17_1).f2) x39_2).f1.f1))) (fun _ hk => hk.2) (.bool ((rd_T45 ((rd_T40 l0_2 x17_1).f2) x39_2).f1.f2))) (fun _ hk => hk.2) (.bool ((rd_T45 ((rd_T40 l0_2 x17_1).f2) x39_2).f1.f3))) (fun _ hk => hk.2) (.bool ((rd_T45 ((rd_T40 l0_2 x17_1).f2) x39_2).f1.f4))) (fun _ hk => hk.2) (.int .i64 ((rd_T45 ((rd_T40 l0_2 x17_1).f2) x39_2).f2))) (fun _ h_ => h_.1))) hb); have n1_ := am (blk_below (g := gb231) (o := .cells #[.int .i64 a0_0, .int .i64 a0_1, .slice (some ad236) l0_2.length c0_2] 29 (0, 0)) (by (with_reducible repeat (first | apply k1 | apply k2 | apply k3)); refine blk_far ?_ NB231_246.out _; (with_reducible repeat (first | apply k1 | apply k2 | apply k3)); refine blk_far ?_ NB231_246.out _; (with_reducible repeat (first | apply k1 | apply k2 | apply k3)); refine blk_far ?_ NB231_246.out _; (with_reducible repeat (first | apply k1 | apply k2 | apply k3)); refine blk_far ?_ NB231_246.out _; (with_reducible repeat (first | apply k1 | apply k2 | apply k3)); refine blk_far ?_ NB231_246.out _; (with_reducible repeat (first | apply k1 | apply k2 | apply k3)); refine blk_far ?_ NB231_246.out _; (with_reducible repeat (first | apply k1 | apply k2 | apply k3)); refine blk_far ?_ NB231_246.out _; (with_reducible repeat (first | apply k1 | apply k2 | apply k3)); exact BK231.out) hb); have n2_ := am (blk_below (g := gb237) (o := .cells #[.int .i64 ((rd_T40 l0_2 x17_1).f0), .int .i64 ((rd_T40 l0_2 x17_1).f1), .slice (some ad245) ((rd_T40 l0_2 x17_1).f2).length c236_2] 40 (0, 0)) (by (with_reducible repeat (first | apply k1 | apply k2 | apply k3)); refine blk_far ?_ NB237_246.out _; (with_reducible repeat (first | apply k1 | apply k2 | apply k3)); refine blk_far ?_ NB237_246.out _; (with_reducible repeat (first | apply k1 | apply k2 | apply k3)); refine blk_far ?_ NB237_246.out _; (with_reducible repeat (first | apply k1 | apply k2 | apply k3)); refine blk_far ?_ NB237_246.out _; (with_reducible repeat (first | apply k1 | apply k2 | apply k3)); refine blk_far ?_ NB237_246.out _; (with_reducible repeat (first | apply k1 | apply k2 | apply k3)); refine blk_far ?_ NB237_246.out _; (with_reducible repeat (first | apply k1 | apply k2 | apply k3)); refine blk_far ?_ NB237_246.out _; (with_reducible repeat (first | apply k1 | apply k2 | apply k3)); exact BK237.out) hb); have n3_ := am (blk_below (g := gb246) (o := .cells #[.int .i64 ((rd_T45 ((rd_T40 l0_2 x17_1).f2) x39_2).f0), .int .i64 ((rd_T45 ((rd_T40 l0_2 x17_1).f2) x39_2).f1.f0), .int .i64 ((rd_T45 ((rd_T40 l0_2 x17_1).f2) x39_2).f1.f1), .bool ((rd_T45 ((rd_T40 l0_2 x17_1).f2) x39_2).f1.f2), .bool ((rd_T45 ((rd_T40 l0_2 x17_1).f2) x39_2).f1.f3), .bool ((rd_T45 ((rd_T40 l0_2 x17_1).f2) x39_2).f1.f4), .int .i64 ((rd_T45 ((rd_T40 l0_2 x17_1).f2) x39_2).f2)] 45 (0, 0)) (by (with_reducible repeat (first | apply k1 | apply k2 | apply k3)); refine blk_put (cs := #[.int .i64 ((rd_T45 ((rd_T40 l0_2 x17_1).f2) x39_2).f0), .int .i64 ((rd_T45 ((rd_T40 l0_2 x17_1).f2) x39_2).f1.f0), .int .i64 ((rd_T45 ((rd_T40 l0_2 x17_1).f2) x39_2).f1.f1), .bool ((rd_T45 ((rd_T40 l0_2 x17_1).f2) x39_2).f1.f2), .bool ((rd_T45 ((rd_T40 l0_2 x17_1).f2) x39_2).f1.f3), .bool ((rd_T45 ((rd_T40 l0_2 x17_1).f2) x39_2).f1.f4), .int .i64 0]) ?_ 6 _ rfl; (with_reducible repeat (first | apply k1 | apply k2 | apply k3)); refine blk_put (cs := #[.int .i64 ((rd_T45 ((rd_T40 l0_2 x17_1).f2) x39_2).f0), .int .i64 ((rd_T45 ((rd_T40 l0_2 x17_1).f2) x39_2).f1.f0), .int .i64 ((rd_T45 ((rd_T40 l0_2 x17_1).f2) x39_2).f1.f1), .bool ((rd_T45 ((rd_T40 l0_2 x17_1).f2) x39_2).f1.f2), .bool ((rd_T45 ((rd_T40 l0_2 x17_1).f2) x39_2).f1.f3), .bool false, .int .i64 0]) ?_ 5 _ rfl; (with_reducible repeat (first | apply k1 | apply k2 | apply k3)); refine blk_put (cs := #[.int .i64 ((rd_T45 ((rd_T40 l0_2 x17_1).f2) x39_2).f0), .int .i64 ((rd_T45 ((rd_T40 l0_2 x17_1).f2) x39_2).f1.f0), .int .i64 ((rd_T45 ((rd_T40 l0_2 x17_1).f2) x39_2).f1.f1), .bool ((rd_T45 ((rd_T40 l0_2 x17_1).f2) x39_2).f1.f2), .bool false, .bool false, .int .i64 0]) ?_ 4 _ rfl; (with_reducible repeat (first | apply k1 | apply k2 | apply k3)); refine blk_put (cs := #[.int .i64 ((rd_T45 ((rd_T40 l0_2 x17_1).f2) x39_2).f0), .int .i64 ((rd_T45 ((rd_T40 l0_2 x17_1).f2) x39_2).f1.f0), .int .i64 ((rd_T45 ((rd_T40 l0_2 x17_1).f2) x39_2).f1.f1), .bool false, .bool false, .bool false, .int .i64 0]) ?_ 3 _ rfl; (with_reducible repeat (first | apply k1 | apply k2 | apply k3)); refine blk_put (cs := #[.int .i64 ((rd_T45 ((rd_T40 l0_2 x17_1).f2) x39_2).f0), .int .i64 ((rd_T45 ((rd_T40 l0_2 x17_1).f2) x39_2).f1.f0), .int .i64 0, .bool false, .bool false, .bool false, .int .i64 0]) ?_ 2 _ rfl; (with_reducible repeat (first | apply k1 | apply k2 | apply k3)); refine blk_put (cs := #[.int .i64 ((rd_T45 ((rd_T40 l0_2 x17_1).f2) x39_2).f0), .int .i64 0, .int .i64 0, .bool false, .bool false, .bool false, .int .i64 0]) ?_ 1 _ rfl; (with_reducible repeat (first | apply k1 | apply k2 | apply k3)); refine blk_put (cs := #[.int .i64 0, .int .i64 0, .int .i64 0, .bool false, .bool false, .bool false, .int .i64 0]) ?_ 0 _ rfl; (with_reducible repeat (first | apply k1 | apply k2 | apply k3)); exact BK246.out) hb); have n4_ := am (below_step (by repeat (first | (with_reducible first | exact HB.out | apply b1 | apply b2 | apply b3 | refine below_set ?_ GE231.out | refine below_set ?_ GE237.out | refine below_set ?_ GE246.out) | exact HB.out)) hb); clear HO_4; clear BK231; clear BK237; clear BK246; clear HB; have HO_4 := n0_; have BK231 := n1_; have BK237 := n2_; have BK246 := n3_; have HB := n4_; clear n0_ n1_ n2_ n3_ n4_; (try clear hb); (try clear hb2); (try clear hk); (try clear hi)))
               have n0_ := am (Kd.R_drew HO_4.out)
               have n1_ := am (blk_drew BK231.out)
               have n2_ := am (blk_drew BK237.out)
               have n3_ := am (blk_drew BK246.out)
               have n4_ := am (below_drew1 HB.out)
               clear HO_4
               clear BK231
               clear BK237
               clear BK246
               clear HB
               have HO_4 := n0_
               have BK231 := n1_
               have BK237 := n2_
               have BK246 := n3_
               have HB := n4_
               clear n0_ n1_ n2_ n3_ n4_
               refine start_ (n := 17) (S := fun w' => w'.cell? ⟨gb246, 0, none⟩ = some (.int .i64 ((rd_T45 ((rd_T40 l0_2 x17_1).f2) x39_2).f0)) ∧ w'.cell? ⟨gb246, 1, none⟩ = some (.int .i64 ((rd_T45 ((rd_T40 l0_2 x17_1).f2) x39_2).f1.f0)) ∧ w'.cell? ⟨gb246, 2, none⟩ = some (.int .i64 ((rd_T45 ((rd_T40 l0_2 x17_1).f2) x39_2).f1.f1)) ∧ w'.cell? ⟨gb246, 3, none⟩ = some (.bool ((rd_T45 ((rd_T40 l0_2 x17_1).f2) x39_2).f1.f2)) ∧ w'.cell? ⟨gb246, 4, none⟩ = some (.bool ((rd_T45 ((rd_T40 l0_2 x17_1).f2) x39_2).f1.f3)) ∧ w'.cell? ⟨gb246, 5, none⟩ = some (.bool ((rd_T45 ((rd_T40 l0_2 x17_1).f2) x39_2).f1.f4)) ∧ w'.cell? ⟨gb246, 6, none⟩ = some (.int .i64 ((rd_T45 ((rd_T40 l0_2 x17_1).f2) x39_2).f2))) (ds := []) (bm 17 0) (by kernel_rfl) rfl rfl ⟨(blk_cell BK246.out 0).trans rfl, (blk_cell BK246.out 1).trans rfl, (blk_cell BK246.out 2).trans rfl, (blk_cell BK246.out 3).trans rfl, (blk_cell BK246.out 4).trans rfl, (blk_cell BK246.out 5).trans rfl, (blk_cell BK246.out 6).trans rfl⟩ (fun hHeld => ?_); refine with_tabW impl_Patch_numbers.tab13 impl_Patch_numbers.bits13 (fun HT_ HW_ => ?_)
               generalize w32.drew = w33 at HO_4 BK231 BK237 BK246 HB hHeld ⊢
               refine pu_ 0 47 (bm 17 1) HT_.out ?_
               refine pu_ 1 48 (bm 17 3) HT_.out ?_
               refine pu_ 3 50 (bm 17 11) HT_.out ?_
               refine pu_ 4 51 (bm 17 27) HT_.out ?_
               refine pu_ 6 53 (bm 17 91) HT_.out ?_
               refine pu_ 7 54 (bm 17 219) HT_.out ?_
               refine pu_ 9 56 (bm 17 731) HT_.out ?_
               refine pu_ 12 59 (bm 17 4827) HT_.out ?_
               refine take_ (i := 2) (N := some 49) (v := ?_) (a' := ?_) (bm 17 4831) rfl rfl (take_ofW HT_.out HW_.out (by kernel_rfl)) (fun _ _ _ h => h) (Or.inl ⟨by rfl, ?_⟩) hHeld ?_ ?_
               rotate_left
               ·rintro w' ⟨s0, s1, s2, s3, s4, s5, s6⟩
                go_simp
                with_reducible rfl
               rotate_left
               ·simp only [Act.put, List.setIfInBounds_toArray, List.set_cons_zero, List.set_cons_succ, i64_w, i32_w]
                rfl
               refine take_ (i := 5) (N := some 52) (v := ?_) (a' := ?_) (bm 17 4863) rfl rfl (take_ofW HT_.out HW_.out (by kernel_rfl)) (fun _ _ _ h => h) (Or.inl ⟨by rfl, ?_⟩) hHeld ?_ ?_
               rotate_left
               ·rintro w' ⟨s0, s1, s2, s3, s4, s5, s6⟩
                go_simp
                with_reducible rfl
               rotate_left
               ·simp only [Act.put, List.setIfInBounds_toArray, List.set_cons_zero, List.set_cons_succ, i64_w, i32_w]
                rfl
               refine take_ (i := 8) (N := some 55) (v := ?_) (a' := ?_) (bm 17 5119) rfl rfl (take_ofW HT_.out HW_.out (by kernel_rfl)) (fun _ _ _ h => h) (Or.inl ⟨by rfl, ?_⟩) hHeld ?_ ?_
               rotate_left
               ·rintro w' ⟨s0, s1, s2, s3, s4, s5, s6⟩
                go_simp
                with_reducible rfl
               rotate_left
               ·simp only [Act.put, List.setIfInBounds_toArray, List.set_cons_zero, List.set_cons_succ, i64_w, i32_w]
                rfl
               refine take_ (i := 10) (N := some 57) (v := ?_) (a' := ?_) (bm 17 6143) rfl rfl (take_ofW HT_.out HW_.out (by kernel_rfl)) (fun _ _ _ h => h) (Or.inl ⟨by rfl, ?_⟩) hHeld ?_ ?_
               rotate_left
               ·rintro w' ⟨s0, s1, s2, s3, s4, s5, s6⟩
                go_simp
                with_reducible rfl
               rotate_left
               ·simp only [Act.put, List.setIfInBounds_toArray, List.set_cons_zero, List.set_cons_succ, i64_w, i32_w]
                rfl
               refine take_ (i := 13) (N := some 60) (v := ?_) (a' := ?_) (bm 17 14335) rfl rfl (take_ofW HT_.out HW_.out (by kernel_rfl)) (fun _ _ _ h => h) (Or.inl ⟨by rfl, ?_⟩) hHeld ?_ ?_
               rotate_left
               ·rintro w' ⟨s0, s1, s2, s3, s4, s5, s6⟩
                go_simp
                with_reducible rfl
               rotate_left
               ·simp only [Act.put, List.setIfInBounds_toArray, List.set_cons_zero, List.set_cons_succ, i64_w, i32_w]
                rfl
               refine one_ (i := 11) (N := some 58) (bm 17 16383) rfl rfl (one_of HT_.out (by kernel_rfl)) (by decide) (fun K hK => ?_)
               refine goes_ Tryd.func34 (by kernel_rfl) rfl #[.agg #[.int .i64 ((rd_T45 ((rd_T40 l0_2 x17_1).f2) x39_2).f1.f0), .int .i64 ((rd_T45 ((rd_T40 l0_2 x17_1).f2) x39_2).f1.f1), .bool ((rd_T45 ((rd_T40 l0_2 x17_1).f2) x39_2).f1.f2), .bool ((rd_T45 ((rd_T40 l0_2 x17_1).f2) x39_2).f1.f3), .bool ((rd_T45 ((rd_T40 l0_2 x17_1).f2) x39_2).f1.f4)]] (by rfl) rfl rfl (by (try simp only [List.map_toArray, List.map_cons, List.map_nil]); first | done | rfl | (simp only [List.length_drop, List.length_take]; rfl)) ?_
               with_reducible refine (impl_Style_flags.calls ((rd_T45 ((rd_T40 l0_2 x17_1).f2) x39_2).f1.f0) ((rd_T45 ((rd_T40 l0_2 x17_1).f2) x39_2).f1.f1) ((rd_T45 ((rd_T40 l0_2 x17_1).f2) x39_2).f1.f2) ((rd_T45 ((rd_T40 l0_2 x17_1).f2) x39_2).f1.f3) ((rd_T45 ((rd_T40 l0_2 x17_1).f2) x39_2).f1.f4) t248 _ A26.out).mono ?_
               rintro e w34 ⟨rfl, hb⟩
               refine ⟨_, rfl, ?_⟩
               have n0_ := am (Kd.R_below (rr HO_4) hb)
               have n1_ := am (blk_below (g := gb231) (o := .cells #[.int .i64 a0_0, .int .i64 a0_1, .slice (some ad236) l0_2.length c0_2] 29 (0, 0)) (rk BK231) hb)
               have n2_ := am (blk_below (g := gb237) (o := .cells #[.int .i64 ((rd_T40 l0_2 x17_1).f0), .int .i64 ((rd_T40 l0_2 x17_1).f1), .slice (some ad245) ((rd_T40 l0_2 x17_1).f2).length c236_2] 40 (0, 0)) (rk BK237) hb)
               have n3_ := am (blk_below (g := gb246) (o := .cells #[.int .i64 ((rd_T45 ((rd_T40 l0_2 x17_1).f2) x39_2).f0), .int .i64 ((rd_T45 ((rd_T40 l0_2 x17_1).f2) x39_2).f1.f0), .int .i64 ((rd_T45 ((rd_T40 l0_2 x17_1).f2) x39_2).f1.f1), .bool ((rd_T45 ((rd_T40 l0_2 x17_1).f2) x39_2).f1.f2), .bool ((rd_T45 ((rd_T40 l0_2 x17_1).f2) x39_2).f1.f3), .bool ((rd_T45 ((rd_T40 l0_2 x17_1).f2) x39_2).f1.f4), .int .i64 ((rd_T45 ((rd_T40 l0_2 x17_1).f2) x39_2).f2)] 45 (0, 0)) (rk BK246) hb)
               have n4_ := am (below_step (by repeat (first | (with_reducible first | exact HB.out | apply b1 | apply b2 | apply b3 | refine below_set ?_ GE231.out | refine below_set ?_ GE237.out | refine below_set ?_ GE246.out) | exact HB.out)) hb)
               clear HO_4
               clear BK231
               clear BK237
               clear BK246
               clear HB
               have HO_4 := n0_
               have BK231 := n1_
               have BK237 := n2_
               have BK246 := n3_
               have HB := n4_
               clear n0_ n1_ n2_ n3_ n4_
               (try clear hb)
               (try clear hb2)
               (try clear hk)
               (try clear hi)
               refine hK.out _ _ ⟨(blk_cell BK246.out 0).trans rfl, (blk_cell BK246.out 1).trans rfl, (blk_cell BK246.out 2).trans rfl, (blk_cell BK246.out 3).trans rfl, (blk_cell BK246.out 4).trans rfl, (blk_cell BK246.out 5).trans rfl, (blk_cell BK246.out 6).trans rfl⟩ (fun hHeld => ?_)
               clear hK K
               refine norm_ (a' := ?_) ?_ ?_
               rotate_left
               ·show Act.put _ (some 58) _ = _
                simp only [Act.put, List.setIfInBounds_toArray, List.set_cons_zero, List.set_cons_succ, i64_w, i32_w]
                rfl
               refine one_ (i := 14) (N := some 61) (bm 17 32767) rfl rfl (one_of HT_.out (by kernel_rfl)) (by decide) (fun K hK => ?_)
               refine Kd.R_lit_step (Kd.int .i64) _ 2 ?hg (N := 61) ?hd (xs := ([(rd_T45 ((rd_T40 l0_2 x17_1).f2) x39_2).f0, (rd_T45 ((rd_T40 l0_2 x17_1).f2) x39_2).f1.f0, (rd_T45 ((rd_T40 l0_2 x17_1).f2) x39_2).f1.f1, t248, (rd_T45 ((rd_T40 l0_2 x17_1).f2) x39_2).f2] : List Int)) (inner := [.int .i64 ((rd_T45 ((rd_T40 l0_2 x17_1).f2) x39_2).f0), .int .i64 ((rd_T45 ((rd_T40 l0_2 x17_1).f2) x39_2).f1.f0), .int .i64 ((rd_T45 ((rd_T40 l0_2 x17_1).f2) x39_2).f1.f1), .int .i64 t248, .int .i64 ((rd_T45 ((rd_T40 l0_2 x17_1).f2) x39_2).f2)]) (ok := fun _ => True) (okp := fun _ => True) ?hr ?hp (fun _ hk => hk) trivial (Below.refl _ _) (Nat.le_refl _) (by simp) ?_; (case hd => rfl); (case hg => rfl); (case hr => first | (go_simp; done) | (go_simp; rfl)); (case hp => exact (Reps.one (show Kd.M (Kd.int .i64) _ _ _ ((rd_T45 ((rd_T40 l0_2 x17_1).f2) x39_2).f0) [.int .i64 ((rd_T45 ((rd_T40 l0_2 x17_1).f2) x39_2).f0)] from rfl) (Reps.one (show Kd.M (Kd.int .i64) _ _ _ ((rd_T45 ((rd_T40 l0_2 x17_1).f2) x39_2).f1.f0) [.int .i64 ((rd_T45 ((rd_T40 l0_2 x17_1).f2) x39_2).f1.f0)] from rfl) (Reps.one (show Kd.M (Kd.int .i64) _ _ _ ((rd_T45 ((rd_T40 l0_2 x17_1).f2) x39_2).f1.f1) [.int .i64 ((rd_T45 ((rd_T40 l0_2 x17_1).f2) x39_2).f1.f1)] from rfl) (Reps.one (show Kd.M (Kd.int .i64) _ _ _ t248 [.int .i64 t248] from rfl) (Reps.one (show Kd.M (Kd.int .i64) _ _ _ ((rd_T45 ((rd_T40 l0_2 x17_1).f2) x39_2).f2) [.int .i64 ((rd_T45 ((rd_T40 l0_2 x17_1).f2) x39_2).f2)] from rfl) (Reps.none _ _)))))))
               intro v250 w35 ho36 hb hg_ hnew_
               clear hg_ hnew_
               (first | rw [← Ny249.out] at ho36 | (simp only [Int.reduceToNat] at ho36; rw [← Ny249.out] at ho36))
               have n0_ := am (Kd.R_elder' (rr HO_4) (Kd.R_base ho36) hb)
               have n1_ := am (Kd.R_lower (Kd.R_new' ho36 (Kd.R_lt (rr HO_4))) (below_size (by repeat (first | (with_reducible first | exact HB.out | apply b1 | apply b2 | apply b3 | refine below_set ?_ GE231.out | refine below_set ?_ GE237.out | refine below_set ?_ GE246.out) | exact HB.out))))
               have n2_ := am (blk_below (g := gb231) (o := .cells #[.int .i64 a0_0, .int .i64 a0_1, .slice (some ad236) l0_2.length c0_2] 29 (0, 0)) (rk BK231) hb)
               have n3_ := am (blk_below (g := gb237) (o := .cells #[.int .i64 ((rd_T40 l0_2 x17_1).f0), .int .i64 ((rd_T40 l0_2 x17_1).f1), .slice (some ad245) ((rd_T40 l0_2 x17_1).f2).length c236_2] 40 (0, 0)) (rk BK237) hb)
               have n4_ := am (blk_below (g := gb246) (o := .cells #[.int .i64 ((rd_T45 ((rd_T40 l0_2 x17_1).f2) x39_2).f0), .int .i64 ((rd_T45 ((rd_T40 l0_2 x17_1).f2) x39_2).f1.f0), .int .i64 ((rd_T45 ((rd_T40 l0_2 x17_1).f2) x39_2).f1.f1), .bool ((rd_T45 ((rd_T40 l0_2 x17_1).f2) x39_2).f1.f2), .bool ((rd_T45 ((rd_T40 l0_2 x17_1).f2) x39_2).f1.f3), .bool ((rd_T45 ((rd_T40 l0_2 x17_1).f2) x39_2).f1.f4), .int .i64 ((rd_T45 ((rd_T40 l0_2 x17_1).f2) x39_2).f2)] 45 (0, 0)) (rk BK246) hb)
               have n5_ := am (below_step (by repeat (first | (with_reducible first | exact HB.out | apply b1 | apply b2 | apply b3 | refine below_set ?_ GE231.out | refine below_set ?_ GE237.out | refine below_set ?_ GE246.out) | exact HB.out)) hb)
               clear HO_4
               clear BK231
               clear BK237
               clear BK246
               clear HB
               have HO_4 := n0_
               have HO251 := n1_
               have BK231 := n2_
               have BK237 := n3_
               have BK246 := n4_
               have HB := n5_
               clear n0_ n1_ n2_ n3_ n4_ n5_
               clear hb ho36
               obtain ⟨Ao38, co38, eo38⟩ := Kd.R_slice HO251.out
               (first | subst eo38 | (injection eo38 with f1_ f2_ f3_; have f4_ := f1_.symm; have f5_ := f3_.symm; clear f1_ f2_ f3_; subst f4_; subst f5_))
               refine hK.out _ _ ⟨(blk_cell BK246.out 0).trans rfl, (blk_cell BK246.out 1).trans rfl, (blk_cell BK246.out 2).trans rfl, (blk_cell BK246.out 3).trans rfl, (blk_cell BK246.out 4).trans rfl, (blk_cell BK246.out 5).trans rfl, (blk_cell BK246.out 6).trans rfl⟩ (fun hHeld => ?_)
               clear hK K
               refine norm_ (a' := ?_) ?_ ?_
               rotate_left
               ·show Act.put _ (some 61) _ = _
                simp only [Act.put, List.setIfInBounds_toArray, List.set_cons_zero, List.set_cons_succ, i64_w, i32_w]
                rfl
               refine one_ (i := 15) (N := some 62) (bm 17 65535) rfl rfl (one_of HT_.out (by kernel_rfl)) (by decide) (fun K hK => ?_)
               refine Kd.R_append_rows_step (Kd.int .i64) (w0 := w) w.heap.size (by rfl) (.tmp 47) (.tmp 61) 47 2 (.int .i64 0) 8 rfl Tryd.underlying47 info2 rfl (by decide) (by omega) u4 x4_2 y249 _ _ _ (fun k_ => some k_ ≠ (.slice Ao38 y249.length co38 : Value).ownBlock) (fun _ => False) rfl rfl ?aO ?aR (fun _ _ h => h) (fun _ h => h.elim) ?aF ?aB ?aS ?aL ?_
               (case aR => repeat (first | exact (Kd.R_reads' HO251.out).2.2 | (with_reducible refine Kd.C_alloc ?_ _) | (with_reducible refine Kd.C_drewN ?_ _) | (with_reducible refine Kd.C_drew ?_)))
               (case aB => exact (by repeat (first | (with_reducible first | exact HB.out | apply b1 | apply b2 | apply b3 | refine below_set ?_ GE231.out | refine below_set ?_ GE237.out | refine below_set ?_ GE246.out) | exact HB.out)))
               (case aF => exact (fun k_ hk => Kd.fresh' (Kd.R_lt (rr HO251)) k_ hk))
               (case aO => exact (by (with_reducible repeat (first | apply r1 | apply r2 | apply r3)); exact Kd.R_mono HO_4.out (fun _ hk => hk.2)))
               (case aS => exact (below_size (by repeat (first | (with_reducible first | exact HB.out | apply b1 | apply b2 | apply b3 | refine below_set ?_ GE231.out | refine below_set ?_ GE237.out | refine below_set ?_ GE246.out) | exact HB.out))))
               (case aL => have := LMc27.out; omega)
               intro v253 w37 ho hb hg hat
               rw [← Ny252.out] at ho
               have n0_ := am (blk_grown (g := gb231) (o := .cells #[.int .i64 a0_0, .int .i64 a0_1, .slice (some ad236) l0_2.length c0_2] 29 (0, 0)) (rk BK231) hg (Kd.R_ne HO_4.out BK231.out (by decide)))
               have n1_ := am (blk_grown (g := gb237) (o := .cells #[.int .i64 ((rd_T40 l0_2 x17_1).f0), .int .i64 ((rd_T40 l0_2 x17_1).f1), .slice (some ad245) ((rd_T40 l0_2 x17_1).f2).length c236_2] 40 (0, 0)) (rk BK237) hg (Kd.R_ne HO_4.out BK237.out (by decide)))
               have n2_ := am (blk_grown (g := gb246) (o := .cells #[.int .i64 ((rd_T45 ((rd_T40 l0_2 x17_1).f2) x39_2).f0), .int .i64 ((rd_T45 ((rd_T40 l0_2 x17_1).f2) x39_2).f1.f0), .int .i64 ((rd_T45 ((rd_T40 l0_2 x17_1).f2) x39_2).f1.f1), .bool ((rd_T45 ((rd_T40 l0_2 x17_1).f2) x39_2).f1.f2), .bool ((rd_T45 ((rd_T40 l0_2 x17_1).f2) x39_2).f1.f3), .bool ((rd_T45 ((rd_T40 l0_2 x17_1).f2) x39_2).f1.f4), .int .i64 ((rd_T45 ((rd_T40 l0_2 x17_1).f2) x39_2).f2)] 45 (0, 0)) (rk BK246) hg (Kd.R_ne HO_4.out BK246.out (by decide)))
               have n3_ := am (Kd.R_after (ok := (fun _ => True)) (rr HO251) hg hat)
               have n4_ := am (hb)
               have n5_ := am (ho)
               clear BK231
               clear BK237
               clear BK246
               clear HO251
               clear HB
               clear HO_4
               have BK231 := n0_
               have BK237 := n1_
               have BK246 := n2_
               have HO251 := n3_
               have HB := n4_
               have HO254 := n5_
               clear n0_ n1_ n2_ n3_ n4_ n5_
               clear ho hb hg hat
               refine hK.out _ _ ⟨(blk_cell BK246.out 0).trans rfl, (blk_cell BK246.out 1).trans rfl, (blk_cell BK246.out 2).trans rfl, (blk_cell BK246.out 3).trans rfl, (blk_cell BK246.out 4).trans rfl, (blk_cell BK246.out 5).trans rfl, (blk_cell BK246.out 6).trans rfl⟩ (fun hHeld => ?_)
               clear hK K
               refine norm_ (a' := ?_) ?_ ?_
               rotate_left
               ·show Act.put _ (some 62) _ = _
                simp only [Act.put, List.setIfInBounds_toArray, List.set_cons_zero, List.set_cons_succ, i64_w, i32_w]
                rfl
               refine pu_ 16 4 (bm 17 131071) HT_.out ?_
               refine done_ (done_of HT_.out (by kernel_rfl)) ?_
               try go_wp2
               go_roundg k2
               case measure => have := HK1.out; have := HK2.out; omega
               case rel => exact ⟨(y252), (wrap64 (x39_2 + 1)), (by first | rfl | (simp; done) | (simp [*]; done)), H', ⟨by have := HK1.out; have := HK2.out; omega⟩, ⟨by (with_reducible repeat (first | apply r1 | apply r2 | apply r3)); exact Kd.R_mono HO254.out (fun _ hk => trivial)⟩, ⟨rk BK231⟩, ⟨rk BK237⟩, ⟨by repeat (first | (with_reducible first | exact HB.out | apply b1 | apply b2 | apply b3 | refine below_set ?_ GE231.out | refine below_set ?_ GE237.out | refine below_set ?_ GE246.out) | exact HB.out)⟩⟩
              ·rw [if_neg c27] at H
               exact absurd H (by simp)
             ·replace c25 := Bool.eq_false_iff.mpr c25
              subst c25
              have H1 : (some (([] : List Int), false)) = some (r1, r2) := by rw [if_neg (show ¬ (false = true) by decide)] at H; exact H
              clear H
              have H := H1
              clear H1
              simp only [Option.some.injEq, Prod.mk.injEq] at H
              obtain ⟨rfl, rfl⟩ := H
              have p245 : 0 ≤ (x39_2 : Int) := dt_
              have q245 : x39_2 < (((rd_T40 l0_2 x17_1).f2).length : Int) := dt_
              obtain ⟨ad245, e245, hx245_0, hx245_1, hx245_2, hx245_3, hx245_4, hx245_5, hx245_6⟩ := at_T45 HR236_2.out x39_2 p245 q245
              cases e245
              replace hx245_0 := mv HB.out hx245_0
              replace hx245_1 := mv HB.out hx245_1
              replace hx245_2 := mv HB.out hx245_2
              replace hx245_3 := mv HB.out hx245_3
              replace hx245_4 := mv HB.out hx245_4
              replace hx245_5 := mv HB.out hx245_5
              replace hx245_6 := mv HB.out hx245_6
              replace p245 := eq_true p245
              replace q245 := eq_true q245
              go_wp2_with (first | ((with_reducible refine gate_dst (N := 8) rfl ?_); refine box_event ?hg (N := 8) ?hd (cs := #[.int .i64 0, .int .i64 0, .int .i64 0, .bool false, .bool false, .bool false, .int .i64 0]) (t := 45) ?hr ?_; (case hd => rfl); (case hg => rfl); (case hr => first | (go_simp; done) | (go_simp; rfl)); intro gb246 hg w39 hbox hb; have n0_ := am (Kd.R_below (rr HO_4) hb); have n1_ := am (blk_below (g := gb231) (o := .cells #[.int .i64 a0_0, .int .i64 a0_1, .slice (some ad236) l0_2.length c0_2] 29 (0, 0)) (rk BK231) hb); have n2_ := am (blk_below (g := gb237) (o := .cells #[.int .i64 ((rd_T40 l0_2 x17_1).f0), .int .i64 ((rd_T40 l0_2 x17_1).f1), .slice (some ad245) ((rd_T40 l0_2 x17_1).f2).length c236_2] 40 (0, 0)) (rk BK237) hb); have n3_ := am (below_step (by repeat (first | (with_reducible first | exact HB.out | apply b1 | apply b2 | apply b3 | refine below_set ?_ GE231.out | refine below_set ?_ GE237.out) | exact HB.out)) hb); have n4_ := am (hbox); have n5_ := am ((by rw [hg]; exact (below_size (by repeat (first | (with_reducible first | exact HB.out | apply b1 | apply b2 | apply b3 | refine below_set ?_ GE231.out | refine below_set ?_ GE237.out) | exact HB.out))) : w.heap.size ≤ gb246)); have n6_ := am ((by rw [hg]; exact (below_size (by repeat (first | (with_reducible first | exact HB.out | apply b1 | apply b2 | apply b3 | refine below_set ?_ GE231.out | refine below_set ?_ GE237.out) | exact HB.out))) : w.heap.size ≤ gb246)); have n7_ := am ((by rw [hg]; exact Nat.ne_of_lt (blk_lt (g := gb231) (o := .cells #[.int .i64 a0_0, .int .i64 a0_1, .slice (some ad236) l0_2.length c0_2] 29 (0, 0)) (rk BK231)) : gb231 ≠ gb246)); have n8_ := am ((by rw [hg]; exact Nat.ne_of_gt (blk_lt (g := gb231) (o := .cells #[.int .i64 a0_0, .int .i64 a0_1, .slice (some ad236) l0_2.length c0_2] 29 (0, 0)) (rk BK231)) : gb246 ≠ gb231)); have n9_ := am ((by rw [hg]; exact Nat.ne_of_lt (blk_lt (g := gb237) (o := .cells #[.int .i64 ((rd_T40 l0_2 x17_1).f0), .int .i64 ((rd_T40 l0_2 x17_1).f1), .slice (some ad245) ((rd_T40 l0_2 x17_1).f2).length c236_2] 40 (0, 0)) (rk BK237)) : gb237 ≠ gb246)); have n10_ := am ((by rw [hg]; exact Nat.ne_of_gt (blk_lt (g := gb237) (o := .cells #[.int .i64 ((rd_T40 l0_2 x17_1).f0), .int .i64 ((rd_T40 l0_2 x17_1).f1), .slice (some ad245) ((rd_T40 l0_2 x17_1).f2).length c236_2] 40 (0, 0)) (rk BK237)) : gb246 ≠ gb237)); clear HO_4; clear BK231; clear BK237; clear HB; have HO_4 := n0_; have BK231 := n1_; have BK237 := n2_; have HB := n3_; have BK246 := n4_; have GW246 := n5_; have GE246 := n6_; have NB231_246 := n7_; have NB246_231 := n8_; have NB237_246 := n9_; have NB246_237 := n10_; clear n0_ n1_ n2_ n3_ n4_ n5_ n6_ n7_ n8_ n9_ n10_; clear hb hbox hg; have hnb40 := NB246_231.out; have hnc40 := NB231_246.out; have hnb41 := NB246_237.out; have hnc41 := NB237_246.out; have hcz42_0 : w39.cell? ⟨gb246, 0, none⟩ = some (.int .i64 0) := (blk_cell BK246.out 0).trans rfl; have hcz42_1 : w39.cell? ⟨gb246, 1, none⟩ = some (.int .i64 0) := (blk_cell BK246.out 1).trans rfl; have hcz42_2 : w39.cell? ⟨gb246, 2, none⟩ = some (.int .i64 0) := (blk_cell BK246.out 2).trans rfl; have hcz42_3 : w39.cell? ⟨gb246, 3, none⟩ = some (.bool false) := (blk_cell BK246.out 3).trans rfl; have hcz42_4 : w39.cell? ⟨gb246, 4, none⟩ = some (.bool false) := (blk_cell BK246.out 4).trans rfl; have hcz42_5 : w39.cell? ⟨gb246, 5, none⟩ = some (.bool false) := (blk_cell BK246.out 5).trans rfl; have hcz42_6 : w39.cell? ⟨gb246, 6, none⟩ = some (.int .i64 0) := (blk_cell BK246.out 6).trans rfl; have hfz42_0 := blk_frozen BK246.out 0; have hfz42_1 := blk_frozen BK246.out 1; have hfz42_2 := blk_frozen BK246.out 2; have hfz42_3 := blk_frozen BK246.out 3; have hfz42_4 := blk_frozen BK246.out 4; have hfz42_5 := blk_frozen BK246.out 5; have hfz42_6 := blk_frozen BK246.out 6) | ((with_reducible refine gate_callee (f := 33) rfl ?_); refine gl_ (some 45) Tryd.func33 #[.agg #[.int .i64 ((rd_T45 ((rd_T40 l0_2 x17_1).f2) x39_2).f1.f0), .int .i64 ((rd_T45 ((rd_T40 l0_2 x17_1).f2) x39_2).f1.f1), .bool ((rd_T45 ((rd_T40 l0_2 x17_1).f2) x39_2).f1.f2), .bool ((rd_T45 ((rd_T40 l0_2 x17_1).f2) x39_2).f1.f3), .bool ((rd_T45 ((rd_T40 l0_2 x17_1).f2) x39_2).f1.f4)]] ?_; (with_reducible refine (impl_StyleOk.calls ((rd_T45 ((rd_T40 l0_2 x17_1).f2) x39_2).f1.f0) ((rd_T45 ((rd_T40 l0_2 x17_1).f2) x39_2).f1.f1) ((rd_T45 ((rd_T40 l0_2 x17_1).f2) x39_2).f1.f2) ((rd_T45 ((rd_T40 l0_2 x17_1).f2) x39_2).f1.f3) ((rd_T45 ((rd_T40 l0_2 x17_1).f2) x39_2).f1.f4) false _ A24.out).mono ?_); rintro e w43 ⟨rfl, hb⟩; refine ⟨_, rfl, ?_⟩; have n0_ := am (Kd.R_below (by (with_reducible repeat (first | apply r1 | apply r2 | apply r3)); exact (Kd.R_mono (Kd.R_far (p := ⟨gb246, 6, none⟩) (Kd.R_far (p := ⟨gb246, 5, none⟩) (Kd.R_far (p := ⟨gb246, 4, none⟩) (Kd.R_far (p := ⟨gb246, 3, none⟩) (Kd.R_far (p := ⟨gb246, 2, none⟩) (Kd.R_far (p := ⟨gb246, 1, none⟩) (Kd.R_far (p := ⟨gb246, 0, none⟩) (Kd.R_types HO_4.out BK246.out (by decide)) (fun _ hk => hk.2) (.int .i64 ((rd_T45 ((rd_T40 l0_2 x17_1).f2) x39_2).f0))) (fun _ hk => hk.2) (.int .i64 ((rd_T45 ((rd_T40 l0_2 x17_1).f2) x39_2).f1.f0))) (fun _ hk => hk.2) (.int .i64 ((rd_T45 ((rd_T40 l0_2 x17_1).f2) x39_2).f1.f1))) (fun _ hk => hk.2) (.bool ((rd_T45 ((rd_T40 l0_2 x17_1).f2) x39_2).f1.f2))) (fun _ hk => hk.2) (.bool ((rd_T45 ((rd_T40 l0_2 x17_1).f2) x39_2).f1.f3))) (fun _ hk => hk.2) (.bool ((rd_T45 ((rd_T40 l0_2 x17_1).f2) x39_2).f1.f4))) (fun _ hk => hk.2) (.int .i64 ((rd_T45 ((rd_T40 l0_2 x17_1).f2) x39_2).f2))) (fun _ h_ => h_.1))) hb); have n1_ := am (blk_below (g := gb231) (o := .cells #[.int .i64 a0_0, .int .i64 a0_1, .slice (some ad236) l0_2.length c0_2] 29 (0, 0)) (by (with_reducible repeat (first | apply k1 | apply k2 | apply k3)); refine blk_far ?_ NB231_246.out _; (with_reducible repeat (first | apply k1 | apply k2 | apply k3)); refine blk_far ?_ NB231_246.out _; (with_reducible repeat (first | apply k1 | apply k2 | apply k3)); refine blk_far ?_ NB231_246.out _; (with_reducible repeat (first | apply k1 | apply k2 | apply k3)); refine blk_far ?_ NB231_246.out _; (with_reducible repeat (first | apply k1 | apply k2 | apply k3)); refine blk_far ?_ NB231_246.out _; (with_reducible repeat (first | apply k1 | apply k2 | apply k3)); refine blk_far ?_ NB231_246.out _; (with_reducible repeat (first | apply k1 | apply k2 | apply k3)); refine blk_far ?_ NB231_246.out _; (with_reducible repeat (first | apply k1 | apply k2 | apply k3)); exact BK231.out) hb); have n2_ := am (blk_below (g := gb237) (o := .cells #[.int .i64 ((rd_T40 l0_2 x17_1).f0), .int .i64 ((rd_T40 l0_2 x17_1).f1), .slice (some ad245) ((rd_T40 l0_2 x17_1).f2).length c236_2] 40 (0, 0)) (by (with_reducible repeat (first | apply k1 | apply k2 | apply k3)); refine blk_far ?_ NB237_246.out _; (with_reducible repeat (first | apply k1 | apply k2 | apply k3)); refine blk_far ?_ NB237_246.out _; (with_reducible repeat (first | apply k1 | apply k2 | apply k3)); refine blk_far ?_ NB237_246.out _; (with_reducible repeat (first | apply k1 | apply k2 | apply k3)); refine blk_far ?_ NB237_246.out _; (with_reducible repeat (first | apply k1 | apply k2 | apply k3)); refine blk_far ?_ NB237_246.out _; (with_reducible repeat (first | apply k1 | apply k2 | apply k3)); refine blk_far ?_ NB237_246.out _; (with_reducible repeat (first | apply k1 | apply k2 | apply k3)); refine blk_far ?_ NB237_246.out _; (with_reducible repeat (first | apply k1 | apply k2 | apply k3)); exact BK237.out) hb); have n3_ := am (blk_below (g := gb246) (o := .cells #[.int .i64 ((rd_T45 ((rd_T40 l0_2 x17_1).f2) x39_2).f0), .int .i64 ((rd_T45 ((rd_T40 l0_2 x17_1).f2) x39_2).f1.f0), .int .i64 ((rd_T45 ((rd_T40 l0_2 x17_1).f2) x39_2).f1.f1), .bool ((rd_T45 ((rd_T40 l0_2 x17_1).f2) x39_2).f1.f2), .bool ((rd_T45 ((rd_T40 l0_2 x17_1).f2) x39_2).f1.f3), .bool ((rd_T45 ((rd_T40 l0_2 x17_1).f2) x39_2).f1.f4), .int .i64 ((rd_T45 ((rd_T40 l0_2 x17_1).f2) x39_2).f2)] 45 (0, 0)) (by (with_reducible repeat (first | apply k1 | apply k2 | apply k3)); refine blk_put (cs := #[.int .i64 ((rd_T45 ((rd_T40 l0_2 x17_1).f2) x39_2).f0), .int .i64 ((rd_T45 ((rd_T40 l0_2 x17_1).f2) x39_2).f1.f0), .int .i64 ((rd_T45 ((rd_T40 l0_2 x17_1).f2) x39_2).f1.f1), .bool ((rd_T45 ((rd_T40 l0_2 x17_1).f2) x39_2).f1.f2), .bool ((rd_T45 ((rd_T40 l0_2 x17_1).f2) x39_2).f1.f3), .bool ((rd_T45 ((rd_T40 l0_2 x17_1).f2) x39_2).f1.f4), .int .i64 0]) ?_ 6 _ rfl; (with_reducible repeat (first | apply k1 | apply k2 | apply k3)); refine blk_put (cs := #[.int .i64 ((rd_T45 ((rd_T40 l0_2 x17_1).f2) x39_2).f0), .int .i64 ((rd_T45 ((rd_T40 l0_2 x17_1).f2) x39_2).f1.f0), .int .i64 ((rd_T45 ((rd_T40 l0_2 x17_1).f2) x39_2).f1.f1), .bool ((rd_T45 ((rd_T40 l0_2 x17_1).f2) x39_2).f1.f2), .bool ((rd_T45 ((rd_T40 l0_2 x17_1).f2) x39_2).f1.f3), .bool false, .int .i64 0]) ?_ 5 _ rfl; (with_reducible repeat (first | apply k1 | apply k2 | apply k3)); refine blk_put (cs := #[.int .i64 ((rd_T45 ((rd_T40 l0_2 x17_1).f2) x39_2).f0), .int .i64 ((rd_T45 ((rd_T40 l0_2 x17_1).f2) x39_2).f1.f0), .int .i64 ((rd_T45 ((rd_T40 l0_2 x17_1).f2) x39_2).f1.f1), .bool ((rd_T45 ((rd_T40 l0_2 x17_1).f2) x39_2).f1.f2), .bool false, .bool false, .int .i64 0]) ?_ 4 _ rfl; (with_reducible repeat (first | apply k1 | apply k2 | apply k3)); refine blk_put (cs := #[.int .i64 ((rd_T45 ((rd_T40 l0_2 x17_1).f2) x39_2).f0), .int .i64 ((rd_T45 ((rd_T40 l0_2 x17_1).f2) x39_2).f1.f0), .int .i64 ((rd_T45 ((rd_T40 l0_2 x17_1).f2) x39_2).f1.f1), .bool false, .bool false, .bool false, .int .i64 0]) ?_ 3 _ rfl; (with_reducible repeat (first | apply k1 | apply k2 | apply k3)); refine blk_put (cs := #[.int .i64 ((rd_T45 ((rd_T40 l0_2 x17_1).f2) x39_2).f0), .int .i64 ((rd_T45 ((rd_T40 l0_2 x17_1).f2) x39_2).f1.f0), .int .i64 0, .bool false, .bool false, .bool false, .int .i64 0]) ?_ 2 _ rfl; (with_reducible repeat (first | apply k1 | apply k2 | apply k3)); refine blk_put (cs := #[.int .i64 ((rd_T45 ((rd_T40 l0_2 x17_1).f2) x39_2).f0), .int .i64 0, .int .i64 0, .bool false, .bool false, .bool false, .int .i64 0]) ?_ 1 _ rfl; (with_reducible repeat (first | apply k1 | apply k2 | apply k3)); refine blk_put (cs := #[.int .i64 0, .int .i64 0, .int .i64 0, .bool false, .bool false, .bool false, .int .i64 0]) ?_ 0 _ rfl; (with_reducible repeat (first | apply k1 | apply k2 | apply k3)); exact BK246.out) hb); have n4_ := am (below_step (by repeat (first | (with_reducible first | exact HB.out | apply b1 | apply b2 | apply b3 | refine below_set ?_ GE231.out | refine below_set ?_ GE237.out | refine below_set ?_ GE246.out) | exact HB.out)) hb); clear HO_4; clear BK231; clear BK237; clear BK246; clear HB; have HO_4 := n0_; have BK231 := n1_; have BK237 := n2_; have BK246 := n3_; have HB := n4_; clear n0_ n1_ n2_ n3_ n4_; (try clear hb); (try clear hb2); (try clear hk); (try clear hi)))
              go_ret2
              exact ⟨_, by first | rfl | (simp [errW_none, errW_some] <;> rfl) | (simp [*, errW_none, errW_some] <;> rfl), by first | exact Kd.R_nil _ _ _ _ _ | exact Kd.N_nil _ _ _ _ _ | exact Kd.V_nil _ _ _ _ _ | exact Kd.Q_nil _ _ _ _ _ | exact Kd.S_nil _ _ _ _ _, by repeat (first | (with_reducible first | exact HB.out | apply b1 | apply b2 | apply b3 | refine below_set ?_ GE231.out | refine below_set ?_ GE237.out | refine below_set ?_ GE246.out) | exact HB.out)⟩
            ·rw [if_neg c23] at H
             exact absurd H (by simp)
           ·rw [if_neg c22] at H
            exact absurd H (by simp)
          ·rw [if_neg c21] at H
           have c21b0 : decide (x39_2 < (((rd_T40 l0_2 x17_1).f2).length : Int)) = false := decide_eq_false c21
           clear c21
           have H' := am H
           clear H
           go_wp2
           go_roundg k2
           case measure => have := HK1.out; have := HK2.out; omega
           case rel => exact ⟨(x4_2), (wrap64 (x17_1 + 1)), (by first | rfl | (simp; done) | (simp [*]; done)), H', ⟨by have := HK1.out; have := HK2.out; omega⟩, ⟨rr HO_4⟩, ⟨rk BK231⟩, ⟨by repeat (first | (with_reducible first | exact HB.out | apply b1 | apply b2 | apply b3 | refine below_set ?_ GE231.out | refine below_set ?_ GE237.out) | exact HB.out)⟩⟩
       ·rw [if_neg c12] at H
        exact absurd H (by simp)
      ·replace c11 := Bool.eq_false_iff.mpr c11
       subst c11
       have H1 : (some (([] : List Int), false)) = some (r1, r2) := by rw [if_neg (show ¬ (false = true) by decide)] at H; exact H
       clear H
       have H := H1
       clear H1
       simp only [Option.some.injEq, Prod.mk.injEq] at H
       obtain ⟨rfl, rfl⟩ := H
       have p236 : 0 ≤ (x17_1 : Int) := dt_
       have q236 : x17_1 < (l0_2.length : Int) := dt_
       obtain ⟨ad236, A236_2, c236_2, e236, hx236_0, hx236_1, hx236_2, hl236_2, hi236_2⟩ := at_T40 HR0_2.out x17_1 p236 q236
       cases e236
       replace hx236_0 := mv HB.out hx236_0
       replace hx236_1 := mv HB.out hx236_1
       replace hx236_2 := mv HB.out hx236_2
       have HR236_2 := am hi236_2
       have HC236_2 := am hl236_2
       clear hi236_2 hl236_2
       replace p236 := eq_true p236
       replace q236 := eq_true q236
       go_wp2_with (first | ((with_reducible refine gate_dst (N := 6) rfl ?_); refine box_event ?hg (N := 6) ?hd (cs := #[.int .i64 0, .int .i64 0, .slice none 0 0]) (t := 40) ?hr ?_; (case hd => rfl); (case hg => rfl); (case hr => first | (go_simp; done) | (go_simp; rfl)); intro gb237 hg w44 hbox hb; have n0_ := am (Kd.R_below (rr HO_4) hb); have n1_ := am (blk_below (g := gb231) (o := .cells #[.int .i64 a0_0, .int .i64 a0_1, .slice (some ad236) l0_2.length c0_2] 29 (0, 0)) (rk BK231) hb); have n2_ := am (below_step (rb1 HB GE231) hb); have n3_ := am (hbox); have n4_ := am ((by rw [hg]; exact (below_size (rb1 HB GE231)) : w.heap.size ≤ gb237)); have n5_ := am ((by rw [hg]; exact (below_size (rb1 HB GE231)) : w.heap.size ≤ gb237)); have n6_ := am ((by rw [hg]; exact Nat.ne_of_lt (blk_lt (g := gb231) (o := .cells #[.int .i64 a0_0, .int .i64 a0_1, .slice (some ad236) l0_2.length c0_2] 29 (0, 0)) (rk BK231)) : gb231 ≠ gb237)); have n7_ := am ((by rw [hg]; exact Nat.ne_of_gt (blk_lt (g := gb231) (o := .cells #[.int .i64 a0_0, .int .i64 a0_1, .slice (some ad236) l0_2.length c0_2] 29 (0, 0)) (rk BK231)) : gb237 ≠ gb231)); clear HO_4; clear BK231; clear HB; have HO_4 := n0_; have BK231 := n1_; have HB := n2_; have BK237 := n3_; have GW237 := n4_; have GE237 := n5_; have NB231_237 := n6_; have NB237_231 := n7_; clear n0_ n1_ n2_ n3_ n4_ n5_ n6_ n7_; clear hb hbox hg; have hnb45 := NB237_231.out; have hnc45 := NB231_237.out; have hcz46_0 : w44.cell? ⟨gb237, 0, none⟩ = some (.int .i64 0) := (blk_cell BK237.out 0).trans rfl; have hcz46_1 : w44.cell? ⟨gb237, 1, none⟩ = some (.int .i64 0) := (blk_cell BK237.out 1).trans rfl; have hcz46_2 : w44.cell? ⟨gb237, 2, none⟩ = some (.slice none 0 0) := (blk_cell BK237.out 2).trans rfl; have hfz46_0 := blk_frozen BK237.out 0; have hfz46_1 := blk_frozen BK237.out 1; have hfz46_2 := blk_frozen BK237.out 2) | ((with_reducible refine gate_callee (f := 26) rfl ?_); refine gl_ (some 24) Tryd.func26 #[.int .i64 (((rd_T40 l0_2 x17_1).f2).length : Int), .int .i64 1, .int .i64 60] ?_; (with_reducible refine (impl_in.calls (((rd_T40 l0_2 x17_1).f2).length : Int) 1 60 false _ A10.out).mono ?_); rintro e w' ⟨rfl, ⟨nd, rfl⟩⟩; refine ⟨_, rfl, ?_⟩))
       go_ret2
       exact ⟨_, by first | rfl | (simp [errW_none, errW_some] <;> rfl) | (simp [*, errW_none, errW_some] <;> rfl), by first | exact Kd.R_nil _ _ _ _ _ | exact Kd.N_nil _ _ _ _ _ | exact Kd.V_nil _ _ _ _ _ | exact Kd.Q_nil _ _ _ _ _ | exact Kd.S_nil _ _ _ _ _, by repeat (first | (with_reducible first | exact HB.out | apply b1 | apply b2 | apply b3 | refine below_set ?_ GE231.out | refine below_set ?_ GE237.out) | exact HB.out)⟩
     ·rw [if_neg c9] at H
      exact absurd H (by simp)
    ·rw [if_neg c8] at H
     exact absurd H (by simp)
   ·rw [if_neg c7] at H
    have c7b0 : decide (x17_1 < (l0_2.length : Int)) = false := decide_eq_false c7
    clear c7
    replace H := Option.bind_eq_some_iff.mp H
    obtain ⟨t235, A470, H⟩ := H
    replace H : (some (x4_1, !t235)) = some (r1, r2) := H
    have A47 := am A470
    clear A470
    simp only [Option.some.injEq, Prod.mk.injEq] at H
    obtain ⟨rfl, rfl⟩ := H
    obtain ⟨Ao48, co48, eo48⟩ := Kd.R_slice HO_4.out
    subst eo48
    go_wp2_with (first | ((with_reducible refine gate_callee (f := 35) rfl ?_); refine gl_ (some 67) Tryd.func35 #[.slice Ao48 x4_1.length co48, .func (.func 36) #[] #[]] ?_; (with_reducible refine (slices_ContainsFunc_int64_int64_impl_Patch_numbers_lit1.calls k1 _ _ x4_1 t235 _ ?side1 ?side2 A47.out).mono ?_); (case side1 => repeat (first | exact (Kd.R_reads' HO_4.out).2.2 | (with_reducible refine Kd.C_alloc ?_ _) | (with_reducible refine Kd.C_drewN ?_ _) | (with_reducible refine Kd.C_drew ?_))); (case side2 => exact (Kd.R_reads' HO_4.out).2.1); rintro e w' ⟨rfl, ⟨nd, rfl⟩⟩; refine ⟨_, rfl, ?_⟩))
    go_ret2
    exact ⟨_, by first | rfl | (simp [errW_none, errW_some] <;> rfl) | (simp [*, errW_none, errW_some] <;> rfl), by (with_reducible repeat (first | apply r1 | apply r2 | apply r3)); exact HO_4.out, by repeat (first | (with_reducible first | exact HB.out | apply b1 | apply b2 | apply b3 | refine below_set ?_ GE231.out) | exact HB.out)⟩

end Go.Proofs.YtalopdcephohgaaDoor.SB
