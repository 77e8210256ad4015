/- Contracts of Go functions that laws of this seat reach: each Lean function answers as its Go function does. No condition. Written by wip/tools/inj.py, over the kit's print. -/
import Derived.Test.YtalopdcephohgaaDoorSBx0
import Derived.Test.YtalopdcephohgaaDoorSBx5
namespace Go.Proofs.YtalopdcephohgaaDoor.SB
open Go.RowKit Go.Proofs.YtalopdcephohgaaDoorW.PrintWords Go.Proofs.YtalopdcephohgaaDoorW.PrintLast Go.Proofs.YtalopdcephohgaaDoorW.PrintMore
attribute [local go_sem] max2_int min2_int max_two min_two max_three min_three max_four min_four   -- for this text's walks alone
set_option linter.unusedVariables false
set_option linter.unusedSimpArgs false

/-! ### spec_l10Numbers: function 16 -/
mutual
def spec_l10Numbers.l0 : Nat → List Int → Int → Int → Int → List (S40) → Option (List Int)
 | 0, _, _, _, _, _ => none
 | k + 1, x3, x4, x126000, x126001, x126002 => if x4 < (x126002.length : Int) then (if 0 ≤ x4 then ((some (([(rd_T40 x126002 x4).f0, (rd_T40 x126002 x4).f1, (((rd_T40 x126002 x4).f2).length : Int)] : List Int) : List Int)).bind fun y131 => (if x3.length + y131.length < 17592186044416 then (spec_l10Numbers.l1 k (x3 ++ y131) x4 0 x126000 x126001 x126002 ((rd_T40 x126002 x4).f0) ((rd_T40 x126002 x4).f1) ((rd_T40 x126002 x4).f2)) else (none))) else (none)) else (some x3)
def spec_l10Numbers.l1 : Nat → List Int → Int → Int → Int → Int → List (S40) → Int → Int → List (S45) → Option (List Int)
 | 0, _, _, _, _, _, _, _, _, _ => none
 | k + 1, x3, x4, x6, x126000, x126001, x126002, x131000, x131001, x131002 => if x6 < (x131002.length : Int) then (if 0 ≤ x6 then ((spec_l10Flags.f ((rd_T45 x131002 x6).f1.f0) ((rd_T45 x131002 x6).f1.f1) ((rd_T45 x131002 x6).f1.f2) ((rd_T45 x131002 x6).f1.f3) ((rd_T45 x131002 x6).f1.f4)).bind fun t139 => ((some (([(rd_T45 x131002 x6).f0, (rd_T45 x131002 x6).f1.f0, (rd_T45 x131002 x6).f1.f1, t139, (rd_T45 x131002 x6).f2] : List Int) : List Int)).bind fun y140 => (if x3.length + y140.length < 17592186044416 then (spec_l10Numbers.l1 k (x3 ++ y140) x4 (wrap64 (x6 + 1)) x126000 x126001 x126002 x131000 x131001 x131002) else (none)))) else (none)) else (spec_l10Numbers.l0 k x3 (wrap64 (x4 + 1)) x126000 x126001 x126002)
end
def spec_l10Numbers.f (k : Nat) (a0_0 : Int) (a0_1 : Int) (l0_2 : List (S40)) : Option (List Int) := spec_l10Numbers.l0 k (([a0_0, a0_1] : List Int)) 0 a0_0 a0_1 l0_2
theorem spec_l10Numbers.mono_l : ∀ k, (∀ y0 y1 y2 y3 y4, LeO (spec_l10Numbers.l0 k y0 y1 y2 y3 y4) (spec_l10Numbers.l0 (k + 1) y0 y1 y2 y3 y4)) ∧ (∀ y0 y1 y2 y3 y4 y5 y6 y7 y8, LeO (spec_l10Numbers.l1 k y0 y1 y2 y3 y4 y5 y6 y7 y8) (spec_l10Numbers.l1 (k + 1) y0 y1 y2 y3 y4 y5 y6 y7 y8))
 | 0 => ⟨fun _ _ _ _ _ r h => by simp [spec_l10Numbers.l0] at h, fun _ _ _ _ _ _ _ _ _ r h => by simp [spec_l10Numbers.l1] at h⟩
 | k + 1 => by
  obtain ⟨ih0, ih1⟩ := spec_l10Numbers.mono_l k
  refine ⟨?_, ?_⟩
  ·intro y0 y1 y2 y3 y4
   unfold spec_l10Numbers.l0
   repeat' first
   | (with_reducible exact ih0 _ _ _ _ _)
   | (with_reducible exact ih1 _ _ _ _ _ _ _ _ _)
   | (with_reducible exact LeO.refl _)
   | (with_reducible exact LeO.none _)
   | (with_reducible refine LeO.ite ?_ ?_)
   | (with_reducible refine LeO.bind ?_ (fun _ => ?_))
   | exact ih0 _ _ _ _ _
   | exact ih1 _ _ _ _ _ _ _ _ _
   | exact LeO.none _
   | refine LeO.ite ?_ ?_
   | refine LeO.bind ?_ (fun _ => ?_)
  ·intro y0 y1 y2 y3 y4 y5 y6 y7 y8
   unfold spec_l10Numbers.l1
   repeat' first
   | (with_reducible exact ih0 _ _ _ _ _)
   | (with_reducible exact ih1 _ _ _ _ _ _ _ _ _)
   | (with_reducible exact LeO.refl _)
   | (with_reducible exact LeO.none _)
   | (with_reducible refine LeO.ite ?_ ?_)
   | (with_reducible refine LeO.bind ?_ (fun _ => ?_))
   | exact ih0 _ _ _ _ _
   | exact ih1 _ _ _ _ _ _ _ _ _
   | exact LeO.none _
   | refine LeO.ite ?_ ?_
   | refine LeO.bind ?_ (fun _ => ?_)
theorem spec_l10Numbers.mono : ∀ a0 a1 a2 k, LeO (spec_l10Numbers.f k a0 a1 a2) (spec_l10Numbers.f (k + 1) a0 a1 a2) := by
 intro a0 a1 a2 k
 obtain ⟨ih0, ih1⟩ := spec_l10Numbers.mono_l k
 unfold spec_l10Numbers.f
 repeat' first
   | (with_reducible exact ih0 _ _ _ _ _)
   | (with_reducible exact ih1 _ _ _ _ _ _ _ _ _)
   | (with_reducible exact LeO.refl _)
   | (with_reducible exact LeO.none _)
   | (with_reducible refine LeO.ite ?_ ?_)
   | (with_reducible refine LeO.bind ?_ (fun _ => ?_))
   | exact ih0 _ _ _ _ _
   | exact ih1 _ _ _ _ _ _ _ _ _
   | exact LeO.none _
   | refine LeO.ite ?_ ?_
   | refine LeO.bind ?_ (fun _ => ?_)
def spec_l10Numbers.T11 : Bool × List (List Nat × List Nat) := (true, [([], []), ([], []), ([1], [1]), ([], []), ([3], [3]), ([4], [4]), ([], []), ([6], [6]), ([7], [7]), ([], []), ([9], [9]), ([10], [10]), ([], []), ([12], [12]), ([2, 5, 8, 11, 13], [2, 5, 8, 11, 13]), ([0, 14, 11], [0, 14]), ([15, 15, 0, 1, 2, 3, 4, 5, 6, 7, 8, 9, 10, 11, 12, 13, 14, 15], [0, 15])])
def spec_l10Numbers.B11 : List Nat := [0, 0, 2, 0, 8, 24, 0, 64, 192, 0, 512, 1536, 0, 4096, 16382, 32767, 65535]
theorem spec_l10Numbers.tab11 : rtab .any (opsOf Tryd.f16 11) = spec_l10Numbers.T11 := by kernel_rfl
theorem spec_l10Numbers.bits11 : waitsOk spec_l10Numbers.T11.2 spec_l10Numbers.B11 = true := by kernel_rfl
set_option maxHeartbeats 8000000 in
set_option maxRecDepth 100000 in
theorem spec_l10Numbers.calls (k : Nat) (a0_0 : Int) (a0_1 : Int) (A0_2 : Option Addr) (c0_2 : Nat) (l0_2 : List (S40)) (r : List Int) (w : World) (hr0_2 : Kd.C k40 w A0_2 l0_2.length l0_2) (hc0_2 : l0_2.length ≤ c0_2) (h : spec_l10Numbers.f k a0_0 a0_1 l0_2 = some r) :
  Calls Tryd.prog 16 #[.agg #[.int .i64 a0_0, .int .i64 a0_1, .slice A0_2 l0_2.length c0_2]] w fun e w' => ∃ v0_ : Value, e = .returned (v0_) ∧ Kd.R (Kd.int .i64) 2 w' w.heap.size (fun _ => True) v0_ r ∧ Below w.heap.size w w' := by
 have hu29 := Tryd.underlying29
 have hu40 := Tryd.underlying40
 have hu45 := Tryd.underlying45
 have hu43 := Tryd.underlying43
 have HR0_2 := am hr0_2
 have HC0_2 := am hc0_2
 clear hr0_2 hc0_2
 have HB := am (Below.refl w.heap.size w)
 have H : (spec_l10Numbers.l0 k (([a0_0, a0_1] : List Int)) 0 a0_0 a0_1 l0_2) = some r := h
 clear h
 obtain ⟨y126, hy126⟩ : ∃ y_ : List Int, y_ = (([a0_0, a0_1] : List Int)) := ⟨_, rfl⟩
 replace H : (spec_l10Numbers.l0 k y126 0 a0_0 a0_1 l0_2) = some r := by first | (rw [hy126]; with_reducible exact H) | (rw [hy126]; exact H) | exact H
 have Ny126 := am hy126
 clear hy126
 have H' := am H
 clear H
 go_enter Tryd.func16, Tryd.ntmps16
 go_wp2_with (first | ((with_reducible refine gate_dst (N := 1) rfl ?_); refine box_event ?hg (N := 1) ?hd (cs := #[.int .i64 a0_0, .int .i64 a0_1, .slice A0_2 l0_2.length c0_2]) (t := 29) ?hr ?_; (case hd => rfl); (case hg => rfl); (case hr => first | (go_simp; done) | (go_simp; rfl)); intro gb125 hg w2 hbox hb; have n0_ := am (below_step (rb HB) hb); have n1_ := am (hbox); have n2_ := am ((by rw [hg]; exact (below_size (rb HB)) : w.heap.size ≤ gb125)); have n3_ := am ((by rw [hg]; exact (below_size (rb HB)) : w.heap.size ≤ gb125)); clear HB; have HB := n0_; have BK125 := n1_; have GW125 := n2_; have GE125 := n3_; clear n0_ n1_ n2_ n3_; clear hb hbox hg; have hcz3_0 : w2.cell? ⟨gb125, 0, none⟩ = some (.int .i64 a0_0) := (blk_cell BK125.out 0).trans rfl; have hcz3_1 : w2.cell? ⟨gb125, 1, none⟩ = some (.int .i64 a0_1) := (blk_cell BK125.out 1).trans rfl; have hcz3_2 : w2.cell? ⟨gb125, 2, none⟩ = some (.slice A0_2 l0_2.length c0_2) := (blk_cell BK125.out 2).trans rfl; have hfz3_0 := blk_frozen BK125.out 0; have hfz3_1 := blk_frozen BK125.out 1; have hfz3_2 := blk_frozen BK125.out 2) | ((with_reducible refine gate_dst (N := 12) rfl ?_); refine Kd.R_lit (Kd.int .i64) _ 2 ?hg (N := 12) ?hd (xs := ([a0_0, a0_1] : List Int)) (inner := [.int .i64 a0_0, .int .i64 a0_1]) (ok := fun _ => True) (okp := fun _ => True) ?hr ?hp (fun _ hk => hk) trivial (Below.refl _ _) (Nat.le_refl _) (by simp) ?_; (case hd => rfl); (case hg => rfl); (case hr => first | (go_simp; done) | (go_simp; rfl)); (case hp => exact (Reps.one (show Kd.M (Kd.int .i64) _ _ _ a0_0 [.int .i64 a0_0] from rfl) (Reps.one (show Kd.M (Kd.int .i64) _ _ _ a0_1 [.int .i64 a0_1] from rfl) (Reps.none _ _)))); intro v127 w4 ho5 hb hg_ hnew_; clear hg_ hnew_; (first | rw [← Ny126.out] at ho5 | (simp only [Int.reduceToNat] at ho5; rw [← Ny126.out] at ho5)); have n0_ := am (Kd.R_lower ho5 (below_size (rb1 HB GE125))); have n1_ := am (blk_below (g := gb125) (o := .cells #[.int .i64 a0_0, .int .i64 a0_1, .slice A0_2 l0_2.length c0_2] 29 (0, 0)) (rk BK125) hb); have n2_ := am (below_step (rb1 HB GE125) hb); clear BK125; clear HB; have HO128 := n0_; have BK125 := n1_; have HB := n2_; clear n0_ n1_ n2_; clear hb ho5))
 go_loopg [3, 4] k (fun kq v3 v4 w' => ∃ (x3_1 : List Int) (x4_1 : Int), v4 = .int .i64 x4_1 ∧ Aside0 (spec_l10Numbers.l0 kq x3_1 x4_1 a0_0 a0_1 l0_2 = some r) ∧ Aside0 (kq ≤ k) ∧ Aside0 (Kd.R (Kd.int .i64) 2 w' w.heap.size (fun _ => True) v3 x3_1) ∧ Aside0 (w'.heap[gb125]? = some (.cells #[.int .i64 a0_0, .int .i64 a0_1, (.slice A0_2 l0_2.length c0_2)] 29 (0, 0))) ∧ Aside0 (Below w.heap.size w w'))
 case atStart => exact ⟨(y126), (0), (by first | rfl | (simp; done) | (simp [*]; done)), H', ⟨Nat.le_refl _⟩, ⟨rr HO128⟩, ⟨rk BK125⟩, ⟨by repeat (first | (with_reducible first | exact HB.out | apply b1 | apply b2 | apply b3 | refine below_set ?_ GE125.out) | exact HB.out)⟩⟩
 case round =>
  clear H'
  try clear c1
  try clear p2
  try clear hcz3_0
  try clear hcz3_1
  try clear hcz3_2
  try clear hfz3_0
  try clear hfz3_1
  try clear hfz3_2
  obtain ⟨x3_1, x4_1, rfl, HA, HK1, HO_3, BK125, HB⟩ := hrel
  cases gk with
  | zero => exact absurd HA.out (by simp [spec_l10Numbers.l0])
  | succ k1 =>
   have H := HA.out
   clear HA
   simp only [spec_l10Numbers.l0] at H
   by_cases c6 : x4_1 < (l0_2.length : Int)
   ·rw [if_pos c6] at H
    have c6b0 : decide (x4_1 < (l0_2.length : Int)) = true := decide_eq_true c6
    clear c6
    by_cases c7 : 0 ≤ x4_1
    ·rw [if_pos c7] at H
     have c7b0 : decide (0 ≤ x4_1) = true := decide_eq_true c7
     clear c7
     obtain ⟨y131, hy131⟩ : ∃ y_ : List Int, y_ = (([(rd_T40 l0_2 x4_1).f0, (rd_T40 l0_2 x4_1).f1, (((rd_T40 l0_2 x4_1).f2).length : Int)] : List Int)) := ⟨_, rfl⟩
     replace H : (if x3_1.length + y131.length < 17592186044416 then (spec_l10Numbers.l1 k1 (x3_1 ++ y131) x4_1 0 a0_0 a0_1 l0_2 ((rd_T40 l0_2 x4_1).f0) ((rd_T40 l0_2 x4_1).f1) ((rd_T40 l0_2 x4_1).f2)) else (none)) = some r := by first | (rw [hy131]; with_reducible exact H) | (rw [hy131]; exact H) | exact H
     have Ny131 := am hy131
     clear hy131
     by_cases c8 : x3_1.length + y131.length < 17592186044416
     ·rw [if_pos c8] at H
      have LMc8 := am c8
      clear c8
      obtain ⟨y134, hy134⟩ : ∃ y_ : List Int, y_ = (x3_1 ++ y131) := ⟨_, rfl⟩
      replace H : (spec_l10Numbers.l1 k1 y134 x4_1 0 a0_0 a0_1 l0_2 ((rd_T40 l0_2 x4_1).f0) ((rd_T40 l0_2 x4_1).f1) ((rd_T40 l0_2 x4_1).f2)) = some r := by first | (rw [hy134]; with_reducible exact H) | (rw [hy134]; exact H) | exact H
      have Ny134 := am hy134
      clear hy134
      have H' := am H
      clear H
      have hcz9_0 : wr.cell? ⟨gb125, 0, none⟩ = some (.int .i64 a0_0) := (blk_cell BK125.out 0).trans rfl
      have hcz9_1 : wr.cell? ⟨gb125, 1, none⟩ = some (.int .i64 a0_1) := (blk_cell BK125.out 1).trans rfl
      have hcz9_2 : wr.cell? ⟨gb125, 2, none⟩ = some (.slice A0_2 l0_2.length c0_2) := (blk_cell BK125.out 2).trans rfl
      have hfz9_0 := blk_frozen BK125.out 0
      have hfz9_1 := blk_frozen BK125.out 1
      have hfz9_2 := blk_frozen BK125.out 2
      have p129 : 0 ≤ (x4_1 : Int) := dt_
      have q129 : x4_1 < (l0_2.length : Int) := dt_
      obtain ⟨ad129, A129_2, c129_2, e129, hx129_0, hx129_1, hx129_2, hl129_2, hi129_2⟩ := at_T40 HR0_2.out x4_1 p129 q129
      cases e129
      replace hx129_0 := mv HB.out hx129_0
      replace hx129_1 := mv HB.out hx129_1
      replace hx129_2 := mv HB.out hx129_2
      have HR129_2 := am hi129_2
      have HC129_2 := am hl129_2
      clear hi129_2 hl129_2
      replace p129 := eq_true p129
      replace q129 := eq_true q129
      go_wp2_with (first | ((with_reducible refine gate_dst (N := 5) rfl ?_); refine box_event ?hg (N := 5) ?hd (cs := #[.int .i64 0, .int .i64 0, .slice none 0 0]) (t := 40) ?hr ?_; (case hd => rfl); (case hg => rfl); (case hr => first | (go_simp; done) | (go_simp; rfl)); intro gb130 hg w10 hbox hb; have n0_ := am (Kd.R_below (rr HO_3) hb); have n1_ := am (blk_below (g := gb125) (o := .cells #[.int .i64 a0_0, .int .i64 a0_1, .slice (some ad129) l0_2.length c0_2] 29 (0, 0)) (rk BK125) hb); have n2_ := am (below_step (rb1 HB GE125) hb); have n3_ := am (hbox); have n4_ := am ((by rw [hg]; exact (below_size (rb1 HB GE125)) : w.heap.size ≤ gb130)); have n5_ := am ((by rw [hg]; exact (below_size (rb1 HB GE125)) : w.heap.size ≤ gb130)); have n6_ := am ((by rw [hg]; exact Nat.ne_of_lt (blk_lt (g := gb125) (o := .cells #[.int .i64 a0_0, .int .i64 a0_1, .slice (some ad129) l0_2.length c0_2] 29 (0, 0)) (rk BK125)) : gb125 ≠ gb130)); have n7_ := am ((by rw [hg]; exact Nat.ne_of_gt (blk_lt (g := gb125) (o := .cells #[.int .i64 a0_0, .int .i64 a0_1, .slice (some ad129) l0_2.length c0_2] 29 (0, 0)) (rk BK125)) : gb130 ≠ gb125)); clear HO_3; clear BK125; clear HB; have HO_3 := n0_; have BK125 := n1_; have HB := n2_; have BK130 := n3_; have GW130 := n4_; have GE130 := n5_; have NB125_130 := n6_; have NB130_125 := n7_; clear n0_ n1_ n2_ n3_ n4_ n5_ n6_ n7_; clear hb hbox hg; have hnb11 := NB130_125.out; have hnc11 := NB125_130.out; have hcz12_0 : w10.cell? ⟨gb130, 0, none⟩ = some (.int .i64 0) := (blk_cell BK130.out 0).trans rfl; have hcz12_1 : w10.cell? ⟨gb130, 1, none⟩ = some (.int .i64 0) := (blk_cell BK130.out 1).trans rfl; have hcz12_2 : w10.cell? ⟨gb130, 2, none⟩ = some (.slice none 0 0) := (blk_cell BK130.out 2).trans rfl; have hfz12_0 := blk_frozen BK130.out 0; have hfz12_1 := blk_frozen BK130.out 1; have hfz12_2 := blk_frozen BK130.out 2) | ((with_reducible refine gate_dst (N := 33) rfl ?_); refine Kd.R_lit (Kd.int .i64) _ 2 ?hg (N := 33) ?hd (xs := ([(rd_T40 l0_2 x4_1).f0, (rd_T40 l0_2 x4_1).f1, (((rd_T40 l0_2 x4_1).f2).length : Int)] : List Int)) (inner := [.int .i64 ((rd_T40 l0_2 x4_1).f0), .int .i64 ((rd_T40 l0_2 x4_1).f1), .int .i64 (((rd_T40 l0_2 x4_1).f2).length : Int)]) (ok := fun _ => True) (okp := fun _ => True) ?hr ?hp (fun _ hk => hk) trivial (Below.refl _ _) (Nat.le_refl _) (by simp) ?_; (case hd => rfl); (case hg => rfl); (case hr => first | (go_simp; done) | (go_simp; rfl)); (case hp => exact (Reps.one (show Kd.M (Kd.int .i64) _ _ _ ((rd_T40 l0_2 x4_1).f0) [.int .i64 ((rd_T40 l0_2 x4_1).f0)] from rfl) (Reps.one (show Kd.M (Kd.int .i64) _ _ _ ((rd_T40 l0_2 x4_1).f1) [.int .i64 ((rd_T40 l0_2 x4_1).f1)] from rfl) (Reps.one (show Kd.M (Kd.int .i64) _ _ _ (((rd_T40 l0_2 x4_1).f2).length : Int) [.int .i64 (((rd_T40 l0_2 x4_1).f2).length : Int)] from rfl) (Reps.none _ _))))); intro v132 w13 ho14 hb hg_ hnew_; clear hg_ hnew_; (first | rw [← Ny131.out] at ho14 | (simp only [Int.reduceToNat] at ho14; rw [← Ny131.out] at ho14)); have n0_ := am (Kd.R_elder' (by (with_reducible repeat (first | apply r1 | apply r2 | apply r3)); exact (Kd.R_mono (Kd.R_far (p := ⟨gb130, 2, none⟩) (Kd.R_far (p := ⟨gb130, 1, none⟩) (Kd.R_far (p := ⟨gb130, 0, none⟩) (Kd.R_types HO_3.out BK130.out (by decide)) (fun _ hk => hk.2) (.int .i64 ((rd_T40 l0_2 x4_1).f0))) (fun _ hk => hk.2) (.int .i64 ((rd_T40 l0_2 x4_1).f1))) (fun _ hk => hk.2) (.slice A129_2 ((rd_T40 l0_2 x4_1).f2).length c129_2)) (fun _ h_ => h_.1))) (Kd.R_base ho14) hb); have n1_ := am (Kd.R_lower (Kd.R_new' ho14 (Kd.R_lt (by (with_reducible repeat (first | apply r1 | apply r2 | apply r3)); exact (Kd.R_mono (Kd.R_far (p := ⟨gb130, 2, none⟩) (Kd.R_far (p := ⟨gb130, 1, none⟩) (Kd.R_far (p := ⟨gb130, 0, none⟩) (Kd.R_types HO_3.out BK130.out (by decide)) (fun _ hk => hk.2) (.int .i64 ((rd_T40 l0_2 x4_1).f0))) (fun _ hk => hk.2) (.int .i64 ((rd_T40 l0_2 x4_1).f1))) (fun _ hk => hk.2) (.slice A129_2 ((rd_T40 l0_2 x4_1).f2).length c129_2)) (fun _ h_ => h_.1))))) (below_size (by repeat (first | (with_reducible first | exact HB.out | apply b1 | apply b2 | apply b3 | refine below_set ?_ GE125.out | refine below_set ?_ GE130.out) | exact HB.out)))); have n2_ := am (blk_below (g := gb125) (o := .cells #[.int .i64 a0_0, .int .i64 a0_1, .slice (some ad129) l0_2.length c0_2] 29 (0, 0)) (by (with_reducible repeat (first | apply k1 | apply k2 | apply k3)); refine blk_far ?_ NB125_130.out _; (with_reducible repeat (first | apply k1 | apply k2 | apply k3)); refine blk_far ?_ NB125_130.out _; (with_reducible repeat (first | apply k1 | apply k2 | apply k3)); refine blk_far ?_ NB125_130.out _; (with_reducible repeat (first | apply k1 | apply k2 | apply k3)); exact BK125.out) hb); have n3_ := am (blk_below (g := gb130) (o := .cells #[.int .i64 ((rd_T40 l0_2 x4_1).f0), .int .i64 ((rd_T40 l0_2 x4_1).f1), .slice A129_2 ((rd_T40 l0_2 x4_1).f2).length c129_2] 40 (0, 0)) (by (with_reducible repeat (first | apply k1 | apply k2 | apply k3)); refine blk_put (cs := #[.int .i64 ((rd_T40 l0_2 x4_1).f0), .int .i64 ((rd_T40 l0_2 x4_1).f1), .slice none 0 0]) ?_ 2 _ rfl; (with_reducible repeat (first | apply k1 | apply k2 | apply k3)); refine blk_put (cs := #[.int .i64 ((rd_T40 l0_2 x4_1).f0), .int .i64 0, .slice none 0 0]) ?_ 1 _ rfl; (with_reducible repeat (first | apply k1 | apply k2 | apply k3)); refine blk_put (cs := #[.int .i64 0, .int .i64 0, .slice none 0 0]) ?_ 0 _ rfl; (with_reducible repeat (first | apply k1 | apply k2 | apply k3)); exact BK130.out) hb); have n4_ := am (below_step (by repeat (first | (with_reducible first | exact HB.out | apply b1 | apply b2 | apply b3 | refine below_set ?_ GE125.out | refine below_set ?_ GE130.out) | exact HB.out)) hb); clear HO_3; clear BK125; clear BK130; clear HB; have HO_3 := n0_; have HO133 := n1_; have BK125 := n2_; have BK130 := n3_; have HB := n4_; clear n0_ n1_ n2_ n3_ n4_; clear hb ho14; obtain ⟨Ao16, co16, eo16⟩ := Kd.R_slice HO133.out; subst eo16) | ((with_reducible refine gate_builtin (b := .append) (xs := #[.tmp 25, .tmp 33]) rfl ?_); at_builtin; refine Kd.R_append_rows (Kd.int .i64) (w0 := w) w.heap.size rfl (.tmp 25) (.tmp 33) 47 2 (.int .i64 0) 8 rfl Tryd.underlying47 info2 rfl (by decide) (by omega) u3 x3_1 y131 _ _ _ (fun k_ => some k_ ≠ (.slice Ao16 y131.length co16 : Value).ownBlock) (fun _ => False) rfl rfl ?aO ?aR (fun _ _ h => h) (fun _ h => h.elim) ?aF ?aB ?aS ?aL ?_; (case aR => repeat (first | exact (Kd.R_reads' HO133.out).2.2 | (with_reducible refine Kd.C_alloc ?_ _) | (with_reducible refine Kd.C_drewN ?_ _) | (with_reducible refine Kd.C_drew ?_))); (case aB => exact (by repeat (first | (with_reducible first | exact HB.out | apply b1 | apply b2 | apply b3 | refine below_set ?_ GE125.out | refine below_set ?_ GE130.out) | exact HB.out))); (case aF => exact (fun k_ hk => Kd.fresh' (Kd.R_lt (rr HO133)) k_ hk)); (case aO => exact (by (with_reducible repeat (first | apply r1 | apply r2 | apply r3)); exact Kd.R_mono HO_3.out (fun _ hk => hk.2))); (case aS => exact (below_size (by repeat (first | (with_reducible first | exact HB.out | apply b1 | apply b2 | apply b3 | refine below_set ?_ GE125.out | refine below_set ?_ GE130.out) | exact HB.out)))); (case aL => have := LMc8.out; omega); intro v135 w15 ho hb hg hat; rw [← Ny134.out] at ho; have n0_ := am (blk_grown (g := gb125) (o := .cells #[.int .i64 a0_0, .int .i64 a0_1, .slice (some ad129) l0_2.length c0_2] 29 (0, 0)) (rk BK125) hg (Kd.R_ne HO_3.out BK125.out (by decide))); have n1_ := am (blk_grown (g := gb130) (o := .cells #[.int .i64 ((rd_T40 l0_2 x4_1).f0), .int .i64 ((rd_T40 l0_2 x4_1).f1), .slice A129_2 ((rd_T40 l0_2 x4_1).f2).length c129_2] 40 (0, 0)) (rk BK130) hg (Kd.R_ne HO_3.out BK130.out (by decide))); have n2_ := am (Kd.R_after (ok := (fun _ => True)) (rr HO133) hg hat); have n3_ := am (hb); have n4_ := am (ho); clear BK125; clear BK130; clear HO133; clear HB; clear HO_3; have BK125 := n0_; have BK130 := n1_; have HO133 := n2_; have HB := n3_; have HO136 := n4_; clear n0_ n1_ n2_ n3_ n4_; clear ho hb hg hat))
      go_loopg [3, 6] k1 (fun kq v3 v6 w' => ∃ (x3_2 : List Int) (x6_2 : Int), v6 = .int .i64 x6_2 ∧ Aside0 (spec_l10Numbers.l1 kq x3_2 x4_1 x6_2 a0_0 a0_1 l0_2 ((rd_T40 l0_2 x4_1).f0) ((rd_T40 l0_2 x4_1).f1) ((rd_T40 l0_2 x4_1).f2) = some r) ∧ Aside0 (kq ≤ k1) ∧ Aside0 (Kd.R (Kd.int .i64) 2 w' w.heap.size (fun _ => True) v3 x3_2) ∧ Aside0 (w'.heap[gb125]? = some (.cells #[.int .i64 a0_0, .int .i64 a0_1, (.slice (some ad129) l0_2.length c0_2)] 29 (0, 0))) ∧ Aside0 (w'.heap[gb130]? = some (.cells #[.int .i64 ((rd_T40 l0_2 x4_1).f0), .int .i64 ((rd_T40 l0_2 x4_1).f1), (.slice A129_2 ((rd_T40 l0_2 x4_1).f2).length c129_2)] 40 (0, 0))) ∧ Aside0 (Below w.heap.size w w'))
      case atStart => exact ⟨(y134), (0), (by first | rfl | (simp; done) | (simp [*]; done)), H', ⟨Nat.le_refl _⟩, ⟨by (with_reducible repeat (first | apply r1 | apply r2 | apply r3)); exact Kd.R_mono HO136.out (fun _ hk => trivial)⟩, ⟨rk BK125⟩, ⟨rk BK130⟩, ⟨by repeat (first | (with_reducible first | exact HB.out | apply b1 | apply b2 | apply b3 | refine below_set ?_ GE125.out | refine below_set ?_ GE130.out) | exact HB.out)⟩⟩
      case round =>
       clear H'
       try clear c1
       try clear p1
       try clear q1
       try clear hx1
       try clear p2
       try clear c6
       try clear c6b0
       try clear c7
       try clear c7b0
       try clear c8
       try clear c11
       try clear c12
       try clear p12
       try clear q12
       try clear hx12
       try clear c16
       try clear hcz12_0
       try clear hcz12_1
       try clear hcz12_2
       try clear hcz3_0
       try clear hcz3_1
       try clear hcz3_2
       try clear hcz9_0
       try clear hcz9_1
       try clear hcz9_2
       try clear hfz12_0
       try clear hfz12_1
       try clear hfz12_2
       try clear hfz3_0
       try clear hfz3_1
       try clear hfz3_2
       try clear hfz9_0
       try clear hfz9_1
       try clear hfz9_2
       try clear hx129_0
       try clear hx129_1
       try clear hx129_2
       try clear p129
       try clear p2
       try clear q129
       obtain ⟨x3_2, x6_2, rfl, HA, HK2, HO_3, BK125, BK130, HB⟩ := hrel
       cases gk with
       | zero => exact absurd HA.out (by simp [spec_l10Numbers.l1])
       | succ k2 =>
        have H := HA.out
        clear HA
        simp only [spec_l10Numbers.l1] at H
        by_cases c17 : x6_2 < (((rd_T40 l0_2 x4_1).f2).length : Int)
        ·rw [if_pos c17] at H
         have c17b0 : decide (x6_2 < (((rd_T40 l0_2 x4_1).f2).length : Int)) = true := decide_eq_true c17
         clear c17
         by_cases c18 : 0 ≤ x6_2
         ·rw [if_pos c18] at H
          have c18b0 : decide (0 ≤ x6_2) = true := decide_eq_true c18
          clear c18
          replace H := Option.bind_eq_some_iff.mp H
          obtain ⟨t139, A190, H⟩ := H
          replace H : ((some (([(rd_T45 ((rd_T40 l0_2 x4_1).f2) x6_2).f0, (rd_T45 ((rd_T40 l0_2 x4_1).f2) x6_2).f1.f0, (rd_T45 ((rd_T40 l0_2 x4_1).f2) x6_2).f1.f1, t139, (rd_T45 ((rd_T40 l0_2 x4_1).f2) x6_2).f2] : List Int) : List Int)).bind fun y140 => (if x3_2.length + y140.length < 17592186044416 then (spec_l10Numbers.l1 k2 (x3_2 ++ y140) x4_1 (wrap64 (x6_2 + 1)) a0_0 a0_1 l0_2 ((rd_T40 l0_2 x4_1).f0) ((rd_T40 l0_2 x4_1).f1) ((rd_T40 l0_2 x4_1).f2)) else (none))) = some r := H
          have A19 := am A190
          clear A190
          obtain ⟨y140, hy140⟩ : ∃ y_ : List Int, y_ = (([(rd_T45 ((rd_T40 l0_2 x4_1).f2) x6_2).f0, (rd_T45 ((rd_T40 l0_2 x4_1).f2) x6_2).f1.f0, (rd_T45 ((rd_T40 l0_2 x4_1).f2) x6_2).f1.f1, t139, (rd_T45 ((rd_T40 l0_2 x4_1).f2) x6_2).f2] : List Int)) := ⟨_, rfl⟩
          replace H : (if x3_2.length + y140.length < 17592186044416 then (spec_l10Numbers.l1 k2 (x3_2 ++ y140) x4_1 (wrap64 (x6_2 + 1)) a0_0 a0_1 l0_2 ((rd_T40 l0_2 x4_1).f0) ((rd_T40 l0_2 x4_1).f1) ((rd_T40 l0_2 x4_1).f2)) else (none)) = some r := by first | (rw [hy140]; with_reducible exact H) | (rw [hy140]; exact H) | exact H
          have Ny140 := am hy140
          clear hy140
          by_cases c20 : x3_2.length + y140.length < 17592186044416
          ·rw [if_pos c20] at H
           have LMc20 := am c20
           clear c20
           obtain ⟨y143, hy143⟩ : ∃ y_ : List Int, y_ = (x3_2 ++ y140) := ⟨_, rfl⟩
           replace H : (spec_l10Numbers.l1 k2 y143 x4_1 (wrap64 (x6_2 + 1)) a0_0 a0_1 l0_2 ((rd_T40 l0_2 x4_1).f0) ((rd_T40 l0_2 x4_1).f1) ((rd_T40 l0_2 x4_1).f2)) = some r := by first | (rw [hy143]; with_reducible exact H) | (rw [hy143]; exact H) | exact H
           have Ny143 := am hy143
           clear hy143
           have H' := am H
           clear H
           have hnb21 := NB130_125.out
           have hnc21 := NB125_130.out
           have hcz22_0 : wr.cell? ⟨gb130, 0, none⟩ = some (.int .i64 ((rd_T40 l0_2 x4_1).f0)) := (blk_cell BK130.out 0).trans rfl
           have hcz22_1 : wr.cell? ⟨gb130, 1, none⟩ = some (.int .i64 ((rd_T40 l0_2 x4_1).f1)) := (blk_cell BK130.out 1).trans rfl
           have hcz22_2 : wr.cell? ⟨gb130, 2, none⟩ = some (.slice A129_2 ((rd_T40 l0_2 x4_1).f2).length c129_2) := (blk_cell BK130.out 2).trans rfl
           have hfz22_0 := blk_frozen BK130.out 0
           have hfz22_1 := blk_frozen BK130.out 1
           have hfz22_2 := blk_frozen BK130.out 2
           have p137 : 0 ≤ (x6_2 : Int) := dt_
           have q137 : x6_2 < (((rd_T40 l0_2 x4_1).f2).length : Int) := dt_
           obtain ⟨ad137, e137, hx137_0, hx137_1, hx137_2, hx137_3, hx137_4, hx137_5, hx137_6⟩ := at_T45 HR129_2.out x6_2 p137 q137
           cases e137
           replace hx137_0 := mv HB.out hx137_0
           replace hx137_1 := mv HB.out hx137_1
           replace hx137_2 := mv HB.out hx137_2
           replace hx137_3 := mv HB.out hx137_3
           replace hx137_4 := mv HB.out hx137_4
           replace hx137_5 := mv HB.out hx137_5
           replace hx137_6 := mv HB.out hx137_6
           replace p137 := eq_true p137
           replace q137 := eq_true q137
           try go_wp2_with (first | ((with_reducible refine gate_dst (N := 7) rfl ?_); refine box_event ?hg (N := 7) ?hd (cs := #[.int .i64 0, .int .i64 0, .int .i64 0, .bool false, .bool false, .bool false, .int .i64 0]) (t := 45) ?hr ?_; (case hd => rfl); (case hg => rfl); (case hr => first | (go_simp; done) | (go_simp; rfl)); intro gb138 hg w23 hbox hb; have n0_ := am (Kd.R_below (rr HO_3) hb); have n1_ := am (blk_below (g := gb125) (o := .cells #[.int .i64 a0_0, .int .i64 a0_1, .slice (some ad129) l0_2.length c0_2] 29 (0, 0)) (rk BK125) hb); have n2_ := am (blk_below (g := gb130) (o := .cells #[.int .i64 ((rd_T40 l0_2 x4_1).f0), .int .i64 ((rd_T40 l0_2 x4_1).f1), .slice (some ad137) ((rd_T40 l0_2 x4_1).f2).length c129_2] 40 (0, 0)) (rk BK130) hb); have n3_ := am (below_step (by repeat (first | (with_reducible first | exact HB.out | apply b1 | apply b2 | apply b3 | refine below_set ?_ GE125.out | refine below_set ?_ GE130.out) | exact HB.out)) hb); have n4_ := am (hbox); have n5_ := am ((by rw [hg]; exact (below_size (by repeat (first | (with_reducible first | exact HB.out | apply b1 | apply b2 | apply b3 | refine below_set ?_ GE125.out | refine below_set ?_ GE130.out) | exact HB.out))) : w.heap.size ≤ gb138)); have n6_ := am ((by rw [hg]; exact (below_size (by repeat (first | (with_reducible first | exact HB.out | apply b1 | apply b2 | apply b3 | refine below_set ?_ GE125.out | refine below_set ?_ GE130.out) | exact HB.out))) : w.heap.size ≤ gb138)); have n7_ := am ((by rw [hg]; exact Nat.ne_of_lt (blk_lt (g := gb125) (o := .cells #[.int .i64 a0_0, .int .i64 a0_1, .slice (some ad129) l0_2.length c0_2] 29 (0, 0)) (rk BK125)) : gb125 ≠ gb138)); have n8_ := am ((by rw [hg]; exact Nat.ne_of_gt (blk_lt (g := gb125) (o := .cells #[.int .i64 a0_0, .int .i64 a0_1, .slice (some ad129) l0_2.length c0_2] 29 (0, 0)) (rk BK125)) : gb138 ≠ gb125)); have n9_ := am ((by rw [hg]; exact Nat.ne_of_lt (blk_lt (g := gb130) (o := .cells #[.int .i64 ((rd_T40 l0_2 x4_1).f0), .int .i64 ((rd_T40 l0_2 x4_1).f1), .slice (some ad137) ((rd_T40 l0_2 x4_1).f2).length c129_2] 40 (0, 0)) (rk BK130)) : gb130 ≠ gb138)); have n10_ := am ((by rw [hg]; exact Nat.ne_of_gt (blk_lt (g := gb130) (o := .cells #[.int .i64 ((rd_T40 l0_2 x4_1).f0), .int .i64 ((rd_T40 l0_2 x4_1).f1), .slice (some ad137) ((rd_T40 l0_2 x4_1).f2).length c129_2] 40 (0, 0)) (rk BK130)) : gb138 ≠ gb130)); clear HO_3; clear BK125; clear BK130; clear HB; have HO_3 := n0_; have BK125 := n1_; have BK130 := n2_; have HB := n3_; have BK138 := n4_; have GW138 := n5_; have GE138 := n6_; have NB125_138 := n7_; have NB138_125 := n8_; have NB130_138 := n9_; have NB138_130 := n10_; clear n0_ n1_ n2_ n3_ n4_ n5_ n6_ n7_ n8_ n9_ n10_; clear hb hbox hg; have hnb24 := NB138_125.out; have hnc24 := NB125_138.out; have hnb25 := NB138_130.out; have hnc25 := NB130_138.out; have hcz26_0 : w23.cell? ⟨gb138, 0, none⟩ = some (.int .i64 0) := (blk_cell BK138.out 0).trans rfl; have hcz26_1 : w23.cell? ⟨gb138, 1, none⟩ = some (.int .i64 0) := (blk_cell BK138.out 1).trans rfl; have hcz26_2 : w23.cell? ⟨gb138, 2, none⟩ = some (.int .i64 0) := (blk_cell BK138.out 2).trans rfl; have hcz26_3 : w23.cell? ⟨gb138, 3, none⟩ = some (.bool false) := (blk_cell BK138.out 3).trans rfl; have hcz26_4 : w23.cell? ⟨gb138, 4, none⟩ = some (.bool false) := (blk_cell BK138.out 4).trans rfl; have hcz26_5 : w23.cell? ⟨gb138, 5, none⟩ = some (.bool false) := (blk_cell BK138.out 5).trans rfl; have hcz26_6 : w23.cell? ⟨gb138, 6, none⟩ = some (.int .i64 0) := (blk_cell BK138.out 6).trans rfl; have hfz26_0 := blk_frozen BK138.out 0; have hfz26_1 := blk_frozen BK138.out 1; have hfz26_2 := blk_frozen BK138.out 2; have hfz26_3 := blk_frozen BK138.out 3; have hfz26_4 := blk_frozen BK138.out 4; have hfz26_5 := blk_frozen BK138.out 5; have hfz26_6 := blk_frozen BK138.out 6))
           have n0_ : Aside0 (Kd.R (Kd.int .i64) 2 (((((((w23.setCell ⟨gb138, 0, none⟩ (.int .i64 ((rd_T45 ((rd_T40 l0_2 x4_1).f2) x6_2).f0))).setCell ⟨gb138, 1, none⟩ (.int .i64 ((rd_T45 ((rd_T40 l0_2 x4_1).f2) x6_2).f1.f0))).setCell ⟨gb138, 2, none⟩ (.int .i64 ((rd_T45 ((rd_T40 l0_2 x4_1).f2) x6_2).f1.f1))).setCell ⟨gb138, 3, none⟩ (.bool ((rd_T45 ((rd_T40 l0_2 x4_1).f2) x6_2).f1.f2))).setCell ⟨gb138, 4, none⟩ (.bool ((rd_T45 ((rd_T40 l0_2 x4_1).f2) x6_2).f1.f3))).setCell ⟨gb138, 5, none⟩ (.bool ((rd_T45 ((rd_T40 l0_2 x4_1).f2) x6_2).f1.f4))).setCell ⟨gb138, 6, none⟩ (.int .i64 ((rd_T45 ((rd_T40 l0_2 x4_1).f2) x6_2).f2))) w.heap.size (fun _ => True) u3 x3_2) := ⟨by (with_reducible repeat (first | apply r1 | apply r2 | apply r3)); exact Kd.R_mono (Kd.R_far (p := ⟨gb138, 6, none⟩) (Kd.R_far (p := ⟨gb138, 5, none⟩) (Kd.R_far (p := ⟨gb138, 4, none⟩) (Kd.R_far (p := ⟨gb138, 3, none⟩) (Kd.R_far (p := ⟨gb138, 2, none⟩) (Kd.R_far (p := ⟨gb138, 1, none⟩) (Kd.R_far (p := ⟨gb138, 0, none⟩) (Kd.R_types HO_3.out BK138.out (by decide)) (fun _ hk => hk.2) (.int .i64 ((rd_T45 ((rd_T40 l0_2 x4_1).f2) x6_2).f0))) (fun _ hk => hk.2) (.int .i64 ((rd_T45 ((rd_T40 l0_2 x4_1).f2) x6_2).f1.f0))) (fun _ hk => hk.2) (.int .i64 ((rd_T45 ((rd_T40 l0_2 x4_1).f2) x6_2).f1.f1))) (fun _ hk => hk.2) (.bool ((rd_T45 ((rd_T40 l0_2 x4_1).f2) x6_2).f1.f2))) (fun _ hk => hk.2) (.bool ((rd_T45 ((rd_T40 l0_2 x4_1).f2) x6_2).f1.f3))) (fun _ hk => hk.2) (.bool ((rd_T45 ((rd_T40 l0_2 x4_1).f2) x6_2).f1.f4))) (fun _ hk => hk.2) (.int .i64 ((rd_T45 ((rd_T40 l0_2 x4_1).f2) x6_2).f2))) (fun _ hk => trivial)⟩
           have n1_ : Aside0 ((((((((w23.setCell ⟨gb138, 0, none⟩ (.int .i64 ((rd_T45 ((rd_T40 l0_2 x4_1).f2) x6_2).f0))).setCell ⟨gb138, 1, none⟩ (.int .i64 ((rd_T45 ((rd_T40 l0_2 x4_1).f2) x6_2).f1.f0))).setCell ⟨gb138, 2, none⟩ (.int .i64 ((rd_T45 ((rd_T40 l0_2 x4_1).f2) x6_2).f1.f1))).setCell ⟨gb138, 3, none⟩ (.bool ((rd_T45 ((rd_T40 l0_2 x4_1).f2) x6_2).f1.f2))).setCell ⟨gb138, 4, none⟩ (.bool ((rd_T45 ((rd_T40 l0_2 x4_1).f2) x6_2).f1.f3))).setCell ⟨gb138, 5, none⟩ (.bool ((rd_T45 ((rd_T40 l0_2 x4_1).f2) x6_2).f1.f4))).setCell ⟨gb138, 6, none⟩ (.int .i64 ((rd_T45 ((rd_T40 l0_2 x4_1).f2) x6_2).f2))).heap[gb125]? = some (.cells #[.int .i64 a0_0, .int .i64 a0_1, .slice (some ad129) l0_2.length c0_2] 29 (0, 0))) := ⟨by (with_reducible repeat (first | apply k1 | apply k2 | apply k3)); refine blk_far ?_ NB125_138.out _; (with_reducible repeat (first | apply k1 | apply k2 | apply k3)); refine blk_far ?_ NB125_138.out _; (with_reducible repeat (first | apply k1 | apply k2 | apply k3)); refine blk_far ?_ NB125_138.out _; (with_reducible repeat (first | apply k1 | apply k2 | apply k3)); refine blk_far ?_ NB125_138.out _; (with_reducible repeat (first | apply k1 | apply k2 | apply k3)); refine blk_far ?_ NB125_138.out _; (with_reducible repeat (first | apply k1 | apply k2 | apply k3)); refine blk_far ?_ NB125_138.out _; (with_reducible repeat (first | apply k1 | apply k2 | apply k3)); refine blk_far ?_ NB125_138.out _; (with_reducible repeat (first | apply k1 | apply k2 | apply k3)); exact BK125.out⟩
           have n2_ : Aside0 ((((((((w23.setCell ⟨gb138, 0, none⟩ (.int .i64 ((rd_T45 ((rd_T40 l0_2 x4_1).f2) x6_2).f0))).setCell ⟨gb138, 1, none⟩ (.int .i64 ((rd_T45 ((rd_T40 l0_2 x4_1).f2) x6_2).f1.f0))).setCell ⟨gb138, 2, none⟩ (.int .i64 ((rd_T45 ((rd_T40 l0_2 x4_1).f2) x6_2).f1.f1))).setCell ⟨gb138, 3, none⟩ (.bool ((rd_T45 ((rd_T40 l0_2 x4_1).f2) x6_2).f1.f2))).setCell ⟨gb138, 4, none⟩ (.bool ((rd_T45 ((rd_T40 l0_2 x4_1).f2) x6_2).f1.f3))).setCell ⟨gb138, 5, none⟩ (.bool ((rd_T45 ((rd_T40 l0_2 x4_1).f2) x6_2).f1.f4))).setCell ⟨gb138, 6, none⟩ (.int .i64 ((rd_T45 ((rd_T40 l0_2 x4_1).f2) x6_2).f2))).heap[gb130]? = some (.cells #[.int .i64 ((rd_T40 l0_2 x4_1).f0), .int .i64 ((rd_T40 l0_2 x4_1).f1), .slice (some ad137) ((rd_T40 l0_2 x4_1).f2).length c129_2] 40 (0, 0))) := ⟨by (with_reducible repeat (first | apply k1 | apply k2 | apply k3)); refine blk_far ?_ NB130_138.out _; (with_reducible repeat (first | apply k1 | apply k2 | apply k3)); refine blk_far ?_ NB130_138.out _; (with_reducible repeat (first | apply k1 | apply k2 | apply k3)); refine blk_far ?_ NB130_138.out _; (with_reducible repeat (first | apply k1 | apply k2 | apply k3)); refine blk_far ?_ NB130_138.out _; (with_reducible repeat (first | apply k1 | apply k2 | apply k3)); refine blk_far ?_ NB130_138.out _; (with_reducible repeat (first | apply k1 | apply k2 | apply k3)); refine blk_far ?_ NB130_138.out _; (with_reducible repeat (first | apply k1 | apply k2 | apply k3)); refine blk_far ?_ NB130_138.out _; (with_reducible repeat (first | apply k1 | apply k2 | apply k3)); exact BK130.out⟩
           have n3_ : Aside0 ((((((((w23.setCell ⟨gb138, 0, none⟩ (.int .i64 ((rd_T45 ((rd_T40 l0_2 x4_1).f2) x6_2).f0))).setCell ⟨gb138, 1, none⟩ (.int .i64 ((rd_T45 ((rd_T40 l0_2 x4_1).f2) x6_2).f1.f0))).setCell ⟨gb138, 2, none⟩ (.int .i64 ((rd_T45 ((rd_T40 l0_2 x4_1).f2) x6_2).f1.f1))).setCell ⟨gb138, 3, none⟩ (.bool ((rd_T45 ((rd_T40 l0_2 x4_1).f2) x6_2).f1.f2))).setCell ⟨gb138, 4, none⟩ (.bool ((rd_T45 ((rd_T40 l0_2 x4_1).f2) x6_2).f1.f3))).setCell ⟨gb138, 5, none⟩ (.bool ((rd_T45 ((rd_T40 l0_2 x4_1).f2) x6_2).f1.f4))).setCell ⟨gb138, 6, none⟩ (.int .i64 ((rd_T45 ((rd_T40 l0_2 x4_1).f2) x6_2).f2))).heap[gb138]? = some (.cells #[.int .i64 ((rd_T45 ((rd_T40 l0_2 x4_1).f2) x6_2).f0), .int .i64 ((rd_T45 ((rd_T40 l0_2 x4_1).f2) x6_2).f1.f0), .int .i64 ((rd_T45 ((rd_T40 l0_2 x4_1).f2) x6_2).f1.f1), .bool ((rd_T45 ((rd_T40 l0_2 x4_1).f2) x6_2).f1.f2), .bool ((rd_T45 ((rd_T40 l0_2 x4_1).f2) x6_2).f1.f3), .bool ((rd_T45 ((rd_T40 l0_2 x4_1).f2) x6_2).f1.f4), .int .i64 ((rd_T45 ((rd_T40 l0_2 x4_1).f2) x6_2).f2)] 45 (0, 0))) := ⟨by (with_reducible repeat (first | apply k1 | apply k2 | apply k3)); refine blk_put (cs := #[.int .i64 ((rd_T45 ((rd_T40 l0_2 x4_1).f2) x6_2).f0), .int .i64 ((rd_T45 ((rd_T40 l0_2 x4_1).f2) x6_2).f1.f0), .int .i64 ((rd_T45 ((rd_T40 l0_2 x4_1).f2) x6_2).f1.f1), .bool ((rd_T45 ((rd_T40 l0_2 x4_1).f2) x6_2).f1.f2), .bool ((rd_T45 ((rd_T40 l0_2 x4_1).f2) x6_2).f1.f3), .bool ((rd_T45 ((rd_T40 l0_2 x4_1).f2) x6_2).f1.f4), .int .i64 0]) ?_ 6 _ rfl; (with_reducible repeat (first | apply k1 | apply k2 | apply k3)); refine blk_put (cs := #[.int .i64 ((rd_T45 ((rd_T40 l0_2 x4_1).f2) x6_2).f0), .int .i64 ((rd_T45 ((rd_T40 l0_2 x4_1).f2) x6_2).f1.f0), .int .i64 ((rd_T45 ((rd_T40 l0_2 x4_1).f2) x6_2).f1.f1), .bool ((rd_T45 ((rd_T40 l0_2 x4_1).f2) x6_2).f1.f2), .bool ((rd_T45 ((rd_T40 l0_2 x4_1).f2) x6_2).f1.f3), .bool false, .int .i64 0]) ?_ 5 _ rfl; (with_reducible repeat (first | apply k1 | apply k2 | apply k3)); refine blk_put (cs := #[.int .i64 ((rd_T45 ((rd_T40 l0_2 x4_1).f2) x6_2).f0), .int .i64 ((rd_T45 ((rd_T40 l0_2 x4_1).f2) x6_2).f1.f0), .int .i64 ((rd_T45 ((rd_T40 l0_2 x4_1).f2) x6_2).f1.f1), .bool ((rd_T45 ((rd_T40 l0_2 x4_1).f2) x6_2).f1.f2), .bool false, .bool false, .int .i64 0]) ?_ 4 _ rfl; (with_reducible repeat (first | apply k1 | apply k2 | apply k3)); refine blk_put (cs := #[.int .i64 ((rd_T45 ((rd_T40 l0_2 x4_1).f2) x6_2).f0), .int .i64 ((rd_T45 ((rd_T40 l0_2 x4_1).f2) x6_2).f1.f0), .int .i64 ((rd_T45 ((rd_T40 l0_2 x4_1).f2) x6_2).f1.f1), .bool false, .bool false, .bool false, .int .i64 0]) ?_ 3 _ rfl; (with_reducible repeat (first | apply k1 | apply k2 | apply k3)); refine blk_put (cs := #[.int .i64 ((rd_T45 ((rd_T40 l0_2 x4_1).f2) x6_2).f0), .int .i64 ((rd_T45 ((rd_T40 l0_2 x4_1).f2) x6_2).f1.f0), .int .i64 0, .bool false, .bool false, .bool false, .int .i64 0]) ?_ 2 _ rfl; (with_reducible repeat (first | apply k1 | apply k2 | apply k3)); refine blk_put (cs := #[.int .i64 ((rd_T45 ((rd_T40 l0_2 x4_1).f2) x6_2).f0), .int .i64 0, .int .i64 0, .bool false, .bool false, .bool false, .int .i64 0]) ?_ 1 _ rfl; (with_reducible repeat (first | apply k1 | apply k2 | apply k3)); refine blk_put (cs := #[.int .i64 0, .int .i64 0, .int .i64 0, .bool false, .bool false, .bool false, .int .i64 0]) ?_ 0 _ rfl; (with_reducible repeat (first | apply k1 | apply k2 | apply k3)); exact BK138.out⟩
           have n4_ : Aside0 (Below w.heap.size w (((((((w23.setCell ⟨gb138, 0, none⟩ (.int .i64 ((rd_T45 ((rd_T40 l0_2 x4_1).f2) x6_2).f0))).setCell ⟨gb138, 1, none⟩ (.int .i64 ((rd_T45 ((rd_T40 l0_2 x4_1).f2) x6_2).f1.f0))).setCell ⟨gb138, 2, none⟩ (.int .i64 ((rd_T45 ((rd_T40 l0_2 x4_1).f2) x6_2).f1.f1))).setCell ⟨gb138, 3, none⟩ (.bool ((rd_T45 ((rd_T40 l0_2 x4_1).f2) x6_2).f1.f2))).setCell ⟨gb138, 4, none⟩ (.bool ((rd_T45 ((rd_T40 l0_2 x4_1).f2) x6_2).f1.f3))).setCell ⟨gb138, 5, none⟩ (.bool ((rd_T45 ((rd_T40 l0_2 x4_1).f2) x6_2).f1.f4))).setCell ⟨gb138, 6, none⟩ (.int .i64 ((rd_T45 ((rd_T40 l0_2 x4_1).f2) x6_2).f2)))) := ⟨by repeat (first | (with_reducible first | exact HB.out | apply b1 | apply b2 | apply b3 | refine below_set ?_ GE125.out | refine below_set ?_ GE130.out | refine below_set ?_ GE138.out) | exact HB.out)⟩
           (try clear HO_3)
           (try clear BK125)
           (try clear BK130)
           (try clear BK138)
           (try clear HB)
           generalize (((((((w23.setCell ⟨gb138, 0, none⟩ (.int .i64 ((rd_T45 ((rd_T40 l0_2 x4_1).f2) x6_2).f0))).setCell ⟨gb138, 1, none⟩ (.int .i64 ((rd_T45 ((rd_T40 l0_2 x4_1).f2) x6_2).f1.f0))).setCell ⟨gb138, 2, none⟩ (.int .i64 ((rd_T45 ((rd_T40 l0_2 x4_1).f2) x6_2).f1.f1))).setCell ⟨gb138, 3, none⟩ (.bool ((rd_T45 ((rd_T40 l0_2 x4_1).f2) x6_2).f1.f2))).setCell ⟨gb138, 4, none⟩ (.bool ((rd_T45 ((rd_T40 l0_2 x4_1).f2) x6_2).f1.f3))).setCell ⟨gb138, 5, none⟩ (.bool ((rd_T45 ((rd_T40 l0_2 x4_1).f2) x6_2).f1.f4))).setCell ⟨gb138, 6, none⟩ (.int .i64 ((rd_T45 ((rd_T40 l0_2 x4_1).f2) x6_2).f2))) = w27 at n0_ n1_ n2_ n3_ n4_ ⊢
           have HO_3 := n0_
           have BK125 := n1_
           have BK130 := n2_
           have BK138 := n3_
           have HB := n4_
           clear n0_ n1_ n2_ n3_ n4_
           have n0_ := am (Kd.R_drew HO_3.out)
           have n1_ := am (blk_drew BK125.out)
           have n2_ := am (blk_drew BK130.out)
           have n3_ := am (blk_drew BK138.out)
           have n4_ := am (below_drew1 HB.out)
           clear HO_3
           clear BK125
           clear BK130
           clear BK138
           clear HB
           have HO_3 := n0_
           have BK125 := n1_
           have BK130 := n2_
           have BK138 := n3_
           have HB := n4_
           clear n0_ n1_ n2_ n3_ n4_
           refine start_ (n := 17) (S := fun w' => w'.cell? ⟨gb138, 0, none⟩ = some (.int .i64 ((rd_T45 ((rd_T40 l0_2 x4_1).f2) x6_2).f0)) ∧ w'.cell? ⟨gb138, 1, none⟩ = some (.int .i64 ((rd_T45 ((rd_T40 l0_2 x4_1).f2) x6_2).f1.f0)) ∧ w'.cell? ⟨gb138, 2, none⟩ = some (.int .i64 ((rd_T45 ((rd_T40 l0_2 x4_1).f2) x6_2).f1.f1)) ∧ w'.cell? ⟨gb138, 3, none⟩ = some (.bool ((rd_T45 ((rd_T40 l0_2 x4_1).f2) x6_2).f1.f2)) ∧ w'.cell? ⟨gb138, 4, none⟩ = some (.bool ((rd_T45 ((rd_T40 l0_2 x4_1).f2) x6_2).f1.f3)) ∧ w'.cell? ⟨gb138, 5, none⟩ = some (.bool ((rd_T45 ((rd_T40 l0_2 x4_1).f2) x6_2).f1.f4)) ∧ w'.cell? ⟨gb138, 6, none⟩ = some (.int .i64 ((rd_T45 ((rd_T40 l0_2 x4_1).f2) x6_2).f2))) (ds := []) (bm 17 0) (by kernel_rfl) rfl rfl ⟨(blk_cell BK138.out 0).trans rfl, (blk_cell BK138.out 1).trans rfl, (blk_cell BK138.out 2).trans rfl, (blk_cell BK138.out 3).trans rfl, (blk_cell BK138.out 4).trans rfl, (blk_cell BK138.out 5).trans rfl, (blk_cell BK138.out 6).trans rfl⟩ (fun hHeld => ?_); refine with_tabW spec_l10Numbers.tab11 spec_l10Numbers.bits11 (fun HT_ HW_ => ?_)
           generalize w27.drew = w28 at HO_3 BK125 BK130 BK138 HB hHeld ⊢
           refine pu_ 0 47 (bm 17 1) HT_.out ?_
           refine pu_ 1 48 (bm 17 3) HT_.out ?_
           refine pu_ 3 50 (bm 17 11) HT_.out ?_
           refine pu_ 4 51 (bm 17 27) HT_.out ?_
           refine pu_ 6 53 (bm 17 91) HT_.out ?_
           refine pu_ 7 54 (bm 17 219) HT_.out ?_
           refine pu_ 9 56 (bm 17 731) HT_.out ?_
           refine pu_ 12 59 (bm 17 4827) HT_.out ?_
           refine take_ (i := 2) (N := some 49) (v := ?_) (a' := ?_) (bm 17 4831) rfl rfl (take_ofW HT_.out HW_.out (by kernel_rfl)) (fun _ _ _ h => h) (Or.inl ⟨by rfl, ?_⟩) hHeld ?_ ?_
           rotate_left
           ·rintro w' ⟨s0, s1, s2, s3, s4, s5, s6⟩
            go_simp
            with_reducible rfl
           rotate_left
           ·simp only [Act.put, List.setIfInBounds_toArray, List.set_cons_zero, List.set_cons_succ, i64_w, i32_w]
            rfl
           refine take_ (i := 5) (N := some 52) (v := ?_) (a' := ?_) (bm 17 4863) rfl rfl (take_ofW HT_.out HW_.out (by kernel_rfl)) (fun _ _ _ h => h) (Or.inl ⟨by rfl, ?_⟩) hHeld ?_ ?_
           rotate_left
           ·rintro w' ⟨s0, s1, s2, s3, s4, s5, s6⟩
            go_simp
            with_reducible rfl
           rotate_left
           ·simp only [Act.put, List.setIfInBounds_toArray, List.set_cons_zero, List.set_cons_succ, i64_w, i32_w]
            rfl
           refine take_ (i := 8) (N := some 55) (v := ?_) (a' := ?_) (bm 17 5119) rfl rfl (take_ofW HT_.out HW_.out (by kernel_rfl)) (fun _ _ _ h => h) (Or.inl ⟨by rfl, ?_⟩) hHeld ?_ ?_
           rotate_left
           ·rintro w' ⟨s0, s1, s2, s3, s4, s5, s6⟩
            go_simp
            with_reducible rfl
           rotate_left
           ·simp only [Act.put, List.setIfInBounds_toArray, List.set_cons_zero, List.set_cons_succ, i64_w, i32_w]
            rfl
           refine take_ (i := 10) (N := some 57) (v := ?_) (a' := ?_) (bm 17 6143) rfl rfl (take_ofW HT_.out HW_.out (by kernel_rfl)) (fun _ _ _ h => h) (Or.inl ⟨by rfl, ?_⟩) hHeld ?_ ?_
           rotate_left
           ·rintro w' ⟨s0, s1, s2, s3, s4, s5, s6⟩
            go_simp
            with_reducible rfl
           rotate_left
           ·simp only [Act.put, List.setIfInBounds_toArray, List.set_cons_zero, List.set_cons_succ, i64_w, i32_w]
            rfl
           refine take_ (i := 13) (N := some 60) (v := ?_) (a' := ?_) (bm 17 14335) rfl rfl (take_ofW HT_.out HW_.out (by kernel_rfl)) (fun _ _ _ h => h) (Or.inl ⟨by rfl, ?_⟩) hHeld ?_ ?_
           rotate_left
           ·rintro w' ⟨s0, s1, s2, s3, s4, s5, s6⟩
            go_simp
            with_reducible rfl
           rotate_left
           ·simp only [Act.put, List.setIfInBounds_toArray, List.set_cons_zero, List.set_cons_succ, i64_w, i32_w]
            rfl
           refine one_ (i := 11) (N := some 58) (bm 17 16383) rfl rfl (one_of HT_.out (by kernel_rfl)) (by decide) (fun K hK => ?_)
           refine goes_ Tryd.func31 (by kernel_rfl) rfl #[.agg #[.int .i64 ((rd_T45 ((rd_T40 l0_2 x4_1).f2) x6_2).f1.f0), .int .i64 ((rd_T45 ((rd_T40 l0_2 x4_1).f2) x6_2).f1.f1), .bool ((rd_T45 ((rd_T40 l0_2 x4_1).f2) x6_2).f1.f2), .bool ((rd_T45 ((rd_T40 l0_2 x4_1).f2) x6_2).f1.f3), .bool ((rd_T45 ((rd_T40 l0_2 x4_1).f2) x6_2).f1.f4)]] (by rfl) rfl rfl (by (try simp only [List.map_toArray, List.map_cons, List.map_nil]); first | done | rfl | (simp only [List.length_drop, List.length_take]; rfl)) ?_
           with_reducible refine (spec_l10Flags.calls ((rd_T45 ((rd_T40 l0_2 x4_1).f2) x6_2).f1.f0) ((rd_T45 ((rd_T40 l0_2 x4_1).f2) x6_2).f1.f1) ((rd_T45 ((rd_T40 l0_2 x4_1).f2) x6_2).f1.f2) ((rd_T45 ((rd_T40 l0_2 x4_1).f2) x6_2).f1.f3) ((rd_T45 ((rd_T40 l0_2 x4_1).f2) x6_2).f1.f4) t139 _ A19.out).mono ?_
           rintro e w29 ⟨rfl, hb⟩
           refine ⟨_, rfl, ?_⟩
           have n0_ := am (Kd.R_below (rr HO_3) hb)
           have n1_ := am (blk_below (g := gb125) (o := .cells #[.int .i64 a0_0, .int .i64 a0_1, .slice (some ad129) l0_2.length c0_2] 29 (0, 0)) (rk BK125) hb)
           have n2_ := am (blk_below (g := gb130) (o := .cells #[.int .i64 ((rd_T40 l0_2 x4_1).f0), .int .i64 ((rd_T40 l0_2 x4_1).f1), .slice (some ad137) ((rd_T40 l0_2 x4_1).f2).length c129_2] 40 (0, 0)) (rk BK130) hb)
           have n3_ := am (blk_below (g := gb138) (o := .cells #[.int .i64 ((rd_T45 ((rd_T40 l0_2 x4_1).f2) x6_2).f0), .int .i64 ((rd_T45 ((rd_T40 l0_2 x4_1).f2) x6_2).f1.f0), .int .i64 ((rd_T45 ((rd_T40 l0_2 x4_1).f2) x6_2).f1.f1), .bool ((rd_T45 ((rd_T40 l0_2 x4_1).f2) x6_2).f1.f2), .bool ((rd_T45 ((rd_T40 l0_2 x4_1).f2) x6_2).f1.f3), .bool ((rd_T45 ((rd_T40 l0_2 x4_1).f2) x6_2).f1.f4), .int .i64 ((rd_T45 ((rd_T40 l0_2 x4_1).f2) x6_2).f2)] 45 (0, 0)) (rk BK138) hb)
           have n4_ := am (below_step (by repeat (first | (with_reducible first | exact HB.out | apply b1 | apply b2 | apply b3 | refine below_set ?_ GE125.out | refine below_set ?_ GE130.out | refine below_set ?_ GE138.out) | exact HB.out)) hb)
           clear HO_3
           clear BK125
           clear BK130
           clear BK138
           clear HB
           have HO_3 := n0_
           have BK125 := n1_
           have BK130 := n2_
           have BK138 := n3_
           have HB := n4_
           clear n0_ n1_ n2_ n3_ n4_
           (try clear hb)
           (try clear hb2)
           (try clear hk)
           (try clear hi)
           refine hK.out _ _ ⟨(blk_cell BK138.out 0).trans rfl, (blk_cell BK138.out 1).trans rfl, (blk_cell BK138.out 2).trans rfl, (blk_cell BK138.out 3).trans rfl, (blk_cell BK138.out 4).trans rfl, (blk_cell BK138.out 5).trans rfl, (blk_cell BK138.out 6).trans rfl⟩ (fun hHeld => ?_)
           clear hK K
           refine norm_ (a' := ?_) ?_ ?_
           rotate_left
           ·show Act.put _ (some 58) _ = _
            simp only [Act.put, List.setIfInBounds_toArray, List.set_cons_zero, List.set_cons_succ, i64_w, i32_w]
            rfl
           refine one_ (i := 14) (N := some 61) (bm 17 32767) rfl rfl (one_of HT_.out (by kernel_rfl)) (by decide) (fun K hK => ?_)
           refine Kd.R_lit_step (Kd.int .i64) _ 2 ?hg (N := 61) ?hd (xs := ([(rd_T45 ((rd_T40 l0_2 x4_1).f2) x6_2).f0, (rd_T45 ((rd_T40 l0_2 x4_1).f2) x6_2).f1.f0, (rd_T45 ((rd_T40 l0_2 x4_1).f2) x6_2).f1.f1, t139, (rd_T45 ((rd_T40 l0_2 x4_1).f2) x6_2).f2] : List Int)) (inner := [.int .i64 ((rd_T45 ((rd_T40 l0_2 x4_1).f2) x6_2).f0), .int .i64 ((rd_T45 ((rd_T40 l0_2 x4_1).f2) x6_2).f1.f0), .int .i64 ((rd_T45 ((rd_T40 l0_2 x4_1).f2) x6_2).f1.f1), .int .i64 t139, .int .i64 ((rd_T45 ((rd_T40 l0_2 x4_1).f2) x6_2).f2)]) (ok := fun _ => True) (okp := fun _ => True) ?hr ?hp (fun _ hk => hk) trivial (Below.refl _ _) (Nat.le_refl _) (by simp) ?_; (case hd => rfl); (case hg => rfl); (case hr => first | (go_simp; done) | (go_simp; rfl)); (case hp => exact (Reps.one (show Kd.M (Kd.int .i64) _ _ _ ((rd_T45 ((rd_T40 l0_2 x4_1).f2) x6_2).f0) [.int .i64 ((rd_T45 ((rd_T40 l0_2 x4_1).f2) x6_2).f0)] from rfl) (Reps.one (show Kd.M (Kd.int .i64) _ _ _ ((rd_T45 ((rd_T40 l0_2 x4_1).f2) x6_2).f1.f0) [.int .i64 ((rd_T45 ((rd_T40 l0_2 x4_1).f2) x6_2).f1.f0)] from rfl) (Reps.one (show Kd.M (Kd.int .i64) _ _ _ ((rd_T45 ((rd_T40 l0_2 x4_1).f2) x6_2).f1.f1) [.int .i64 ((rd_T45 ((rd_T40 l0_2 x4_1).f2) x6_2).f1.f1)] from rfl) (Reps.one (show Kd.M (Kd.int .i64) _ _ _ t139 [.int .i64 t139] from rfl) (Reps.one (show Kd.M (Kd.int .i64) _ _ _ ((rd_T45 ((rd_T40 l0_2 x4_1).f2) x6_2).f2) [.int .i64 ((rd_T45 ((rd_T40 l0_2 x4_1).f2) x6_2).f2)] from rfl) (Reps.none _ _)))))))
           intro v141 w30 ho31 hb hg_ hnew_
           clear hg_ hnew_
           (first | rw [← Ny140.out] at ho31 | (simp only [Int.reduceToNat] at ho31; rw [← Ny140.out] at ho31))
           have n0_ := am (Kd.R_elder' (rr HO_3) (Kd.R_base ho31) hb)
           have n1_ := am (Kd.R_lower (Kd.R_new' ho31 (Kd.R_lt (rr HO_3))) (below_size (by repeat (first | (with_reducible first | exact HB.out | apply b1 | apply b2 | apply b3 | refine below_set ?_ GE125.out | refine below_set ?_ GE130.out | refine below_set ?_ GE138.out) | exact HB.out))))
           have n2_ := am (blk_below (g := gb125) (o := .cells #[.int .i64 a0_0, .int .i64 a0_1, .slice (some ad129) l0_2.length c0_2] 29 (0, 0)) (rk BK125) hb)
           have n3_ := am (blk_below (g := gb130) (o := .cells #[.int .i64 ((rd_T40 l0_2 x4_1).f0), .int .i64 ((rd_T40 l0_2 x4_1).f1), .slice (some ad137) ((rd_T40 l0_2 x4_1).f2).length c129_2] 40 (0, 0)) (rk BK130) hb)
           have n4_ := am (blk_below (g := gb138) (o := .cells #[.int .i64 ((rd_T45 ((rd_T40 l0_2 x4_1).f2) x6_2).f0), .int .i64 ((rd_T45 ((rd_T40 l0_2 x4_1).f2) x6_2).f1.f0), .int .i64 ((rd_T45 ((rd_T40 l0_2 x4_1).f2) x6_2).f1.f1), .bool ((rd_T45 ((rd_T40 l0_2 x4_1).f2) x6_2).f1.f2), .bool ((rd_T45 ((rd_T40 l0_2 x4_1).f2) x6_2).f1.f3), .bool ((rd_T45 ((rd_T40 l0_2 x4_1).f2) x6_2).f1.f4), .int .i64 ((rd_T45 ((rd_T40 l0_2 x4_1).f2) x6_2).f2)] 45 (0, 0)) (rk BK138) hb)
           have n5_ := am (below_step (by repeat (first | (with_reducible first | exact HB.out | apply b1 | apply b2 | apply b3 | refine below_set ?_ GE125.out | refine below_set ?_ GE130.out | refine below_set ?_ GE138.out) | exact HB.out)) hb)
           clear HO_3
           clear BK125
           clear BK130
           clear BK138
           clear HB
           have HO_3 := n0_
           have HO142 := n1_
           have BK125 := n2_
           have BK130 := n3_
           have BK138 := n4_
           have HB := n5_
           clear n0_ n1_ n2_ n3_ n4_ n5_
           clear hb ho31
           obtain ⟨Ao33, co33, eo33⟩ := Kd.R_slice HO142.out
           (first | subst eo33 | (injection eo33 with f1_ f2_ f3_; have f4_ := f1_.symm; have f5_ := f3_.symm; clear f1_ f2_ f3_; subst f4_; subst f5_))
           refine hK.out _ _ ⟨(blk_cell BK138.out 0).trans rfl, (blk_cell BK138.out 1).trans rfl, (blk_cell BK138.out 2).trans rfl, (blk_cell BK138.out 3).trans rfl, (blk_cell BK138.out 4).trans rfl, (blk_cell BK138.out 5).trans rfl, (blk_cell BK138.out 6).trans rfl⟩ (fun hHeld => ?_)
           clear hK K
           refine norm_ (a' := ?_) ?_ ?_
           rotate_left
           ·show Act.put _ (some 61) _ = _
            simp only [Act.put, List.setIfInBounds_toArray, List.set_cons_zero, List.set_cons_succ, i64_w, i32_w]
            rfl
           refine one_ (i := 15) (N := some 62) (bm 17 65535) rfl rfl (one_of HT_.out (by kernel_rfl)) (by decide) (fun K hK => ?_)
           refine Kd.R_append_rows_step (Kd.int .i64) (w0 := w) w.heap.size (by rfl) (.tmp 47) (.tmp 61) 47 2 (.int .i64 0) 8 rfl Tryd.underlying47 info2 rfl (by decide) (by omega) u3 x3_2 y140 _ _ _ (fun k_ => some k_ ≠ (.slice Ao33 y140.length co33 : Value).ownBlock) (fun _ => False) rfl rfl ?aO ?aR (fun _ _ h => h) (fun _ h => h.elim) ?aF ?aB ?aS ?aL ?_
           (case aR => repeat (first | exact (Kd.R_reads' HO142.out).2.2 | (with_reducible refine Kd.C_alloc ?_ _) | (with_reducible refine Kd.C_drewN ?_ _) | (with_reducible refine Kd.C_drew ?_)))
           (case aB => exact (by repeat (first | (with_reducible first | exact HB.out | apply b1 | apply b2 | apply b3 | refine below_set ?_ GE125.out | refine below_set ?_ GE130.out | refine below_set ?_ GE138.out) | exact HB.out)))
           (case aF => exact (fun k_ hk => Kd.fresh' (Kd.R_lt (rr HO142)) k_ hk))
           (case aO => exact (by (with_reducible repeat (first | apply r1 | apply r2 | apply r3)); exact Kd.R_mono HO_3.out (fun _ hk => hk.2)))
           (case aS => exact (below_size (by repeat (first | (with_reducible first | exact HB.out | apply b1 | apply b2 | apply b3 | refine below_set ?_ GE125.out | refine below_set ?_ GE130.out | refine below_set ?_ GE138.out) | exact HB.out))))
           (case aL => have := LMc20.out; omega)
           intro v144 w32 ho hb hg hat
           rw [← Ny143.out] at ho
           have n0_ := am (blk_grown (g := gb125) (o := .cells #[.int .i64 a0_0, .int .i64 a0_1, .slice (some ad129) l0_2.length c0_2] 29 (0, 0)) (rk BK125) hg (Kd.R_ne HO_3.out BK125.out (by decide)))
           have n1_ := am (blk_grown (g := gb130) (o := .cells #[.int .i64 ((rd_T40 l0_2 x4_1).f0), .int .i64 ((rd_T40 l0_2 x4_1).f1), .slice (some ad137) ((rd_T40 l0_2 x4_1).f2).length c129_2] 40 (0, 0)) (rk BK130) hg (Kd.R_ne HO_3.out BK130.out (by decide)))
           have n2_ := am (blk_grown (g := gb138) (o := .cells #[.int .i64 ((rd_T45 ((rd_T40 l0_2 x4_1).f2) x6_2).f0), .int .i64 ((rd_T45 ((rd_T40 l0_2 x4_1).f2) x6_2).f1.f0), .int .i64 ((rd_T45 ((rd_T40 l0_2 x4_1).f2) x6_2).f1.f1), .bool ((rd_T45 ((rd_T40 l0_2 x4_1).f2) x6_2).f1.f2), .bool ((rd_T45 ((rd_T40 l0_2 x4_1).f2) x6_2).f1.f3), .bool ((rd_T45 ((rd_T40 l0_2 x4_1).f2) x6_2).f1.f4), .int .i64 ((rd_T45 ((rd_T40 l0_2 x4_1).f2) x6_2).f2)] 45 (0, 0)) (rk BK138) hg (Kd.R_ne HO_3.out BK138.out (by decide)))
           have n3_ := am (Kd.R_after (ok := (fun _ => True)) (rr HO142) hg hat)
           have n4_ := am (hb)
           have n5_ := am (ho)
           clear BK125
           clear BK130
           clear BK138
           clear HO142
           clear HB
           clear HO_3
           have BK125 := n0_
           have BK130 := n1_
           have BK138 := n2_
           have HO142 := n3_
           have HB := n4_
           have HO145 := n5_
           clear n0_ n1_ n2_ n3_ n4_ n5_
           clear ho hb hg hat
           refine hK.out _ _ ⟨(blk_cell BK138.out 0).trans rfl, (blk_cell BK138.out 1).trans rfl, (blk_cell BK138.out 2).trans rfl, (blk_cell BK138.out 3).trans rfl, (blk_cell BK138.out 4).trans rfl, (blk_cell BK138.out 5).trans rfl, (blk_cell BK138.out 6).trans rfl⟩ (fun hHeld => ?_)
           clear hK K
           refine norm_ (a' := ?_) ?_ ?_
           rotate_left
           ·show Act.put _ (some 62) _ = _
            simp only [Act.put, List.setIfInBounds_toArray, List.set_cons_zero, List.set_cons_succ, i64_w, i32_w]
            rfl
           refine pu_ 16 3 (bm 17 131071) HT_.out ?_
           refine done_ (done_of HT_.out (by kernel_rfl)) ?_
           try go_wp2
           go_roundg k2
           case measure => have := HK1.out; have := HK2.out; omega
           case rel => exact ⟨(y143), (wrap64 (x6_2 + 1)), (by first | rfl | (simp; done) | (simp [*]; done)), H', ⟨by have := HK1.out; have := HK2.out; omega⟩, ⟨by (with_reducible repeat (first | apply r1 | apply r2 | apply r3)); exact Kd.R_mono HO145.out (fun _ hk => trivial)⟩, ⟨rk BK125⟩, ⟨rk BK130⟩, ⟨by repeat (first | (with_reducible first | exact HB.out | apply b1 | apply b2 | apply b3 | refine below_set ?_ GE125.out | refine below_set ?_ GE130.out | refine below_set ?_ GE138.out) | exact HB.out)⟩⟩
          ·rw [if_neg c20] at H
           exact absurd H (by simp)
         ·rw [if_neg c18] at H
          exact absurd H (by simp)
        ·rw [if_neg c17] at H
         have c17b0 : decide (x6_2 < (((rd_T40 l0_2 x4_1).f2).length : Int)) = false := decide_eq_false c17
         clear c17
         have H' := am H
         clear H
         have hnb34 := NB130_125.out
         have hnc34 := NB125_130.out
         have hcz35_0 : wr.cell? ⟨gb130, 0, none⟩ = some (.int .i64 ((rd_T40 l0_2 x4_1).f0)) := (blk_cell BK130.out 0).trans rfl
         have hcz35_1 : wr.cell? ⟨gb130, 1, none⟩ = some (.int .i64 ((rd_T40 l0_2 x4_1).f1)) := (blk_cell BK130.out 1).trans rfl
         have hcz35_2 : wr.cell? ⟨gb130, 2, none⟩ = some (.slice A129_2 ((rd_T40 l0_2 x4_1).f2).length c129_2) := (blk_cell BK130.out 2).trans rfl
         have hfz35_0 := blk_frozen BK130.out 0
         have hfz35_1 := blk_frozen BK130.out 1
         have hfz35_2 := blk_frozen BK130.out 2
         go_wp2
         go_roundg k2
         case measure => have := HK1.out; have := HK2.out; omega
         case rel => exact ⟨(x3_2), (wrap64 (x4_1 + 1)), (by first | rfl | (simp; done) | (simp [*]; done)), H', ⟨by have := HK1.out; have := HK2.out; omega⟩, ⟨rr HO_3⟩, ⟨rk BK125⟩, ⟨by repeat (first | (with_reducible first | exact HB.out | apply b1 | apply b2 | apply b3 | refine below_set ?_ GE125.out | refine below_set ?_ GE130.out) | exact HB.out)⟩⟩
     ·rw [if_neg c8] at H
      exact absurd H (by simp)
    ·rw [if_neg c7] at H
     exact absurd H (by simp)
   ·rw [if_neg c6] at H
    have c6b0 : decide (x4_1 < (l0_2.length : Int)) = false := decide_eq_false c6
    clear c6
    obtain rfl := Option.some.inj H
    have hcz36_0 : wr.cell? ⟨gb125, 0, none⟩ = some (.int .i64 a0_0) := (blk_cell BK125.out 0).trans rfl
    have hcz36_1 : wr.cell? ⟨gb125, 1, none⟩ = some (.int .i64 a0_1) := (blk_cell BK125.out 1).trans rfl
    have hcz36_2 : wr.cell? ⟨gb125, 2, none⟩ = some (.slice A0_2 l0_2.length c0_2) := (blk_cell BK125.out 2).trans rfl
    have hfz36_0 := blk_frozen BK125.out 0
    have hfz36_1 := blk_frozen BK125.out 1
    have hfz36_2 := blk_frozen BK125.out 2
    go_wp2
    go_ret
    exact ⟨_, by first | rfl | (simp [errW_none, errW_some] <;> rfl) | (simp [*, errW_none, errW_some] <;> rfl), by (with_reducible repeat (first | apply r1 | apply r2 | apply r3)); exact HO_3.out, by repeat (first | (with_reducible first | exact HB.out | apply b1 | apply b2 | apply b3 | refine below_set ?_ GE125.out) | exact HB.out)⟩

end Go.Proofs.YtalopdcephohgaaDoor.SB
