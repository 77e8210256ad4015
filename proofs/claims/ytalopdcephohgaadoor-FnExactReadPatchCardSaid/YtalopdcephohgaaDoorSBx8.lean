/- Contracts of Go functions that laws of this seat reach: each Lean function answers as its Go function does. No condition. Written by wip/tools/inj.py, over the kit's print. -/
import Derived.Test.YtalopdcephohgaaDoorSBx0
import Derived.Test.YtalopdcephohgaaDoorSBx5
import Derived.Test.YtalopdcephohgaaDoorSBx6
import Derived.Test.YtalopdcephohgaaDoorSBx7
namespace Go.Proofs.YtalopdcephohgaaDoor.SB
open Go.RowKit Go.Proofs.YtalopdcephohgaaDoorW.PrintWords Go.Proofs.YtalopdcephohgaaDoorW.PrintLast Go.Proofs.YtalopdcephohgaaDoorW.PrintMore
attribute [local go_sem] max2_int min2_int max_two min_two max_three min_three max_four min_four   -- for this text's walks alone
set_option linter.unusedVariables false
set_option linter.unusedSimpArgs false

/-! ### spec_ShowPatch: function 6 -/
mutual
def spec_ShowPatch.l0 : Nat → Int → Int → Int → List (S40) → Option (ByteArray)
 | 0, _, _, _, _ => none
 | k + 1, x3, x153000, x153001, x153002 => if x3 < (x153002.length : Int) then (if 0 ≤ x3 then (if (((rd_T40 x153002 x3).f2).length : Int) < 1 then (spec_ShowPatch.j1 k x3 ((rd_T40 x153002 x3).f2) true x153000 x153001 x153002) else (spec_ShowPatch.j1 k x3 ((rd_T40 x153002 x3).f2) (decide ((((rd_T40 x153002 x3).f2).length : Int) > 60)) x153000 x153001 x153002)) else (none)) else ((spec_l10Numbers.f k x153000 x153001 x153002).bind fun t159 => (spec_ShowPatch.l2 k (([] : List Int)) t159 0))
def spec_ShowPatch.j1 : Nat → Int → List (S45) → Bool → Int → Int → List (S40) → Option (ByteArray)
 | 0, _, _, _, _, _, _ => none
 | k + 1, x3, x4, x33, x153000, x153001, x153002 => if x33 = true then (some (⟨#[]⟩ : ByteArray)) else (spec_ShowPatch.l1 k x3 x4 0 x153000 x153001 x153002)
def spec_ShowPatch.l1 : Nat → Int → List (S45) → Int → Int → Int → List (S40) → Option (ByteArray)
 | 0, _, _, _, _, _, _ => none
 | k + 1, x3, x4, x5, x153000, x153001, x153002 => if x5 < (x4.length : Int) then (if 0 ≤ x5 then ((spec_StyleOk.f ((rd_T45 x4 x5).f1.f0) ((rd_T45 x4 x5).f1.f1) ((rd_T45 x4 x5).f1.f2) ((rd_T45 x4 x5).f1.f3) ((rd_T45 x4 x5).f1.f4)).bind fun t155 => (if t155 = true then (spec_ShowPatch.l1 k x3 x4 (wrap64 (x5 + 1)) x153000 x153001 x153002) else (some (⟨#[]⟩ : ByteArray)))) else (none)) else (spec_ShowPatch.l0 k (wrap64 (x3 + 1)) x153000 x153001 x153002)
def spec_ShowPatch.l2 : Nat → List Int → List Int → Int → Option (ByteArray)
 | 0, _, _, _ => none
 | k + 1, x6, x7, x8 => if x8 < (x7.length : Int) then (if 0 ≤ x8 then ((spec_l1In.f (rd x7 x8) 0 9999999).bind fun t163 => (if t163 = true then (if x8 > 0 then (if x6.length < 140737488355328 then ((some (x6 ++ [32] : List Int)).bind fun y164 => ((spec_l3Int.f k (rd x7 x8)).bind fun t168 => (if y164.length + t168.size < 140737488355328 then (spec_ShowPatch.l2 k (y164 ++ bytesOf t168) x7 (wrap64 (x8 + 1))) else (none)))) else (none)) else ((spec_l3Int.f k (rd x7 x8)).bind fun t173 => (if x6.length + t173.size < 140737488355328 then (spec_ShowPatch.l2 k (x6 ++ bytesOf t173) x7 (wrap64 (x8 + 1))) else (none)))) else (some (⟨#[]⟩ : ByteArray)))) else (none)) else (some (strOfNums x6))
end
def spec_ShowPatch.f (k : Nat) (a0_0 : Int) (a0_1 : Int) (l0_2 : List (S40)) : Option (ByteArray) := if (l0_2.length : Int) > 400 then (some (⟨#[]⟩ : ByteArray)) else (spec_ShowPatch.l0 k 0 a0_0 a0_1 l0_2)
theorem spec_ShowPatch.mono_l : ∀ k, (∀ y0 y1 y2 y3, LeO (spec_ShowPatch.l0 k y0 y1 y2 y3) (spec_ShowPatch.l0 (k + 1) y0 y1 y2 y3)) ∧ (∀ y0 y1 y2 y3 y4 y5, LeO (spec_ShowPatch.j1 k y0 y1 y2 y3 y4 y5) (spec_ShowPatch.j1 (k + 1) y0 y1 y2 y3 y4 y5)) ∧ (∀ y0 y1 y2 y3 y4 y5, LeO (spec_ShowPatch.l1 k y0 y1 y2 y3 y4 y5) (spec_ShowPatch.l1 (k + 1) y0 y1 y2 y3 y4 y5)) ∧ (∀ y0 y1 y2, LeO (spec_ShowPatch.l2 k y0 y1 y2) (spec_ShowPatch.l2 (k + 1) y0 y1 y2))
 | 0 => ⟨fun _ _ _ _ r h => by simp [spec_ShowPatch.l0] at h, fun _ _ _ _ _ _ r h => by simp [spec_ShowPatch.j1] at h, fun _ _ _ _ _ _ r h => by simp [spec_ShowPatch.l1] at h, fun _ _ _ r h => by simp [spec_ShowPatch.l2] at h⟩
 | k + 1 => by
  obtain ⟨ih0, ih1, ih2, ih3⟩ := spec_ShowPatch.mono_l k
  refine ⟨?_, ?_, ?_, ?_⟩
  ·intro y0 y1 y2 y3
   unfold spec_ShowPatch.l0
   repeat' first
   | (with_reducible exact ih0 _ _ _ _)
   | (with_reducible exact ih1 _ _ _ _ _ _)
   | (with_reducible exact ih2 _ _ _ _ _ _)
   | (with_reducible exact ih3 _ _ _)
   | (with_reducible exact spec_l10Numbers.mono _ _ _ _)
   | (with_reducible exact spec_l3Int.mono _ _)
   | (with_reducible exact LeO.refl _)
   | (with_reducible exact LeO.none _)
   | (with_reducible refine LeO.ite ?_ ?_)
   | (with_reducible refine LeO.bind ?_ (fun _ => ?_))
   | exact ih0 _ _ _ _
   | exact ih1 _ _ _ _ _ _
   | exact ih2 _ _ _ _ _ _
   | exact ih3 _ _ _
   | exact spec_l10Numbers.mono _ _ _ _
   | exact spec_l3Int.mono _ _
   | exact LeO.none _
   | refine LeO.ite ?_ ?_
   | refine LeO.bind ?_ (fun _ => ?_)
  ·intro y0 y1 y2 y3 y4 y5
   unfold spec_ShowPatch.j1
   repeat' first
   | (with_reducible exact ih0 _ _ _ _)
   | (with_reducible exact ih1 _ _ _ _ _ _)
   | (with_reducible exact ih2 _ _ _ _ _ _)
   | (with_reducible exact ih3 _ _ _)
   | (with_reducible exact spec_l10Numbers.mono _ _ _ _)
   | (with_reducible exact spec_l3Int.mono _ _)
   | (with_reducible exact LeO.refl _)
   | (with_reducible exact LeO.none _)
   | (with_reducible refine LeO.ite ?_ ?_)
   | (with_reducible refine LeO.bind ?_ (fun _ => ?_))
   | exact ih0 _ _ _ _
   | exact ih1 _ _ _ _ _ _
   | exact ih2 _ _ _ _ _ _
   | exact ih3 _ _ _
   | exact spec_l10Numbers.mono _ _ _ _
   | exact spec_l3Int.mono _ _
   | exact LeO.none _
   | refine LeO.ite ?_ ?_
   | refine LeO.bind ?_ (fun _ => ?_)
  ·intro y0 y1 y2 y3 y4 y5
   unfold spec_ShowPatch.l1
   repeat' first
   | (with_reducible exact ih0 _ _ _ _)
   | (with_reducible exact ih1 _ _ _ _ _ _)
   | (with_reducible exact ih2 _ _ _ _ _ _)
   | (with_reducible exact ih3 _ _ _)
   | (with_reducible exact spec_l10Numbers.mono _ _ _ _)
   | (with_reducible exact spec_l3Int.mono _ _)
   | (with_reducible exact LeO.refl _)
   | (with_reducible exact LeO.none _)
   | (with_reducible refine LeO.ite ?_ ?_)
   | (with_reducible refine LeO.bind ?_ (fun _ => ?_))
   | exact ih0 _ _ _ _
   | exact ih1 _ _ _ _ _ _
   | exact ih2 _ _ _ _ _ _
   | exact ih3 _ _ _
   | exact spec_l10Numbers.mono _ _ _ _
   | exact spec_l3Int.mono _ _
   | exact LeO.none _
   | refine LeO.ite ?_ ?_
   | refine LeO.bind ?_ (fun _ => ?_)
  ·intro y0 y1 y2
   unfold spec_ShowPatch.l2
   repeat' first
   | (with_reducible exact ih0 _ _ _ _)
   | (with_reducible exact ih1 _ _ _ _ _ _)
   | (with_reducible exact ih2 _ _ _ _ _ _)
   | (with_reducible exact ih3 _ _ _)
   | (with_reducible exact spec_l10Numbers.mono _ _ _ _)
   | (with_reducible exact spec_l3Int.mono _ _)
   | (with_reducible exact LeO.refl _)
   | (with_reducible exact LeO.none _)
   | (with_reducible refine LeO.ite ?_ ?_)
   | (with_reducible refine LeO.bind ?_ (fun _ => ?_))
   | exact ih0 _ _ _ _
   | exact ih1 _ _ _ _ _ _
   | exact ih2 _ _ _ _ _ _
   | exact ih3 _ _ _
   | exact spec_l10Numbers.mono _ _ _ _
   | exact spec_l3Int.mono _ _
   | exact LeO.none _
   | refine LeO.ite ?_ ?_
   | refine LeO.bind ?_ (fun _ => ?_)
theorem spec_ShowPatch.mono : ∀ a0 a1 a2 k, LeO (spec_ShowPatch.f k a0 a1 a2) (spec_ShowPatch.f (k + 1) a0 a1 a2) := by
 intro a0 a1 a2 k
 obtain ⟨ih0, ih1, ih2, ih3⟩ := spec_ShowPatch.mono_l k
 unfold spec_ShowPatch.f
 repeat' first
   | (with_reducible exact ih0 _ _ _ _)
   | (with_reducible exact ih1 _ _ _ _ _ _)
   | (with_reducible exact ih2 _ _ _ _ _ _)
   | (with_reducible exact ih3 _ _ _)
   | (with_reducible exact spec_l10Numbers.mono _ _ _ _)
   | (with_reducible exact spec_l3Int.mono _ _)
   | (with_reducible exact LeO.refl _)
   | (with_reducible exact LeO.none _)
   | (with_reducible refine LeO.ite ?_ ?_)
   | (with_reducible refine LeO.bind ?_ (fun _ => ?_))
   | exact ih0 _ _ _ _
   | exact ih1 _ _ _ _ _ _
   | exact ih2 _ _ _ _ _ _
   | exact ih3 _ _ _
   | exact spec_l10Numbers.mono _ _ _ _
   | exact spec_l3Int.mono _ _
   | exact LeO.none _
   | refine LeO.ite ?_ ?_
   | refine LeO.bind ?_ (fun _ => ?_)
set_option maxHeartbeats 8000000 in
set_option maxRecDepth 100000 in
theorem spec_ShowPatch.calls (k : Nat) (a0_0 : Int) (a0_1 : Int) (A0_2 : Option Addr) (c0_2 : Nat) (l0_2 : List (S40)) (r : ByteArray) (w : World) (hr0_2 : Kd.C k40 w A0_2 l0_2.length l0_2) (hc0_2 : l0_2.length ≤ c0_2) (h : spec_ShowPatch.f k a0_0 a0_1 l0_2 = some r) :
  Calls Tryd.prog 6 #[.agg #[.int .i64 a0_0, .int .i64 a0_1, .slice A0_2 l0_2.length c0_2]] w fun e w' => e = .returned (.string r) ∧ Below w.heap.size w w' := by
 have hu29 := Tryd.underlying29
 have hu43 := Tryd.underlying43
 have HR0_2 := am hr0_2
 have HC0_2 := am hc0_2
 clear hr0_2 hc0_2
 have HB := am (Below.refl w.heap.size w)
 have H : (if (l0_2.length : Int) > 400 then (some (⟨#[]⟩ : ByteArray)) else (spec_ShowPatch.l0 k 0 a0_0 a0_1 l0_2)) = some r := h
 clear h
 by_cases c2 : (l0_2.length : Int) > 400
 ·rw [if_pos c2] at H
  have c2b0 : decide (400 < (l0_2.length : Int)) = true := decide_eq_true c2
  have c2b1 : decide (400 < l0_2.length) = true := decide_eq_true (by omega)
  clear c2
  obtain rfl := Option.some.inj H
  go_enter Tryd.func6, Tryd.ntmps6
  go_wp2_with (first | ((with_reducible refine gate_dst (N := 1) rfl ?_); (try (refine gate_guard (by rfl) ?_; dsimp only)); refine box_event ?hg (N := 1) ?hd (cs := #[.int .i64 a0_0, .int .i64 a0_1, .slice A0_2 l0_2.length c0_2]) (t := 29) ?hr ?_; (case hd => rfl); (case hg => rfl); (case hr => first | (go_simp; done) | (go_simp; rfl)); intro gb152 hg w3 hbox hb; have n0_ := am (below_step (rb HB) hb); have n1_ := am (hbox); have n2_ := am ((by rw [hg]; exact (below_size (rb HB)) : w.heap.size ≤ gb152)); have n3_ := am ((by rw [hg]; exact (below_size (rb HB)) : w.heap.size ≤ gb152)); clear HB; have HB := n0_; have BK152 := n1_; have GW152 := n2_; have GE152 := n3_; clear n0_ n1_ n2_ n3_; clear hb hbox hg; have hcz4_0 : w3.cell? ⟨gb152, 0, none⟩ = some (.int .i64 a0_0) := (blk_cell BK152.out 0).trans rfl; have hcz4_1 : w3.cell? ⟨gb152, 1, none⟩ = some (.int .i64 a0_1) := (blk_cell BK152.out 1).trans rfl; have hcz4_2 : w3.cell? ⟨gb152, 2, none⟩ = some (.slice A0_2 l0_2.length c0_2) := (blk_cell BK152.out 2).trans rfl; have hfz4_0 := blk_frozen BK152.out 0; have hfz4_1 := blk_frozen BK152.out 1; have hfz4_2 := blk_frozen BK152.out 2))
  go_ret
  exact ⟨by first | rfl | (simp [errW_none, errW_some] <;> rfl) | (simp [*, errW_none, errW_some] <;> rfl), by repeat (first | (with_reducible first | exact HB.out | apply b1 | apply b2 | apply b3 | refine below_set ?_ GE152.out) | exact HB.out)⟩
 ·rw [if_neg c2] at H
  have c2b0 : decide (400 < (l0_2.length : Int)) = false := decide_eq_false c2
  have c2b1 : decide (400 < l0_2.length) = false := decide_eq_false (by omega)
  clear c2
  have H' := am H
  clear H
  go_enter Tryd.func6, Tryd.ntmps6
  go_wp2_with (first | ((with_reducible refine gate_dst (N := 1) rfl ?_); (try (refine gate_guard (by rfl) ?_; dsimp only)); refine box_event ?hg (N := 1) ?hd (cs := #[.int .i64 a0_0, .int .i64 a0_1, .slice A0_2 l0_2.length c0_2]) (t := 29) ?hr ?_; (case hd => rfl); (case hg => rfl); (case hr => first | (go_simp; done) | (go_simp; rfl)); intro gb152 hg w5 hbox hb; have n0_ := am (below_step (rb HB) hb); have n1_ := am (hbox); have n2_ := am ((by rw [hg]; exact (below_size (rb HB)) : w.heap.size ≤ gb152)); have n3_ := am ((by rw [hg]; exact (below_size (rb HB)) : w.heap.size ≤ gb152)); clear HB; have HB := n0_; have BK152 := n1_; have GW152 := n2_; have GE152 := n3_; clear n0_ n1_ n2_ n3_; clear hb hbox hg; have hcz6_0 : w5.cell? ⟨gb152, 0, none⟩ = some (.int .i64 a0_0) := (blk_cell BK152.out 0).trans rfl; have hcz6_1 : w5.cell? ⟨gb152, 1, none⟩ = some (.int .i64 a0_1) := (blk_cell BK152.out 1).trans rfl; have hcz6_2 : w5.cell? ⟨gb152, 2, none⟩ = some (.slice A0_2 l0_2.length c0_2) := (blk_cell BK152.out 2).trans rfl; have hfz6_0 := blk_frozen BK152.out 0; have hfz6_1 := blk_frozen BK152.out 1; have hfz6_2 := blk_frozen BK152.out 2))
  go_loopg [3] k (fun kq v3 w' => ∃ (x3_1 : Int), v3 = .int .i64 x3_1 ∧ Aside0 (spec_ShowPatch.l0 kq x3_1 a0_0 a0_1 l0_2 = some r) ∧ Aside0 (kq ≤ k) ∧ Aside0 (w'.heap[gb152]? = some (.cells #[.int .i64 a0_0, .int .i64 a0_1, (.slice A0_2 l0_2.length c0_2)] 29 (0, 0))) ∧ Aside0 (Below w.heap.size w w'))
  case atStart => exact ⟨(0), (by first | rfl | (simp; done) | (simp [*]; done)), H', ⟨Nat.le_refl _⟩, ⟨rk BK152⟩, ⟨by repeat (first | (with_reducible first | exact HB.out | apply b1 | apply b2 | apply b3 | refine below_set ?_ GE152.out) | exact HB.out)⟩⟩
  case round =>
   clear H'
   try clear c2
   try clear c2b0
   try clear c2b1
   try clear p2
   try clear c6
   try clear hcz4_0
   try clear hcz4_1
   try clear hcz4_2
   try clear hcz6_0
   try clear hcz6_1
   try clear hcz6_2
   try clear hfz4_0
   try clear hfz4_1
   try clear hfz4_2
   try clear hfz6_0
   try clear hfz6_1
   try clear hfz6_2
   obtain ⟨x3_1, rfl, HA, HK1, BK152, HB⟩ := hrel
   cases gk with
   | zero => exact absurd HA.out (by simp [spec_ShowPatch.l0])
   | succ k1 =>
    have H := HA.out
    clear HA
    simp only [spec_ShowPatch.l0] at H
    by_cases c7 : x3_1 < (l0_2.length : Int)
    ·rw [if_pos c7] at H
     have c7b0 : decide (x3_1 < (l0_2.length : Int)) = true := decide_eq_true c7
     clear c7
     by_cases c8 : 0 ≤ x3_1
     ·rw [if_pos c8] at H
      have c8b0 : decide (0 ≤ x3_1) = true := decide_eq_true c8
      clear c8
      have HC9 := am H
      clear H
      have hcz10_0 : wr.cell? ⟨gb152, 0, none⟩ = some (.int .i64 a0_0) := (blk_cell BK152.out 0).trans rfl
      have hcz10_1 : wr.cell? ⟨gb152, 1, none⟩ = some (.int .i64 a0_1) := (blk_cell BK152.out 1).trans rfl
      have hcz10_2 : wr.cell? ⟨gb152, 2, none⟩ = some (.slice A0_2 l0_2.length c0_2) := (blk_cell BK152.out 2).trans rfl
      have hfz10_0 := blk_frozen BK152.out 0
      have hfz10_1 := blk_frozen BK152.out 1
      have hfz10_2 := blk_frozen BK152.out 2
      have p153 : 0 ≤ (x3_1 : Int) := dt_
      have q153 : x3_1 < (l0_2.length : Int) := dt_
      obtain ⟨ad153, A153_2, c153_2, e153, hx153_0, hx153_1, hx153_2, hl153_2, hi153_2⟩ := at_T40 HR0_2.out x3_1 p153 q153
      cases e153
      replace hx153_0 := mv HB.out hx153_0
      replace hx153_1 := mv HB.out hx153_1
      replace hx153_2 := mv HB.out hx153_2
      have HR153_2 := am hi153_2
      have HC153_2 := am hl153_2
      clear hi153_2 hl153_2
      replace p153 := eq_true p153
      replace q153 := eq_true q153
      go_upto_region 7 with (fail)
      go_cut [33] (fun v33 wc => ∃ (kq : Nat) (x33_8 : Bool), v33 = .bool x33_8 ∧ Aside0 (spec_ShowPatch.j1 kq x3_1 ((rd_T40 l0_2 x3_1).f2) x33_8 a0_0 a0_1 l0_2 = some r) ∧ Aside0 (kq ≤ k1) ∧ Aside0 (wc.heap[gb152]? = some (.cells #[.int .i64 a0_0, .int .i64 a0_1, (.slice (some ad153) l0_2.length c0_2)] 29 (0, 0))) ∧ Aside0 (Below w.heap.size w wc))
      case first =>
       have H := HC9.out
       clear HC9
       by_cases c11 : (((rd_T40 l0_2 x3_1).f2).length : Int) < 1
       ·rw [if_pos c11] at H
        have c11b0 : decide ((((rd_T40 l0_2 x3_1).f2).length : Int) < 1) = true := decide_eq_true c11
        have c11b1 : decide (((rd_T40 l0_2 x3_1).f2).length < 1) = true := decide_eq_true (by omega)
        clear c11
        (first | rw [c11b0] | (simp only [i64_w, i32_w]; rw [c11b0]) | skip)
        have H' := am H
        clear H
        go_wp2
        go_meet
        case rel => exact ⟨_, (true), (by first | rfl | (simp; done) | (simp [*]; done)), H', ⟨by have := HK1.out; first | omega | exact Nat.le_refl _⟩, ⟨rk BK152⟩, ⟨by repeat (first | (with_reducible first | exact HB.out | apply b1 | apply b2 | apply b3 | refine below_set ?_ GE152.out) | exact HB.out)⟩⟩
       ·rw [if_neg c11] at H
        have c11b0 : decide ((((rd_T40 l0_2 x3_1).f2).length : Int) < 1) = false := decide_eq_false c11
        have c11b1 : decide (((rd_T40 l0_2 x3_1).f2).length < 1) = false := decide_eq_false (by omega)
        clear c11
        (first | rw [c11b0] | (simp only [i64_w, i32_w]; rw [c11b0]) | skip)
        have H' := am H
        clear H
        go_wp2
        go_meet
        case rel => exact ⟨_, (decide ((((rd_T40 l0_2 x3_1).f2).length : Int) > 60)), (by first | rfl | (simp; done) | (simp [*]; done)), H', ⟨by have := HK1.out; first | omega | exact Nat.le_refl _⟩, ⟨rk BK152⟩, ⟨by repeat (first | (with_reducible first | exact HB.out | apply b1 | apply b2 | apply b3 | refine below_set ?_ GE152.out) | exact HB.out)⟩⟩
      case rest =>
       clear HC9
       try clear c1
       try clear p1
       try clear q1
       try clear hx1
       try clear c2
       try clear c2b0
       try clear c2b1
       try clear p2
       try clear c6
       try clear c7
       try clear c7b0
       try clear c8
       try clear c8b0
       try clear c11
       try clear c11b0
       try clear c11b1
       try clear hcz10_0
       try clear hcz10_1
       try clear hcz10_2
       try clear hcz4_0
       try clear hcz4_1
       try clear hcz4_2
       try clear hcz6_0
       try clear hcz6_1
       try clear hcz6_2
       try clear hfz10_0
       try clear hfz10_1
       try clear hfz10_2
       try clear hfz4_0
       try clear hfz4_1
       try clear hfz4_2
       try clear hfz6_0
       try clear hfz6_1
       try clear hfz6_2
       try clear hx153_0
       try clear hx153_1
       try clear hx153_2
       try clear p153
       try clear p2
       try clear q153
       obtain ⟨kq, x33_8, rfl, HA, HJ8, BK152, HB⟩ := hcut
       cases kq with
       | zero => exact absurd HA.out (by simp [spec_ShowPatch.j1])
       | succ kj8 =>
        have H := HA.out
        clear HA
        simp only [spec_ShowPatch.j1] at H
        by_cases c12 : x33_8 = true
        ·subst c12
         have H1 : (some (⟨#[]⟩ : ByteArray)) = some r := by rw [if_pos rfl] at H; exact H
         clear H
         have H := H1
         clear H1
         obtain rfl := Option.some.inj H
         go_wp2
         go_ret
         exact ⟨by first | rfl | (simp [errW_none, errW_some] <;> rfl) | (simp [*, errW_none, errW_some] <;> rfl), by repeat (first | (with_reducible first | exact HB.out | apply b1 | apply b2 | apply b3 | refine below_set ?_ GE152.out) | exact HB.out)⟩
        ·replace c12 := Bool.eq_false_iff.mpr c12
         subst c12
         have H1 : (spec_ShowPatch.l1 kj8 x3_1 ((rd_T40 l0_2 x3_1).f2) 0 a0_0 a0_1 l0_2) = some r := by rw [if_neg (show ¬ (false = true) by decide)] at H; exact H
         clear H
         have H := H1
         clear H1
         have H' := am H
         clear H
         go_wp2
         go_loopg [5] kj8 (fun kq v5 w' => ∃ (x5_3 : Int), v5 = .int .i64 x5_3 ∧ Aside0 (spec_ShowPatch.l1 kq x3_1 ((rd_T40 l0_2 x3_1).f2) x5_3 a0_0 a0_1 l0_2 = some r) ∧ Aside0 (kq ≤ kj8) ∧ Aside0 (w'.heap[gb152]? = some (.cells #[.int .i64 a0_0, .int .i64 a0_1, (.slice (some ad153) l0_2.length c0_2)] 29 (0, 0))) ∧ Aside0 (Below w.heap.size w w'))
         case atStart => exact ⟨(0), (by first | rfl | (simp; done) | (simp [*]; done)), H', ⟨Nat.le_refl _⟩, ⟨rk BK152⟩, ⟨by repeat (first | (with_reducible first | exact HB.out | apply b1 | apply b2 | apply b3 | refine below_set ?_ GE152.out) | exact HB.out)⟩⟩
         case round =>
          clear H'
          try clear c1
          try clear p1
          try clear q1
          try clear hx1
          try clear c2
          try clear c2b0
          try clear c2b1
          try clear p2
          try clear c6
          try clear c7
          try clear c7b0
          try clear c8
          try clear c8b0
          try clear c11
          try clear c11b0
          try clear c11b1
          try clear c12
          try clear hcz10_0
          try clear hcz10_1
          try clear hcz10_2
          try clear hcz4_0
          try clear hcz4_1
          try clear hcz4_2
          try clear hcz6_0
          try clear hcz6_1
          try clear hcz6_2
          try clear hfz10_0
          try clear hfz10_1
          try clear hfz10_2
          try clear hfz4_0
          try clear hfz4_1
          try clear hfz4_2
          try clear hfz6_0
          try clear hfz6_1
          try clear hfz6_2
          try clear hx153_0
          try clear hx153_1
          try clear hx153_2
          try clear p1
          try clear p153
          try clear p2
          try clear q1
          try clear q153
          obtain ⟨x5_3, rfl, HA, HK3, BK152, HB⟩ := hrel
          cases gk with
          | zero => exact absurd HA.out (by simp [spec_ShowPatch.l1])
          | succ k3 =>
           have H := HA.out
           clear HA
           simp only [spec_ShowPatch.l1] at H
           by_cases c13 : x5_3 < (((rd_T40 l0_2 x3_1).f2).length : Int)
           ·rw [if_pos c13] at H
            have c13b0 : decide (x5_3 < (((rd_T40 l0_2 x3_1).f2).length : Int)) = true := decide_eq_true c13
            clear c13
            by_cases c14 : 0 ≤ x5_3
            ·rw [if_pos c14] at H
             have c14b0 : decide (0 ≤ x5_3) = true := decide_eq_true c14
             clear c14
             replace H := Option.bind_eq_some_iff.mp H
             obtain ⟨t155, A150, H⟩ := H
             replace H : (if t155 = true then (spec_ShowPatch.l1 k3 x3_1 ((rd_T40 l0_2 x3_1).f2) (wrap64 (x5_3 + 1)) a0_0 a0_1 l0_2) else (some (⟨#[]⟩ : ByteArray))) = some r := H
             have A15 := am A150
             clear A150
             by_cases c16 : t155 = true
             ·subst c16
              have H1 : (spec_ShowPatch.l1 k3 x3_1 ((rd_T40 l0_2 x3_1).f2) (wrap64 (x5_3 + 1)) a0_0 a0_1 l0_2) = some r := by rw [if_pos rfl] at H; exact H
              clear H
              have H := H1
              clear H1
              have H' := am H
              clear H
              have p154 : 0 ≤ (x5_3 : Int) := dt_
              have q154 : x5_3 < (((rd_T40 l0_2 x3_1).f2).length : Int) := dt_
              obtain ⟨ad154, e154, hx154_0, hx154_1, hx154_2, hx154_3, hx154_4, hx154_5, hx154_6⟩ := at_T45 HR153_2.out x5_3 p154 q154
              cases e154
              replace hx154_0 := mv HB.out hx154_0
              replace hx154_1 := mv HB.out hx154_1
              replace hx154_2 := mv HB.out hx154_2
              replace hx154_3 := mv HB.out hx154_3
              replace hx154_4 := mv HB.out hx154_4
              replace hx154_5 := mv HB.out hx154_5
              replace hx154_6 := mv HB.out hx154_6
              replace p154 := eq_true p154
              replace q154 := eq_true q154
              go_wp2_with (first | ((with_reducible refine gate_callee (f := 15) rfl ?_); refine gl_ (some 45) Tryd.func15 #[.agg #[.int .i64 ((rd_T45 ((rd_T40 l0_2 x3_1).f2) x5_3).f1.f0), .int .i64 ((rd_T45 ((rd_T40 l0_2 x3_1).f2) x5_3).f1.f1), .bool ((rd_T45 ((rd_T40 l0_2 x3_1).f2) x5_3).f1.f2), .bool ((rd_T45 ((rd_T40 l0_2 x3_1).f2) x5_3).f1.f3), .bool ((rd_T45 ((rd_T40 l0_2 x3_1).f2) x5_3).f1.f4)]] ?_; (with_reducible refine (spec_StyleOk.calls ((rd_T45 ((rd_T40 l0_2 x3_1).f2) x5_3).f1.f0) ((rd_T45 ((rd_T40 l0_2 x3_1).f2) x5_3).f1.f1) ((rd_T45 ((rd_T40 l0_2 x3_1).f2) x5_3).f1.f2) ((rd_T45 ((rd_T40 l0_2 x3_1).f2) x5_3).f1.f3) ((rd_T45 ((rd_T40 l0_2 x3_1).f2) x5_3).f1.f4) true _ A15.out).mono ?_); rintro e w17 ⟨rfl, hb⟩; refine ⟨_, rfl, ?_⟩; have n0_ := am (blk_below (g := gb152) (o := .cells #[.int .i64 a0_0, .int .i64 a0_1, .slice (some ad153) l0_2.length c0_2] 29 (0, 0)) (rk BK152) hb); have n1_ := am (below_step (rb1 HB GE152) hb); clear BK152; clear HB; have BK152 := n0_; have HB := n1_; clear n0_ n1_; (try clear hb); (try clear hb2); (try clear hk); (try clear hi)))
              go_roundg k3
              case measure => have := HK1.out; have := HJ8.out; have := HK3.out; omega
              case rel => exact ⟨(wrap64 (x5_3 + 1)), (by first | rfl | (simp; done) | (simp [*]; done)), H', ⟨by have := HK1.out; have := HJ8.out; have := HK3.out; omega⟩, ⟨rk BK152⟩, ⟨by repeat (first | (with_reducible first | exact HB.out | apply b1 | apply b2 | apply b3 | refine below_set ?_ GE152.out) | exact HB.out)⟩⟩
             ·replace c16 := Bool.eq_false_iff.mpr c16
              subst c16
              have H1 : (some (⟨#[]⟩ : ByteArray)) = some r := by rw [if_neg (show ¬ (false = true) by decide)] at H; exact H
              clear H
              have H := H1
              clear H1
              obtain rfl := Option.some.inj H
              have p154 : 0 ≤ (x5_3 : Int) := dt_
              have q154 : x5_3 < (((rd_T40 l0_2 x3_1).f2).length : Int) := dt_
              obtain ⟨ad154, e154, hx154_0, hx154_1, hx154_2, hx154_3, hx154_4, hx154_5, hx154_6⟩ := at_T45 HR153_2.out x5_3 p154 q154
              cases e154
              replace hx154_0 := mv HB.out hx154_0
              replace hx154_1 := mv HB.out hx154_1
              replace hx154_2 := mv HB.out hx154_2
              replace hx154_3 := mv HB.out hx154_3
              replace hx154_4 := mv HB.out hx154_4
              replace hx154_5 := mv HB.out hx154_5
              replace hx154_6 := mv HB.out hx154_6
              replace p154 := eq_true p154
              replace q154 := eq_true q154
              go_wp2_with (first | ((with_reducible refine gate_callee (f := 15) rfl ?_); refine gl_ (some 45) Tryd.func15 #[.agg #[.int .i64 ((rd_T45 ((rd_T40 l0_2 x3_1).f2) x5_3).f1.f0), .int .i64 ((rd_T45 ((rd_T40 l0_2 x3_1).f2) x5_3).f1.f1), .bool ((rd_T45 ((rd_T40 l0_2 x3_1).f2) x5_3).f1.f2), .bool ((rd_T45 ((rd_T40 l0_2 x3_1).f2) x5_3).f1.f3), .bool ((rd_T45 ((rd_T40 l0_2 x3_1).f2) x5_3).f1.f4)]] ?_; (with_reducible refine (spec_StyleOk.calls ((rd_T45 ((rd_T40 l0_2 x3_1).f2) x5_3).f1.f0) ((rd_T45 ((rd_T40 l0_2 x3_1).f2) x5_3).f1.f1) ((rd_T45 ((rd_T40 l0_2 x3_1).f2) x5_3).f1.f2) ((rd_T45 ((rd_T40 l0_2 x3_1).f2) x5_3).f1.f3) ((rd_T45 ((rd_T40 l0_2 x3_1).f2) x5_3).f1.f4) false _ A15.out).mono ?_); rintro e w18 ⟨rfl, hb⟩; refine ⟨_, rfl, ?_⟩; have n0_ := am (blk_below (g := gb152) (o := .cells #[.int .i64 a0_0, .int .i64 a0_1, .slice (some ad153) l0_2.length c0_2] 29 (0, 0)) (rk BK152) hb); have n1_ := am (below_step (rb1 HB GE152) hb); clear BK152; clear HB; have BK152 := n0_; have HB := n1_; clear n0_ n1_; (try clear hb); (try clear hb2); (try clear hk); (try clear hi)))
              go_ret
              exact ⟨by first | rfl | (simp [errW_none, errW_some] <;> rfl) | (simp [*, errW_none, errW_some] <;> rfl), by repeat (first | (with_reducible first | exact HB.out | apply b1 | apply b2 | apply b3 | refine below_set ?_ GE152.out) | exact HB.out)⟩
            ·rw [if_neg c14] at H
             exact absurd H (by simp)
           ·rw [if_neg c13] at H
            have c13b0 : decide (x5_3 < (((rd_T40 l0_2 x3_1).f2).length : Int)) = false := decide_eq_false c13
            clear c13
            have H' := am H
            clear H
            go_wp2
            go_roundg k3
            case measure => have := HK1.out; have := HJ8.out; have := HK3.out; omega
            case rel => exact ⟨(wrap64 (x3_1 + 1)), (by first | rfl | (simp; done) | (simp [*]; done)), H', ⟨by have := HK1.out; have := HJ8.out; have := HK3.out; omega⟩, ⟨rk BK152⟩, ⟨by repeat (first | (with_reducible first | exact HB.out | apply b1 | apply b2 | apply b3 | refine below_set ?_ GE152.out) | exact HB.out)⟩⟩
     ·rw [if_neg c8] at H
      exact absurd H (by simp)
    ·rw [if_neg c7] at H
     have c7b0 : decide (x3_1 < (l0_2.length : Int)) = false := decide_eq_false c7
     clear c7
     obtain ⟨y156, hy156⟩ : ∃ y_ : List Int, y_ = (([] : List Int)) := ⟨_, rfl⟩
     replace H : ((spec_l10Numbers.f k1 a0_0 a0_1 l0_2).bind fun t159 => (spec_ShowPatch.l2 k1 y156 t159 0)) = some r := by first | (rw [hy156]; with_reducible exact H) | (rw [hy156]; exact H) | exact H
     have Ny156 := am hy156
     clear hy156
     replace H := Option.bind_eq_some_iff.mp H
     obtain ⟨t159, A190, H⟩ := H
     replace H : (spec_ShowPatch.l2 k1 y156 t159 0) = some r := H
     have A19 := am A190
     clear A190
     have H' := am H
     clear H
     have hcz20_0 : wr.cell? ⟨gb152, 0, none⟩ = some (.int .i64 a0_0) := (blk_cell BK152.out 0).trans rfl
     have hcz20_1 : wr.cell? ⟨gb152, 1, none⟩ = some (.int .i64 a0_1) := (blk_cell BK152.out 1).trans rfl
     have hcz20_2 : wr.cell? ⟨gb152, 2, none⟩ = some (.slice A0_2 l0_2.length c0_2) := (blk_cell BK152.out 2).trans rfl
     have hfz20_0 := blk_frozen BK152.out 0
     have hfz20_1 := blk_frozen BK152.out 1
     have hfz20_2 := blk_frozen BK152.out 2
     go_wp2_with (first | ((with_reducible refine gate_dst (N := 47) rfl ?_); (try (refine gate_guard (by rfl) ?_; dsimp only)); refine Kd.R_lit (Kd.int .u8) _ 5 ?hg (N := 47) ?hd (xs := ([] : List Int)) (inner := []) (ok := fun _ => True) (okp := fun _ => True) ?hr ?hp (fun _ hk => hk) trivial (Below.refl _ _) (Nat.le_refl _) (by simp) ?_; (case hd => rfl); (case hg => rfl); (case hr => first | (go_simp; done) | (go_simp; rfl)); (case hp => exact (Reps.none _ _)); intro v157 w21 ho22 hb hg_ hnew_; clear hg_ hnew_; (first | rw [← Ny156.out] at ho22 | (simp only [Int.reduceToNat] at ho22; rw [← Ny156.out] at ho22)); have n0_ := am (Kd.R_lower ho22 (below_size (rb1 HB GE152))); have n1_ := am (blk_below (g := gb152) (o := .cells #[.int .i64 a0_0, .int .i64 a0_1, .slice A0_2 l0_2.length c0_2] 29 (0, 0)) (rk BK152) hb); have n2_ := am (below_step (rb1 HB GE152) hb); clear BK152; clear HB; have HO158 := n0_; have BK152 := n1_; have HB := n2_; clear n0_ n1_ n2_; clear hb ho22; have hcz23_0 : w21.cell? ⟨gb152, 0, none⟩ = some (.int .i64 a0_0) := (blk_cell BK152.out 0).trans rfl; have hcz23_1 : w21.cell? ⟨gb152, 1, none⟩ = some (.int .i64 a0_1) := (blk_cell BK152.out 1).trans rfl; have hcz23_2 : w21.cell? ⟨gb152, 2, none⟩ = some (.slice A0_2 l0_2.length c0_2) := (blk_cell BK152.out 2).trans rfl; have hfz23_0 := blk_frozen BK152.out 0; have hfz23_1 := blk_frozen BK152.out 1; have hfz23_2 := blk_frozen BK152.out 2) | ((with_reducible refine gate_callee (f := 16) rfl ?_); refine gl_ (some 49) Tryd.func16 #[.agg #[.int .i64 a0_0, .int .i64 a0_1, .slice A0_2 l0_2.length c0_2]] ?_; (with_reducible refine (spec_l10Numbers.calls k1 a0_0 a0_1 _ _ l0_2 t159 _ ?side1 ?side2 A19.out).mono ?_); (case side1 => exact rc ((Kd.C_below HR0_2.out HB.out))); (case side2 => exact HC0_2.out); rintro e w24 ⟨v160, rfl, ho0, hb⟩; refine ⟨_, rfl, ?_⟩; have n0_ := am (Kd.R_below (rr HO158) hb); have n1_ := am (Kd.R_lower ho0 (below_size (rb1 HB GE152))); have n2_ := am (blk_below (g := gb152) (o := .cells #[.int .i64 a0_0, .int .i64 a0_1, .slice A0_2 l0_2.length c0_2] 29 (0, 0)) (rk BK152) hb); have n3_ := am (below_step (rb1 HB GE152) hb); clear HO158; clear BK152; clear HB; have HO158 := n0_; have HO161 := n1_; have BK152 := n2_; have HB := n3_; clear n0_ n1_ n2_ n3_; (try clear hb); (try clear hb2); (try clear hk); (try clear hi); (try clear ho0)))
     go_loopg [6, 8] k1 (fun kq v6 v8 w' => ∃ (x6_2 : List Int) (x8_2 : Int), v8 = .int .i64 x8_2 ∧ Aside0 (spec_ShowPatch.l2 kq x6_2 t159 x8_2 = some r) ∧ Aside0 (kq ≤ k1) ∧ Aside0 (Kd.R (Kd.int .u8) 5 w' w.heap.size (fun _ => True) v6 x6_2) ∧ Aside0 (Kd.R (Kd.int .i64) 2 w' w.heap.size (fun _ => True) v160 t159) ∧ Aside0 (w'.heap[gb152]? = some (.cells #[.int .i64 a0_0, .int .i64 a0_1, (.slice A0_2 l0_2.length c0_2)] 29 (0, 0))) ∧ Aside0 (Below w.heap.size w w'))
     case atStart => exact ⟨(y156), (0), (by first | rfl | (simp; done) | (simp [*]; done)), H', ⟨Nat.le_refl _⟩, ⟨rr HO158⟩, ⟨rr HO161⟩, ⟨rk BK152⟩, ⟨by repeat (first | (with_reducible first | exact HB.out | apply b1 | apply b2 | apply b3 | refine below_set ?_ GE152.out) | exact HB.out)⟩⟩
     case round =>
      clear H'
      try clear c1
      try clear p1
      try clear q1
      try clear hx1
      try clear c2
      try clear c2b0
      try clear c2b1
      try clear p2
      try clear c6
      try clear p6
      try clear c7
      try clear c7b0
      try clear c8
      try clear c8b0
      try clear c11
      try clear c11b0
      try clear c11b1
      try clear c12
      try clear c13
      try clear c13b0
      try clear c14
      try clear c14b0
      try clear c15
      try clear p15
      try clear q15
      try clear hx15
      try clear c16
      try clear hcz10_0
      try clear hcz10_1
      try clear hcz10_2
      try clear hcz20_0
      try clear hcz20_1
      try clear hcz20_2
      try clear hcz23_0
      try clear hcz23_1
      try clear hcz23_2
      try clear hcz4_0
      try clear hcz4_1
      try clear hcz4_2
      try clear hcz6_0
      try clear hcz6_1
      try clear hcz6_2
      try clear hfz10_0
      try clear hfz10_1
      try clear hfz10_2
      try clear hfz20_0
      try clear hfz20_1
      try clear hfz20_2
      try clear hfz23_0
      try clear hfz23_1
      try clear hfz23_2
      try clear hfz4_0
      try clear hfz4_1
      try clear hfz4_2
      try clear hfz6_0
      try clear hfz6_1
      try clear hfz6_2
      try clear hx153_0
      try clear hx153_1
      try clear hx153_2
      try clear hx154_0
      try clear hx154_1
      try clear hx154_2
      try clear hx154_3
      try clear hx154_4
      try clear hx154_5
      try clear hx154_6
      try clear p1
      try clear p153
      try clear p154
      try clear p2
      try clear q1
      try clear q153
      try clear q154
      obtain ⟨x6_2, x8_2, rfl, HA, HK2, HO_6, HO_7, BK152, HB⟩ := hrel
      cases gk with
      | zero => exact absurd HA.out (by simp [spec_ShowPatch.l2])
      | succ k2 =>
       have H := HA.out
       clear HA
       simp only [spec_ShowPatch.l2] at H
       by_cases c25 : x8_2 < (t159.length : Int)
       ·rw [if_pos c25] at H
        have c25b0 : decide (x8_2 < (t159.length : Int)) = true := decide_eq_true c25
        clear c25
        by_cases c26 : 0 ≤ x8_2
        ·rw [if_pos c26] at H
         have c26b0 : decide (0 ≤ x8_2) = true := decide_eq_true c26
         clear c26
         replace H := Option.bind_eq_some_iff.mp H
         obtain ⟨t163, A270, H⟩ := H
         replace H : (if t163 = true then (if x8_2 > 0 then (if x6_2.length < 140737488355328 then ((some (x6_2 ++ [32] : List Int)).bind fun y164 => ((spec_l3Int.f k2 (rd t159 x8_2)).bind fun t168 => (if y164.length + t168.size < 140737488355328 then (spec_ShowPatch.l2 k2 (y164 ++ bytesOf t168) t159 (wrap64 (x8_2 + 1))) else (none)))) else (none)) else ((spec_l3Int.f k2 (rd t159 x8_2)).bind fun t173 => (if x6_2.length + t173.size < 140737488355328 then (spec_ShowPatch.l2 k2 (x6_2 ++ bytesOf t173) t159 (wrap64 (x8_2 + 1))) else (none)))) else (some (⟨#[]⟩ : ByteArray))) = some r := H
         have A27 := am A270
         clear A270
         by_cases c28 : t163 = true
         ·subst c28
          have H1 : (if x8_2 > 0 then (if x6_2.length < 140737488355328 then ((some (x6_2 ++ [32] : List Int)).bind fun y164 => ((spec_l3Int.f k2 (rd t159 x8_2)).bind fun t168 => (if y164.length + t168.size < 140737488355328 then (spec_ShowPatch.l2 k2 (y164 ++ bytesOf t168) t159 (wrap64 (x8_2 + 1))) else (none)))) else (none)) else ((spec_l3Int.f k2 (rd t159 x8_2)).bind fun t173 => (if x6_2.length + t173.size < 140737488355328 then (spec_ShowPatch.l2 k2 (x6_2 ++ bytesOf t173) t159 (wrap64 (x8_2 + 1))) else (none)))) = some r := by rw [if_pos rfl] at H; exact H
          clear H
          have H := H1
          clear H1
          by_cases c29 : x8_2 > 0
          ·rw [if_pos c29] at H
           have c29b0 : decide (0 < x8_2) = true := decide_eq_true c29
           clear c29
           by_cases c30 : x6_2.length < 140737488355328
           ·rw [if_pos c30] at H
            have LMc30 := am c30
            clear c30
            obtain ⟨y164, hy164⟩ : ∃ y_ : List Int, y_ = (x6_2 ++ [32]) := ⟨_, rfl⟩
            replace H : ((spec_l3Int.f k2 (rd t159 x8_2)).bind fun t168 => (if y164.length + t168.size < 140737488355328 then (spec_ShowPatch.l2 k2 (y164 ++ bytesOf t168) t159 (wrap64 (x8_2 + 1))) else (none))) = some r := by first | (rw [hy164]; with_reducible exact H) | (rw [hy164]; exact H) | exact H
            have Ny164 := am hy164
            clear hy164
            replace H := Option.bind_eq_some_iff.mp H
            obtain ⟨t168, A310, H⟩ := H
            replace H : (if y164.length + t168.size < 140737488355328 then (spec_ShowPatch.l2 k2 (y164 ++ bytesOf t168) t159 (wrap64 (x8_2 + 1))) else (none)) = some r := H
            have A31 := am A310
            clear A310
            by_cases c32 : y164.length + t168.size < 140737488355328
            ·rw [if_pos c32] at H
             have LMc32 := am c32
             clear c32
             obtain ⟨y169, hy169⟩ : ∃ y_ : List Int, y_ = (y164 ++ bytesOf t168) := ⟨_, rfl⟩
             replace H : (spec_ShowPatch.l2 k2 y169 t159 (wrap64 (x8_2 + 1))) = some r := by first | (rw [hy169]; with_reducible exact H) | (rw [hy169]; exact H) | exact H
             have Ny169 := am hy169
             clear hy169
             have H' := am H
             clear H
             obtain ⟨Ao33, co33, eo33⟩ := Kd.R_slice HO_7.out
             subst eo33
             have p162 : 0 ≤ (x8_2 : Int) := dt_
             have q162 : x8_2 < (t159.length : Int) := dt_
             obtain ⟨ad162, e162, hx162_0⟩ := Kd.at_int (Kd.R_reads' HO_7.out).2.2 x8_2 p162 q162
             cases e162
             replace p162 := eq_true p162
             replace q162 := eq_true q162
             go_wp2_with (first | ((with_reducible refine gate_callee (f := 17) rfl ?_); refine gl_ (some 60) Tryd.func17 #[.int .i64 (rd t159 x8_2), .int .i64 0, .int .i64 9999999] ?_; (with_reducible refine (spec_l1In.calls (rd t159 x8_2) 0 9999999 true _ A27.out).mono ?_); rintro e w' ⟨rfl, ⟨nd, rfl⟩⟩; refine ⟨_, rfl, ?_⟩) | ((with_reducible refine gate_builtin (b := .append) (xs := #[.tmp 64, .tmp 65]) rfl ?_); (try (refine gate_guard (by rfl) ?_; dsimp only)); at_builtin; refine Kd.R_append (Kd.int .u8) (w0 := w) w.heap.size rfl (.tmp 64) (.tmp 65) 46 5 (.int .u8 0) 1 rfl Tryd.underlying46 info5 rfl (by decide) (by omega) u6 x6_2 32 [.int .u8 32] (fun _ => True) (fun _ => False) rfl rfl ?aP (fun _ hk => hk.elim) ?aF ?aO ?aB ?aS ?aL ?_; (case aP => exact rfl); (case aB => exact (rb1 HB GE152)); (case aF => exact (fun _ _ => trivial)); (case aO => exact (rr HO_6)); (case aS => exact (below_size (rb1 HB GE152))); (case aL => have := LMc30.out; omega); intro v165 w34 ho hb hg hat; rw [← Ny164.out] at ho; have n0_ := am (Kd.R_over' (rr HO_7) (Kd.R_typed (rr HO_6)) (by decide) hg); have n1_ := am (blk_grown (g := gb152) (o := .cells #[.int .i64 a0_0, .int .i64 a0_1, .slice A0_2 l0_2.length c0_2] 29 (0, 0)) (rk BK152) hg (Kd.R_ne HO_6.out BK152.out (by decide))); have n2_ := am (hb); have n3_ := am (ho); clear HO_7; clear BK152; clear HB; clear HO_6; have HO_7 := n0_; have BK152 := n1_; have HB := n2_; have HO166 := n3_; clear n0_ n1_ n2_ n3_; clear ho hb hg hat; have p167 : 0 ≤ (x8_2 : Int) := dt_; have q167 : x8_2 < (t159.length : Int) := dt_; obtain ⟨ad167, e167, hx167_0⟩ := Kd.at_int (Kd.R_reads' HO_7.out).2.2 x8_2 p167 q167; obtain rfl : ad162 = ad167 := (by injection e167); replace p167 := eq_true p167; replace q167 := eq_true q167) | ((with_reducible refine gate_callee (f := 18) rfl ?_); refine gl_ (some 72) Tryd.func18 #[.int .i64 (rd t159 x8_2)] ?_; (with_reducible refine (spec_l3Int.calls k2 (rd t159 x8_2) t168 _ A31.out).mono ?_); rintro e w35 ⟨rfl, hb⟩; refine ⟨_, rfl, ?_⟩; have n0_ := am (Kd.R_below (rr HO_7) hb); have n1_ := am (Kd.R_below (rr HO166) hb); have n2_ := am (blk_below (g := gb152) (o := .cells #[.int .i64 a0_0, .int .i64 a0_1, .slice A0_2 l0_2.length c0_2] 29 (0, 0)) (rk BK152) hb); have n3_ := am (below_step (rb1 HB GE152) hb); clear HO_7; clear HO166; clear BK152; clear HB; have HO_7 := n0_; have HO166 := n1_; have BK152 := n2_; have HB := n3_; clear n0_ n1_ n2_ n3_; (try clear hb); (try clear hb2); (try clear hk); (try clear hi)) | (at_builtin; refine print_append_str (w0 := w) w.heap.size rfl (.tmp 67) _ 46 9 5 rfl Tryd.underlying46 Tryd.underlying9 info5 v165 y164 t168 rfl rfl ?aO ?aB ?aS ?aL ?_; (case aB => exact (rb1 HB GE152)); (case aO => exact (Kd.own_of_R (rr HO166))); (case aS => exact (below_size (rb1 HB GE152))); (case aL => have := LMc32.out; omega); intro v170 w36 ho0 hb hg; have ho := Kd.R_of_own (h1 := fun _ => rfl) (ok := fun _ => True) ho0 (fun _ _ => trivial); clear ho0; have hat := True.intro; rw [← Ny169.out] at ho; change Kd.R (Kd.int .u8) 5 w36 w.heap.size (fun _ => True) v170 y169 at ho; have n0_ := am (Kd.R_over' (rr HO_7) (Kd.R_typed (rr HO166)) (by decide) hg); have n1_ := am (blk_grown (g := gb152) (o := .cells #[.int .i64 a0_0, .int .i64 a0_1, .slice A0_2 l0_2.length c0_2] 29 (0, 0)) (rk BK152) hg (Kd.R_ne HO166.out BK152.out (by decide))); have n2_ := am (hb); have n3_ := am (ho); clear HO_7; clear BK152; clear HB; clear HO166; have HO_7 := n0_; have BK152 := n1_; have HB := n2_; have HO171 := n3_; clear n0_ n1_ n2_ n3_; clear ho hb hg hat))
             go_roundg k2
             case measure => have := HK1.out; have := HK2.out; omega
             case rel => exact ⟨(y169), (wrap64 (x8_2 + 1)), (by first | rfl | (simp; done) | (simp [*]; done)), H', ⟨by have := HK1.out; have := HK2.out; omega⟩, ⟨rr HO171⟩, ⟨rr HO_7⟩, ⟨rk BK152⟩, ⟨by repeat (first | (with_reducible first | exact HB.out | apply b1 | apply b2 | apply b3 | refine below_set ?_ GE152.out) | exact HB.out)⟩⟩
            ·rw [if_neg c32] at H
             exact absurd H (by simp)
           ·rw [if_neg c30] at H
            exact absurd H (by simp)
          ·rw [if_neg c29] at H
           have c29b0 : decide (0 < x8_2) = false := decide_eq_false c29
           clear c29
           replace H := Option.bind_eq_some_iff.mp H
           obtain ⟨t173, A370, H⟩ := H
           replace H : (if x6_2.length + t173.size < 140737488355328 then (spec_ShowPatch.l2 k2 (x6_2 ++ bytesOf t173) t159 (wrap64 (x8_2 + 1))) else (none)) = some r := H
           have A37 := am A370
           clear A370
           by_cases c38 : x6_2.length + t173.size < 140737488355328
           ·rw [if_pos c38] at H
            have LMc38 := am c38
            clear c38
            obtain ⟨y174, hy174⟩ : ∃ y_ : List Int, y_ = (x6_2 ++ bytesOf t173) := ⟨_, rfl⟩
            replace H : (spec_ShowPatch.l2 k2 y174 t159 (wrap64 (x8_2 + 1))) = some r := by first | (rw [hy174]; with_reducible exact H) | (rw [hy174]; exact H) | exact H
            have Ny174 := am hy174
            clear hy174
            have H' := am H
            clear H
            obtain ⟨Ao39, co39, eo39⟩ := Kd.R_slice HO_7.out
            subst eo39
            have p162 : 0 ≤ (x8_2 : Int) := dt_
            have q162 : x8_2 < (t159.length : Int) := dt_
            obtain ⟨ad162, e162, hx162_0⟩ := Kd.at_int (Kd.R_reads' HO_7.out).2.2 x8_2 p162 q162
            cases e162
            replace p162 := eq_true p162
            replace q162 := eq_true q162
            go_wp2_with (first | ((with_reducible refine gate_callee (f := 17) rfl ?_); refine gl_ (some 60) Tryd.func17 #[.int .i64 (rd t159 x8_2), .int .i64 0, .int .i64 9999999] ?_; (with_reducible refine (spec_l1In.calls (rd t159 x8_2) 0 9999999 true _ A27.out).mono ?_); rintro e w' ⟨rfl, ⟨nd, rfl⟩⟩; refine ⟨_, rfl, ?_⟩; have p172 : 0 ≤ (x8_2 : Int) := dt_; have q172 : x8_2 < (t159.length : Int) := dt_; obtain ⟨ad172, e172, hx172_0⟩ := Kd.at_int (Kd.R_reads' HO_7.out).2.2 x8_2 p172 q172; obtain rfl : ad162 = ad172 := (by injection e172); replace p172 := eq_true p172; replace q172 := eq_true q172) | ((with_reducible refine gate_callee (f := 18) rfl ?_); refine gl_ (some 72) Tryd.func18 #[.int .i64 (rd t159 x8_2)] ?_; (with_reducible refine (spec_l3Int.calls k2 (rd t159 x8_2) t173 _ A37.out).mono ?_); rintro e w40 ⟨rfl, hb⟩; refine ⟨_, rfl, ?_⟩; have n0_ := am (Kd.R_below (rr HO_6) hb); have n1_ := am (Kd.R_below (rr HO_7) hb); have n2_ := am (blk_below (g := gb152) (o := .cells #[.int .i64 a0_0, .int .i64 a0_1, .slice A0_2 l0_2.length c0_2] 29 (0, 0)) (rk BK152) hb); have n3_ := am (below_step (rb1 HB GE152) hb); clear HO_6; clear HO_7; clear BK152; clear HB; have HO_6 := n0_; have HO_7 := n1_; have BK152 := n2_; have HB := n3_; clear n0_ n1_ n2_ n3_; (try clear hb); (try clear hb2); (try clear hk); (try clear hi)) | (at_builtin; refine print_append_str (w0 := w) w.heap.size rfl (.tmp 67) _ 46 9 5 rfl Tryd.underlying46 Tryd.underlying9 info5 u6 x6_2 t173 rfl rfl ?aO ?aB ?aS ?aL ?_; (case aB => exact (rb1 HB GE152)); (case aO => exact (Kd.own_of_R (rr HO_6))); (case aS => exact (below_size (rb1 HB GE152))); (case aL => have := LMc38.out; omega); intro v175 w41 ho0 hb hg; have ho := Kd.R_of_own (h1 := fun _ => rfl) (ok := fun _ => True) ho0 (fun _ _ => trivial); clear ho0; have hat := True.intro; rw [← Ny174.out] at ho; change Kd.R (Kd.int .u8) 5 w41 w.heap.size (fun _ => True) v175 y174 at ho; have n0_ := am (Kd.R_over' (rr HO_7) (Kd.R_typed (rr HO_6)) (by decide) hg); have n1_ := am (blk_grown (g := gb152) (o := .cells #[.int .i64 a0_0, .int .i64 a0_1, .slice A0_2 l0_2.length c0_2] 29 (0, 0)) (rk BK152) hg (Kd.R_ne HO_6.out BK152.out (by decide))); have n2_ := am (hb); have n3_ := am (ho); clear HO_7; clear BK152; clear HB; clear HO_6; have HO_7 := n0_; have BK152 := n1_; have HB := n2_; have HO176 := n3_; clear n0_ n1_ n2_ n3_; clear ho hb hg hat))
            go_roundg k2
            case measure => have := HK1.out; have := HK2.out; omega
            case rel => exact ⟨(y174), (wrap64 (x8_2 + 1)), (by first | rfl | (simp; done) | (simp [*]; done)), H', ⟨by have := HK1.out; have := HK2.out; omega⟩, ⟨rr HO176⟩, ⟨rr HO_7⟩, ⟨rk BK152⟩, ⟨by repeat (first | (with_reducible first | exact HB.out | apply b1 | apply b2 | apply b3 | refine below_set ?_ GE152.out) | exact HB.out)⟩⟩
           ·rw [if_neg c38] at H
            exact absurd H (by simp)
         ·replace c28 := Bool.eq_false_iff.mpr c28
          subst c28
          have H1 : (some (⟨#[]⟩ : ByteArray)) = some r := by rw [if_neg (show ¬ (false = true) by decide)] at H; exact H
          clear H
          have H := H1
          clear H1
          obtain rfl := Option.some.inj H
          obtain ⟨Ao42, co42, eo42⟩ := Kd.R_slice HO_7.out
          subst eo42
          have p162 : 0 ≤ (x8_2 : Int) := dt_
          have q162 : x8_2 < (t159.length : Int) := dt_
          obtain ⟨ad162, e162, hx162_0⟩ := Kd.at_int (Kd.R_reads' HO_7.out).2.2 x8_2 p162 q162
          cases e162
          replace p162 := eq_true p162
          replace q162 := eq_true q162
          go_wp2_with (first | ((with_reducible refine gate_callee (f := 17) rfl ?_); refine gl_ (some 60) Tryd.func17 #[.int .i64 (rd t159 x8_2), .int .i64 0, .int .i64 9999999] ?_; (with_reducible refine (spec_l1In.calls (rd t159 x8_2) 0 9999999 false _ A27.out).mono ?_); rintro e w' ⟨rfl, ⟨nd, rfl⟩⟩; refine ⟨_, rfl, ?_⟩))
          go_ret
          exact ⟨by first | rfl | (simp [errW_none, errW_some] <;> rfl) | (simp [*, errW_none, errW_some] <;> rfl), by repeat (first | (with_reducible first | exact HB.out | apply b1 | apply b2 | apply b3 | refine below_set ?_ GE152.out) | exact HB.out)⟩
        ·rw [if_neg c26] at H
         exact absurd H (by simp)
       ·rw [if_neg c25] at H
        have c25b0 : decide (x8_2 < (t159.length : Int)) = false := decide_eq_false c25
        clear c25
        obtain rfl := Option.some.inj H
        obtain ⟨Ao43, co43, eo43⟩ := Kd.R_slice HO_7.out
        subst eo43
        have hcv44 := own_string (P := Tryd.prog) Tryd.underlying46 Tryd.underlying5 Tryd.underlying9 (Kd.own_of_R HO_6.out)
        go_wp2
        go_ret
        exact ⟨by first | rfl | (simp [errW_none, errW_some] <;> rfl) | (simp [*, errW_none, errW_some] <;> rfl), by repeat (first | (with_reducible first | exact HB.out | apply b1 | apply b2 | apply b3 | refine below_set ?_ GE152.out) | exact HB.out)⟩

end Go.Proofs.YtalopdcephohgaaDoor.SB
