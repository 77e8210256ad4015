/- Contracts of Go functions that laws of this seat reach: each Lean function answers as its Go function does. No condition. Written by wip/tools/inj.py, over the kit's print. -/
import Derived.Test.YtkljnfinjacejaaPAx0
import Derived.Test.YtkljnfinjacejaaPAx6
import Derived.Test.YtkljnfinjacejaaPAx8
import Derived.Test.YtkljnfinjacejaaPAx15
import Derived.Test.YtkljnfinjacejaaPAx16
namespace Go.Proofs.Ytkljnfinjacejaa.PA
open Go.RowKit Go.Proofs.YtkljnfinjacejaaW.PrintWords Go.Proofs.YtkljnfinjacejaaW.PrintLast Go.Proofs.YtkljnfinjacejaaW.PrintMore
attribute [local go_sem] max2_int min2_int max_two min_two max_three min_three max_four min_four   -- for this text's walks alone
set_option linter.unusedVariables false
set_option linter.unusedSimpArgs false

/-! ### impl_clearCells: function 67 -/
mutual
def impl_clearCells.j0 : Nat → List (S79) → Int → Int → Int → Int → Bool → Bool → Bool → Option ((List (S79)))
 | 0, _, _, _, _, _, _, _, _ => none
 | k + 1, x0, x1, x2, x357000, x357001, x357002, x357003, x357004 => impl_clearCells.l0 k x0 x2 x1 x357000 x357001 x357002 x357003 x357004
def impl_clearCells.l0 : Nat → List (S79) → Int → Int → Int → Int → Bool → Bool → Bool → Option ((List (S79)))
 | 0, _, _, _, _, _, _, _, _ => none
 | k + 1, x0, x2, x8, x357000, x357001, x357002, x357003, x357004 => if x8 < x2 then ((impl_blank.f x357000 x357001 x357002 x357003 x357004).bind fun bt359 => (if 0 ≤ x8 then (if x8 < (x0.length : Int) then (impl_clearCells.l0 k (x0.set (x8 : Int).toNat (⟨bt359.1, (⟨bt359.2.1, bt359.2.2.1, bt359.2.2.2.1, bt359.2.2.2.2.1, bt359.2.2.2.2.2.1⟩ : S55), bt359.2.2.2.2.2.2⟩ : S79)) x2 (wrap64 (x8 + 1)) x357000 x357001 x357002 x357003 x357004) else (none)) else (none))) else (some x0)
end
def impl_clearCells.f (k : Nat) (l0 : List (S79)) (a1 : Int) (a2 : Int) (a3_0 : Int) (a3_1 : Int) (a3_2 : Bool) (a3_3 : Bool) (a3_4 : Bool) : Option ((List (S79))) := if a1 < a2 then ((impl_part.f k l0 a1).bind fun t357 => ((impl_part.f k t357 a2).bind fun t358 => (impl_clearCells.j0 k t358 a1 a2 a3_0 a3_1 a3_2 a3_3 a3_4))) else (impl_clearCells.j0 k l0 a1 a2 a3_0 a3_1 a3_2 a3_3 a3_4)
theorem impl_clearCells.mono_l : ∀ k, (∀ y0 y1 y2 y3 y4 y5 y6 y7, LeO (impl_clearCells.j0 k y0 y1 y2 y3 y4 y5 y6 y7) (impl_clearCells.j0 (k + 1) y0 y1 y2 y3 y4 y5 y6 y7)) ∧ (∀ y0 y1 y2 y3 y4 y5 y6 y7, LeO (impl_clearCells.l0 k y0 y1 y2 y3 y4 y5 y6 y7) (impl_clearCells.l0 (k + 1) y0 y1 y2 y3 y4 y5 y6 y7))
 | 0 => ⟨fun _ _ _ _ _ _ _ _ r h => by simp [impl_clearCells.j0] at h, fun _ _ _ _ _ _ _ _ r h => by simp [impl_clearCells.l0] at h⟩
 | k + 1 => by
  obtain ⟨ih0, ih1⟩ := impl_clearCells.mono_l k
  refine ⟨?_, ?_⟩
  ·intro y0 y1 y2 y3 y4 y5 y6 y7
   unfold impl_clearCells.j0
   repeat' first
   | (with_reducible exact ih0 _ _ _ _ _ _ _ _)
   | (with_reducible exact ih1 _ _ _ _ _ _ _ _)
   | (with_reducible exact impl_part.mono _ _ _)
   | (with_reducible exact LeO.refl _)
   | (with_reducible exact LeO.none _)
   | (with_reducible refine LeO.ite ?_ ?_)
   | (with_reducible refine LeO.bind ?_ (fun _ => ?_))
   | exact ih0 _ _ _ _ _ _ _ _
   | exact ih1 _ _ _ _ _ _ _ _
   | exact impl_part.mono _ _ _
   | exact LeO.none _
   | refine LeO.ite ?_ ?_
   | refine LeO.bind ?_ (fun _ => ?_)
  ·intro y0 y1 y2 y3 y4 y5 y6 y7
   unfold impl_clearCells.l0
   repeat' first
   | (with_reducible exact ih0 _ _ _ _ _ _ _ _)
   | (with_reducible exact ih1 _ _ _ _ _ _ _ _)
   | (with_reducible exact impl_part.mono _ _ _)
   | (with_reducible exact LeO.refl _)
   | (with_reducible exact LeO.none _)
   | (with_reducible refine LeO.ite ?_ ?_)
   | (with_reducible refine LeO.bind ?_ (fun _ => ?_))
   | exact ih0 _ _ _ _ _ _ _ _
   | exact ih1 _ _ _ _ _ _ _ _
   | exact impl_part.mono _ _ _
   | exact LeO.none _
   | refine LeO.ite ?_ ?_
   | refine LeO.bind ?_ (fun _ => ?_)
theorem impl_clearCells.mono : ∀ a0 a1 a2 a3 a4 a5 a6 a7 k, LeO (impl_clearCells.f k a0 a1 a2 a3 a4 a5 a6 a7) (impl_clearCells.f (k + 1) a0 a1 a2 a3 a4 a5 a6 a7) := by
 intro a0 a1 a2 a3 a4 a5 a6 a7 k
 obtain ⟨ih0, ih1⟩ := impl_clearCells.mono_l k
 unfold impl_clearCells.f
 repeat' first
   | (with_reducible exact ih0 _ _ _ _ _ _ _ _)
   | (with_reducible exact ih1 _ _ _ _ _ _ _ _)
   | (with_reducible exact impl_part.mono _ _ _)
   | (with_reducible exact LeO.refl _)
   | (with_reducible exact LeO.none _)
   | (with_reducible refine LeO.ite ?_ ?_)
   | (with_reducible refine LeO.bind ?_ (fun _ => ?_))
   | exact ih0 _ _ _ _ _ _ _ _
   | exact ih1 _ _ _ _ _ _ _ _
   | exact impl_part.mono _ _ _
   | exact LeO.none _
   | refine LeO.ite ?_ ?_
   | refine LeO.bind ?_ (fun _ => ?_)
set_option maxHeartbeats 8000000 in
set_option maxRecDepth 100000 in
theorem impl_clearCells.calls (k : Nat) (P0_ : Nat → Prop) (u9000_ : Value) (l0 : List (S79)) (a1 : Int) (a2 : Int) (a3_0 : Int) (a3_1 : Int) (a3_2 : Bool) (a3_3 : Bool) (a3_4 : Bool) (r : List (S79)) (w0 w : World) (hB : Below w0.heap.size w0 w) (ho0 : Kd.R k79 79 w w0.heap.size P0_ u9000_ l0) (h : impl_clearCells.f k l0 a1 a2 a3_0 a3_1 a3_2 a3_3 a3_4 = some r) :
  Calls Try.prog 67 #[u9000_, .int .i64 a1, .int .i64 a2, .agg #[.int .i64 a3_0, .int .i64 a3_1, .bool a3_2, .bool a3_3, .bool a3_4]] w fun e w' => e = .returned (.tuple #[]) ∧ Kd.R k79 79 w' w0.heap.size (fun k_ => (P0_ k_ ∨ w.heap.size ≤ k_)) u9000_ r ∧ Below w0.heap.size w0 w' ∧ Kept w w' (fun k_ => P0_ k_) := by
 have hu55 := Try.underlying55
 have hu79 := Try.underlying79
 have HO0 := am (show Kd.R k79 79 w w0.heap.size (fun k_ => (P0_ k_ ∨ w.heap.size ≤ k_)) u9000_ l0 from Kd.R_mono ho0 (fun k_ hk => (.inl hk)))
 have HK := am (Kept.refl w (fun k_ => P0_ k_))
 have HW0 := am hB.size
 have HB := am hB
 clear hB
 have H : (if a1 < a2 then ((impl_part.f k l0 a1).bind fun t357 => ((impl_part.f k t357 a2).bind fun t358 => (impl_clearCells.j0 k t358 a1 a2 a3_0 a3_1 a3_2 a3_3 a3_4))) else (impl_clearCells.j0 k l0 a1 a2 a3_0 a3_1 a3_2 a3_3 a3_4)) = some r := h
 clear h
 have HC5 := am H
 clear H
 go_enter Try.func67, Try.ntmps67
 go_upto_if 11 with (first | ((with_reducible refine gate_dst (N := 7) rfl ?_); refine box_event ?hg (N := 7) ?hd (cs := #[.int .i64 a3_0, .int .i64 a3_1, .bool a3_2, .bool a3_3, .bool a3_4]) (t := 55) ?hr ?_; (case hd => rfl); (case hg => rfl); (case hr => first | (go_simp; done) | (go_simp; rfl)); intro gb356 hg w6 hbox hb; have n0_ := am (Kd.R_below (rr HO0) hb); have n1_ := am (Kept.below (S := (fun k_ => P0_ k_)) (by repeat (first | (with_reducible first | exact HK.out | apply Kept.alloc | apply Kept.drewN | apply Kept.drew) | exact HK.out)) hb); have n2_ := am (below_step (rb HB) hb); have n3_ := am (hbox); have n4_ := am ((by rw [hg]; exact (by first | exact HK.out.1 | exact (show Kept w _ (fun k_ => P0_ k_) from by repeat (first | (with_reducible first | exact HK.out | apply Kept.alloc | apply Kept.drewN | apply Kept.drew) | exact HK.out)).1) : w.heap.size ≤ gb356)); have n5_ := am ((by rw [hg]; exact (below_size (rb HB)) : w0.heap.size ≤ gb356)); clear HO0; clear HK; clear HB; have HO0 := n0_; have HK := n1_; have HB := n2_; have BK356 := n3_; have GW356 := n4_; have GE356 := n5_; clear n0_ n1_ n2_ n3_ n4_ n5_; clear hb hbox hg))
 (try simp only [Act.put, List.setIfInBounds_toArray, List.set_cons_zero, List.set_cons_succ])
 go_cut [] (fun wc => ∃ (kq : Nat) (x0_4 : List (S79)), Aside0 (impl_clearCells.j0 kq x0_4 a1 a2 a3_0 a3_1 a3_2 a3_3 a3_4 = some r) ∧ Aside0 (kq ≤ k) ∧ Aside0 (Kd.R k79 79 wc w0.heap.size (fun k_ => (P0_ k_ ∨ w.heap.size ≤ k_)) u9000_ x0_4) ∧ Aside0 (wc.heap[gb356]? = some (.cells #[.int .i64 a3_0, .int .i64 a3_1, .bool a3_2, .bool a3_3, .bool a3_4] 55 (0, 0))) ∧ Aside0 (Kept w wc (fun k_ => P0_ k_)) ∧ Aside0 (Below w0.heap.size w0 wc))
 case first =>
  have H := HC5.out
  clear HC5
  by_cases c7 : a1 < a2
  ·rw [if_pos c7] at H
   have c7b0 : decide (a1 < a2) = true := decide_eq_true c7
   clear c7
   (first | rw [c7b0] | (simp only [i64_w, i32_w]; rw [c7b0]) | skip)
   replace H := Option.bind_eq_some_iff.mp H
   obtain ⟨t357, A80, H⟩ := H
   replace H : ((impl_part.f k t357 a2).bind fun t358 => (impl_clearCells.j0 k t358 a1 a2 a3_0 a3_1 a3_2 a3_3 a3_4)) = some r := H
   have A8 := am A80
   clear A80
   replace H := Option.bind_eq_some_iff.mp H
   obtain ⟨t358, A90, H⟩ := H
   replace H : (impl_clearCells.j0 k t358 a1 a2 a3_0 a3_1 a3_2 a3_3 a3_4) = some r := H
   have A9 := am A90
   clear A90
   have H' := am H
   clear H
   obtain ⟨Ao10, co10, eo10⟩ := Kd.R_slice HO0.out
   subst eo10
   go_wp2_with (first | ((with_reducible refine gate_callee (f := 86) rfl ?_); refine gl_ (some 14) Try.func86 #[.slice Ao10 l0.length co10, .int .i64 a1] ?_; (with_reducible refine (impl_part.calls k (fun k_ => some k_ = (.slice Ao10 l0.length co10 : Value).ownBlock) (.slice Ao10 l0.length co10) l0 a1 t357 w0 _ ?side1 ?side2 A8.out).mono ?_); (case side1 => repeat (first | (with_reducible first | exact HB.out | apply b1 | apply b2 | apply b3 | refine below_set ?_ GE356.out) | exact HB.out)); (case side2 => exact Kd.R_tight rfl HO0.out); rintro e w11 ⟨rfl, hy0, hb, hkp⟩; refine ⟨_, rfl, ?_⟩; have n0_ := am (Kd.R_reok rfl hy0 (fun k_ e_ => HO0.out.1 k_ e_)); have n1_ := am (blk_kept (rk BK356) hkp (fun hs_ => (fun e_ => (Kd.R_ne HO0.out BK356.out (by decide)) e_) hs_)); have n2_ := am (Kept.then_ (S := (fun k_ => P0_ k_)) (by repeat (first | (with_reducible first | exact HK.out | apply Kept.alloc | apply Kept.drewN | apply Kept.drew | refine Kept.setCell ?_ (.inr GW356.out) _) | exact HK.out)) hkp (fun k_ hs_ => (fun e_ => (HO0.out.1 k_ e_.symm)) hs_)); have n3_ := am (hb); clear HO0; clear BK356; clear HK; clear HB; have HO0 := n0_; have BK356 := n1_; have HK := n2_; have HB := n3_; clear n0_ n1_ n2_ n3_; (try clear hb); (try clear hkp); (try clear hy0)) | ((with_reducible refine gate_callee (f := 86) rfl ?_); refine gl_ (some 17) Try.func86 #[.slice Ao10 l0.length co10, .int .i64 a2] ?_; (with_reducible refine (impl_part.calls k (fun k_ => some k_ = (.slice Ao10 l0.length co10 : Value).ownBlock) (.slice Ao10 l0.length co10) t357 a2 t358 w0 _ ?side1 ?side2 A9.out).mono ?_); (case side1 => repeat (first | (with_reducible first | exact HB.out | apply b1 | apply b2 | apply b3 | refine below_set ?_ GE356.out) | exact HB.out)); (case side2 => exact Kd.R_tight rfl HO0.out); rintro e w12 ⟨rfl, hy0, hb, hkp⟩; refine ⟨_, rfl, ?_⟩; have n0_ := am (Kd.R_reok rfl hy0 (fun k_ e_ => HO0.out.1 k_ e_)); have n1_ := am (blk_kept (rk BK356) hkp (fun hs_ => (fun e_ => (Kd.R_ne HO0.out BK356.out (by decide)) e_) hs_)); have n2_ := am (Kept.then_ (S := (fun k_ => P0_ k_)) (by repeat (first | (with_reducible first | exact HK.out | apply Kept.alloc | apply Kept.drewN | apply Kept.drew | refine Kept.setCell ?_ (.inr GW356.out) _) | exact HK.out)) hkp (fun k_ hs_ => (fun e_ => (HO0.out.1 k_ e_.symm)) hs_)); have n3_ := am (hb); clear HO0; clear BK356; clear HK; clear HB; have HO0 := n0_; have BK356 := n1_; have HK := n2_; have HB := n3_; clear n0_ n1_ n2_ n3_; (try clear hb); (try clear hkp); (try clear hy0)))
   go_meet
   case rel => exact ⟨_, (t358), H', ⟨by first | omega | exact Nat.le_refl _⟩, ⟨rr HO0⟩, ⟨rk BK356⟩, ⟨by repeat (first | (with_reducible first | exact HK.out | apply Kept.alloc | apply Kept.drewN | apply Kept.drew | refine Kept.setCell ?_ (.inr GW356.out) _) | exact HK.out)⟩, ⟨by repeat (first | (with_reducible first | exact HB.out | apply b1 | apply b2 | apply b3 | refine below_set ?_ GE356.out) | exact HB.out)⟩⟩
  ·rw [if_neg c7] at H
   have c7b0 : decide (a1 < a2) = false := decide_eq_false c7
   clear c7
   (first | rw [c7b0] | (simp only [i64_w, i32_w]; rw [c7b0]) | skip)
   have H' := am H
   clear H
   go_wp2
   go_meet
   case rel => exact ⟨_, (l0), H', ⟨by first | omega | exact Nat.le_refl _⟩, ⟨rr HO0⟩, ⟨rk BK356⟩, ⟨by repeat (first | (with_reducible first | exact HK.out | apply Kept.alloc | apply Kept.drewN | apply Kept.drew | refine Kept.setCell ?_ (.inr GW356.out) _) | exact HK.out)⟩, ⟨by repeat (first | (with_reducible first | exact HB.out | apply b1 | apply b2 | apply b3 | refine below_set ?_ GE356.out) | exact HB.out)⟩⟩
 case rest =>
  clear HC5
  try clear p2
  try clear c6
  try clear c7
  try clear c7b0
  try clear c8
  obtain ⟨kq, x0_4, HA, HJ4, HO_0, BK356, HK, HB⟩ := hcut
  cases kq with
  | zero => exact absurd HA.out (by simp [impl_clearCells.j0])
  | succ kj4 =>
   have H := HA.out
   clear HA
   simp only [impl_clearCells.j0] at H
   have H' := am H
   clear H
   go_wp2
   go_loopg [8] kj4 (fun kq v8 w' => ∃ (x0_2 : List (S79)) (x8_2 : Int), v8 = .int .i64 x8_2 ∧ Aside0 (impl_clearCells.l0 kq x0_2 a2 x8_2 a3_0 a3_1 a3_2 a3_3 a3_4 = some r) ∧ Aside0 (kq ≤ kj4) ∧ Aside0 (Kd.R k79 79 w' w0.heap.size (fun k_ => (P0_ k_ ∨ w.heap.size ≤ k_)) u9000_ x0_2) ∧ Aside0 (w'.heap[gb356]? = some (.cells #[.int .i64 a3_0, .int .i64 a3_1, .bool a3_2, .bool a3_3, .bool a3_4] 55 (0, 0))) ∧ Aside0 (Kept w w' (fun k_ => P0_ k_)) ∧ Aside0 (Below w0.heap.size w0 w'))
   case atStart => exact ⟨(x0_4), (a1), (by first | rfl | (simp; done) | (simp [*]; done)), H', ⟨Nat.le_refl _⟩, ⟨rr HO_0⟩, ⟨rk BK356⟩, ⟨by repeat (first | (with_reducible first | exact HK.out | apply Kept.alloc | apply Kept.drewN | apply Kept.drew | refine Kept.setCell ?_ (.inr GW356.out) _) | exact HK.out)⟩, ⟨by repeat (first | (with_reducible first | exact HB.out | apply b1 | apply b2 | apply b3 | refine below_set ?_ GE356.out) | exact HB.out)⟩⟩
   case round =>
    clear H'
    try clear p2
    try clear c6
    try clear c7
    try clear c7b0
    try clear c8
    try clear p2
    obtain ⟨x0_2, x8_2, rfl, HA, HK2, HO_0, BK356, HK, HB⟩ := hrel
    cases gk with
    | zero => exact absurd HA.out (by simp [impl_clearCells.l0])
    | succ k2 =>
     have H := HA.out
     clear HA
     simp only [impl_clearCells.l0] at H
     by_cases c13 : x8_2 < a2
     ·rw [if_pos c13] at H
      have c13b0 : decide (x8_2 < a2) = true := decide_eq_true c13
      clear c13
      replace H := Option.bind_eq_some_iff.mp H
      obtain ⟨⟨t359, t360, t361, t362, t363, t364, t365⟩, A140, H⟩ := H
      replace H : (if 0 ≤ x8_2 then (if x8_2 < (x0_2.length : Int) then (impl_clearCells.l0 k2 (x0_2.set (x8_2 : Int).toNat (⟨t359, (⟨t360, t361, t362, t363, t364⟩ : S55), t365⟩ : S79)) a2 (wrap64 (x8_2 + 1)) a3_0 a3_1 a3_2 a3_3 a3_4) else (none)) else (none)) = some r := H
      have A14 := am A140
      clear A140
      by_cases c15 : 0 ≤ x8_2
      ·rw [if_pos c15] at H
       have c15b0 : decide (0 ≤ x8_2) = true := decide_eq_true c15
       clear c15
       by_cases c16 : x8_2 < (x0_2.length : Int)
       ·rw [if_pos c16] at H
        have c16b0 : decide (x8_2 < (x0_2.length : Int)) = true := decide_eq_true c16
        clear c16
        obtain ⟨y366, hy366⟩ : ∃ y_ : List (S79), y_ = (x0_2.set (x8_2 : Int).toNat (⟨t359, (⟨t360, t361, t362, t363, t364⟩ : S55), t365⟩ : S79)) := ⟨_, rfl⟩
        replace H : (impl_clearCells.l0 k2 y366 a2 (wrap64 (x8_2 + 1)) a3_0 a3_1 a3_2 a3_3 a3_4) = some r := by first | (rw [hy366]; with_reducible exact H) | (rw [hy366]; exact H) | exact H
        have Ny366 := am hy366
        clear hy366
        have H' := am H
        clear H
        have hcz18_0 : wr.cell? ⟨gb356, 0, none⟩ = some (.int .i64 a3_0) := (blk_cell BK356.out 0).trans rfl
        have hcz18_1 : wr.cell? ⟨gb356, 1, none⟩ = some (.int .i64 a3_1) := (blk_cell BK356.out 1).trans rfl
        have hcz18_2 : wr.cell? ⟨gb356, 2, none⟩ = some (.bool a3_2) := (blk_cell BK356.out 2).trans rfl
        have hcz18_3 : wr.cell? ⟨gb356, 3, none⟩ = some (.bool a3_3) := (blk_cell BK356.out 3).trans rfl
        have hcz18_4 : wr.cell? ⟨gb356, 4, none⟩ = some (.bool a3_4) := (blk_cell BK356.out 4).trans rfl
        have hfz18_0 := blk_frozen BK356.out 0
        have hfz18_1 := blk_frozen BK356.out 1
        have hfz18_2 := blk_frozen BK356.out 2
        have hfz18_3 := blk_frozen BK356.out 3
        have hfz18_4 := blk_frozen BK356.out 4
        go_wp2_with (first | ((with_reducible refine gate_callee (f := 83) rfl ?_); refine gl_ (some 27) Try.func83 #[.agg #[.int .i64 a3_0, .int .i64 a3_1, .bool a3_2, .bool a3_3, .bool a3_4]] ?_; (with_reducible refine (impl_blank.calls a3_0 a3_1 a3_2 a3_3 a3_4 t359 t360 t361 t362 t363 t364 t365 _ A14.out).mono ?_); rintro e w19 ⟨rfl, hb⟩; refine ⟨_, rfl, ?_⟩; have n0_ := am (Kd.R_below (rr HO_0) hb); have n1_ := am (blk_below (g := gb356) (o := .cells #[.int .i64 a3_0, .int .i64 a3_1, .bool a3_2, .bool a3_3, .bool a3_4] 55 (0, 0)) (rk BK356) hb); have n2_ := am (Kept.below (S := (fun k_ => P0_ k_)) (by repeat (first | (with_reducible first | exact HK.out | apply Kept.alloc | apply Kept.drewN | apply Kept.drew | refine Kept.setCell ?_ (.inr GW356.out) _) | exact HK.out)) hb); have n3_ := am (below_step (rb1 HB GE356) hb); clear HO_0; clear BK356; clear HK; clear HB; have HO_0 := n0_; have BK356 := n1_; have HK := n2_; have HB := n3_; clear n0_ n1_ n2_ n3_; (try clear hb); (try clear hb2); (try clear hk); (try clear hi); have p17 : 0 ≤ (x8_2 : Int) := dt_; have q17 : (x8_2 : Int) < ((x0_2.length : Int) : Int) := dt_; obtain ⟨go17, co17, eo17, gb17, gl17, cl17, HG17⟩ := Kd.R_form HO_0.out (by omega); (first | cases eo17 | (injection eo17 with ea_ en_ ec_; (first | subst ea_ | (injection ea_ with ea_; subst ea_)); subst ec_; clear en_)); have GB17 := am gb17; have GG17 := am HG17; clear gb17 gl17 HG17; have HMgo17 := am (show (P0_ go17 ∨ w.heap.size ≤ go17) from (HO_0.out.1 _ rfl)); obtain ⟨ce17, hcl17, hM17, hcc17, hfr17⟩ := Kd.R_elem HO_0.out z79 (x8_2 : Int) p17 q17; obtain rfl := k79_openM hM17; have hx17_0 : w19.cell? ⟨go17, (x8_2 : Int).toNat * 7, none⟩ = some (.int .i64 ((rd_T79 x0_2 x8_2).f0)) := hcc17 0 _ rfl; have hx17_1 : w19.cell? ⟨go17, (x8_2 : Int).toNat * 7 + 1, none⟩ = some (.int .i64 ((rd_T79 x0_2 x8_2).f1.f0)) := hcc17 1 _ rfl; have hx17_2 : w19.cell? ⟨go17, (x8_2 : Int).toNat * 7 + 2, none⟩ = some (.int .i64 ((rd_T79 x0_2 x8_2).f1.f1)) := hcc17 2 _ rfl; have hx17_3 : w19.cell? ⟨go17, (x8_2 : Int).toNat * 7 + 3, none⟩ = some (.bool ((rd_T79 x0_2 x8_2).f1.f2)) := hcc17 3 _ rfl; have hx17_4 : w19.cell? ⟨go17, (x8_2 : Int).toNat * 7 + 4, none⟩ = some (.bool ((rd_T79 x0_2 x8_2).f1.f3)) := hcc17 4 _ rfl; have hx17_5 : w19.cell? ⟨go17, (x8_2 : Int).toNat * 7 + 5, none⟩ = some (.bool ((rd_T79 x0_2 x8_2).f1.f4)) := hcc17 5 _ rfl; have hx17_6 : w19.cell? ⟨go17, (x8_2 : Int).toNat * 7 + 6, none⟩ = some (.int .i64 ((rd_T79 x0_2 x8_2).f2)) := hcc17 6 _ rfl; have hf17_0 : w19.frozen? ⟨go17, (x8_2 : Int).toNat * 7, none⟩ = false := hfr17 0; have hf17_1 : w19.frozen? ⟨go17, (x8_2 : Int).toNat * 7 + 1, none⟩ = false := hfr17 1; have hf17_2 : w19.frozen? ⟨go17, (x8_2 : Int).toNat * 7 + 2, none⟩ = false := hfr17 2; have hf17_3 : w19.frozen? ⟨go17, (x8_2 : Int).toNat * 7 + 3, none⟩ = false := hfr17 3; have hf17_4 : w19.frozen? ⟨go17, (x8_2 : Int).toNat * 7 + 4, none⟩ = false := hfr17 4; have hf17_5 : w19.frozen? ⟨go17, (x8_2 : Int).toNat * 7 + 5, none⟩ = false := hfr17 5; have hf17_6 : w19.frozen? ⟨go17, (x8_2 : Int).toNat * 7 + 6, none⟩ = false := hfr17 6; clear hcl17 hcc17 hfr17 hM17; replace p17 := eq_true p17; replace q17 := eq_true q17; have HX20 := am (show Kd.R k79 79 w19 w0.heap.size (fun k_ => (P0_ k_ ∨ w.heap.size ≤ k_)) (.slice (some ⟨go17, 0, none⟩) x0_2.length co17) x0_2 from (rr HO_0)); obtain ⟨ce20, hcl20, hM20, hcc20, hfr20⟩ := Kd.R_elem HX20.out z79 (x8_2 : Int) dt_ (by have h_ : (x8_2 : Int) < ((x0_2.length : Int) : Int) := dt_; first | exact h_ | (have e_ := (Kd.R_reads' HO_0.out).1; omega) | simpa using h_); obtain rfl := k79_openM hM20; have HP20 := Kd.R_seg HX20.out (x8_2 : Int) dt_ (by have h_ : (x8_2 : Int) < ((x0_2.length : Int) : Int) := dt_; first | exact h_ | (have e_ := (Kd.R_reads' HO_0.out).1; omega) | simpa using h_) (seg := [.int .i64 t359, .int .i64 t360, .int .i64 t361, .bool t362, .bool t363, .bool t364, .int .i64 t365]) (j := 0) hcl20 hcc20 (show 7 ≤ 7 from by decide) (x' := (⟨t359, (⟨t360, t361, t362, t363, t364⟩ : S55), t365⟩ : S79)) (k79_mkM _ _ _ (⟨t359, (⟨t360, t361, t362, t363, t364⟩ : S55), t365⟩ : S79) ) (fun _ hk => hk); have hx20_0 := hcc20 0 _ rfl; (try simp only [show (k79).sz = 7 from rfl, Nat.mul_one, Nat.add_zero] at hx20_0); have hf20_0 := hfr20 0; (try simp only [show (k79).sz = 7 from rfl, Nat.mul_one, Nat.add_zero] at hf20_0); have hx20_1 := hcc20 1 _ rfl; (try simp only [show (k79).sz = 7 from rfl, Nat.mul_one, Nat.add_zero] at hx20_1); have hf20_1 := hfr20 1; (try simp only [show (k79).sz = 7 from rfl, Nat.mul_one, Nat.add_zero] at hf20_1); have hx20_2 := hcc20 2 _ rfl; (try simp only [show (k79).sz = 7 from rfl, Nat.mul_one, Nat.add_zero] at hx20_2); have hf20_2 := hfr20 2; (try simp only [show (k79).sz = 7 from rfl, Nat.mul_one, Nat.add_zero] at hf20_2); have hx20_3 := hcc20 3 _ rfl; (try simp only [show (k79).sz = 7 from rfl, Nat.mul_one, Nat.add_zero] at hx20_3); have hf20_3 := hfr20 3; (try simp only [show (k79).sz = 7 from rfl, Nat.mul_one, Nat.add_zero] at hf20_3); have hx20_4 := hcc20 4 _ rfl; (try simp only [show (k79).sz = 7 from rfl, Nat.mul_one, Nat.add_zero] at hx20_4); have hf20_4 := hfr20 4; (try simp only [show (k79).sz = 7 from rfl, Nat.mul_one, Nat.add_zero] at hf20_4); have hx20_5 := hcc20 5 _ rfl; (try simp only [show (k79).sz = 7 from rfl, Nat.mul_one, Nat.add_zero] at hx20_5); have hf20_5 := hfr20 5; (try simp only [show (k79).sz = 7 from rfl, Nat.mul_one, Nat.add_zero] at hf20_5); have hx20_6 := hcc20 6 _ rfl; (try simp only [show (k79).sz = 7 from rfl, Nat.mul_one, Nat.add_zero] at hx20_6); have hf20_6 := hfr20 6; (try simp only [show (k79).sz = 7 from rfl, Nat.mul_one, Nat.add_zero] at hf20_6); clear hcl20 hcc20 hfr20 hM20) | ((with_reducible refine gate_store (t := 79) (p := 28) rfl ?_); refine store_event (t := 79) (p := 28) (v := ?vo_w21) (w1 := (((((((w19.setCell ⟨go17, (x8_2 : Int).toNat * 7, none⟩ (.int .i64 t359)).setCell ⟨go17, (x8_2 : Int).toNat * 7 + 1, none⟩ (.int .i64 t360)).setCell ⟨go17, (x8_2 : Int).toNat * 7 + 2, none⟩ (.int .i64 t361)).setCell ⟨go17, (x8_2 : Int).toNat * 7 + 3, none⟩ (.bool t362)).setCell ⟨go17, (x8_2 : Int).toNat * 7 + 4, none⟩ (.bool t363)).setCell ⟨go17, (x8_2 : Int).toNat * 7 + 5, none⟩ (.bool t364)).setCell ⟨go17, (x8_2 : Int).toNat * 7 + 6, none⟩ (.int .i64 t365))) ?hg ?ho ?hn ?hr ?_; (case ho => rfl); (case hg => rfl); (case hn => rfl); (case hr => first | (go_simp; done) | (go_simp; rfl)); intro w21 hw; have hg : w19.grownBy w21 (some go17) := (by rw [hw]; exact HP20.2); have hp_ : Kd.R k79 79 w21 w0.heap.size (fun k_ => (P0_ k_ ∨ w.heap.size ≤ k_)) (.slice (some ⟨go17, 0, none⟩) x0_2.length co17) y366 := (by rw [hw, Ny366.out]; exact HP20.1); clear HP20; have n0_ := am (hp_); have n1_ := am (blk_grown (g := gb356) (o := .cells #[.int .i64 a3_0, .int .i64 a3_1, .bool a3_2, .bool a3_3, .bool a3_4] 55 (0, 0)) (rk BK356) hg (Kd.R_ne HO_0.out BK356.out (by decide))); have n2_ := am ((by rw [hw]; exact below_set (below_set (below_set (below_set (below_set (below_set (below_set (HB.out) GB17.out) GB17.out) GB17.out) GB17.out) GB17.out) GB17.out) GB17.out : Below w0.heap.size w0 w21)); have n3_ := am (Kept.of_grown (S := (fun k_ => P0_ k_)) hg (by repeat (first | (with_reducible first | exact HK.out | apply Kept.alloc | apply Kept.drewN | apply Kept.drew | refine Kept.setCell ?_ (.inr GW356.out) _) | exact HK.out)) (fun k_ e_ => (HO_0.out.1 k_ e_))); clear HO_0; clear BK356; clear HB; clear HK; have HO_0 := n0_; have BK356 := n1_; have HB := n2_; have HK := n3_; clear n0_ n1_ n2_ n3_; clear hg hw hp_))
        go_roundg k2
        case measure => have := HJ4.out; have := HK2.out; omega
        case rel => exact ⟨(y366), (wrap64 (x8_2 + 1)), (by first | rfl | (simp; done) | (simp [*]; done)), H', ⟨by have := HJ4.out; have := HK2.out; omega⟩, ⟨rr HO_0⟩, ⟨rk BK356⟩, ⟨by repeat (first | (with_reducible first | exact HK.out | apply Kept.alloc | apply Kept.drewN | apply Kept.drew | refine Kept.setCell ?_ (.inr GW356.out) _) | exact HK.out)⟩, ⟨by repeat (first | (with_reducible first | exact HB.out | apply b1 | apply b2 | apply b3 | refine below_set ?_ GE356.out) | exact HB.out)⟩⟩
       ·rw [if_neg c16] at H
        exact absurd H (by simp)
      ·rw [if_neg c15] at H
       exact absurd H (by simp)
     ·rw [if_neg c13] at H
      have c13b0 : decide (x8_2 < a2) = false := decide_eq_false c13
      clear c13
      obtain rfl := Option.some.inj H
      go_wp2
      first | go_end0 | ((try simp only [Exit.inBlock, Exit.then]); refine bodyPost_ret (results_none rfl _ _ _) rfl ?_)
      exact ⟨by first | rfl | (simp [errW_none, errW_some] <;> rfl) | (simp [*, errW_none, errW_some] <;> rfl), by (with_reducible repeat (first | apply r1 | apply r2 | apply r3)); exact HO_0.out, by repeat (first | (with_reducible first | exact HB.out | apply b1 | apply b2 | apply b3 | refine below_set ?_ GE356.out) | exact HB.out), by repeat (first | (with_reducible first | exact HK.out | apply Kept.alloc | apply Kept.drewN | apply Kept.drew | refine Kept.setCell ?_ (.inr GW356.out) _) | exact HK.out)⟩

/-! ### impl_Cleared: function 29 -/
def impl_Cleared.j0 : Nat → List (S79) → Int → Int → Bool → Int → Int → Bool → Bool → Bool → Option ((List (S79)))
 | 0, _, _, _, _, _, _, _, _, _ => none
 | k + 1, x0, x1, x2, x24, x368000, x368001, x368002, x368003, x368004 => if x24 = true then (some ([] : List (S79))) else ((impl_Cell_66.f x0).bind fun t371 => ((impl_clearCells.f k t371 x1 x2 x368000 x368001 x368002 x368003 x368004).bind fun t374 => (some t374)))
def impl_Cleared.f (k : Nat) (l0 : List (S79)) (a1 : Int) (a2 : Int) (a3_0 : Int) (a3_1 : Int) (a3_2 : Bool) (a3_3 : Bool) (a3_4 : Bool) : Option ((List (S79))) := (impl_RowOk.f k l0).bind fun t368 => (if t368 = true then ((impl_StyleOk.f a3_0 a3_1 a3_2 a3_3 a3_4).bind fun t369 => (if t369 = true then ((impl_isSpan.f l0 a1 a2).bind fun t370 => (impl_Cleared.j0 k l0 a1 a2 (!t370) a3_0 a3_1 a3_2 a3_3 a3_4)) else (impl_Cleared.j0 k l0 a1 a2 true a3_0 a3_1 a3_2 a3_3 a3_4))) else (impl_Cleared.j0 k l0 a1 a2 true a3_0 a3_1 a3_2 a3_3 a3_4))
theorem impl_Cleared.mono_l : ∀ k, (∀ y0 y1 y2 y3 y4 y5 y6 y7 y8, LeO (impl_Cleared.j0 k y0 y1 y2 y3 y4 y5 y6 y7 y8) (impl_Cleared.j0 (k + 1) y0 y1 y2 y3 y4 y5 y6 y7 y8))
 | 0 => fun _ _ _ _ _ _ _ _ _ r h => by simp [impl_Cleared.j0] at h
 | k + 1 => by
  have ih0 := impl_Cleared.mono_l k
  ·intro y0 y1 y2 y3 y4 y5 y6 y7 y8
   unfold impl_Cleared.j0
   repeat' first
   | (with_reducible exact ih0 _ _ _ _ _ _ _ _ _)
   | (with_reducible exact impl_RowOk.mono _ _)
   | (with_reducible exact impl_clearCells.mono _ _ _ _ _ _ _ _ _)
   | (with_reducible exact LeO.refl _)
   | (with_reducible exact LeO.none _)
   | (with_reducible refine LeO.ite ?_ ?_)
   | (with_reducible refine LeO.bind ?_ (fun _ => ?_))
   | exact ih0 _ _ _ _ _ _ _ _ _
   | exact impl_RowOk.mono _ _
   | exact impl_clearCells.mono _ _ _ _ _ _ _ _ _
   | exact LeO.none _
   | refine LeO.ite ?_ ?_
   | refine LeO.bind ?_ (fun _ => ?_)
theorem impl_Cleared.mono : ∀ a0 a1 a2 a3 a4 a5 a6 a7 k, LeO (impl_Cleared.f k a0 a1 a2 a3 a4 a5 a6 a7) (impl_Cleared.f (k + 1) a0 a1 a2 a3 a4 a5 a6 a7) := by
 intro a0 a1 a2 a3 a4 a5 a6 a7 k
 have ih0 := impl_Cleared.mono_l k
 unfold impl_Cleared.f
 repeat' first
   | (with_reducible exact ih0 _ _ _ _ _ _ _ _ _)
   | (with_reducible exact impl_RowOk.mono _ _)
   | (with_reducible exact impl_clearCells.mono _ _ _ _ _ _ _ _ _)
   | (with_reducible exact LeO.refl _)
   | (with_reducible exact LeO.none _)
   | (with_reducible refine LeO.ite ?_ ?_)
   | (with_reducible refine LeO.bind ?_ (fun _ => ?_))
   | exact ih0 _ _ _ _ _ _ _ _ _
   | exact impl_RowOk.mono _ _
   | exact impl_clearCells.mono _ _ _ _ _ _ _ _ _
   | exact LeO.none _
   | refine LeO.ite ?_ ?_
   | refine LeO.bind ?_ (fun _ => ?_)
set_option maxHeartbeats 8000000 in
set_option maxRecDepth 100000 in
theorem impl_Cleared.calls (k : Nat) (A0 : Option Addr) (c0 : Nat) (l0 : List (S79)) (a1 : Int) (a2 : Int) (a3_0 : Int) (a3_1 : Int) (a3_2 : Bool) (a3_3 : Bool) (a3_4 : Bool) (r : List (S79)) (w : World) (hr0 : Kd.C k79 w A0 l0.length l0) (hc0 : l0.length ≤ c0) (h : impl_Cleared.f k l0 a1 a2 a3_0 a3_1 a3_2 a3_3 a3_4 = some r) :
  Calls Try.prog 29 #[.slice A0 l0.length c0, .int .i64 a1, .int .i64 a2, .agg #[.int .i64 a3_0, .int .i64 a3_1, .bool a3_2, .bool a3_3, .bool a3_4]] w fun e w' => ∃ v0_ : Value, e = .returned (v0_) ∧ Kd.R k79 79 w' w.heap.size (fun _ => True) v0_ r ∧ Below w.heap.size w w' := by
 have hu55 := Try.underlying55
 have HR0 := am hr0
 have HC0 := am hc0
 clear hr0 hc0
 have HB := am (Below.refl w.heap.size w)
 have H : ((impl_RowOk.f k l0).bind fun t368 => (if t368 = true then ((impl_StyleOk.f a3_0 a3_1 a3_2 a3_3 a3_4).bind fun t369 => (if t369 = true then ((impl_isSpan.f l0 a1 a2).bind fun t370 => (impl_Cleared.j0 k l0 a1 a2 (!t370) a3_0 a3_1 a3_2 a3_3 a3_4)) else (impl_Cleared.j0 k l0 a1 a2 true a3_0 a3_1 a3_2 a3_3 a3_4))) else (impl_Cleared.j0 k l0 a1 a2 true a3_0 a3_1 a3_2 a3_3 a3_4))) = some r := h
 clear h
 have HC5 := am H
 clear H
 go_enter Try.func29, Try.ntmps29
 go_upto_region 1 with (first | ((with_reducible refine gate_dst (N := 7) rfl ?_); refine box_event ?hg (N := 7) ?hd (cs := #[.int .i64 a3_0, .int .i64 a3_1, .bool a3_2, .bool a3_3, .bool a3_4]) (t := 55) ?hr ?_; (case hd => rfl); (case hg => rfl); (case hr => first | (go_simp; done) | (go_simp; rfl)); intro gb367 hg w6 hbox hb; have n0_ := am (below_step (rb HB) hb); have n1_ := am (hbox); have n2_ := am ((by rw [hg]; exact (below_size (rb HB)) : w.heap.size ≤ gb367)); have n3_ := am ((by rw [hg]; exact (below_size (rb HB)) : w.heap.size ≤ gb367)); clear HB; have HB := n0_; have BK367 := n1_; have GW367 := n2_; have GE367 := n3_; clear n0_ n1_ n2_ n3_; clear hb hbox hg))
 (try simp only [Act.put, List.setIfInBounds_toArray, List.set_cons_zero, List.set_cons_succ])
 go_cut [24] (fun v24 wc => ∃ (kq : Nat) (x24_4 : Bool), v24 = .bool x24_4 ∧ Aside0 (impl_Cleared.j0 kq l0 a1 a2 x24_4 a3_0 a3_1 a3_2 a3_3 a3_4 = some r) ∧ Aside0 (kq ≤ k) ∧ Aside0 (wc.heap[gb367]? = some (.cells #[.int .i64 a3_0, .int .i64 a3_1, .bool a3_2, .bool a3_3, .bool a3_4] 55 (0, 0))) ∧ Aside0 (Below w.heap.size w wc))
 case first =>
  have H := HC5.out
  clear HC5
  replace H := Option.bind_eq_some_iff.mp H
  obtain ⟨t368, A70, H⟩ := H
  replace H : (if t368 = true then ((impl_StyleOk.f a3_0 a3_1 a3_2 a3_3 a3_4).bind fun t369 => (if t369 = true then ((impl_isSpan.f l0 a1 a2).bind fun t370 => (impl_Cleared.j0 k l0 a1 a2 (!t370) a3_0 a3_1 a3_2 a3_3 a3_4)) else (impl_Cleared.j0 k l0 a1 a2 true a3_0 a3_1 a3_2 a3_3 a3_4))) else (impl_Cleared.j0 k l0 a1 a2 true a3_0 a3_1 a3_2 a3_3 a3_4)) = some r := H
  have A7 := am A70
  clear A70
  by_cases c8 : t368 = true
  ·subst c8
   have H1 : ((impl_StyleOk.f a3_0 a3_1 a3_2 a3_3 a3_4).bind fun t369 => (if t369 = true then ((impl_isSpan.f l0 a1 a2).bind fun t370 => (impl_Cleared.j0 k l0 a1 a2 (!t370) a3_0 a3_1 a3_2 a3_3 a3_4)) else (impl_Cleared.j0 k l0 a1 a2 true a3_0 a3_1 a3_2 a3_3 a3_4))) = some r := by rw [if_pos rfl] at H; exact H
   clear H
   have H := H1
   clear H1
   replace H := Option.bind_eq_some_iff.mp H
   obtain ⟨t369, A90, H⟩ := H
   replace H : (if t369 = true then ((impl_isSpan.f l0 a1 a2).bind fun t370 => (impl_Cleared.j0 k l0 a1 a2 (!t370) a3_0 a3_1 a3_2 a3_3 a3_4)) else (impl_Cleared.j0 k l0 a1 a2 true a3_0 a3_1 a3_2 a3_3 a3_4)) = some r := H
   have A9 := am A90
   clear A90
   by_cases c10 : t369 = true
   ·subst c10
    have H1 : ((impl_isSpan.f l0 a1 a2).bind fun t370 => (impl_Cleared.j0 k l0 a1 a2 (!t370) a3_0 a3_1 a3_2 a3_3 a3_4)) = some r := by rw [if_pos rfl] at H; exact H
    clear H
    have H := H1
    clear H1
    replace H := Option.bind_eq_some_iff.mp H
    obtain ⟨t370, A110, H⟩ := H
    replace H : (impl_Cleared.j0 k l0 a1 a2 (!t370) a3_0 a3_1 a3_2 a3_3 a3_4) = some r := H
    have A11 := am A110
    clear A110
    have H' := am H
    clear H
    go_wp2_with (first | ((with_reducible refine gate_callee (f := 55) rfl ?_); refine gl_ (some 11) Try.func55 #[.slice A0 l0.length c0] ?_; (with_reducible refine (impl_RowOk.calls k _ _ l0 true _ ?side1 ?side2 A7.out).mono ?_); (case side1 => exact rc ((Kd.C_below HR0.out HB.out))); (case side2 => exact HC0.out); rintro e w12 ⟨rfl, hb⟩; refine ⟨_, rfl, ?_⟩; have n0_ := am (blk_below (g := gb367) (o := .cells #[.int .i64 a3_0, .int .i64 a3_1, .bool a3_2, .bool a3_3, .bool a3_4] 55 (0, 0)) (rk BK367) hb); have n1_ := am (below_step (rb1 HB GE367) hb); clear BK367; clear HB; have BK367 := n0_; have HB := n1_; clear n0_ n1_; (try clear hb); (try clear hb2); (try clear hk); (try clear hi); have hcz13_0 : w12.cell? ⟨gb367, 0, none⟩ = some (.int .i64 a3_0) := (blk_cell BK367.out 0).trans rfl; have hcz13_1 : w12.cell? ⟨gb367, 1, none⟩ = some (.int .i64 a3_1) := (blk_cell BK367.out 1).trans rfl; have hcz13_2 : w12.cell? ⟨gb367, 2, none⟩ = some (.bool a3_2) := (blk_cell BK367.out 2).trans rfl; have hcz13_3 : w12.cell? ⟨gb367, 3, none⟩ = some (.bool a3_3) := (blk_cell BK367.out 3).trans rfl; have hcz13_4 : w12.cell? ⟨gb367, 4, none⟩ = some (.bool a3_4) := (blk_cell BK367.out 4).trans rfl; have hfz13_0 := blk_frozen BK367.out 0; have hfz13_1 := blk_frozen BK367.out 1; have hfz13_2 := blk_frozen BK367.out 2; have hfz13_3 := blk_frozen BK367.out 3; have hfz13_4 := blk_frozen BK367.out 4) | (go_at_call 64; (with_reducible refine (impl_StyleOk.calls a3_0 a3_1 a3_2 a3_3 a3_4 true _ A9.out).mono ?_); rintro e w14 ⟨rfl, hb⟩; have n0_ := am (blk_below (g := gb367) (o := .cells #[.int .i64 a3_0, .int .i64 a3_1, .bool a3_2, .bool a3_3, .bool a3_4] 55 (0, 0)) (rk BK367) hb); have n1_ := am (below_step (rb1 HB GE367) hb); clear BK367; clear HB; have BK367 := n0_; have HB := n1_; clear n0_ n1_; (try clear hb); (try clear hb2); (try clear hk); (try clear hi)) | (go_at_call 65; (with_reducible refine (impl_isSpan.calls _ _ l0 a1 a2 t370 _ ?side1 ?side2 A11.out).mono ?_); (case side1 => exact rc ((Kd.C_below HR0.out HB.out))); (case side2 => exact HC0.out); rintro e w' ⟨rfl, ⟨nd, rfl⟩⟩))
    go_meet
    case rel => exact ⟨_, (!t370), (by first | rfl | (simp; done) | (simp [*]; done)), H', ⟨by first | omega | exact Nat.le_refl _⟩, ⟨rk BK367⟩, ⟨by repeat (first | (with_reducible first | exact HB.out | apply b1 | apply b2 | apply b3 | refine below_set ?_ GE367.out) | exact HB.out)⟩⟩
   ·replace c10 := Bool.eq_false_iff.mpr c10
    subst c10
    have H1 : (impl_Cleared.j0 k l0 a1 a2 true a3_0 a3_1 a3_2 a3_3 a3_4) = some r := by rw [if_neg (show ¬ (false = true) by decide)] at H; exact H
    clear H
    have H := H1
    clear H1
    have H' := am H
    clear H
    go_wp2_with (first | ((with_reducible refine gate_callee (f := 55) rfl ?_); refine gl_ (some 11) Try.func55 #[.slice A0 l0.length c0] ?_; (with_reducible refine (impl_RowOk.calls k _ _ l0 true _ ?side1 ?side2 A7.out).mono ?_); (case side1 => exact rc ((Kd.C_below HR0.out HB.out))); (case side2 => exact HC0.out); rintro e w15 ⟨rfl, hb⟩; refine ⟨_, rfl, ?_⟩; have n0_ := am (blk_below (g := gb367) (o := .cells #[.int .i64 a3_0, .int .i64 a3_1, .bool a3_2, .bool a3_3, .bool a3_4] 55 (0, 0)) (rk BK367) hb); have n1_ := am (below_step (rb1 HB GE367) hb); clear BK367; clear HB; have BK367 := n0_; have HB := n1_; clear n0_ n1_; (try clear hb); (try clear hb2); (try clear hk); (try clear hi); have hcz16_0 : w15.cell? ⟨gb367, 0, none⟩ = some (.int .i64 a3_0) := (blk_cell BK367.out 0).trans rfl; have hcz16_1 : w15.cell? ⟨gb367, 1, none⟩ = some (.int .i64 a3_1) := (blk_cell BK367.out 1).trans rfl; have hcz16_2 : w15.cell? ⟨gb367, 2, none⟩ = some (.bool a3_2) := (blk_cell BK367.out 2).trans rfl; have hcz16_3 : w15.cell? ⟨gb367, 3, none⟩ = some (.bool a3_3) := (blk_cell BK367.out 3).trans rfl; have hcz16_4 : w15.cell? ⟨gb367, 4, none⟩ = some (.bool a3_4) := (blk_cell BK367.out 4).trans rfl; have hfz16_0 := blk_frozen BK367.out 0; have hfz16_1 := blk_frozen BK367.out 1; have hfz16_2 := blk_frozen BK367.out 2; have hfz16_3 := blk_frozen BK367.out 3; have hfz16_4 := blk_frozen BK367.out 4) | (go_at_call 64; (with_reducible refine (impl_StyleOk.calls a3_0 a3_1 a3_2 a3_3 a3_4 false _ A9.out).mono ?_); rintro e w17 ⟨rfl, hb⟩; have n0_ := am (blk_below (g := gb367) (o := .cells #[.int .i64 a3_0, .int .i64 a3_1, .bool a3_2, .bool a3_3, .bool a3_4] 55 (0, 0)) (rk BK367) hb); have n1_ := am (below_step (rb1 HB GE367) hb); clear BK367; clear HB; have BK367 := n0_; have HB := n1_; clear n0_ n1_; (try clear hb); (try clear hb2); (try clear hk); (try clear hi)))
    go_meet
    case rel => exact ⟨_, (true), (by first | rfl | (simp; done) | (simp [*]; done)), H', ⟨by first | omega | exact Nat.le_refl _⟩, ⟨rk BK367⟩, ⟨by repeat (first | (with_reducible first | exact HB.out | apply b1 | apply b2 | apply b3 | refine below_set ?_ GE367.out) | exact HB.out)⟩⟩
  ·replace c8 := Bool.eq_false_iff.mpr c8
   subst c8
   have H1 : (impl_Cleared.j0 k l0 a1 a2 true a3_0 a3_1 a3_2 a3_3 a3_4) = some r := by rw [if_neg (show ¬ (false = true) by decide)] at H; exact H
   clear H
   have H := H1
   clear H1
   have H' := am H
   clear H
   go_wp2_with (first | ((with_reducible refine gate_callee (f := 55) rfl ?_); refine gl_ (some 11) Try.func55 #[.slice A0 l0.length c0] ?_; (with_reducible refine (impl_RowOk.calls k _ _ l0 false _ ?side1 ?side2 A7.out).mono ?_); (case side1 => exact rc ((Kd.C_below HR0.out HB.out))); (case side2 => exact HC0.out); rintro e w18 ⟨rfl, hb⟩; refine ⟨_, rfl, ?_⟩; have n0_ := am (blk_below (g := gb367) (o := .cells #[.int .i64 a3_0, .int .i64 a3_1, .bool a3_2, .bool a3_3, .bool a3_4] 55 (0, 0)) (rk BK367) hb); have n1_ := am (below_step (rb1 HB GE367) hb); clear BK367; clear HB; have BK367 := n0_; have HB := n1_; clear n0_ n1_; (try clear hb); (try clear hb2); (try clear hk); (try clear hi)))
   go_meet
   case rel => exact ⟨_, (true), (by first | rfl | (simp; done) | (simp [*]; done)), H', ⟨by first | omega | exact Nat.le_refl _⟩, ⟨rk BK367⟩, ⟨by repeat (first | (with_reducible first | exact HB.out | apply b1 | apply b2 | apply b3 | refine below_set ?_ GE367.out) | exact HB.out)⟩⟩
 case rest =>
  clear HC5
  try clear c1
  try clear c2
  try clear p2
  try clear c5
  try clear c8
  try clear c10
  try clear hcz13_0
  try clear hcz13_1
  try clear hcz13_2
  try clear hcz13_3
  try clear hcz13_4
  try clear hcz16_0
  try clear hcz16_1
  try clear hcz16_2
  try clear hcz16_3
  try clear hcz16_4
  try clear hfz13_0
  try clear hfz13_1
  try clear hfz13_2
  try clear hfz13_3
  try clear hfz13_4
  try clear hfz16_0
  try clear hfz16_1
  try clear hfz16_2
  try clear hfz16_3
  try clear hfz16_4
  obtain ⟨kq, x24_4, rfl, HA, HJ4, BK367, HB⟩ := hcut
  cases kq with
  | zero => exact absurd HA.out (by simp [impl_Cleared.j0])
  | succ kj4 =>
   have H := HA.out
   clear HA
   simp only [impl_Cleared.j0] at H
   by_cases c19 : x24_4 = true
   ·subst c19
    have H1 : (some ([] : List (S79))) = some r := by rw [if_pos rfl] at H; exact H
    clear H
    have H := H1
    clear H1
    obtain rfl := Option.some.inj H
    go_wp2
    go_ret
    exact ⟨_, by first | rfl | (simp [errW_none, errW_some] <;> rfl) | (simp [*, errW_none, errW_some] <;> rfl), by first | exact Kd.R_nil _ _ _ _ _ | exact Kd.N_nil _ _ _ _ _ | exact Kd.V_nil _ _ _ _ _ | exact Kd.Q_nil _ _ _ _ _ | exact Kd.S_nil _ _ _ _ _, by repeat (first | (with_reducible first | exact HB.out | apply b1 | apply b2 | apply b3 | refine below_set ?_ GE367.out) | exact HB.out)⟩
   ·replace c19 := Bool.eq_false_iff.mpr c19
    subst c19
    have H1 : ((impl_Cell_66.f l0).bind fun t371 => ((impl_clearCells.f kj4 t371 a1 a2 a3_0 a3_1 a3_2 a3_3 a3_4).bind fun t374 => (some t374))) = some r := by rw [if_neg (show ¬ (false = true) by decide)] at H; exact H
    clear H
    have H := H1
    clear H1
    replace H := Option.bind_eq_some_iff.mp H
    obtain ⟨t371, A200, H⟩ := H
    replace H : ((impl_clearCells.f kj4 t371 a1 a2 a3_0 a3_1 a3_2 a3_3 a3_4).bind fun t374 => (some t374)) = some r := H
    have A20 := am A200
    clear A200
    replace H := Option.bind_eq_some_iff.mp H
    obtain ⟨t374, A210, H⟩ := H
    replace H : (some t374) = some r := H
    have A21 := am A210
    clear A210
    obtain rfl := Option.some.inj H
    go_wp2_with (first | ((with_reducible refine gate_callee (f := 66) rfl ?_); refine gl_ (some 26) Try.func66 #[.slice A0 l0.length c0] ?_; (with_reducible refine (impl_Cell_66.calls _ _ l0 t371 _ ?side1 ?side2 A20.out).mono ?_); (case side1 => exact rc ((Kd.C_below HR0.out HB.out))); (case side2 => exact HC0.out); rintro e w22 ⟨v372, rfl, ho0, hb⟩; refine ⟨_, rfl, ?_⟩; have n0_ := am (Kd.R_lower ho0 (below_size (rb1 HB GE367))); have n1_ := am (blk_below (g := gb367) (o := .cells #[.int .i64 a3_0, .int .i64 a3_1, .bool a3_2, .bool a3_3, .bool a3_4] 55 (0, 0)) (rk BK367) hb); have n2_ := am (below_step (rb1 HB GE367) hb); clear BK367; clear HB; have HO373 := n0_; have BK367 := n1_; have HB := n2_; clear n0_ n1_ n2_; (try clear hb); (try clear hb2); (try clear hk); (try clear hi); (try clear ho0); have hcz23_0 : w22.cell? ⟨gb367, 0, none⟩ = some (.int .i64 a3_0) := (blk_cell BK367.out 0).trans rfl; have hcz23_1 : w22.cell? ⟨gb367, 1, none⟩ = some (.int .i64 a3_1) := (blk_cell BK367.out 1).trans rfl; have hcz23_2 : w22.cell? ⟨gb367, 2, none⟩ = some (.bool a3_2) := (blk_cell BK367.out 2).trans rfl; have hcz23_3 : w22.cell? ⟨gb367, 3, none⟩ = some (.bool a3_3) := (blk_cell BK367.out 3).trans rfl; have hcz23_4 : w22.cell? ⟨gb367, 4, none⟩ = some (.bool a3_4) := (blk_cell BK367.out 4).trans rfl; have hfz23_0 := blk_frozen BK367.out 0; have hfz23_1 := blk_frozen BK367.out 1; have hfz23_2 := blk_frozen BK367.out 2; have hfz23_3 := blk_frozen BK367.out 3; have hfz23_4 := blk_frozen BK367.out 4; obtain ⟨Ao24, co24, eo24⟩ := Kd.R_slice HO373.out; subst eo24) | ((with_reducible refine gate_callee (f := 67) rfl ?_); refine gl_ (some 31) Try.func67 #[.slice Ao24 t371.length co24, .int .i64 a1, .int .i64 a2, .agg #[.int .i64 a3_0, .int .i64 a3_1, .bool a3_2, .bool a3_3, .bool a3_4]] ?_; (with_reducible refine (impl_clearCells.calls kj4 (fun k_ => some k_ = (.slice Ao24 t371.length co24 : Value).ownBlock) (.slice Ao24 t371.length co24) t371 a1 a2 a3_0 a3_1 a3_2 a3_3 a3_4 t374 w _ ?side1 ?side2 A21.out).mono ?_); (case side1 => repeat (first | (with_reducible first | exact HB.out | apply b1 | apply b2 | apply b3 | refine below_set ?_ GE367.out) | exact HB.out)); (case side2 => exact Kd.R_tight rfl HO373.out); rintro e w25 ⟨rfl, hy0, hb, hkp⟩; refine ⟨_, rfl, ?_⟩; have n0_ := am (blk_kept (rk BK367) hkp (fun hs_ => (fun e_ => (Kd.R_ne HO373.out BK367.out (by decide)) e_) hs_)); have n1_ := am (Kd.R_reok rfl hy0 (fun k_ e_ => HO373.out.1 k_ e_)); have n2_ := am (hb); clear BK367; clear HO373; clear HB; have BK367 := n0_; have HO373 := n1_; have HB := n2_; clear n0_ n1_ n2_; (try clear hb); (try clear hkp); (try clear hy0)))
    go_ret
    exact ⟨_, by first | rfl | (simp [errW_none, errW_some] <;> rfl) | (simp [*, errW_none, errW_some] <;> rfl), by (with_reducible repeat (first | apply r1 | apply r2 | apply r3)); exact HO373.out, by repeat (first | (with_reducible first | exact HB.out | apply b1 | apply b2 | apply b3 | refine below_set ?_ GE367.out) | exact HB.out)⟩

end Go.Proofs.Ytkljnfinjacejaa.PA
