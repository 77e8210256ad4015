/- Contracts of Go functions that laws of this seat reach: each Lean function answers as its Go function does. No condition. Written by wip/tools/inj.py, over the kit's print. -/
import Derived.Test.YtepeanpoicefdaaDoorPBx0
import Derived.Test.YtepeanpoicefdaaDoorPBx12
import Derived.Test.YtepeanpoicefdaaDoorPBx13
namespace Go.Proofs.YtepeanpoicefdaaDoor.PB
open Go.RowKit Go.Proofs.YtepeanpoicefdaaDoorW.PrintWords Go.Proofs.YtepeanpoicefdaaDoorW.PrintLast Go.Proofs.YtepeanpoicefdaaDoorW.PrintMore
attribute [local go_sem] max2_int min2_int max_two min_two max_three min_three max_four min_four   -- for this text's walks alone
set_option linter.unusedVariables false
set_option linter.unusedSimpArgs false

/-! ### impl_clearCells: function 48 -/
mutual
def impl_clearCells.j0 : Nat → List (S48) → Int → Int → Int → Int → Bool → Bool → Bool → Option ((List (S48)))
 | 0, _, _, _, _, _, _, _, _ => none
 | k + 1, x0, x1, x2, x466000, x466001, x466002, x466003, x466004 => impl_clearCells.l0 k x0 x2 x1 x466000 x466001 x466002 x466003 x466004
def impl_clearCells.l0 : Nat → List (S48) → Int → Int → Int → Int → Bool → Bool → Bool → Option ((List (S48)))
 | 0, _, _, _, _, _, _, _, _ => none
 | k + 1, x0, x2, x8, x466000, x466001, x466002, x466003, x466004 => if x8 < x2 then ((impl_blank.f x466000 x466001 x466002 x466003 x466004).bind fun bt468 => (if 0 ≤ x8 then (if x8 < (x0.length : Int) then (impl_clearCells.l0 k (x0.set (x8 : Int).toNat (⟨bt468.1, (⟨bt468.2.1, bt468.2.2.1, bt468.2.2.2.1, bt468.2.2.2.2.1, bt468.2.2.2.2.2.1⟩ : S37), bt468.2.2.2.2.2.2⟩ : S48)) x2 (wrap64 (x8 + 1)) x466000 x466001 x466002 x466003 x466004) else (none)) else (none))) else (some x0)
end
def impl_clearCells.f (k : Nat) (l0 : List (S48)) (a1 : Int) (a2 : Int) (a3_0 : Int) (a3_1 : Int) (a3_2 : Bool) (a3_3 : Bool) (a3_4 : Bool) : Option ((List (S48))) := if a1 < a2 then ((impl_part.f k l0 a1).bind fun t466 => ((impl_part.f k t466 a2).bind fun t467 => (impl_clearCells.j0 k t467 a1 a2 a3_0 a3_1 a3_2 a3_3 a3_4))) else (impl_clearCells.j0 k l0 a1 a2 a3_0 a3_1 a3_2 a3_3 a3_4)
theorem impl_clearCells.mono_l : ∀ k, (∀ y0 y1 y2 y3 y4 y5 y6 y7, LeO (impl_clearCells.j0 k y0 y1 y2 y3 y4 y5 y6 y7) (impl_clearCells.j0 (k + 1) y0 y1 y2 y3 y4 y5 y6 y7)) ∧ (∀ y0 y1 y2 y3 y4 y5 y6 y7, LeO (impl_clearCells.l0 k y0 y1 y2 y3 y4 y5 y6 y7) (impl_clearCells.l0 (k + 1) y0 y1 y2 y3 y4 y5 y6 y7))
 | 0 => ⟨fun _ _ _ _ _ _ _ _ r h => by simp [impl_clearCells.j0] at h, fun _ _ _ _ _ _ _ _ r h => by simp [impl_clearCells.l0] at h⟩
 | k + 1 => by
  obtain ⟨ih0, ih1⟩ := impl_clearCells.mono_l k
  refine ⟨?_, ?_⟩
  ·intro y0 y1 y2 y3 y4 y5 y6 y7
   unfold impl_clearCells.j0
   repeat' first
   | (with_reducible exact ih0 _ _ _ _ _ _ _ _)
   | (with_reducible exact ih1 _ _ _ _ _ _ _ _)
   | (with_reducible exact impl_part.mono _ _ _)
   | (with_reducible exact LeO.refl _)
   | (with_reducible exact LeO.none _)
   | (with_reducible refine LeO.ite ?_ ?_)
   | (with_reducible refine LeO.bind ?_ (fun _ => ?_))
  ·intro y0 y1 y2 y3 y4 y5 y6 y7
   unfold impl_clearCells.l0
   repeat' first
   | (with_reducible exact ih0 _ _ _ _ _ _ _ _)
   | (with_reducible exact ih1 _ _ _ _ _ _ _ _)
   | (with_reducible exact impl_part.mono _ _ _)
   | (with_reducible exact LeO.refl _)
   | (with_reducible exact LeO.none _)
   | (with_reducible refine LeO.ite ?_ ?_)
   | (with_reducible refine LeO.bind ?_ (fun _ => ?_))
theorem impl_clearCells.mono : ∀ a0 a1 a2 a3 a4 a5 a6 a7 k, LeO (impl_clearCells.f k a0 a1 a2 a3 a4 a5 a6 a7) (impl_clearCells.f (k + 1) a0 a1 a2 a3 a4 a5 a6 a7) := by
 intro a0 a1 a2 a3 a4 a5 a6 a7 k
 obtain ⟨ih0, ih1⟩ := impl_clearCells.mono_l k
 unfold impl_clearCells.f
 repeat' first
   | (with_reducible exact ih0 _ _ _ _ _ _ _ _)
   | (with_reducible exact ih1 _ _ _ _ _ _ _ _)
   | (with_reducible exact impl_part.mono _ _ _)
   | (with_reducible exact LeO.refl _)
   | (with_reducible exact LeO.none _)
   | (with_reducible refine LeO.ite ?_ ?_)
   | (with_reducible refine LeO.bind ?_ (fun _ => ?_))
set_option maxHeartbeats 8000000 in
set_option maxRecDepth 100000 in
theorem impl_clearCells.calls (k : Nat) (P0_ : Nat → Prop) (u9000_ : Value) (l0 : List (S48)) (a1 : Int) (a2 : Int) (a3_0 : Int) (a3_1 : Int) (a3_2 : Bool) (a3_3 : Bool) (a3_4 : Bool) (r : List (S48)) (w0 w : World) (hB : Below w0.heap.size w0 w) (ho0 : Kd.R k48 48 w w0.heap.size P0_ u9000_ l0) (h : impl_clearCells.f k l0 a1 a2 a3_0 a3_1 a3_2 a3_3 a3_4 = some r) :
  Calls Tryd.prog 48 #[u9000_, .int .i64 a1, .int .i64 a2, .agg #[.int .i64 a3_0, .int .i64 a3_1, .bool a3_2, .bool a3_3, .bool a3_4]] w fun e w' => e = .returned (.tuple #[]) ∧ Kd.R k48 48 w' w0.heap.size (fun k_ => (P0_ k_ ∨ w.heap.size ≤ k_)) u9000_ r ∧ Below w0.heap.size w0 w' ∧ Kept w w' (fun k_ => P0_ k_) := by
 have hu37 := Tryd.underlying37
 have hu48 := Tryd.underlying48
 have HO0 := am (show Kd.R k48 48 w w0.heap.size (fun k_ => (P0_ k_ ∨ w.heap.size ≤ k_)) u9000_ l0 from Kd.R_mono ho0 (fun k_ hk => (.inl hk)))
 have HK := am (Kept.refl w (fun k_ => P0_ k_))
 have HW0 := am hB.size
 have HB := am hB
 clear hB
 have H := h
 unfold impl_clearCells.f at H
 clear h
 have HC5 := am H
 clear H
 go_enter Tryd.func48, Tryd.ntmps48
 go_upto_if 11 with (first | ((with_reducible refine gate_dst (N := 7) rfl ?_); refine box_event ?hg (N := 7) ?hd (cs := #[.int .i64 a3_0, .int .i64 a3_1, .bool a3_2, .bool a3_3, .bool a3_4]) (t := 37) ?hr ?_; (case hd => rfl); (case hg => rfl); (case hr => first | (go_simp; done) | (go_simp; rfl)); intro gb465 hg w6 hbox hb; have n0_ := am (Kd.R_below (rr HO0) hb); have n1_ := am (Kept.below (S := (fun k_ => P0_ k_)) (by repeat (first | (with_reducible first | exact HK.out | apply Kept.alloc | apply Kept.drewN | apply Kept.drew) | exact HK.out)) hb); have n2_ := am (below_step (rb HB) hb); have n3_ := am (hbox); have n4_ := am ((by rw [hg]; exact (by first | exact HK.out.1 | exact (show Kept w _ (fun k_ => P0_ k_) from by repeat (first | (with_reducible first | exact HK.out | apply Kept.alloc | apply Kept.drewN | apply Kept.drew) | exact HK.out)).1) : w.heap.size ≤ gb465)); have n5_ := am ((by rw [hg]; exact (below_size (rb HB)) : w0.heap.size ≤ gb465)); clear HO0; clear HK; clear HB; have HO0 := n0_; have HK := n1_; have HB := n2_; have BK465 := n3_; have GW465 := n4_; have GE465 := n5_; clear n0_ n1_ n2_ n3_ n4_ n5_; clear hb hbox hg))
 (try simp only [Act.put, List.setIfInBounds_toArray, List.set_cons_zero, List.set_cons_succ])
 go_cut [] (fun wc => ∃ (kq : Nat) (x0_4 : List (S48)), Aside0 (impl_clearCells.j0 kq x0_4 a1 a2 a3_0 a3_1 a3_2 a3_3 a3_4 = some r) ∧ Aside0 (kq ≤ k) ∧ Aside0 (Kd.R k48 48 wc w0.heap.size (fun k_ => (P0_ k_ ∨ w.heap.size ≤ k_)) u9000_ x0_4) ∧ Aside0 (wc.heap[gb465]? = some (.cells #[.int .i64 a3_0, .int .i64 a3_1, .bool a3_2, .bool a3_3, .bool a3_4] 37 (0, 0))) ∧ Aside0 (Kept w wc (fun k_ => P0_ k_)) ∧ Aside0 (Below w0.heap.size w0 wc))
 case first =>
  have H := HC5.out
  clear HC5
  by_cases c7 : a1 < a2
  ·rw [if_pos c7] at H
   have c7b0 : decide (a1 < a2) = true := decide_eq_true c7
   clear c7
   (first | rw [c7b0] | (simp only [i64_w, i32_w]; rw [c7b0]) | skip)
   replace H := Option.bind_eq_some_iff.mp H
   obtain ⟨t466, A80, H⟩ := H
   (try dsimp only at H)
   have A8 := am A80
   clear A80
   replace H := Option.bind_eq_some_iff.mp H
   obtain ⟨t467, A90, H⟩ := H
   (try dsimp only at H)
   have A9 := am A90
   clear A90
   have H' := am H
   clear H
   obtain ⟨Ao10, co10, eo10⟩ := Kd.R_slice HO0.out
   subst eo10
   go_wp2_with (first | ((with_reducible refine gate_callee (f := 73) rfl ?_); refine gl_ (some 14) Tryd.func73 #[.slice Ao10 l0.length co10, .int .i64 a1] ?_; (with_reducible refine (impl_part.calls k (fun k_ => some k_ = (.slice Ao10 l0.length co10 : Value).ownBlock) (.slice Ao10 l0.length co10) l0 a1 t466 w0 _ ?side1 ?side2 A8.out).mono ?_); (case side1 => repeat (first | (with_reducible first | exact HB.out | apply b1 | apply b2 | apply b3 | refine below_set ?_ GE465.out) | exact HB.out)); (case side2 => exact Kd.R_tight rfl HO0.out); rintro e w11 ⟨rfl, hy0, hb, hkp⟩; refine ⟨_, rfl, ?_⟩; have n0_ := am (Kd.R_reok rfl hy0 (fun k_ e_ => HO0.out.1 k_ e_)); have n1_ := am (blk_kept (rk BK465) hkp (fun hs_ => (fun e_ => (Kd.R_ne HO0.out BK465.out (by decide)) e_) hs_)); have n2_ := am (Kept.then_ (S := (fun k_ => P0_ k_)) (by repeat (first | (with_reducible first | exact HK.out | apply Kept.alloc | apply Kept.drewN | apply Kept.drew | refine Kept.setCell ?_ (.inr GW465.out) _) | exact HK.out)) hkp (fun k_ hs_ => (fun e_ => (HO0.out.1 k_ e_.symm)) hs_)); have n3_ := am (hb); clear HO0; clear BK465; clear HK; clear HB; have HO0 := n0_; have BK465 := n1_; have HK := n2_; have HB := n3_; clear n0_ n1_ n2_ n3_; (try clear hb); (try clear hkp); (try clear hy0)) | ((with_reducible refine gate_callee (f := 73) rfl ?_); refine gl_ (some 17) Tryd.func73 #[.slice Ao10 l0.length co10, .int .i64 a2] ?_; (with_reducible refine (impl_part.calls k (fun k_ => some k_ = (.slice Ao10 l0.length co10 : Value).ownBlock) (.slice Ao10 l0.length co10) t466 a2 t467 w0 _ ?side1 ?side2 A9.out).mono ?_); (case side1 => repeat (first | (with_reducible first | exact HB.out | apply b1 | apply b2 | apply b3 | refine below_set ?_ GE465.out) | exact HB.out)); (case side2 => exact Kd.R_tight rfl HO0.out); rintro e w12 ⟨rfl, hy0, hb, hkp⟩; refine ⟨_, rfl, ?_⟩; have n0_ := am (Kd.R_reok rfl hy0 (fun k_ e_ => HO0.out.1 k_ e_)); have n1_ := am (blk_kept (rk BK465) hkp (fun hs_ => (fun e_ => (Kd.R_ne HO0.out BK465.out (by decide)) e_) hs_)); have n2_ := am (Kept.then_ (S := (fun k_ => P0_ k_)) (by repeat (first | (with_reducible first | exact HK.out | apply Kept.alloc | apply Kept.drewN | apply Kept.drew | refine Kept.setCell ?_ (.inr GW465.out) _) | exact HK.out)) hkp (fun k_ hs_ => (fun e_ => (HO0.out.1 k_ e_.symm)) hs_)); have n3_ := am (hb); clear HO0; clear BK465; clear HK; clear HB; have HO0 := n0_; have BK465 := n1_; have HK := n2_; have HB := n3_; clear n0_ n1_ n2_ n3_; (try clear hb); (try clear hkp); (try clear hy0)))
   go_meet
   case rel => exact ⟨_, (t467), H', ⟨by first | omega | exact Nat.le_refl _⟩, ⟨rr HO0⟩, ⟨rk BK465⟩, ⟨by repeat (first | (with_reducible first | exact HK.out | apply Kept.alloc | apply Kept.drewN | apply Kept.drew | refine Kept.setCell ?_ (.inr GW465.out) _) | exact HK.out)⟩, ⟨by repeat (first | (with_reducible first | exact HB.out | apply b1 | apply b2 | apply b3 | refine below_set ?_ GE465.out) | exact HB.out)⟩⟩
  ·rw [if_neg c7] at H
   have c7b0 : decide (a1 < a2) = false := decide_eq_false c7
   clear c7
   (first | rw [c7b0] | (simp only [i64_w, i32_w]; rw [c7b0]) | skip)
   have H' := am H
   clear H
   go_wp2
   go_meet
   case rel => exact ⟨_, (l0), H', ⟨by first | omega | exact Nat.le_refl _⟩, ⟨rr HO0⟩, ⟨rk BK465⟩, ⟨by repeat (first | (with_reducible first | exact HK.out | apply Kept.alloc | apply Kept.drewN | apply Kept.drew | refine Kept.setCell ?_ (.inr GW465.out) _) | exact HK.out)⟩, ⟨by repeat (first | (with_reducible first | exact HB.out | apply b1 | apply b2 | apply b3 | refine below_set ?_ GE465.out) | exact HB.out)⟩⟩
 case rest =>
  clear HC5
  try clear p2
  try clear c4
  try clear c7
  try clear c7b0
  obtain ⟨kq, x0_4, HA, HJ4, HO_0, BK465, HK, HB⟩ := hcut
  cases kq with
  | zero => exact absurd HA.out (by simp [impl_clearCells.j0])
  | succ kj4 =>
   have H := HA.out
   clear HA
   simp only [impl_clearCells.j0] at H
   have H' := am H
   clear H
   go_wp2
   go_loopg [8] kj4 (fun kq v8 w' => ∃ (x0_2 : List (S48)) (x8_2 : Int), v8 = .int .i64 x8_2 ∧ Aside0 (impl_clearCells.l0 kq x0_2 a2 x8_2 a3_0 a3_1 a3_2 a3_3 a3_4 = some r) ∧ Aside0 (kq ≤ kj4) ∧ Aside0 (Kd.R k48 48 w' w0.heap.size (fun k_ => (P0_ k_ ∨ w.heap.size ≤ k_)) u9000_ x0_2) ∧ Aside0 (w'.heap[gb465]? = some (.cells #[.int .i64 a3_0, .int .i64 a3_1, .bool a3_2, .bool a3_3, .bool a3_4] 37 (0, 0))) ∧ Aside0 (Kept w w' (fun k_ => P0_ k_)) ∧ Aside0 (Below w0.heap.size w0 w'))
   case atStart => exact ⟨(x0_4), (a1), (by first | rfl | (simp; done) | (simp [*]; done)), H', ⟨Nat.le_refl _⟩, ⟨rr HO_0⟩, ⟨rk BK465⟩, ⟨by repeat (first | (with_reducible first | exact HK.out | apply Kept.alloc | apply Kept.drewN | apply Kept.drew | refine Kept.setCell ?_ (.inr GW465.out) _) | exact HK.out)⟩, ⟨by repeat (first | (with_reducible first | exact HB.out | apply b1 | apply b2 | apply b3 | refine below_set ?_ GE465.out) | exact HB.out)⟩⟩
   case round =>
    clear H'
    try clear p2
    try clear c4
    try clear c7
    try clear c7b0
    try clear p2
    obtain ⟨x0_2, x8_2, rfl, HA, HK2, HO_0, BK465, HK, HB⟩ := hrel
    cases gk with
    | zero => exact absurd HA.out (by simp [impl_clearCells.l0])
    | succ k2 =>
     have H := HA.out
     clear HA
     simp only [impl_clearCells.l0] at H
     by_cases c13 : x8_2 < a2
     ·rw [if_pos c13] at H
      have c13b0 : decide (x8_2 < a2) = true := decide_eq_true c13
      clear c13
      replace H := Option.bind_eq_some_iff.mp H
      obtain ⟨⟨t468, t469, t470, t471, t472, t473, t474⟩, A140, H⟩ := H
      (try dsimp only at H)
      have A14 := am A140
      clear A140
      refine em_ (p := 0 ≤ x8_2) (fun c15 => ?g1p) (fun c15 => ?g1n)
      case' g1p =>
       rw [if_pos c15] at H
       have c15b0 : decide (0 ≤ x8_2) = true := decide_eq_true c15
       clear c15
       refine em_ (p := x8_2 < (x0_2.length : Int)) (fun c16 => ?g0p) (fun c16 => ?g0n)
       case' g0p =>
        rw [if_pos c16] at H
        have c16b0 : decide (x8_2 < (x0_2.length : Int)) = true := decide_eq_true c16
        clear c16
        obtain ⟨y475, hy475⟩ : ∃ y_ : List (S48), y_ = (x0_2.set (x8_2 : Int).toNat (⟨t468, (⟨t469, t470, t471, t472, t473⟩ : S37), t474⟩ : S48)) := ⟨_, rfl⟩
        replace H : (impl_clearCells.l0 k2 y475 a2 (wrap64 (x8_2 + 1)) a3_0 a3_1 a3_2 a3_3 a3_4) = some r := by first | (rw [hy475]; with_reducible exact H) | (rw [hy475]; exact H) | exact H
        have Ny475 := am hy475
        clear hy475
        have H' := am H
        clear H
        have lf3_ := trivial
       case g0n =>
        rw [if_neg c16] at H
        exact absurd H (by simp)
      case g1n =>
       rw [if_neg c15] at H
       exact absurd H (by simp)
      all_goals
       have hcz18_0 : wr.cell? ⟨gb465, 0, none⟩ = some (.int .i64 a3_0) := (blk_cell BK465.out 0).trans rfl
       have hcz18_1 : wr.cell? ⟨gb465, 1, none⟩ = some (.int .i64 a3_1) := (blk_cell BK465.out 1).trans rfl
       have hcz18_2 : wr.cell? ⟨gb465, 2, none⟩ = some (.bool a3_2) := (blk_cell BK465.out 2).trans rfl
       have hcz18_3 : wr.cell? ⟨gb465, 3, none⟩ = some (.bool a3_3) := (blk_cell BK465.out 3).trans rfl
       have hcz18_4 : wr.cell? ⟨gb465, 4, none⟩ = some (.bool a3_4) := (blk_cell BK465.out 4).trans rfl
       have hfz18_0 := blk_frozen BK465.out 0
       have hfz18_1 := blk_frozen BK465.out 1
       have hfz18_2 := blk_frozen BK465.out 2
       have hfz18_3 := blk_frozen BK465.out 3
       have hfz18_4 := blk_frozen BK465.out 4
       go_wp2_with (first | ((with_reducible refine gate_callee (f := 50) rfl ?_); refine gl_ (some 27) Tryd.func50 #[.agg #[.int .i64 a3_0, .int .i64 a3_1, .bool a3_2, .bool a3_3, .bool a3_4]] ?_; (with_reducible refine (impl_blank.calls a3_0 a3_1 a3_2 a3_3 a3_4 t468 t469 t470 t471 t472 t473 t474 _ A14.out).mono ?_); rintro e w19 ⟨rfl, hb⟩; refine ⟨_, rfl, ?_⟩; have n0_ := am (Kd.R_below (rr HO_0) hb); have n1_ := am (blk_below (g := gb465) (o := .cells #[.int .i64 a3_0, .int .i64 a3_1, .bool a3_2, .bool a3_3, .bool a3_4] 37 (0, 0)) (rk BK465) hb); have n2_ := am (Kept.below (S := (fun k_ => P0_ k_)) (by repeat (first | (with_reducible first | exact HK.out | apply Kept.alloc | apply Kept.drewN | apply Kept.drew | refine Kept.setCell ?_ (.inr GW465.out) _) | exact HK.out)) hb); have n3_ := am (below_step (rb1 HB GE465) hb); clear HO_0; clear BK465; clear HK; clear HB; have HO_0 := n0_; have BK465 := n1_; have HK := n2_; have HB := n3_; clear n0_ n1_ n2_ n3_; (try clear hb); (try clear hb2); (try clear hk); (try clear hi); have p17 : 0 ≤ (x8_2 : Int) := dt_; have q17 : (x8_2 : Int) < ((x0_2.length : Int) : Int) := dt_; obtain ⟨go17, co17, eo17, gb17, gl17, cl17, HG17⟩ := Kd.R_form HO_0.out (by omega); (first | cases eo17 | (injection eo17 with ea_ en_ ec_; (first | subst ea_ | (injection ea_ with ea_; subst ea_)); subst ec_; clear en_)); have GB17 := am gb17; have GG17 := am HG17; clear gb17 gl17 HG17; have HMgo17 := am (show (P0_ go17 ∨ w.heap.size ≤ go17) from (HO_0.out.1 _ rfl)); obtain ⟨ce17, hcl17, hM17, hcc17, hfr17⟩ := Kd.R_elem HO_0.out z48 (x8_2 : Int) p17 q17; obtain rfl := k48_openM hM17; have hx17_0 : w19.cell? ⟨go17, (x8_2 : Int).toNat * 7, none⟩ = some (.int .i64 ((rd_T48 x0_2 x8_2).f0)) := hcc17 0 _ rfl; have hx17_1 : w19.cell? ⟨go17, (x8_2 : Int).toNat * 7 + 1, none⟩ = some (.int .i64 ((rd_T48 x0_2 x8_2).f1.f0)) := hcc17 1 _ rfl; have hx17_2 : w19.cell? ⟨go17, (x8_2 : Int).toNat * 7 + 2, none⟩ = some (.int .i64 ((rd_T48 x0_2 x8_2).f1.f1)) := hcc17 2 _ rfl; have hx17_3 : w19.cell? ⟨go17, (x8_2 : Int).toNat * 7 + 3, none⟩ = some (.bool ((rd_T48 x0_2 x8_2).f1.f2)) := hcc17 3 _ rfl; have hx17_4 : w19.cell? ⟨go17, (x8_2 : Int).toNat * 7 + 4, none⟩ = some (.bool ((rd_T48 x0_2 x8_2).f1.f3)) := hcc17 4 _ rfl; have hx17_5 : w19.cell? ⟨go17, (x8_2 : Int).toNat * 7 + 5, none⟩ = some (.bool ((rd_T48 x0_2 x8_2).f1.f4)) := hcc17 5 _ rfl; have hx17_6 : w19.cell? ⟨go17, (x8_2 : Int).toNat * 7 + 6, none⟩ = some (.int .i64 ((rd_T48 x0_2 x8_2).f2)) := hcc17 6 _ rfl; have hf17_0 : w19.frozen? ⟨go17, (x8_2 : Int).toNat * 7, none⟩ = false := hfr17 0; have hf17_1 : w19.frozen? ⟨go17, (x8_2 : Int).toNat * 7 + 1, none⟩ = false := hfr17 1; have hf17_2 : w19.frozen? ⟨go17, (x8_2 : Int).toNat * 7 + 2, none⟩ = false := hfr17 2; have hf17_3 : w19.frozen? ⟨go17, (x8_2 : Int).toNat * 7 + 3, none⟩ = false := hfr17 3; have hf17_4 : w19.frozen? ⟨go17, (x8_2 : Int).toNat * 7 + 4, none⟩ = false := hfr17 4; have hf17_5 : w19.frozen? ⟨go17, (x8_2 : Int).toNat * 7 + 5, none⟩ = false := hfr17 5; have hf17_6 : w19.frozen? ⟨go17, (x8_2 : Int).toNat * 7 + 6, none⟩ = false := hfr17 6; clear hcl17 hcc17 hfr17 hM17; replace p17 := eq_true p17; replace q17 := eq_true q17; have HX20 := am (show Kd.R k48 48 w19 w0.heap.size (fun k_ => (P0_ k_ ∨ w.heap.size ≤ k_)) (.slice (some ⟨go17, 0, none⟩) x0_2.length co17) x0_2 from (rr HO_0)); obtain ⟨ce20, hcl20, hM20, hcc20, hfr20⟩ := Kd.R_elem HX20.out z48 (x8_2 : Int) dt_ (by have h_ : (x8_2 : Int) < ((x0_2.length : Int) : Int) := dt_; first | exact h_ | (have e_ := (Kd.R_reads' HO_0.out).1; omega) | simpa using h_); obtain rfl := k48_openM hM20; have HP20 := Kd.R_seg HX20.out (x8_2 : Int) dt_ (by have h_ : (x8_2 : Int) < ((x0_2.length : Int) : Int) := dt_; first | exact h_ | (have e_ := (Kd.R_reads' HO_0.out).1; omega) | simpa using h_) (seg := [.int .i64 t468, .int .i64 t469, .int .i64 t470, .bool t471, .bool t472, .bool t473, .int .i64 t474]) (j := 0) hcl20 hcc20 (show 7 ≤ 7 from by decide) (x' := (⟨t468, (⟨t469, t470, t471, t472, t473⟩ : S37), t474⟩ : S48)) (k48_mkM _ _ _ (⟨t468, (⟨t469, t470, t471, t472, t473⟩ : S37), t474⟩ : S48) ) (fun _ hk => hk); have hx20_0 := hcc20 0 _ rfl; (try simp only [show (k48).sz = 7 from rfl, Nat.mul_one, Nat.add_zero] at hx20_0); have hf20_0 := hfr20 0; (try simp only [show (k48).sz = 7 from rfl, Nat.mul_one, Nat.add_zero] at hf20_0); have hx20_1 := hcc20 1 _ rfl; (try simp only [show (k48).sz = 7 from rfl, Nat.mul_one, Nat.add_zero] at hx20_1); have hf20_1 := hfr20 1; (try simp only [show (k48).sz = 7 from rfl, Nat.mul_one, Nat.add_zero] at hf20_1); have hx20_2 := hcc20 2 _ rfl; (try simp only [show (k48).sz = 7 from rfl, Nat.mul_one, Nat.add_zero] at hx20_2); have hf20_2 := hfr20 2; (try simp only [show (k48).sz = 7 from rfl, Nat.mul_one, Nat.add_zero] at hf20_2); have hx20_3 := hcc20 3 _ rfl; (try simp only [show (k48).sz = 7 from rfl, Nat.mul_one, Nat.add_zero] at hx20_3); have hf20_3 := hfr20 3; (try simp only [show (k48).sz = 7 from rfl, Nat.mul_one, Nat.add_zero] at hf20_3); have hx20_4 := hcc20 4 _ rfl; (try simp only [show (k48).sz = 7 from rfl, Nat.mul_one, Nat.add_zero] at hx20_4); have hf20_4 := hfr20 4; (try simp only [show (k48).sz = 7 from rfl, Nat.mul_one, Nat.add_zero] at hf20_4); have hx20_5 := hcc20 5 _ rfl; (try simp only [show (k48).sz = 7 from rfl, Nat.mul_one, Nat.add_zero] at hx20_5); have hf20_5 := hfr20 5; (try simp only [show (k48).sz = 7 from rfl, Nat.mul_one, Nat.add_zero] at hf20_5); have hx20_6 := hcc20 6 _ rfl; (try simp only [show (k48).sz = 7 from rfl, Nat.mul_one, Nat.add_zero] at hx20_6); have hf20_6 := hfr20 6; (try simp only [show (k48).sz = 7 from rfl, Nat.mul_one, Nat.add_zero] at hf20_6); clear hcl20 hcc20 hfr20 hM20) | ((with_reducible refine gate_store (t := 48) (p := 28) rfl ?_); refine store_event (t := 48) (p := 28) (v := ?vo_w21) (w1 := (((((((w19.setCell ⟨go17, (x8_2 : Int).toNat * 7, none⟩ (.int .i64 t468)).setCell ⟨go17, (x8_2 : Int).toNat * 7 + 1, none⟩ (.int .i64 t469)).setCell ⟨go17, (x8_2 : Int).toNat * 7 + 2, none⟩ (.int .i64 t470)).setCell ⟨go17, (x8_2 : Int).toNat * 7 + 3, none⟩ (.bool t471)).setCell ⟨go17, (x8_2 : Int).toNat * 7 + 4, none⟩ (.bool t472)).setCell ⟨go17, (x8_2 : Int).toNat * 7 + 5, none⟩ (.bool t473)).setCell ⟨go17, (x8_2 : Int).toNat * 7 + 6, none⟩ (.int .i64 t474))) ?hg ?ho ?hn ?hr ?_; (case ho => rfl); (case hg => rfl); (case hn => rfl); (case hr => first | (go_simp; done) | (go_simp; rfl)); intro w21 hw; have hg : w19.grownBy w21 (some go17) := (by rw [hw]; exact HP20.2); have hp_ : Kd.R k48 48 w21 w0.heap.size (fun k_ => (P0_ k_ ∨ w.heap.size ≤ k_)) (.slice (some ⟨go17, 0, none⟩) x0_2.length co17) y475 := (by rw [hw, Ny475.out]; exact HP20.1); clear HP20; have n0_ := am (hp_); have n1_ := am (blk_grown (g := gb465) (o := .cells #[.int .i64 a3_0, .int .i64 a3_1, .bool a3_2, .bool a3_3, .bool a3_4] 37 (0, 0)) (rk BK465) hg (Kd.R_ne HO_0.out BK465.out (by decide))); have n2_ := am ((by rw [hw]; exact below_set (below_set (below_set (below_set (below_set (below_set (below_set (HB.out) GB17.out) GB17.out) GB17.out) GB17.out) GB17.out) GB17.out) GB17.out : Below w0.heap.size w0 w21)); have n3_ := am (Kept.of_grown (S := (fun k_ => P0_ k_)) hg (by repeat (first | (with_reducible first | exact HK.out | apply Kept.alloc | apply Kept.drewN | apply Kept.drew | refine Kept.setCell ?_ (.inr GW465.out) _) | exact HK.out)) (fun k_ e_ => (HO_0.out.1 k_ e_))); clear HO_0; clear BK465; clear HB; clear HK; have HO_0 := n0_; have BK465 := n1_; have HB := n2_; have HK := n3_; clear n0_ n1_ n2_ n3_; clear hg hw hp_))
       go_roundg k2
       case measure => have := HJ4.out; have := HK2.out; omega
       case rel => exact ⟨(y475), (wrap64 (x8_2 + 1)), (by first | rfl | (simp; done) | (simp [*]; done)), H', ⟨by have := HJ4.out; have := HK2.out; omega⟩, ⟨rr HO_0⟩, ⟨rk BK465⟩, ⟨by repeat (first | (with_reducible first | exact HK.out | apply Kept.alloc | apply Kept.drewN | apply Kept.drew | refine Kept.setCell ?_ (.inr GW465.out) _) | exact HK.out)⟩, ⟨by repeat (first | (with_reducible first | exact HB.out | apply b1 | apply b2 | apply b3 | refine below_set ?_ GE465.out) | exact HB.out)⟩⟩
     ·rw [if_neg c13] at H
      have c13b0 : decide (x8_2 < a2) = false := decide_eq_false c13
      clear c13
      obtain rfl := Option.some.inj H
      go_wp2
      first | go_end0 | ((try simp only [Exit.inBlock, Exit.then]); refine bodyPost_ret (results_none rfl _ _ _) rfl ?_)
      exact ⟨by first | rfl | (simp [errW_none, errW_some] <;> rfl) | (simp [*, errW_none, errW_some] <;> rfl), by (with_reducible repeat (first | apply r1 | apply r2 | apply r3)); exact HO_0.out, by repeat (first | (with_reducible first | exact HB.out | apply b1 | apply b2 | apply b3 | refine below_set ?_ GE465.out) | exact HB.out), by repeat (first | (with_reducible first | exact HK.out | apply Kept.alloc | apply Kept.drewN | apply Kept.drew | refine Kept.setCell ?_ (.inr GW465.out) _) | exact HK.out)⟩

end Go.Proofs.YtepeanpoicefdaaDoor.PB
