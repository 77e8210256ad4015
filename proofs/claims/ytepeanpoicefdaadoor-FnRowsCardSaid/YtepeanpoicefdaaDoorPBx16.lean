/- Contracts of Go functions that laws of this seat reach: each Lean function answers as its Go function does. No condition. Written by wip/tools/inj.py, over the kit's print. -/
import Derived.Test.YtepeanpoicefdaaDoorPBx0
import Derived.Test.YtepeanpoicefdaaDoorPBx3
import Derived.Test.YtepeanpoicefdaaDoorPBx4
import Derived.Test.YtepeanpoicefdaaDoorPBx8
import Derived.Test.YtepeanpoicefdaaDoorPBx9
import Derived.Test.YtepeanpoicefdaaDoorPBx11
import Derived.Test.YtepeanpoicefdaaDoorPBx12
import Derived.Test.YtepeanpoicefdaaDoorPBx15
namespace Go.Proofs.YtepeanpoicefdaaDoor.PB
open Go.RowKit Go.Proofs.YtepeanpoicefdaaDoorW.PrintWords Go.Proofs.YtepeanpoicefdaaDoorW.PrintLast Go.Proofs.YtepeanpoicefdaaDoorW.PrintMore
attribute [local go_sem] max2_int min2_int max_two min_two max_three min_three max_four min_four   -- for this text's walks alone
set_option linter.unusedVariables false
set_option linter.unusedSimpArgs false

/-! ### impl_Written: function 12 -/
def impl_Written.j0 : Nat → List (S48) → Int → Int → Bool → Int → Int → Bool → Bool → Bool → Option ((List (S48)))
 | 0, _, _, _, _, _, _, _, _, _ => none
 | k + 1, x0, x1, x2, x33, x484000, x484001, x484002, x484003, x484004 => if x33 = true then (some ([] : List (S48))) else ((impl_Cell_44.f x0).bind fun t488 => ((impl_write.f k t488 x1 x2 x484000 x484001 x484002 x484003 x484004).bind fun t491 => (some t491)))
def impl_Written.f (k : Nat) (l0 : List (S48)) (a1 : Int) (a2 : Int) (a3_0 : Int) (a3_1 : Int) (a3_2 : Bool) (a3_3 : Bool) (a3_4 : Bool) : Option ((List (S48))) := (impl_Width.f k a2).bind fun t484 => ((impl_RowOk.f k l0).bind fun t485 => (if t485 = true then (if t484 = 0 then (impl_Written.j0 k l0 a1 a2 true a3_0 a3_1 a3_2 a3_3 a3_4) else ((impl_StyleOk.f a3_0 a3_1 a3_2 a3_3 a3_4).bind fun t486 => (if t486 = true then ((impl_in.f a1 0 (wrap64 ((l0.length : Int) - t484))).bind fun t487 => (impl_Written.j0 k l0 a1 a2 (!t487) a3_0 a3_1 a3_2 a3_3 a3_4)) else (impl_Written.j0 k l0 a1 a2 true a3_0 a3_1 a3_2 a3_3 a3_4)))) else (impl_Written.j0 k l0 a1 a2 true a3_0 a3_1 a3_2 a3_3 a3_4)))
theorem impl_Written.mono_l : ∀ k, (∀ y0 y1 y2 y3 y4 y5 y6 y7 y8, LeO (impl_Written.j0 k y0 y1 y2 y3 y4 y5 y6 y7 y8) (impl_Written.j0 (k + 1) y0 y1 y2 y3 y4 y5 y6 y7 y8))
 | 0 => fun _ _ _ _ _ _ _ _ _ r h => by simp [impl_Written.j0] at h
 | k + 1 => by
  have ih0 := impl_Written.mono_l k
  ·intro y0 y1 y2 y3 y4 y5 y6 y7 y8
   unfold impl_Written.j0
   repeat' first
   | (with_reducible exact ih0 _ _ _ _ _ _ _ _ _)
   | (with_reducible exact impl_RowOk.mono _ _)
   | (with_reducible exact impl_Width.mono _ _)
   | (with_reducible exact impl_write.mono _ _ _ _ _ _ _ _ _)
   | (with_reducible exact LeO.refl _)
   | (with_reducible exact LeO.none _)
   | (with_reducible refine LeO.ite ?_ ?_)
   | (with_reducible refine LeO.bind ?_ (fun _ => ?_))
theorem impl_Written.mono : ∀ a0 a1 a2 a3 a4 a5 a6 a7 k, LeO (impl_Written.f k a0 a1 a2 a3 a4 a5 a6 a7) (impl_Written.f (k + 1) a0 a1 a2 a3 a4 a5 a6 a7) := by
 intro a0 a1 a2 a3 a4 a5 a6 a7 k
 have ih0 := impl_Written.mono_l k
 unfold impl_Written.f
 repeat' first
   | (with_reducible exact ih0 _ _ _ _ _ _ _ _ _)
   | (with_reducible exact impl_RowOk.mono _ _)
   | (with_reducible exact impl_Width.mono _ _)
   | (with_reducible exact impl_write.mono _ _ _ _ _ _ _ _ _)
   | (with_reducible exact LeO.refl _)
   | (with_reducible exact LeO.none _)
   | (with_reducible refine LeO.ite ?_ ?_)
   | (with_reducible refine LeO.bind ?_ (fun _ => ?_))
set_option maxHeartbeats 8000000 in
set_option maxRecDepth 100000 in
theorem impl_Written.calls (k : Nat) (A0 : Option Addr) (c0 : Nat) (l0 : List (S48)) (a1 : Int) (a2 : Int) (a3_0 : Int) (a3_1 : Int) (a3_2 : Bool) (a3_3 : Bool) (a3_4 : Bool) (r : List (S48)) (w : World) (hr0 : Kd.C k48 w A0 l0.length l0) (hc0 : l0.length ≤ c0) (h : impl_Written.f k l0 a1 a2 a3_0 a3_1 a3_2 a3_3 a3_4 = some r) :
  Calls Tryd.prog 12 #[.slice A0 l0.length c0, .int .i64 a1, .int .i64 a2, .agg #[.int .i64 a3_0, .int .i64 a3_1, .bool a3_2, .bool a3_3, .bool a3_4]] w fun e w' => ∃ v0_ : Value, e = .returned (v0_) ∧ Kd.R k48 48 w' w.heap.size (fun _ => True) v0_ r ∧ Below w.heap.size w w' := by
 have hu37 := Tryd.underlying37
 have HR0 := am hr0
 have HC0 := am hc0
 clear hr0 hc0
 have HB := am (Below.refl w.heap.size w)
 have H := h
 unfold impl_Written.f at H
 clear h
 replace H := Option.bind_eq_some_iff.mp H
 obtain ⟨t484, A50, H⟩ := H
 (try dsimp only at H)
 have A5 := am A50
 clear A50
 have HC6 := am H
 clear H
 go_enter Tryd.func12, Tryd.ntmps12
 go_upto_region 2 with (first | ((with_reducible refine gate_dst (N := 7) rfl ?_); (try (refine gate_guard (by rfl) ?_; dsimp only)); refine box_event ?hg (N := 7) ?hd (cs := #[.int .i64 a3_0, .int .i64 a3_1, .bool a3_2, .bool a3_3, .bool a3_4]) (t := 37) ?hr ?_; (case hd => rfl); (case hg => rfl); (case hr => first | (go_simp; done) | (go_simp; rfl)); intro gb483 hg w7 hbox hb; have n0_ := am (below_step (rb HB) hb); have n1_ := am (hbox); have n2_ := am ((by rw [hg]; exact (below_size (rb HB)) : w.heap.size ≤ gb483)); have n3_ := am ((by rw [hg]; exact (below_size (rb HB)) : w.heap.size ≤ gb483)); clear HB; have HB := n0_; have BK483 := n1_; have GW483 := n2_; have GE483 := n3_; clear n0_ n1_ n2_ n3_; clear hb hbox hg) | ((with_reducible refine gate_callee (f := 41) rfl ?_); refine gl_ (some 12) Tryd.func41 #[.int .i64 a2] ?_; (with_reducible refine (impl_Width.calls k a2 t484 _ A5.out).mono ?_); rintro e w' ⟨rfl, ⟨nd, rfl⟩⟩; refine ⟨_, rfl, ?_⟩))
 (try simp only [Act.put, List.setIfInBounds_toArray, List.set_cons_zero, List.set_cons_succ])
 go_cut [33] (fun v33 wc => ∃ (kq : Nat) (x33_5 : Bool), v33 = .bool x33_5 ∧ Aside0 (impl_Written.j0 kq l0 a1 a2 x33_5 a3_0 a3_1 a3_2 a3_3 a3_4 = some r) ∧ Aside0 (kq ≤ k) ∧ Aside0 (wc.heap[gb483]? = some (.cells #[.int .i64 a3_0, .int .i64 a3_1, .bool a3_2, .bool a3_3, .bool a3_4] 37 (0, 0))) ∧ Aside0 (Below w.heap.size w wc))
 case first =>
  have H := HC6.out
  clear HC6
  replace H := Option.bind_eq_some_iff.mp H
  obtain ⟨t485, A80, H⟩ := H
  (try dsimp only at H)
  have A8 := am A80
  clear A80
  refine em_ (p := t485 = true) (fun c9 => ?g1p) (fun c9 => ?g1n)
  case g1p =>
   subst c9
   rw [if_pos rfl] at H
   refine em_ (p := t484 = 0) (fun c10 => ?g2p) (fun c10 => ?g2n)
   case' g2p =>
    rw [if_pos c10] at H
    have c10b0 : (t484 == 0) = true := beq_iff_eq.mpr c10
    have c10b1 : (t484 != 0) = false := bne_eq_false_iff_eq.mpr c10
    clear c10
    (first | rw [c10b0] | (simp only [i64_w, i32_w]; rw [c10b0]) | skip)
    have H' := am H
    clear H
    have lf5_ := trivial
   case g2n =>
    rw [if_neg c10] at H
    have c10b0 : (t484 == 0) = false := beq_eq_false_iff_ne.mpr c10
    have c10b1 : (t484 != 0) = true := bne_iff_ne.mpr c10
    (first | rw [c10b0] | (simp only [i64_w, i32_w]; rw [c10b0]) | skip)
    replace H := Option.bind_eq_some_iff.mp H
    obtain ⟨t486, A120, H⟩ := H
    (try dsimp only at H)
    have A12 := am A120
    clear A120
    refine em_ (p := t486 = true) (fun c13 => ?g0p) (fun c13 => ?g0n)
    case' g0p =>
     subst c13
     rw [if_pos rfl] at H
     replace H := Option.bind_eq_some_iff.mp H
     obtain ⟨t487, A140, H⟩ := H
     (try dsimp only at H)
     have A14 := am A140
     clear A140
     have H' := am H
     clear H
     have lf2_ := trivial
    case' g0n =>
     replace c13 := Bool.eq_false_iff.mpr c13
     subst c13
     rw [if_neg (show ¬ (false = true) by decide)] at H
     have H' := am H
     clear H
     have lf3_ := trivial
    all_goals
     go_wp2_with (first | ((with_reducible refine gate_callee (f := 21) rfl ?_); refine gl_ (some 14) Tryd.func21 #[.slice A0 l0.length c0] ?_; (with_reducible refine (impl_RowOk.calls k _ _ l0 true _ ?side1 ?side2 A8.out).mono ?_); (case side1 => exact rc ((Kd.C_below HR0.out HB.out))); (case side2 => exact HC0.out); rintro e w15 ⟨rfl, hb⟩; refine ⟨_, rfl, ?_⟩; have n0_ := am (blk_below (g := gb483) (o := .cells #[.int .i64 a3_0, .int .i64 a3_1, .bool a3_2, .bool a3_3, .bool a3_4] 37 (0, 0)) (rk BK483) hb); have n1_ := am (below_step (rb1 HB GE483) hb); clear BK483; clear HB; have BK483 := n0_; have HB := n1_; clear n0_ n1_; (try clear hb); (try clear hb2); (try clear hk); (try clear hi); have hcz16_0 : w15.cell? ⟨gb483, 0, none⟩ = some (.int .i64 a3_0) := (blk_cell BK483.out 0).trans rfl; have hcz16_1 : w15.cell? ⟨gb483, 1, none⟩ = some (.int .i64 a3_1) := (blk_cell BK483.out 1).trans rfl; have hcz16_2 : w15.cell? ⟨gb483, 2, none⟩ = some (.bool a3_2) := (blk_cell BK483.out 2).trans rfl; have hcz16_3 : w15.cell? ⟨gb483, 3, none⟩ = some (.bool a3_3) := (blk_cell BK483.out 3).trans rfl; have hcz16_4 : w15.cell? ⟨gb483, 4, none⟩ = some (.bool a3_4) := (blk_cell BK483.out 4).trans rfl; have hfz16_0 := blk_frozen BK483.out 0; have hfz16_1 := blk_frozen BK483.out 1; have hfz16_2 := blk_frozen BK483.out 2; have hfz16_3 := blk_frozen BK483.out 3; have hfz16_4 := blk_frozen BK483.out 4) | (go_at_call 42; (with_reducible refine (impl_StyleOk.calls a3_0 a3_1 a3_2 a3_3 a3_4 false _ A12.out).mono ?_); rintro e w20 ⟨rfl, hb⟩; have n0_ := am (blk_below (g := gb483) (o := .cells #[.int .i64 a3_0, .int .i64 a3_1, .bool a3_2, .bool a3_3, .bool a3_4] 37 (0, 0)) (rk BK483) hb); have n1_ := am (below_step (rb1 HB GE483) hb); clear BK483; clear HB; have BK483 := n0_; have HB := n1_; clear n0_ n1_; (try clear hb); (try clear hb2); (try clear hk); (try clear hi)) | (go_at_call 42; (with_reducible refine (impl_StyleOk.calls a3_0 a3_1 a3_2 a3_3 a3_4 true _ A12.out).mono ?_); rintro e w17 ⟨rfl, hb⟩; have n0_ := am (blk_below (g := gb483) (o := .cells #[.int .i64 a3_0, .int .i64 a3_1, .bool a3_2, .bool a3_3, .bool a3_4] 37 (0, 0)) (rk BK483) hb); have n1_ := am (below_step (rb1 HB GE483) hb); clear BK483; clear HB; have BK483 := n0_; have HB := n1_; clear n0_ n1_; (try clear hb); (try clear hb2); (try clear hk); (try clear hi)) | (go_at_call 43; (with_reducible refine (impl_in.calls a1 0 (wrap64 ((l0.length : Int) - t484)) t487 _ A14.out).mono ?_); rintro e w' ⟨rfl, ⟨nd, rfl⟩⟩))
     go_meet
     first
     | (
       have q_ := lf2_
       case rel => exact ⟨_, (!t487), (by first | rfl | (simp; done) | (simp [*]; done)), H', ⟨by first | omega | exact Nat.le_refl _⟩, ⟨rk BK483⟩, ⟨by repeat (first | (with_reducible first | exact HB.out | apply b1 | apply b2 | apply b3 | refine below_set ?_ GE483.out) | exact HB.out)⟩⟩
       )
     | (
       have q_ := lf3_
       case rel => exact ⟨_, (true), (by first | rfl | (simp; done) | (simp [*]; done)), H', ⟨by first | omega | exact Nat.le_refl _⟩, ⟨rk BK483⟩, ⟨by repeat (first | (with_reducible first | exact HB.out | apply b1 | apply b2 | apply b3 | refine below_set ?_ GE483.out) | exact HB.out)⟩⟩
       )
   all_goals
    go_wp2_with (first | ((with_reducible refine gate_callee (f := 21) rfl ?_); refine gl_ (some 14) Tryd.func21 #[.slice A0 l0.length c0] ?_; (with_reducible refine (impl_RowOk.calls k _ _ l0 true _ ?side1 ?side2 A8.out).mono ?_); (case side1 => exact rc ((Kd.C_below HR0.out HB.out))); (case side2 => exact HC0.out); rintro e w11 ⟨rfl, hb⟩; refine ⟨_, rfl, ?_⟩; have n0_ := am (blk_below (g := gb483) (o := .cells #[.int .i64 a3_0, .int .i64 a3_1, .bool a3_2, .bool a3_3, .bool a3_4] 37 (0, 0)) (rk BK483) hb); have n1_ := am (below_step (rb1 HB GE483) hb); clear BK483; clear HB; have BK483 := n0_; have HB := n1_; clear n0_ n1_; (try clear hb); (try clear hb2); (try clear hk); (try clear hi)))
    go_meet
    case rel => exact ⟨_, (true), (by first | rfl | (simp; done) | (simp [*]; done)), H', ⟨by first | omega | exact Nat.le_refl _⟩, ⟨rk BK483⟩, ⟨by repeat (first | (with_reducible first | exact HB.out | apply b1 | apply b2 | apply b3 | refine below_set ?_ GE483.out) | exact HB.out)⟩⟩
  case' g1n =>
   replace c9 := Bool.eq_false_iff.mpr c9
   subst c9
   rw [if_neg (show ¬ (false = true) by decide)] at H
   have H' := am H
   clear H
   have lf4_ := trivial
  all_goals
   go_wp2_with (first | ((with_reducible refine gate_callee (f := 21) rfl ?_); refine gl_ (some 14) Tryd.func21 #[.slice A0 l0.length c0] ?_; (with_reducible refine (impl_RowOk.calls k _ _ l0 false _ ?side1 ?side2 A8.out).mono ?_); (case side1 => exact rc ((Kd.C_below HR0.out HB.out))); (case side2 => exact HC0.out); rintro e w21 ⟨rfl, hb⟩; refine ⟨_, rfl, ?_⟩; have n0_ := am (blk_below (g := gb483) (o := .cells #[.int .i64 a3_0, .int .i64 a3_1, .bool a3_2, .bool a3_3, .bool a3_4] 37 (0, 0)) (rk BK483) hb); have n1_ := am (below_step (rb1 HB GE483) hb); clear BK483; clear HB; have BK483 := n0_; have HB := n1_; clear n0_ n1_; (try clear hb); (try clear hb2); (try clear hk); (try clear hi)))
   go_meet
   case rel => exact ⟨_, (true), (by first | rfl | (simp; done) | (simp [*]; done)), H', ⟨by first | omega | exact Nat.le_refl _⟩, ⟨rk BK483⟩, ⟨by repeat (first | (with_reducible first | exact HB.out | apply b1 | apply b2 | apply b3 | refine below_set ?_ GE483.out) | exact HB.out)⟩⟩
 case rest =>
  clear HC6
  try clear c1
  try clear c2
  try clear p2
  try clear c4
  try clear p6
  try clear c9
  try clear c10
  try clear c10b0
  try clear c10b1
  try clear c12
  try clear c13
  try clear c21
  try clear hcz16_0
  try clear hcz16_1
  try clear hcz16_2
  try clear hcz16_3
  try clear hcz16_4
  try clear hcz19_0
  try clear hcz19_1
  try clear hcz19_2
  try clear hcz19_3
  try clear hcz19_4
  try clear hfz16_0
  try clear hfz16_1
  try clear hfz16_2
  try clear hfz16_3
  try clear hfz16_4
  try clear hfz19_0
  try clear hfz19_1
  try clear hfz19_2
  try clear hfz19_3
  try clear hfz19_4
  obtain ⟨kq, x33_5, rfl, HA, HJ5, BK483, HB⟩ := hcut
  cases kq with
  | zero => exact absurd HA.out (by simp [impl_Written.j0])
  | succ kj5 =>
   have H := HA.out
   clear HA
   simp only [impl_Written.j0] at H
   by_cases c22 : x33_5 = true
   ·subst c22
    have H1 : (some ([] : List (S48))) = some r := by rw [if_pos rfl] at H; exact H
    clear H
    have H := H1
    clear H1
    obtain rfl := Option.some.inj H
    go_wp2
    go_ret
    exact ⟨_, by first | rfl | (simp [errW_none, errW_some] <;> rfl) | (simp [*, errW_none, errW_some] <;> rfl), by first | exact Kd.R_nil _ _ _ _ _ | exact Kd.N_nil _ _ _ _ _ | exact Kd.V_nil _ _ _ _ _ | exact Kd.Q_nil _ _ _ _ _ | exact Kd.S_nil _ _ _ _ _, by repeat (first | (with_reducible first | exact HB.out | apply b1 | apply b2 | apply b3 | refine below_set ?_ GE483.out) | exact HB.out)⟩
   ·replace c22 := Bool.eq_false_iff.mpr c22
    subst c22
    rw [if_neg (show ¬ (false = true) by decide)] at H
    replace H := Option.bind_eq_some_iff.mp H
    obtain ⟨t488, A230, H⟩ := H
    (try dsimp only at H)
    have A23 := am A230
    clear A230
    replace H := Option.bind_eq_some_iff.mp H
    obtain ⟨t491, A240, H⟩ := H
    replace H : (some t491) = some r := H
    have A24 := am A240
    clear A240
    obtain rfl := Option.some.inj H
    go_wp2_with (first | ((with_reducible refine gate_callee (f := 44) rfl ?_); refine gl_ (some 35) Tryd.func44 #[.slice A0 l0.length c0] ?_; (with_reducible refine (impl_Cell_44.calls _ _ l0 t488 _ ?side1 ?side2 A23.out).mono ?_); (case side1 => exact rc ((Kd.C_below HR0.out HB.out))); (case side2 => exact HC0.out); rintro e w25 ⟨v489, rfl, ho0, hb⟩; refine ⟨_, rfl, ?_⟩; have n0_ := am (Kd.R_lower ho0 (below_size (rb1 HB GE483))); have n1_ := am (blk_below (g := gb483) (o := .cells #[.int .i64 a3_0, .int .i64 a3_1, .bool a3_2, .bool a3_3, .bool a3_4] 37 (0, 0)) (rk BK483) hb); have n2_ := am (below_step (rb1 HB GE483) hb); clear BK483; clear HB; have HO490 := n0_; have BK483 := n1_; have HB := n2_; clear n0_ n1_ n2_; (try clear hb); (try clear hb2); (try clear hk); (try clear hi); (try clear ho0); have hcz26_0 : w25.cell? ⟨gb483, 0, none⟩ = some (.int .i64 a3_0) := (blk_cell BK483.out 0).trans rfl; have hcz26_1 : w25.cell? ⟨gb483, 1, none⟩ = some (.int .i64 a3_1) := (blk_cell BK483.out 1).trans rfl; have hcz26_2 : w25.cell? ⟨gb483, 2, none⟩ = some (.bool a3_2) := (blk_cell BK483.out 2).trans rfl; have hcz26_3 : w25.cell? ⟨gb483, 3, none⟩ = some (.bool a3_3) := (blk_cell BK483.out 3).trans rfl; have hcz26_4 : w25.cell? ⟨gb483, 4, none⟩ = some (.bool a3_4) := (blk_cell BK483.out 4).trans rfl; have hfz26_0 := blk_frozen BK483.out 0; have hfz26_1 := blk_frozen BK483.out 1; have hfz26_2 := blk_frozen BK483.out 2; have hfz26_3 := blk_frozen BK483.out 3; have hfz26_4 := blk_frozen BK483.out 4; obtain ⟨Ao27, co27, eo27⟩ := Kd.R_slice HO490.out; subst eo27) | ((with_reducible refine gate_callee (f := 45) rfl ?_); refine gl_ (some 40) Tryd.func45 #[.slice Ao27 t488.length co27, .int .i64 a1, .int .i64 a2, .agg #[.int .i64 a3_0, .int .i64 a3_1, .bool a3_2, .bool a3_3, .bool a3_4]] ?_; (with_reducible refine (impl_write.calls kj5 (fun k_ => some k_ = (.slice Ao27 t488.length co27 : Value).ownBlock) (.slice Ao27 t488.length co27) t488 a1 a2 a3_0 a3_1 a3_2 a3_3 a3_4 t491 w _ ?side1 ?side2 A24.out).mono ?_); (case side1 => repeat (first | (with_reducible first | exact HB.out | apply b1 | apply b2 | apply b3 | refine below_set ?_ GE483.out) | exact HB.out)); (case side2 => exact Kd.R_tight rfl HO490.out); rintro e w28 ⟨rfl, hy0, hb, hkp⟩; refine ⟨_, rfl, ?_⟩; have n0_ := am (blk_kept (rk BK483) hkp (fun hs_ => (fun e_ => (Kd.R_ne HO490.out BK483.out (by decide)) e_) hs_)); have n1_ := am (Kd.R_reok rfl hy0 (fun k_ e_ => HO490.out.1 k_ e_)); have n2_ := am (hb); clear BK483; clear HO490; clear HB; have BK483 := n0_; have HO490 := n1_; have HB := n2_; clear n0_ n1_ n2_; (try clear hb); (try clear hkp); (try clear hy0)))
    go_ret
    exact ⟨_, by first | rfl | (simp [errW_none, errW_some] <;> rfl) | (simp [*, errW_none, errW_some] <;> rfl), by (with_reducible repeat (first | apply r1 | apply r2 | apply r3)); exact HO490.out, by repeat (first | (with_reducible first | exact HB.out | apply b1 | apply b2 | apply b3 | refine below_set ?_ GE483.out) | exact HB.out)⟩

/-! ### spec_DrawCleared: function 13 -/
def spec_DrawCleared.f (k : Nat) (l0 : List Int) : Option ((List (S48)) × Int × Int × Int × Int × Bool × Bool × Bool) := (spec_l1New.f k l0).bind fun bt493 => ((spec_l4DrawAny.f k bt493.1 bt493.2.1 bt493.2.2).bind fun bt497 => ((spec_l4DrawAt.f bt493.1 bt497.2.1 bt497.2.2 (bt497.1.length : Int)).bind fun bt502 => ((spec_l1Below.f bt493.1 bt502.2.1 bt502.2.2 4).bind fun bt505 => ((spec_l3DrawAny.f bt493.1 bt505.2.1 bt505.2.2).bind fun bt508 => (some (bt497.1, bt502.1, wrap64 (bt502.1 + bt505.1), bt508.1, bt508.2.1, bt508.2.2.1, bt508.2.2.2.1, bt508.2.2.2.2.1))))))
theorem spec_DrawCleared.mono : ∀ a0 k, LeO (spec_DrawCleared.f k a0) (spec_DrawCleared.f (k + 1) a0) := by
 intro a0 k
 unfold spec_DrawCleared.f
 repeat' first
   | (with_reducible exact spec_l1New.mono _ _)
   | (with_reducible exact spec_l4DrawAny.mono _ _ _ _)
   | (with_reducible exact LeO.refl _)
   | (with_reducible exact LeO.none _)
   | (with_reducible refine LeO.ite ?_ ?_)
   | (with_reducible refine LeO.bind ?_ (fun _ => ?_))
set_option maxHeartbeats 8000000 in
set_option maxRecDepth 100000 in
theorem spec_DrawCleared.calls (k : Nat) (A0 : Option Addr) (c0 : Nat) (l0 : List Int) (r1 : List (S48)) (r2 : Int) (r3 : Int) (r4 : Int) (r5 : Int) (r6 : Bool) (r7 : Bool) (r8 : Bool) (w : World) (hr0 : Kd.C (Kd.int .u8) w A0 l0.length l0) (hc0 : l0.length ≤ c0) (h : spec_DrawCleared.f k l0 = some (r1, r2, r3, r4, r5, r6, r7, r8)) :
  Calls Tryd.prog 13 #[.slice A0 l0.length c0] w fun e w' => ∃ v0_ : Value, e = .returned (.tuple #[v0_, .int .i64 r2, .int .i64 r3, .agg #[.int .i64 r4, .int .i64 r5, .bool r6, .bool r7, .bool r8]]) ∧ Kd.R k48 48 w' w.heap.size (fun _ => True) v0_ r1 ∧ Below w.heap.size w w' := by
 have hu37 := Tryd.underlying37
 have HR0 := am hr0
 have HC0 := am hc0
 clear hr0 hc0
 have HB := am (Below.refl w.heap.size w)
 have H := h
 unfold spec_DrawCleared.f at H
 clear h
 replace H := Option.bind_eq_some_iff.mp H
 obtain ⟨⟨t493, t494, t495⟩, A20, H⟩ := H
 (try dsimp only at H)
 have A2 := am A20
 clear A20
 replace H := Option.bind_eq_some_iff.mp H
 obtain ⟨⟨t497, t500, t501⟩, A30, H⟩ := H
 (try dsimp only at H)
 have A3 := am A30
 clear A30
 replace H := Option.bind_eq_some_iff.mp H
 obtain ⟨⟨t502, t503, t504⟩, A40, H⟩ := H
 (try dsimp only at H)
 have A4 := am A40
 clear A40
 replace H := Option.bind_eq_some_iff.mp H
 obtain ⟨⟨t505, t506, t507⟩, A50, H⟩ := H
 (try dsimp only at H)
 have A5 := am A50
 clear A50
 replace H := Option.bind_eq_some_iff.mp H
 obtain ⟨⟨t508, t509, t510, t511, t512, t513, t514⟩, A60, H⟩ := H
 (try dsimp only at H)
 have A6 := am A60
 clear A60
 simp only [Option.some.injEq, Prod.mk.injEq] at H
 obtain ⟨rfl, rfl, rfl, rfl, rfl, rfl, rfl, rfl⟩ := H
 go_enter Tryd.func13, Tryd.ntmps13
 go_wp2_with (first | ((with_reducible refine gate_dst (N := 5) rfl ?_); refine box_event ?hg (N := 5) ?hd (cs := #[.int .i64 0, .int .i64 0, .bool false, .bool false, .bool false]) (t := 37) ?hr ?_; (case hd => rfl); (case hg => rfl); (case hr => first | (go_simp; done) | (go_simp; rfl)); intro gb492 hg w7 hbox hb; have n0_ := am (below_step (rb HB) hb); have n1_ := am (hbox); have n2_ := am ((by rw [hg]; exact (below_size (rb HB)) : w.heap.size ≤ gb492)); have n3_ := am ((by rw [hg]; exact (below_size (rb HB)) : w.heap.size ≤ gb492)); clear HB; have HB := n0_; have BK492 := n1_; have GW492 := n2_; have GE492 := n3_; clear n0_ n1_ n2_ n3_; clear hb hbox hg) | ((with_reducible refine gate_callee (f := 34) rfl ?_); refine gl_ (some 10) Tryd.func34 #[.slice A0 l0.length c0] ?_; (with_reducible refine (spec_l1New.calls k _ _ l0 t493 t494 t495 w _ ?side1 ?side2 ?side3 A2.out).mono ?_); (case side1 => repeat (first | (with_reducible first | exact HB.out | apply b1 | apply b2 | apply b3 | refine below_set ?_ GE492.out) | exact HB.out)); (case side2 => exact HR0.out); (case side3 => exact HC0.out); rintro e w8 ⟨g496, rfl, hi, hb, hb2⟩; refine ⟨_, rfl, ?_⟩; have n0_ := am (blk_below (g := gb492) (o := .cells #[.int .i64 0, .int .i64 0, .bool false, .bool false, .bool false] 37 (0, 0)) (rk BK492) hb2); have n1_ := am (hb); have n2_ := am (hi); have n3_ := am (IsS87.ne_blk hi (blk_below (g := gb492) (o := .cells #[.int .i64 0, .int .i64 0, .bool false, .bool false, .bool false] 37 (0, 0)) (rk BK492) hb2) (by decide)); have n4_ := am (Ne.symm (IsS87.ne_blk hi (blk_below (g := gb492) (o := .cells #[.int .i64 0, .int .i64 0, .bool false, .bool false, .bool false] 37 (0, 0)) (rk BK492) hb2) (by decide))); clear BK492; clear HB; have BK492 := n0_; have HB := n1_; have HI496 := n2_; have NB496_492 := n3_; have NB492_496 := n4_; clear n0_ n1_ n2_ n3_ n4_; (try clear hb); (try clear hb2); (try clear hk); (try clear hi)) | ((with_reducible refine gate_callee (f := 35) rfl ?_); refine gl_ (some 12) Tryd.func35 #[.pointer (some ⟨g496, 0, none⟩)] ?_; (with_reducible refine (spec_l4DrawAny.calls k g496 t493 t494 t495 t497 t500 t501 w _ ?side1 ?side2 A3.out).mono ?_); (case side1 => repeat (first | (with_reducible first | exact HI496.out | apply IsS87.alloc | apply IsS87.drewN | apply IsS87.drew | apply IsS87.set_1 | apply IsS87.set_2 | refine IsS87.far ?_ NB496_492.out _) | exact HI496.out)); (case side2 => repeat (first | (with_reducible first | exact HB.out | apply b1 | apply b2 | apply b3 | refine below_set ?_ (IsS87.ge HI496.out) | refine below_set ?_ GE492.out) | exact HB.out)); rintro e w9 ⟨v498, rfl, ho0, hi, hb, hk⟩; refine ⟨_, rfl, ?_⟩; have n0_ := am (KeepBut.blk hk (g' := gb492) (o := .cells #[.int .i64 0, .int .i64 0, .bool false, .bool false, .bool false] 37 (0, 0)) (rk BK492) NB492_496.out (by simp)); have n1_ := am (Kd.R_lower ho0 (below_size (by repeat (first | (with_reducible first | exact HB.out | apply b1 | apply b2 | apply b3 | refine below_set ?_ (IsS87.ge HI496.out) | refine below_set ?_ GE492.out) | exact HB.out)))); have n2_ := am (hb); have n3_ := am (hi); clear BK492; clear HB; clear HI496; have BK492 := n0_; have HO499 := n1_; have HB := n2_; have HI496 := n3_; clear n0_ n1_ n2_ n3_; (try clear hb); (try clear hb2); (try clear hk); (try clear hi); (try clear ho0); obtain ⟨Ao10, co10, eo10⟩ := Kd.R_slice HO499.out; subst eo10) | ((with_reducible refine gate_callee (f := 39) rfl ?_); refine gl_ (some 16) Tryd.func39 #[.pointer (some ⟨g496, 0, none⟩), .int .i64 (t497.length : Int)] ?_; (with_reducible refine (spec_l4DrawAt.calls g496 t493 t500 t501 (t497.length : Int) t502 t503 t504 w _ ?side1 ?side2 A4.out).mono ?_); (case side1 => repeat (first | (with_reducible first | exact HI496.out | apply IsS87.alloc | apply IsS87.drewN | apply IsS87.drew | apply IsS87.set_1 | apply IsS87.set_2 | refine IsS87.far ?_ NB496_492.out _) | exact HI496.out)); (case side2 => repeat (first | (with_reducible first | exact HB.out | apply b1 | apply b2 | apply b3 | refine below_set ?_ (IsS87.ge HI496.out) | refine below_set ?_ GE492.out) | exact HB.out)); rintro e w11 ⟨rfl, hi, hb, hk⟩; refine ⟨_, rfl, ?_⟩; have n0_ := am (KeepBut.blk hk (g' := gb492) (o := .cells #[.int .i64 0, .int .i64 0, .bool false, .bool false, .bool false] 37 (0, 0)) (rk BK492) NB492_496.out (by simp)); have n1_ := am (Kd.R_mono (Kd.R_keep (IsS87.apart (show IsS87 w _ g496 t493 t500 t501 from by repeat (first | (with_reducible first | exact HI496.out | apply IsS87.alloc | apply IsS87.drewN | apply IsS87.drew | apply IsS87.set_1 | apply IsS87.set_2 | refine IsS87.far ?_ NB496_492.out _) | exact HI496.out)) (rr HO499) (by decide)) hk (fun _ h => h.2)) (fun _ h => h.1)); have n2_ := am (hb); have n3_ := am (hi); clear BK492; clear HO499; clear HB; clear HI496; have BK492 := n0_; have HO499 := n1_; have HB := n2_; have HI496 := n3_; clear n0_ n1_ n2_ n3_; (try clear hb); (try clear hb2); (try clear hk); (try clear hi)) | ((with_reducible refine gate_callee (f := 46) rfl ?_); refine gl_ (some 21) Tryd.func46 #[.pointer (some ⟨g496, 0, none⟩), .int .i64 4] ?_; (with_reducible refine (spec_l1Below.calls g496 t493 t503 t504 4 t505 t506 t507 w _ ?side1 ?side2 A5.out).mono ?_); (case side1 => repeat (first | (with_reducible first | exact HI496.out | apply IsS87.alloc | apply IsS87.drewN | apply IsS87.drew | apply IsS87.set_1 | apply IsS87.set_2 | refine IsS87.far ?_ NB496_492.out _) | exact HI496.out)); (case side2 => repeat (first | (with_reducible first | exact HB.out | apply b1 | apply b2 | apply b3 | refine below_set ?_ (IsS87.ge HI496.out) | refine below_set ?_ GE492.out) | exact HB.out)); rintro e w12 ⟨rfl, hi, hb, hk⟩; refine ⟨_, rfl, ?_⟩; have n0_ := am (KeepBut.blk hk (g' := gb492) (o := .cells #[.int .i64 0, .int .i64 0, .bool false, .bool false, .bool false] 37 (0, 0)) (rk BK492) NB492_496.out (by simp)); have n1_ := am (Kd.R_mono (Kd.R_keep (IsS87.apart (show IsS87 w _ g496 t493 t503 t504 from by repeat (first | (with_reducible first | exact HI496.out | apply IsS87.alloc | apply IsS87.drewN | apply IsS87.drew | apply IsS87.set_1 | apply IsS87.set_2 | refine IsS87.far ?_ NB496_492.out _) | exact HI496.out)) (rr HO499) (by decide)) hk (fun _ h => h.2)) (fun _ h => h.1)); have n2_ := am (hb); have n3_ := am (hi); clear BK492; clear HO499; clear HB; clear HI496; have BK492 := n0_; have HO499 := n1_; have HB := n2_; have HI496 := n3_; clear n0_ n1_ n2_ n3_; (try clear hb); (try clear hb2); (try clear hk); (try clear hi)) | ((with_reducible refine gate_callee (f := 40) rfl ?_); refine gl_ (some 24) Tryd.func40 #[.pointer (some ⟨g496, 0, none⟩)] ?_; (with_reducible refine (spec_l3DrawAny.calls g496 t493 t506 t507 t508 t509 t510 t511 t512 t513 t514 w _ ?side1 ?side2 A6.out).mono ?_); (case side1 => repeat (first | (with_reducible first | exact HI496.out | apply IsS87.alloc | apply IsS87.drewN | apply IsS87.drew | apply IsS87.set_1 | apply IsS87.set_2 | refine IsS87.far ?_ NB496_492.out _) | exact HI496.out)); (case side2 => repeat (first | (with_reducible first | exact HB.out | apply b1 | apply b2 | apply b3 | refine below_set ?_ (IsS87.ge HI496.out) | refine below_set ?_ GE492.out) | exact HB.out)); rintro e w13 ⟨rfl, hi, hb, hk⟩; refine ⟨_, rfl, ?_⟩; have n0_ := am (KeepBut.blk hk (g' := gb492) (o := .cells #[.int .i64 0, .int .i64 0, .bool false, .bool false, .bool false] 37 (0, 0)) (rk BK492) NB492_496.out (by simp)); have n1_ := am (Kd.R_mono (Kd.R_keep (IsS87.apart (show IsS87 w _ g496 t493 t506 t507 from by repeat (first | (with_reducible first | exact HI496.out | apply IsS87.alloc | apply IsS87.drewN | apply IsS87.drew | apply IsS87.set_1 | apply IsS87.set_2 | refine IsS87.far ?_ NB496_492.out _) | exact HI496.out)) (rr HO499) (by decide)) hk (fun _ h => h.2)) (fun _ h => h.1)); have n2_ := am (hb); have n3_ := am (hi); clear BK492; clear HO499; clear HB; clear HI496; have BK492 := n0_; have HO499 := n1_; have HB := n2_; have HI496 := n3_; clear n0_ n1_ n2_ n3_; (try clear hb); (try clear hb2); (try clear hk); (try clear hi); have hnb14 := NB492_496.out; have hnc14 := NB496_492.out; have hcz15_0 : w13.cell? ⟨gb492, 0, none⟩ = some (.int .i64 0) := (blk_cell BK492.out 0).trans rfl; have hcz15_1 : w13.cell? ⟨gb492, 1, none⟩ = some (.int .i64 0) := (blk_cell BK492.out 1).trans rfl; have hcz15_2 : w13.cell? ⟨gb492, 2, none⟩ = some (.bool false) := (blk_cell BK492.out 2).trans rfl; have hcz15_3 : w13.cell? ⟨gb492, 3, none⟩ = some (.bool false) := (blk_cell BK492.out 3).trans rfl; have hcz15_4 : w13.cell? ⟨gb492, 4, none⟩ = some (.bool false) := (blk_cell BK492.out 4).trans rfl; have hfz15_0 := blk_frozen BK492.out 0; have hfz15_1 := blk_frozen BK492.out 1; have hfz15_2 := blk_frozen BK492.out 2; have hfz15_3 := blk_frozen BK492.out 3; have hfz15_4 := blk_frozen BK492.out 4))
 refine bodyPost_ret (results_list (rs := [.tmp 2, .tmp 3, .tmp 4, .cell 5 37]) rfl (by simp) (.tmp (.tmp (.tmp (.cell gb492 37 #[.int .i64 t508, .int .i64 t509, .bool t510, .bool t511, .bool t512] (0, 0) _ rfl (by (with_reducible repeat (first | apply k1 | apply k2 | apply k3)); refine blk_put (cs := #[.int .i64 t508, .int .i64 t509, .bool t510, .bool t511, .bool false]) ?_ 4 _ rfl; (with_reducible repeat (first | apply k1 | apply k2 | apply k3)); refine blk_put (cs := #[.int .i64 t508, .int .i64 t509, .bool t510, .bool false, .bool false]) ?_ 3 _ rfl; (with_reducible repeat (first | apply k1 | apply k2 | apply k3)); refine blk_put (cs := #[.int .i64 t508, .int .i64 t509, .bool false, .bool false, .bool false]) ?_ 2 _ rfl; (with_reducible repeat (first | apply k1 | apply k2 | apply k3)); refine blk_put (cs := #[.int .i64 t508, .int .i64 0, .bool false, .bool false, .bool false]) ?_ 1 _ rfl; (with_reducible repeat (first | apply k1 | apply k2 | apply k3)); refine blk_put (cs := #[.int .i64 0, .int .i64 0, .bool false, .bool false, .bool false]) ?_ 0 _ rfl; (with_reducible repeat (first | apply k1 | apply k2 | apply k3)); exact BK492.out) Tryd.underlying37 rfl (by kernel_rfl) .nil))))) rfl ?_
 exact ⟨_, by first | rfl | (simp [errW_none, errW_some] <;> rfl) | (simp [*, errW_none, errW_some] <;> rfl), by (with_reducible repeat (first | apply r1 | apply r2 | apply r3)); exact Kd.R_mono (Kd.R_far (p := ⟨gb492, 4, none⟩) (Kd.R_far (p := ⟨gb492, 3, none⟩) (Kd.R_far (p := ⟨gb492, 2, none⟩) (Kd.R_far (p := ⟨gb492, 1, none⟩) (Kd.R_far (p := ⟨gb492, 0, none⟩) (Kd.R_types HO499.out BK492.out (by decide)) (fun _ hk => hk.2) (.int .i64 t508)) (fun _ hk => hk.2) (.int .i64 t509)) (fun _ hk => hk.2) (.bool t510)) (fun _ hk => hk.2) (.bool t511)) (fun _ hk => hk.2) (.bool t512)) (fun _ hk => trivial), by repeat (first | (with_reducible first | exact HB.out | apply b1 | apply b2 | apply b3 | refine below_set ?_ (IsS87.ge HI496.out) | refine below_set ?_ GE492.out) | exact HB.out)⟩

/-! ### impl_isSpan: function 47 -/
def impl_isSpan.f (l0 : List (S48)) (a1 : Int) (a2 : Int) : Option (Bool) := if 0 ≤ a1 then (if a1 ≤ a2 then (some (decide (a2 ≤ (l0.length : Int)))) else (some false)) else (some false)
set_option maxHeartbeats 8000000 in
set_option maxRecDepth 100000 in
theorem impl_isSpan.calls (A0 : Option Addr) (c0 : Nat) (l0 : List (S48)) (a1 : Int) (a2 : Int) (r : Bool) (w : World) (hr0 : Kd.C k48 w A0 l0.length l0) (hc0 : l0.length ≤ c0) (h : impl_isSpan.f l0 a1 a2 = some r) :
  Calls Tryd.prog 47 #[.slice A0 l0.length c0, .int .i64 a1, .int .i64 a2] w fun e w' => e = .returned (.bool r) ∧ Drawn0 w w' := by
 have HR0 := am hr0
 have HC0 := am hc0
 clear hr0 hc0
 have H := h
 unfold impl_isSpan.f at H
 clear h
 by_cases c4 : 0 ≤ a1
 ·rw [if_pos c4] at H
  have c4b0 : decide (0 ≤ a1) = true := decide_eq_true c4
  clear c4
  by_cases c5 : a1 ≤ a2
  ·rw [if_pos c5] at H
   have c5b0 : decide (a1 ≤ a2) = true := decide_eq_true c5
   clear c5
   obtain rfl := Option.some.inj H
   go_enter Tryd.func47, Tryd.ntmps47
   go_wp2
   go_ret
   exact ⟨by first | rfl | (simp; done) | (simp [*]; done), by repeat (first | exact Drawn0.refl _ | apply Drawn0.step)⟩
  ·rw [if_neg c5] at H
   have c5b0 : decide (a1 ≤ a2) = false := decide_eq_false c5
   clear c5
   obtain rfl := Option.some.inj H
   go_enter Tryd.func47, Tryd.ntmps47
   go_wp2
   go_ret
   exact ⟨by first | rfl | (simp; done) | (simp [*]; done), by repeat (first | exact Drawn0.refl _ | apply Drawn0.step)⟩
 ·rw [if_neg c4] at H
  have c4b0 : decide (0 ≤ a1) = false := decide_eq_false c4
  clear c4
  obtain rfl := Option.some.inj H
  go_enter Tryd.func47, Tryd.ntmps47
  go_wp2
  go_ret
  exact ⟨by first | rfl | (simp; done) | (simp [*]; done), by repeat (first | exact Drawn0.refl _ | apply Drawn0.step)⟩

end Go.Proofs.YtepeanpoicefdaaDoor.PB
