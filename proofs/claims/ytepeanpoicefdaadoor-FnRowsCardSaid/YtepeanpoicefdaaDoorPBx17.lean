/- Contracts of Go functions that laws of this seat reach: each Lean function answers as its Go function does. No condition. Written by wip/tools/inj.py, over the kit's print. -/
import Derived.Test.YtepeanpoicefdaaDoorPBx0
import Derived.Test.YtepeanpoicefdaaDoorPBx9
import Derived.Test.YtepeanpoicefdaaDoorPBx11
import Derived.Test.YtepeanpoicefdaaDoorPBx12
import Derived.Test.YtepeanpoicefdaaDoorPBx14
import Derived.Test.YtepeanpoicefdaaDoorPBx16
namespace Go.Proofs.YtepeanpoicefdaaDoor.PB
open Go.RowKit Go.Proofs.YtepeanpoicefdaaDoorW.PrintWords Go.Proofs.YtepeanpoicefdaaDoorW.PrintLast Go.Proofs.YtepeanpoicefdaaDoorW.PrintMore
attribute [local go_sem] max2_int min2_int max_two min_two max_three min_three max_four min_four   -- for this text's walks alone
set_option linter.unusedVariables false
set_option linter.unusedSimpArgs false

/-! ### impl_Cleared: function 14 -/
def impl_Cleared.j0 : Nat → List (S48) → Int → Int → Bool → Int → Int → Bool → Bool → Bool → Option ((List (S48)))
 | 0, _, _, _, _, _, _, _, _, _ => none
 | k + 1, x0, x1, x2, x24, x516000, x516001, x516002, x516003, x516004 => if x24 = true then (some ([] : List (S48))) else ((impl_Cell_44.f x0).bind fun t519 => ((impl_clearCells.f k t519 x1 x2 x516000 x516001 x516002 x516003 x516004).bind fun t522 => (some t522)))
def impl_Cleared.f (k : Nat) (l0 : List (S48)) (a1 : Int) (a2 : Int) (a3_0 : Int) (a3_1 : Int) (a3_2 : Bool) (a3_3 : Bool) (a3_4 : Bool) : Option ((List (S48))) := (impl_RowOk.f k l0).bind fun t516 => (if t516 = true then ((impl_StyleOk.f a3_0 a3_1 a3_2 a3_3 a3_4).bind fun t517 => (if t517 = true then ((impl_isSpan.f l0 a1 a2).bind fun t518 => (impl_Cleared.j0 k l0 a1 a2 (!t518) a3_0 a3_1 a3_2 a3_3 a3_4)) else (impl_Cleared.j0 k l0 a1 a2 true a3_0 a3_1 a3_2 a3_3 a3_4))) else (impl_Cleared.j0 k l0 a1 a2 true a3_0 a3_1 a3_2 a3_3 a3_4))
theorem impl_Cleared.mono_l : ∀ k, (∀ y0 y1 y2 y3 y4 y5 y6 y7 y8, LeO (impl_Cleared.j0 k y0 y1 y2 y3 y4 y5 y6 y7 y8) (impl_Cleared.j0 (k + 1) y0 y1 y2 y3 y4 y5 y6 y7 y8))
 | 0 => fun _ _ _ _ _ _ _ _ _ r h => by simp [impl_Cleared.j0] at h
 | k + 1 => by
  have ih0 := impl_Cleared.mono_l k
  ·intro y0 y1 y2 y3 y4 y5 y6 y7 y8
   unfold impl_Cleared.j0
   repeat' first
   | (with_reducible exact ih0 _ _ _ _ _ _ _ _ _)
   | (with_reducible exact impl_RowOk.mono _ _)
   | (with_reducible exact impl_clearCells.mono _ _ _ _ _ _ _ _ _)
   | (with_reducible exact LeO.refl _)
   | (with_reducible exact LeO.none _)
   | (with_reducible refine LeO.ite ?_ ?_)
   | (with_reducible refine LeO.bind ?_ (fun _ => ?_))
theorem impl_Cleared.mono : ∀ a0 a1 a2 a3 a4 a5 a6 a7 k, LeO (impl_Cleared.f k a0 a1 a2 a3 a4 a5 a6 a7) (impl_Cleared.f (k + 1) a0 a1 a2 a3 a4 a5 a6 a7) := by
 intro a0 a1 a2 a3 a4 a5 a6 a7 k
 have ih0 := impl_Cleared.mono_l k
 unfold impl_Cleared.f
 repeat' first
   | (with_reducible exact ih0 _ _ _ _ _ _ _ _ _)
   | (with_reducible exact impl_RowOk.mono _ _)
   | (with_reducible exact impl_clearCells.mono _ _ _ _ _ _ _ _ _)
   | (with_reducible exact LeO.refl _)
   | (with_reducible exact LeO.none _)
   | (with_reducible refine LeO.ite ?_ ?_)
   | (with_reducible refine LeO.bind ?_ (fun _ => ?_))
set_option maxHeartbeats 8000000 in
set_option maxRecDepth 100000 in
theorem impl_Cleared.calls (k : Nat) (A0 : Option Addr) (c0 : Nat) (l0 : List (S48)) (a1 : Int) (a2 : Int) (a3_0 : Int) (a3_1 : Int) (a3_2 : Bool) (a3_3 : Bool) (a3_4 : Bool) (r : List (S48)) (w : World) (hr0 : Kd.C k48 w A0 l0.length l0) (hc0 : l0.length ≤ c0) (h : impl_Cleared.f k l0 a1 a2 a3_0 a3_1 a3_2 a3_3 a3_4 = some r) :
  Calls Tryd.prog 14 #[.slice A0 l0.length c0, .int .i64 a1, .int .i64 a2, .agg #[.int .i64 a3_0, .int .i64 a3_1, .bool a3_2, .bool a3_3, .bool a3_4]] w fun e w' => ∃ v0_ : Value, e = .returned (v0_) ∧ Kd.R k48 48 w' w.heap.size (fun _ => True) v0_ r ∧ Below w.heap.size w w' := by
 have hu37 := Tryd.underlying37
 have HR0 := am hr0
 have HC0 := am hc0
 clear hr0 hc0
 have HB := am (Below.refl w.heap.size w)
 have H := h
 unfold impl_Cleared.f at H
 clear h
 have HC5 := am H
 clear H
 go_enter Tryd.func14, Tryd.ntmps14
 go_upto_region 1 with (first | ((with_reducible refine gate_dst (N := 7) rfl ?_); refine box_event ?hg (N := 7) ?hd (cs := #[.int .i64 a3_0, .int .i64 a3_1, .bool a3_2, .bool a3_3, .bool a3_4]) (t := 37) ?hr ?_; (case hd => rfl); (case hg => rfl); (case hr => first | (go_simp; done) | (go_simp; rfl)); intro gb515 hg w6 hbox hb; have n0_ := am (below_step (rb HB) hb); have n1_ := am (hbox); have n2_ := am ((by rw [hg]; exact (below_size (rb HB)) : w.heap.size ≤ gb515)); have n3_ := am ((by rw [hg]; exact (below_size (rb HB)) : w.heap.size ≤ gb515)); clear HB; have HB := n0_; have BK515 := n1_; have GW515 := n2_; have GE515 := n3_; clear n0_ n1_ n2_ n3_; clear hb hbox hg))
 (try simp only [Act.put, List.setIfInBounds_toArray, List.set_cons_zero, List.set_cons_succ])
 go_cut [24] (fun v24 wc => ∃ (kq : Nat) (x24_4 : Bool), v24 = .bool x24_4 ∧ Aside0 (impl_Cleared.j0 kq l0 a1 a2 x24_4 a3_0 a3_1 a3_2 a3_3 a3_4 = some r) ∧ Aside0 (kq ≤ k) ∧ Aside0 (wc.heap[gb515]? = some (.cells #[.int .i64 a3_0, .int .i64 a3_1, .bool a3_2, .bool a3_3, .bool a3_4] 37 (0, 0))) ∧ Aside0 (Below w.heap.size w wc))
 case first =>
  have H := HC5.out
  clear HC5
  replace H := Option.bind_eq_some_iff.mp H
  obtain ⟨t516, A70, H⟩ := H
  (try dsimp only at H)
  have A7 := am A70
  clear A70
  by_cases c8 : t516 = true
  ·subst c8
   rw [if_pos rfl] at H
   replace H := Option.bind_eq_some_iff.mp H
   obtain ⟨t517, A90, H⟩ := H
   (try dsimp only at H)
   have A9 := am A90
   clear A90
   refine em_ (p := t517 = true) (fun c10 => ?g0p) (fun c10 => ?g0n)
   case' g0p =>
    subst c10
    rw [if_pos rfl] at H
    replace H := Option.bind_eq_some_iff.mp H
    obtain ⟨t518, A110, H⟩ := H
    (try dsimp only at H)
    have A11 := am A110
    clear A110
    have H' := am H
    clear H
    have lf1_ := trivial
   case' g0n =>
    replace c10 := Bool.eq_false_iff.mpr c10
    subst c10
    rw [if_neg (show ¬ (false = true) by decide)] at H
    have H' := am H
    clear H
    have lf2_ := trivial
   all_goals
    go_wp2_with (first | ((with_reducible refine gate_callee (f := 21) rfl ?_); refine gl_ (some 11) Tryd.func21 #[.slice A0 l0.length c0] ?_; (with_reducible refine (impl_RowOk.calls k _ _ l0 true _ ?side1 ?side2 A7.out).mono ?_); (case side1 => exact rc ((Kd.C_below HR0.out HB.out))); (case side2 => exact HC0.out); rintro e w12 ⟨rfl, hb⟩; refine ⟨_, rfl, ?_⟩; have n0_ := am (blk_below (g := gb515) (o := .cells #[.int .i64 a3_0, .int .i64 a3_1, .bool a3_2, .bool a3_3, .bool a3_4] 37 (0, 0)) (rk BK515) hb); have n1_ := am (below_step (rb1 HB GE515) hb); clear BK515; clear HB; have BK515 := n0_; have HB := n1_; clear n0_ n1_; (try clear hb); (try clear hb2); (try clear hk); (try clear hi); have hcz13_0 : w12.cell? ⟨gb515, 0, none⟩ = some (.int .i64 a3_0) := (blk_cell BK515.out 0).trans rfl; have hcz13_1 : w12.cell? ⟨gb515, 1, none⟩ = some (.int .i64 a3_1) := (blk_cell BK515.out 1).trans rfl; have hcz13_2 : w12.cell? ⟨gb515, 2, none⟩ = some (.bool a3_2) := (blk_cell BK515.out 2).trans rfl; have hcz13_3 : w12.cell? ⟨gb515, 3, none⟩ = some (.bool a3_3) := (blk_cell BK515.out 3).trans rfl; have hcz13_4 : w12.cell? ⟨gb515, 4, none⟩ = some (.bool a3_4) := (blk_cell BK515.out 4).trans rfl; have hfz13_0 := blk_frozen BK515.out 0; have hfz13_1 := blk_frozen BK515.out 1; have hfz13_2 := blk_frozen BK515.out 2; have hfz13_3 := blk_frozen BK515.out 3; have hfz13_4 := blk_frozen BK515.out 4) | (go_at_call 42; (with_reducible refine (impl_StyleOk.calls a3_0 a3_1 a3_2 a3_3 a3_4 false _ A9.out).mono ?_); rintro e w17 ⟨rfl, hb⟩; have n0_ := am (blk_below (g := gb515) (o := .cells #[.int .i64 a3_0, .int .i64 a3_1, .bool a3_2, .bool a3_3, .bool a3_4] 37 (0, 0)) (rk BK515) hb); have n1_ := am (below_step (rb1 HB GE515) hb); clear BK515; clear HB; have BK515 := n0_; have HB := n1_; clear n0_ n1_; (try clear hb); (try clear hb2); (try clear hk); (try clear hi)) | (go_at_call 42; (with_reducible refine (impl_StyleOk.calls a3_0 a3_1 a3_2 a3_3 a3_4 true _ A9.out).mono ?_); rintro e w14 ⟨rfl, hb⟩; have n0_ := am (blk_below (g := gb515) (o := .cells #[.int .i64 a3_0, .int .i64 a3_1, .bool a3_2, .bool a3_3, .bool a3_4] 37 (0, 0)) (rk BK515) hb); have n1_ := am (below_step (rb1 HB GE515) hb); clear BK515; clear HB; have BK515 := n0_; have HB := n1_; clear n0_ n1_; (try clear hb); (try clear hb2); (try clear hk); (try clear hi)) | (go_at_call 47; (with_reducible refine (impl_isSpan.calls _ _ l0 a1 a2 t518 _ ?side1 ?side2 A11.out).mono ?_); (case side1 => exact rc ((Kd.C_below HR0.out HB.out))); (case side2 => exact HC0.out); rintro e w' ⟨rfl, ⟨nd, rfl⟩⟩))
    go_meet
    first
    | (
      first | have q_ := lf2_ | have q_ := lf3_
      case rel => exact ⟨_, (true), (by first | rfl | (simp; done) | (simp [*]; done)), H', ⟨by first | omega | exact Nat.le_refl _⟩, ⟨rk BK515⟩, ⟨by repeat (first | (with_reducible first | exact HB.out | apply b1 | apply b2 | apply b3 | refine below_set ?_ GE515.out) | exact HB.out)⟩⟩
      )
    | (
      have q_ := lf1_
      case rel => exact ⟨_, (!t518), (by first | rfl | (simp; done) | (simp [*]; done)), H', ⟨by first | omega | exact Nat.le_refl _⟩, ⟨rk BK515⟩, ⟨by repeat (first | (with_reducible first | exact HB.out | apply b1 | apply b2 | apply b3 | refine below_set ?_ GE515.out) | exact HB.out)⟩⟩
      )
  ·replace c8 := Bool.eq_false_iff.mpr c8
   subst c8
   rw [if_neg (show ¬ (false = true) by decide)] at H
   have H' := am H
   clear H
   go_wp2_with (first | ((with_reducible refine gate_callee (f := 21) rfl ?_); refine gl_ (some 11) Tryd.func21 #[.slice A0 l0.length c0] ?_; (with_reducible refine (impl_RowOk.calls k _ _ l0 false _ ?side1 ?side2 A7.out).mono ?_); (case side1 => exact rc ((Kd.C_below HR0.out HB.out))); (case side2 => exact HC0.out); rintro e w18 ⟨rfl, hb⟩; refine ⟨_, rfl, ?_⟩; have n0_ := am (blk_below (g := gb515) (o := .cells #[.int .i64 a3_0, .int .i64 a3_1, .bool a3_2, .bool a3_3, .bool a3_4] 37 (0, 0)) (rk BK515) hb); have n1_ := am (below_step (rb1 HB GE515) hb); clear BK515; clear HB; have BK515 := n0_; have HB := n1_; clear n0_ n1_; (try clear hb); (try clear hb2); (try clear hk); (try clear hi)))
   go_meet
   case rel => exact ⟨_, (true), (by first | rfl | (simp; done) | (simp [*]; done)), H', ⟨by first | omega | exact Nat.le_refl _⟩, ⟨rk BK515⟩, ⟨by repeat (first | (with_reducible first | exact HB.out | apply b1 | apply b2 | apply b3 | refine below_set ?_ GE515.out) | exact HB.out)⟩⟩
 case rest =>
  clear HC5
  try clear c1
  try clear c2
  try clear p2
  try clear c8
  try clear c10
  try clear c14
  try clear hcz13_0
  try clear hcz13_1
  try clear hcz13_2
  try clear hcz13_3
  try clear hcz13_4
  try clear hcz16_0
  try clear hcz16_1
  try clear hcz16_2
  try clear hcz16_3
  try clear hcz16_4
  try clear hfz13_0
  try clear hfz13_1
  try clear hfz13_2
  try clear hfz13_3
  try clear hfz13_4
  try clear hfz16_0
  try clear hfz16_1
  try clear hfz16_2
  try clear hfz16_3
  try clear hfz16_4
  obtain ⟨kq, x24_4, rfl, HA, HJ4, BK515, HB⟩ := hcut
  cases kq with
  | zero => exact absurd HA.out (by simp [impl_Cleared.j0])
  | succ kj4 =>
   have H := HA.out
   clear HA
   simp only [impl_Cleared.j0] at H
   by_cases c19 : x24_4 = true
   ·subst c19
    have H1 : (some ([] : List (S48))) = some r := by rw [if_pos rfl] at H; exact H
    clear H
    have H := H1
    clear H1
    obtain rfl := Option.some.inj H
    go_wp2
    go_ret
    exact ⟨_, by first | rfl | (simp [errW_none, errW_some] <;> rfl) | (simp [*, errW_none, errW_some] <;> rfl), by first | exact Kd.R_nil _ _ _ _ _ | exact Kd.N_nil _ _ _ _ _ | exact Kd.V_nil _ _ _ _ _ | exact Kd.Q_nil _ _ _ _ _ | exact Kd.S_nil _ _ _ _ _, by repeat (first | (with_reducible first | exact HB.out | apply b1 | apply b2 | apply b3 | refine below_set ?_ GE515.out) | exact HB.out)⟩
   ·replace c19 := Bool.eq_false_iff.mpr c19
    subst c19
    rw [if_neg (show ¬ (false = true) by decide)] at H
    replace H := Option.bind_eq_some_iff.mp H
    obtain ⟨t519, A200, H⟩ := H
    (try dsimp only at H)
    have A20 := am A200
    clear A200
    replace H := Option.bind_eq_some_iff.mp H
    obtain ⟨t522, A210, H⟩ := H
    replace H : (some t522) = some r := H
    have A21 := am A210
    clear A210
    obtain rfl := Option.some.inj H
    go_wp2_with (first | ((with_reducible refine gate_callee (f := 44) rfl ?_); refine gl_ (some 26) Tryd.func44 #[.slice A0 l0.length c0] ?_; (with_reducible refine (impl_Cell_44.calls _ _ l0 t519 _ ?side1 ?side2 A20.out).mono ?_); (case side1 => exact rc ((Kd.C_below HR0.out HB.out))); (case side2 => exact HC0.out); rintro e w22 ⟨v520, rfl, ho0, hb⟩; refine ⟨_, rfl, ?_⟩; have n0_ := am (Kd.R_lower ho0 (below_size (rb1 HB GE515))); have n1_ := am (blk_below (g := gb515) (o := .cells #[.int .i64 a3_0, .int .i64 a3_1, .bool a3_2, .bool a3_3, .bool a3_4] 37 (0, 0)) (rk BK515) hb); have n2_ := am (below_step (rb1 HB GE515) hb); clear BK515; clear HB; have HO521 := n0_; have BK515 := n1_; have HB := n2_; clear n0_ n1_ n2_; (try clear hb); (try clear hb2); (try clear hk); (try clear hi); (try clear ho0); have hcz23_0 : w22.cell? ⟨gb515, 0, none⟩ = some (.int .i64 a3_0) := (blk_cell BK515.out 0).trans rfl; have hcz23_1 : w22.cell? ⟨gb515, 1, none⟩ = some (.int .i64 a3_1) := (blk_cell BK515.out 1).trans rfl; have hcz23_2 : w22.cell? ⟨gb515, 2, none⟩ = some (.bool a3_2) := (blk_cell BK515.out 2).trans rfl; have hcz23_3 : w22.cell? ⟨gb515, 3, none⟩ = some (.bool a3_3) := (blk_cell BK515.out 3).trans rfl; have hcz23_4 : w22.cell? ⟨gb515, 4, none⟩ = some (.bool a3_4) := (blk_cell BK515.out 4).trans rfl; have hfz23_0 := blk_frozen BK515.out 0; have hfz23_1 := blk_frozen BK515.out 1; have hfz23_2 := blk_frozen BK515.out 2; have hfz23_3 := blk_frozen BK515.out 3; have hfz23_4 := blk_frozen BK515.out 4; obtain ⟨Ao24, co24, eo24⟩ := Kd.R_slice HO521.out; subst eo24) | ((with_reducible refine gate_callee (f := 48) rfl ?_); refine gl_ (some 31) Tryd.func48 #[.slice Ao24 t519.length co24, .int .i64 a1, .int .i64 a2, .agg #[.int .i64 a3_0, .int .i64 a3_1, .bool a3_2, .bool a3_3, .bool a3_4]] ?_; (with_reducible refine (impl_clearCells.calls kj4 (fun k_ => some k_ = (.slice Ao24 t519.length co24 : Value).ownBlock) (.slice Ao24 t519.length co24) t519 a1 a2 a3_0 a3_1 a3_2 a3_3 a3_4 t522 w _ ?side1 ?side2 A21.out).mono ?_); (case side1 => repeat (first | (with_reducible first | exact HB.out | apply b1 | apply b2 | apply b3 | refine below_set ?_ GE515.out) | exact HB.out)); (case side2 => exact Kd.R_tight rfl HO521.out); rintro e w25 ⟨rfl, hy0, hb, hkp⟩; refine ⟨_, rfl, ?_⟩; have n0_ := am (blk_kept (rk BK515) hkp (fun hs_ => (fun e_ => (Kd.R_ne HO521.out BK515.out (by decide)) e_) hs_)); have n1_ := am (Kd.R_reok rfl hy0 (fun k_ e_ => HO521.out.1 k_ e_)); have n2_ := am (hb); clear BK515; clear HO521; clear HB; have BK515 := n0_; have HO521 := n1_; have HB := n2_; clear n0_ n1_ n2_; (try clear hb); (try clear hkp); (try clear hy0)))
    go_ret
    exact ⟨_, by first | rfl | (simp [errW_none, errW_some] <;> rfl) | (simp [*, errW_none, errW_some] <;> rfl), by (with_reducible repeat (first | apply r1 | apply r2 | apply r3)); exact HO521.out, by repeat (first | (with_reducible first | exact HB.out | apply b1 | apply b2 | apply b3 | refine below_set ?_ GE515.out) | exact HB.out)⟩

end Go.Proofs.YtepeanpoicefdaaDoor.PB
