/- Contracts of Go functions that laws of this seat reach: each Lean function answers as its Go function does. No condition. Written by wip/tools/inj.py, over the kit's print. -/
import Derived.Test.YtkljnfinjacejaaPAx0
import Derived.Test.YtkljnfinjacejaaPAx6
import Derived.Test.YtkljnfinjacejaaPAx7
import Derived.Test.YtkljnfinjacejaaPAx8
import Derived.Test.YtkljnfinjacejaaPAx15
import Derived.Test.YtkljnfinjacejaaPAx22
namespace Go.Proofs.Ytkljnfinjacejaa.PA
open Go.RowKit Go.Proofs.YtkljnfinjacejaaW.PrintWords Go.Proofs.YtkljnfinjacejaaW.PrintLast Go.Proofs.YtkljnfinjacejaaW.PrintMore
attribute [local go_sem] max2_int min2_int max_two min_two max_three min_three max_four min_four   -- for this text's walks alone
set_option linter.unusedVariables false
set_option linter.unusedSimpArgs false

/-! ### impl_Written: function 34 -/
def impl_Written.j0 : Nat → List (S79) → Int → Int → Bool → Int → Int → Bool → Bool → Bool → Option ((List (S79)))
 | 0, _, _, _, _, _, _, _, _, _ => none
 | k + 1, x0, x1, x2, x33, x472000, x472001, x472002, x472003, x472004 => if x33 = true then (some ([] : List (S79))) else ((impl_Cell_66.f x0).bind fun t476 => ((impl_write.f k t476 x1 x2 x472000 x472001 x472002 x472003 x472004).bind fun t479 => (some t479)))
def impl_Written.f (k : Nat) (l0 : List (S79)) (a1 : Int) (a2 : Int) (a3_0 : Int) (a3_1 : Int) (a3_2 : Bool) (a3_3 : Bool) (a3_4 : Bool) : Option ((List (S79))) := (impl_Width.f k a2).bind fun t472 => ((impl_RowOk.f k l0).bind fun t473 => (if t473 = true then (if t472 = 0 then (impl_Written.j0 k l0 a1 a2 true a3_0 a3_1 a3_2 a3_3 a3_4) else ((impl_StyleOk.f a3_0 a3_1 a3_2 a3_3 a3_4).bind fun t474 => (if t474 = true then ((impl_in.f a1 0 (wrap64 ((l0.length : Int) - t472))).bind fun t475 => (impl_Written.j0 k l0 a1 a2 (!t475) a3_0 a3_1 a3_2 a3_3 a3_4)) else (impl_Written.j0 k l0 a1 a2 true a3_0 a3_1 a3_2 a3_3 a3_4)))) else (impl_Written.j0 k l0 a1 a2 true a3_0 a3_1 a3_2 a3_3 a3_4)))
theorem impl_Written.mono_l : ∀ k, (∀ y0 y1 y2 y3 y4 y5 y6 y7 y8, LeO (impl_Written.j0 k y0 y1 y2 y3 y4 y5 y6 y7 y8) (impl_Written.j0 (k + 1) y0 y1 y2 y3 y4 y5 y6 y7 y8))
 | 0 => fun _ _ _ _ _ _ _ _ _ r h => by simp [impl_Written.j0] at h
 | k + 1 => by
  have ih0 := impl_Written.mono_l k
  ·intro y0 y1 y2 y3 y4 y5 y6 y7 y8
   unfold impl_Written.j0
   repeat' first
   | (with_reducible exact ih0 _ _ _ _ _ _ _ _ _)
   | (with_reducible exact impl_RowOk.mono _ _)
   | (with_reducible exact impl_Width.mono _ _)
   | (with_reducible exact impl_write.mono _ _ _ _ _ _ _ _ _)
   | (with_reducible exact LeO.refl _)
   | (with_reducible exact LeO.none _)
   | (with_reducible refine LeO.ite ?_ ?_)
   | (with_reducible refine LeO.bind ?_ (fun _ => ?_))
   | exact ih0 _ _ _ _ _ _ _ _ _
   | exact impl_RowOk.mono _ _
   | exact impl_Width.mono _ _
   | exact impl_write.mono _ _ _ _ _ _ _ _ _
   | exact LeO.none _
   | refine LeO.ite ?_ ?_
   | refine LeO.bind ?_ (fun _ => ?_)
theorem impl_Written.mono : ∀ a0 a1 a2 a3 a4 a5 a6 a7 k, LeO (impl_Written.f k a0 a1 a2 a3 a4 a5 a6 a7) (impl_Written.f (k + 1) a0 a1 a2 a3 a4 a5 a6 a7) := by
 intro a0 a1 a2 a3 a4 a5 a6 a7 k
 have ih0 := impl_Written.mono_l k
 unfold impl_Written.f
 repeat' first
   | (with_reducible exact ih0 _ _ _ _ _ _ _ _ _)
   | (with_reducible exact impl_RowOk.mono _ _)
   | (with_reducible exact impl_Width.mono _ _)
   | (with_reducible exact impl_write.mono _ _ _ _ _ _ _ _ _)
   | (with_reducible exact LeO.refl _)
   | (with_reducible exact LeO.none _)
   | (with_reducible refine LeO.ite ?_ ?_)
   | (with_reducible refine LeO.bind ?_ (fun _ => ?_))
   | exact ih0 _ _ _ _ _ _ _ _ _
   | exact impl_RowOk.mono _ _
   | exact impl_Width.mono _ _
   | exact impl_write.mono _ _ _ _ _ _ _ _ _
   | exact LeO.none _
   | refine LeO.ite ?_ ?_
   | refine LeO.bind ?_ (fun _ => ?_)
set_option maxHeartbeats 8000000 in
set_option maxRecDepth 100000 in
theorem impl_Written.calls (k : Nat) (A0 : Option Addr) (c0 : Nat) (l0 : List (S79)) (a1 : Int) (a2 : Int) (a3_0 : Int) (a3_1 : Int) (a3_2 : Bool) (a3_3 : Bool) (a3_4 : Bool) (r : List (S79)) (w : World) (hr0 : Kd.C k79 w A0 l0.length l0) (hc0 : l0.length ≤ c0) (h : impl_Written.f k l0 a1 a2 a3_0 a3_1 a3_2 a3_3 a3_4 = some r) :
  Calls Try.prog 34 #[.slice A0 l0.length c0, .int .i64 a1, .int .i64 a2, .agg #[.int .i64 a3_0, .int .i64 a3_1, .bool a3_2, .bool a3_3, .bool a3_4]] w fun e w' => ∃ v0_ : Value, e = .returned (v0_) ∧ Kd.R k79 79 w' w.heap.size (fun _ => True) v0_ r ∧ Below w.heap.size w w' := by
 have hu55 := Try.underlying55
 have HR0 := am hr0
 have HC0 := am hc0
 clear hr0 hc0
 have HB := am (Below.refl w.heap.size w)
 have H : ((impl_Width.f k a2).bind fun t472 => ((impl_RowOk.f k l0).bind fun t473 => (if t473 = true then (if t472 = 0 then (impl_Written.j0 k l0 a1 a2 true a3_0 a3_1 a3_2 a3_3 a3_4) else ((impl_StyleOk.f a3_0 a3_1 a3_2 a3_3 a3_4).bind fun t474 => (if t474 = true then ((impl_in.f a1 0 (wrap64 ((l0.length : Int) - t472))).bind fun t475 => (impl_Written.j0 k l0 a1 a2 (!t475) a3_0 a3_1 a3_2 a3_3 a3_4)) else (impl_Written.j0 k l0 a1 a2 true a3_0 a3_1 a3_2 a3_3 a3_4)))) else (impl_Written.j0 k l0 a1 a2 true a3_0 a3_1 a3_2 a3_3 a3_4)))) = some r := h
 clear h
 replace H := Option.bind_eq_some_iff.mp H
 obtain ⟨t472, A50, H⟩ := H
 replace H : ((impl_RowOk.f k l0).bind fun t473 => (if t473 = true then (if t472 = 0 then (impl_Written.j0 k l0 a1 a2 true a3_0 a3_1 a3_2 a3_3 a3_4) else ((impl_StyleOk.f a3_0 a3_1 a3_2 a3_3 a3_4).bind fun t474 => (if t474 = true then ((impl_in.f a1 0 (wrap64 ((l0.length : Int) - t472))).bind fun t475 => (impl_Written.j0 k l0 a1 a2 (!t475) a3_0 a3_1 a3_2 a3_3 a3_4)) else (impl_Written.j0 k l0 a1 a2 true a3_0 a3_1 a3_2 a3_3 a3_4)))) else (impl_Written.j0 k l0 a1 a2 true a3_0 a3_1 a3_2 a3_3 a3_4))) = some r := H
 have A5 := am A50
 clear A50
 have HC6 := am H
 clear H
 go_enter Try.func34, Try.ntmps34
 go_upto_region 2 with (first | ((with_reducible refine gate_dst (N := 7) rfl ?_); (try (refine gate_guard (by rfl) ?_; dsimp only)); refine box_event ?hg (N := 7) ?hd (cs := #[.int .i64 a3_0, .int .i64 a3_1, .bool a3_2, .bool a3_3, .bool a3_4]) (t := 55) ?hr ?_; (case hd => rfl); (case hg => rfl); (case hr => first | (go_simp; done) | (go_simp; rfl)); intro gb471 hg w7 hbox hb; have n0_ := am (below_step (rb HB) hb); have n1_ := am (hbox); have n2_ := am ((by rw [hg]; exact (below_size (rb HB)) : w.heap.size ≤ gb471)); have n3_ := am ((by rw [hg]; exact (below_size (rb HB)) : w.heap.size ≤ gb471)); clear HB; have HB := n0_; have BK471 := n1_; have GW471 := n2_; have GE471 := n3_; clear n0_ n1_ n2_ n3_; clear hb hbox hg) | ((with_reducible refine gate_callee (f := 71) rfl ?_); refine gl_ (some 12) Try.func71 #[.int .i64 a2] ?_; (with_reducible refine (impl_Width.calls k a2 t472 _ A5.out).mono ?_); rintro e w' ⟨rfl, ⟨nd, rfl⟩⟩; refine ⟨_, rfl, ?_⟩))
 (try simp only [Act.put, List.setIfInBounds_toArray, List.set_cons_zero, List.set_cons_succ])
 go_cut [33] (fun v33 wc => ∃ (kq : Nat) (x33_5 : Bool), v33 = .bool x33_5 ∧ Aside0 (impl_Written.j0 kq l0 a1 a2 x33_5 a3_0 a3_1 a3_2 a3_3 a3_4 = some r) ∧ Aside0 (kq ≤ k) ∧ Aside0 (wc.heap[gb471]? = some (.cells #[.int .i64 a3_0, .int .i64 a3_1, .bool a3_2, .bool a3_3, .bool a3_4] 55 (0, 0))) ∧ Aside0 (Below w.heap.size w wc))
 case first =>
  have H := HC6.out
  clear HC6
  replace H := Option.bind_eq_some_iff.mp H
  obtain ⟨t473, A80, H⟩ := H
  replace H : (if t473 = true then (if t472 = 0 then (impl_Written.j0 k l0 a1 a2 true a3_0 a3_1 a3_2 a3_3 a3_4) else ((impl_StyleOk.f a3_0 a3_1 a3_2 a3_3 a3_4).bind fun t474 => (if t474 = true then ((impl_in.f a1 0 (wrap64 ((l0.length : Int) - t472))).bind fun t475 => (impl_Written.j0 k l0 a1 a2 (!t475) a3_0 a3_1 a3_2 a3_3 a3_4)) else (impl_Written.j0 k l0 a1 a2 true a3_0 a3_1 a3_2 a3_3 a3_4)))) else (impl_Written.j0 k l0 a1 a2 true a3_0 a3_1 a3_2 a3_3 a3_4)) = some r := H
  have A8 := am A80
  clear A80
  by_cases c9 : t473 = true
  ·subst c9
   have H1 : (if t472 = 0 then (impl_Written.j0 k l0 a1 a2 true a3_0 a3_1 a3_2 a3_3 a3_4) else ((impl_StyleOk.f a3_0 a3_1 a3_2 a3_3 a3_4).bind fun t474 => (if t474 = true then ((impl_in.f a1 0 (wrap64 ((l0.length : Int) - t472))).bind fun t475 => (impl_Written.j0 k l0 a1 a2 (!t475) a3_0 a3_1 a3_2 a3_3 a3_4)) else (impl_Written.j0 k l0 a1 a2 true a3_0 a3_1 a3_2 a3_3 a3_4)))) = some r := by rw [if_pos rfl] at H; exact H
   clear H
   have H := H1
   clear H1
   by_cases c10 : t472 = 0
   ·rw [if_pos c10] at H
    have c10b0 : (t472 == 0) = true := beq_iff_eq.mpr c10
    have c10b1 : (t472 != 0) = false := bne_eq_false_iff_eq.mpr c10
    clear c10
    (first | rw [c10b0] | (simp only [i64_w, i32_w]; rw [c10b0]) | skip)
    have H' := am H
    clear H
    go_wp2_with (first | ((with_reducible refine gate_callee (f := 55) rfl ?_); refine gl_ (some 14) Try.func55 #[.slice A0 l0.length c0] ?_; (with_reducible refine (impl_RowOk.calls k _ _ l0 true _ ?side1 ?side2 A8.out).mono ?_); (case side1 => exact rc ((Kd.C_below HR0.out HB.out))); (case side2 => exact HC0.out); rintro e w11 ⟨rfl, hb⟩; refine ⟨_, rfl, ?_⟩; have n0_ := am (blk_below (g := gb471) (o := .cells #[.int .i64 a3_0, .int .i64 a3_1, .bool a3_2, .bool a3_3, .bool a3_4] 55 (0, 0)) (rk BK471) hb); have n1_ := am (below_step (rb1 HB GE471) hb); clear BK471; clear HB; have BK471 := n0_; have HB := n1_; clear n0_ n1_; (try clear hb); (try clear hb2); (try clear hk); (try clear hi)))
    go_meet
    case rel => exact ⟨_, (true), (by first | rfl | (simp; done) | (simp [*]; done)), H', ⟨by first | omega | exact Nat.le_refl _⟩, ⟨rk BK471⟩, ⟨by repeat (first | (with_reducible first | exact HB.out | apply b1 | apply b2 | apply b3 | refine below_set ?_ GE471.out) | exact HB.out)⟩⟩
   ·rw [if_neg c10] at H
    have c10b0 : (t472 == 0) = false := beq_eq_false_iff_ne.mpr c10
    have c10b1 : (t472 != 0) = true := bne_iff_ne.mpr c10
    (first | rw [c10b0] | (simp only [i64_w, i32_w]; rw [c10b0]) | skip)
    replace H := Option.bind_eq_some_iff.mp H
    obtain ⟨t474, A120, H⟩ := H
    replace H : (if t474 = true then ((impl_in.f a1 0 (wrap64 ((l0.length : Int) - t472))).bind fun t475 => (impl_Written.j0 k l0 a1 a2 (!t475) a3_0 a3_1 a3_2 a3_3 a3_4)) else (impl_Written.j0 k l0 a1 a2 true a3_0 a3_1 a3_2 a3_3 a3_4)) = some r := H
    have A12 := am A120
    clear A120
    by_cases c13 : t474 = true
    ·subst c13
     have H1 : ((impl_in.f a1 0 (wrap64 ((l0.length : Int) - t472))).bind fun t475 => (impl_Written.j0 k l0 a1 a2 (!t475) a3_0 a3_1 a3_2 a3_3 a3_4)) = some r := by rw [if_pos rfl] at H; exact H
     clear H
     have H := H1
     clear H1
     replace H := Option.bind_eq_some_iff.mp H
     obtain ⟨t475, A140, H⟩ := H
     replace H : (impl_Written.j0 k l0 a1 a2 (!t475) a3_0 a3_1 a3_2 a3_3 a3_4) = some r := H
     have A14 := am A140
     clear A140
     have H' := am H
     clear H
     go_wp2_with (first | ((with_reducible refine gate_callee (f := 55) rfl ?_); refine gl_ (some 14) Try.func55 #[.slice A0 l0.length c0] ?_; (with_reducible refine (impl_RowOk.calls k _ _ l0 true _ ?side1 ?side2 A8.out).mono ?_); (case side1 => exact rc ((Kd.C_below HR0.out HB.out))); (case side2 => exact HC0.out); rintro e w15 ⟨rfl, hb⟩; refine ⟨_, rfl, ?_⟩; have n0_ := am (blk_below (g := gb471) (o := .cells #[.int .i64 a3_0, .int .i64 a3_1, .bool a3_2, .bool a3_3, .bool a3_4] 55 (0, 0)) (rk BK471) hb); have n1_ := am (below_step (rb1 HB GE471) hb); clear BK471; clear HB; have BK471 := n0_; have HB := n1_; clear n0_ n1_; (try clear hb); (try clear hb2); (try clear hk); (try clear hi); have hcz16_0 : w15.cell? ⟨gb471, 0, none⟩ = some (.int .i64 a3_0) := (blk_cell BK471.out 0).trans rfl; have hcz16_1 : w15.cell? ⟨gb471, 1, none⟩ = some (.int .i64 a3_1) := (blk_cell BK471.out 1).trans rfl; have hcz16_2 : w15.cell? ⟨gb471, 2, none⟩ = some (.bool a3_2) := (blk_cell BK471.out 2).trans rfl; have hcz16_3 : w15.cell? ⟨gb471, 3, none⟩ = some (.bool a3_3) := (blk_cell BK471.out 3).trans rfl; have hcz16_4 : w15.cell? ⟨gb471, 4, none⟩ = some (.bool a3_4) := (blk_cell BK471.out 4).trans rfl; have hfz16_0 := blk_frozen BK471.out 0; have hfz16_1 := blk_frozen BK471.out 1; have hfz16_2 := blk_frozen BK471.out 2; have hfz16_3 := blk_frozen BK471.out 3; have hfz16_4 := blk_frozen BK471.out 4) | (go_at_call 64; (with_reducible refine (impl_StyleOk.calls a3_0 a3_1 a3_2 a3_3 a3_4 true _ A12.out).mono ?_); rintro e w17 ⟨rfl, hb⟩; have n0_ := am (blk_below (g := gb471) (o := .cells #[.int .i64 a3_0, .int .i64 a3_1, .bool a3_2, .bool a3_3, .bool a3_4] 55 (0, 0)) (rk BK471) hb); have n1_ := am (below_step (rb1 HB GE471) hb); clear BK471; clear HB; have BK471 := n0_; have HB := n1_; clear n0_ n1_; (try clear hb); (try clear hb2); (try clear hk); (try clear hi)) | (go_at_call 52; (with_reducible refine (impl_in.calls a1 0 (wrap64 ((l0.length : Int) - t472)) t475 _ A14.out).mono ?_); rintro e w' ⟨rfl, ⟨nd, rfl⟩⟩))
     go_meet
     case rel => exact ⟨_, (!t475), (by first | rfl | (simp; done) | (simp [*]; done)), H', ⟨by first | omega | exact Nat.le_refl _⟩, ⟨rk BK471⟩, ⟨by repeat (first | (with_reducible first | exact HB.out | apply b1 | apply b2 | apply b3 | refine below_set ?_ GE471.out) | exact HB.out)⟩⟩
    ·replace c13 := Bool.eq_false_iff.mpr c13
     subst c13
     have H1 : (impl_Written.j0 k l0 a1 a2 true a3_0 a3_1 a3_2 a3_3 a3_4) = some r := by rw [if_neg (show ¬ (false = true) by decide)] at H; exact H
     clear H
     have H := H1
     clear H1
     have H' := am H
     clear H
     go_wp2_with (first | ((with_reducible refine gate_callee (f := 55) rfl ?_); refine gl_ (some 14) Try.func55 #[.slice A0 l0.length c0] ?_; (with_reducible refine (impl_RowOk.calls k _ _ l0 true _ ?side1 ?side2 A8.out).mono ?_); (case side1 => exact rc ((Kd.C_below HR0.out HB.out))); (case side2 => exact HC0.out); rintro e w18 ⟨rfl, hb⟩; refine ⟨_, rfl, ?_⟩; have n0_ := am (blk_below (g := gb471) (o := .cells #[.int .i64 a3_0, .int .i64 a3_1, .bool a3_2, .bool a3_3, .bool a3_4] 55 (0, 0)) (rk BK471) hb); have n1_ := am (below_step (rb1 HB GE471) hb); clear BK471; clear HB; have BK471 := n0_; have HB := n1_; clear n0_ n1_; (try clear hb); (try clear hb2); (try clear hk); (try clear hi); have hcz19_0 : w18.cell? ⟨gb471, 0, none⟩ = some (.int .i64 a3_0) := (blk_cell BK471.out 0).trans rfl; have hcz19_1 : w18.cell? ⟨gb471, 1, none⟩ = some (.int .i64 a3_1) := (blk_cell BK471.out 1).trans rfl; have hcz19_2 : w18.cell? ⟨gb471, 2, none⟩ = some (.bool a3_2) := (blk_cell BK471.out 2).trans rfl; have hcz19_3 : w18.cell? ⟨gb471, 3, none⟩ = some (.bool a3_3) := (blk_cell BK471.out 3).trans rfl; have hcz19_4 : w18.cell? ⟨gb471, 4, none⟩ = some (.bool a3_4) := (blk_cell BK471.out 4).trans rfl; have hfz19_0 := blk_frozen BK471.out 0; have hfz19_1 := blk_frozen BK471.out 1; have hfz19_2 := blk_frozen BK471.out 2; have hfz19_3 := blk_frozen BK471.out 3; have hfz19_4 := blk_frozen BK471.out 4) | (go_at_call 64; (with_reducible refine (impl_StyleOk.calls a3_0 a3_1 a3_2 a3_3 a3_4 false _ A12.out).mono ?_); rintro e w20 ⟨rfl, hb⟩; have n0_ := am (blk_below (g := gb471) (o := .cells #[.int .i64 a3_0, .int .i64 a3_1, .bool a3_2, .bool a3_3, .bool a3_4] 55 (0, 0)) (rk BK471) hb); have n1_ := am (below_step (rb1 HB GE471) hb); clear BK471; clear HB; have BK471 := n0_; have HB := n1_; clear n0_ n1_; (try clear hb); (try clear hb2); (try clear hk); (try clear hi)))
     go_meet
     case rel => exact ⟨_, (true), (by first | rfl | (simp; done) | (simp [*]; done)), H', ⟨by first | omega | exact Nat.le_refl _⟩, ⟨rk BK471⟩, ⟨by repeat (first | (with_reducible first | exact HB.out | apply b1 | apply b2 | apply b3 | refine below_set ?_ GE471.out) | exact HB.out)⟩⟩
  ·replace c9 := Bool.eq_false_iff.mpr c9
   subst c9
   have H1 : (impl_Written.j0 k l0 a1 a2 true a3_0 a3_1 a3_2 a3_3 a3_4) = some r := by rw [if_neg (show ¬ (false = true) by decide)] at H; exact H
   clear H
   have H := H1
   clear H1
   have H' := am H
   clear H
   go_wp2_with (first | ((with_reducible refine gate_callee (f := 55) rfl ?_); refine gl_ (some 14) Try.func55 #[.slice A0 l0.length c0] ?_; (with_reducible refine (impl_RowOk.calls k _ _ l0 false _ ?side1 ?side2 A8.out).mono ?_); (case side1 => exact rc ((Kd.C_below HR0.out HB.out))); (case side2 => exact HC0.out); rintro e w21 ⟨rfl, hb⟩; refine ⟨_, rfl, ?_⟩; have n0_ := am (blk_below (g := gb471) (o := .cells #[.int .i64 a3_0, .int .i64 a3_1, .bool a3_2, .bool a3_3, .bool a3_4] 55 (0, 0)) (rk BK471) hb); have n1_ := am (below_step (rb1 HB GE471) hb); clear BK471; clear HB; have BK471 := n0_; have HB := n1_; clear n0_ n1_; (try clear hb); (try clear hb2); (try clear hk); (try clear hi)))
   go_meet
   case rel => exact ⟨_, (true), (by first | rfl | (simp; done) | (simp [*]; done)), H', ⟨by first | omega | exact Nat.le_refl _⟩, ⟨rk BK471⟩, ⟨by repeat (first | (with_reducible first | exact HB.out | apply b1 | apply b2 | apply b3 | refine below_set ?_ GE471.out) | exact HB.out)⟩⟩
 case rest =>
  clear HC6
  try clear c1
  try clear p2
  try clear c3
  try clear c5
  try clear p6
  try clear c7
  try clear c9
  try clear c10
  try clear c10b0
  try clear c10b1
  try clear c13
  try clear hcz16_0
  try clear hcz16_1
  try clear hcz16_2
  try clear hcz16_3
  try clear hcz16_4
  try clear hcz19_0
  try clear hcz19_1
  try clear hcz19_2
  try clear hcz19_3
  try clear hcz19_4
  try clear hfz16_0
  try clear hfz16_1
  try clear hfz16_2
  try clear hfz16_3
  try clear hfz16_4
  try clear hfz19_0
  try clear hfz19_1
  try clear hfz19_2
  try clear hfz19_3
  try clear hfz19_4
  obtain ⟨kq, x33_5, rfl, HA, HJ5, BK471, HB⟩ := hcut
  cases kq with
  | zero => exact absurd HA.out (by simp [impl_Written.j0])
  | succ kj5 =>
   have H := HA.out
   clear HA
   simp only [impl_Written.j0] at H
   by_cases c22 : x33_5 = true
   ·subst c22
    have H1 : (some ([] : List (S79))) = some r := by rw [if_pos rfl] at H; exact H
    clear H
    have H := H1
    clear H1
    obtain rfl := Option.some.inj H
    go_wp2
    go_ret
    exact ⟨_, by first | rfl | (simp [errW_none, errW_some] <;> rfl) | (simp [*, errW_none, errW_some] <;> rfl), by first | exact Kd.R_nil _ _ _ _ _ | exact Kd.N_nil _ _ _ _ _ | exact Kd.V_nil _ _ _ _ _ | exact Kd.Q_nil _ _ _ _ _ | exact Kd.S_nil _ _ _ _ _, by repeat (first | (with_reducible first | exact HB.out | apply b1 | apply b2 | apply b3 | refine below_set ?_ GE471.out) | exact HB.out)⟩
   ·replace c22 := Bool.eq_false_iff.mpr c22
    subst c22
    have H1 : ((impl_Cell_66.f l0).bind fun t476 => ((impl_write.f kj5 t476 a1 a2 a3_0 a3_1 a3_2 a3_3 a3_4).bind fun t479 => (some t479))) = some r := by rw [if_neg (show ¬ (false = true) by decide)] at H; exact H
    clear H
    have H := H1
    clear H1
    replace H := Option.bind_eq_some_iff.mp H
    obtain ⟨t476, A230, H⟩ := H
    replace H : ((impl_write.f kj5 t476 a1 a2 a3_0 a3_1 a3_2 a3_3 a3_4).bind fun t479 => (some t479)) = some r := H
    have A23 := am A230
    clear A230
    replace H := Option.bind_eq_some_iff.mp H
    obtain ⟨t479, A240, H⟩ := H
    replace H : (some t479) = some r := H
    have A24 := am A240
    clear A240
    obtain rfl := Option.some.inj H
    go_wp2_with (first | ((with_reducible refine gate_callee (f := 66) rfl ?_); refine gl_ (some 35) Try.func66 #[.slice A0 l0.length c0] ?_; (with_reducible refine (impl_Cell_66.calls _ _ l0 t476 _ ?side1 ?side2 A23.out).mono ?_); (case side1 => exact rc ((Kd.C_below HR0.out HB.out))); (case side2 => exact HC0.out); rintro e w25 ⟨v477, rfl, ho0, hb⟩; refine ⟨_, rfl, ?_⟩; have n0_ := am (Kd.R_lower ho0 (below_size (rb1 HB GE471))); have n1_ := am (blk_below (g := gb471) (o := .cells #[.int .i64 a3_0, .int .i64 a3_1, .bool a3_2, .bool a3_3, .bool a3_4] 55 (0, 0)) (rk BK471) hb); have n2_ := am (below_step (rb1 HB GE471) hb); clear BK471; clear HB; have HO478 := n0_; have BK471 := n1_; have HB := n2_; clear n0_ n1_ n2_; (try clear hb); (try clear hb2); (try clear hk); (try clear hi); (try clear ho0); have hcz26_0 : w25.cell? ⟨gb471, 0, none⟩ = some (.int .i64 a3_0) := (blk_cell BK471.out 0).trans rfl; have hcz26_1 : w25.cell? ⟨gb471, 1, none⟩ = some (.int .i64 a3_1) := (blk_cell BK471.out 1).trans rfl; have hcz26_2 : w25.cell? ⟨gb471, 2, none⟩ = some (.bool a3_2) := (blk_cell BK471.out 2).trans rfl; have hcz26_3 : w25.cell? ⟨gb471, 3, none⟩ = some (.bool a3_3) := (blk_cell BK471.out 3).trans rfl; have hcz26_4 : w25.cell? ⟨gb471, 4, none⟩ = some (.bool a3_4) := (blk_cell BK471.out 4).trans rfl; have hfz26_0 := blk_frozen BK471.out 0; have hfz26_1 := blk_frozen BK471.out 1; have hfz26_2 := blk_frozen BK471.out 2; have hfz26_3 := blk_frozen BK471.out 3; have hfz26_4 := blk_frozen BK471.out 4; obtain ⟨Ao27, co27, eo27⟩ := Kd.R_slice HO478.out; subst eo27) | ((with_reducible refine gate_callee (f := 72) rfl ?_); refine gl_ (some 40) Try.func72 #[.slice Ao27 t476.length co27, .int .i64 a1, .int .i64 a2, .agg #[.int .i64 a3_0, .int .i64 a3_1, .bool a3_2, .bool a3_3, .bool a3_4]] ?_; (with_reducible refine (impl_write.calls kj5 (fun k_ => some k_ = (.slice Ao27 t476.length co27 : Value).ownBlock) (.slice Ao27 t476.length co27) t476 a1 a2 a3_0 a3_1 a3_2 a3_3 a3_4 t479 w _ ?side1 ?side2 A24.out).mono ?_); (case side1 => repeat (first | (with_reducible first | exact HB.out | apply b1 | apply b2 | apply b3 | refine below_set ?_ GE471.out) | exact HB.out)); (case side2 => exact Kd.R_tight rfl HO478.out); rintro e w28 ⟨rfl, hy0, hb, hkp⟩; refine ⟨_, rfl, ?_⟩; have n0_ := am (blk_kept (rk BK471) hkp (fun hs_ => (fun e_ => (Kd.R_ne HO478.out BK471.out (by decide)) e_) hs_)); have n1_ := am (Kd.R_reok rfl hy0 (fun k_ e_ => HO478.out.1 k_ e_)); have n2_ := am (hb); clear BK471; clear HO478; clear HB; have BK471 := n0_; have HO478 := n1_; have HB := n2_; clear n0_ n1_ n2_; (try clear hb); (try clear hkp); (try clear hy0)))
    go_ret
    exact ⟨_, by first | rfl | (simp [errW_none, errW_some] <;> rfl) | (simp [*, errW_none, errW_some] <;> rfl), by (with_reducible repeat (first | apply r1 | apply r2 | apply r3)); exact HO478.out, by repeat (first | (with_reducible first | exact HB.out | apply b1 | apply b2 | apply b3 | refine below_set ?_ GE471.out) | exact HB.out)⟩

end Go.Proofs.Ytkljnfinjacejaa.PA
