/- Contracts of Go functions that laws of this seat reach: each Lean function answers as its Go function does. No condition. Written by wip/tools/inj.py, over the kit's print. -/
import Derived.Test.YtepeanpoicefdaaDoorPBx0
import Derived.Test.YtepeanpoicefdaaDoorPBx4
import Derived.Test.YtepeanpoicefdaaDoorPBx5
import Derived.Test.YtepeanpoicefdaaDoorPBx7
import Derived.Test.YtepeanpoicefdaaDoorPBx20
import Derived.Test.YtepeanpoicefdaaDoorPBx21
namespace Go.Proofs.YtepeanpoicefdaaDoor.PB
open Go.RowKit Go.Proofs.YtepeanpoicefdaaDoorW.PrintWords Go.Proofs.YtepeanpoicefdaaDoorW.PrintLast Go.Proofs.YtepeanpoicefdaaDoorW.PrintMore
attribute [local go_sem] max2_int min2_int max_two min_two max_three min_three max_four min_four   -- for this text's walks alone
set_option linter.unusedVariables false
set_option linter.unusedSimpArgs false

/-! ### spec_Written: function 18 -/
def spec_Written.f (k : Nat) (l0 : List (S48)) (a1 : Int) (a2 : Int) (a3_0 : Int) (a3_1 : Int) (a3_2 : Bool) (a3_3 : Bool) (a3_4 : Bool) : Option ((List (S48))) := (spec_Width.f k a2).bind fun t574 => ((spec_RowOk.f k l0).bind fun t575 => (if t575 = true then (if t574 = 0 then (some (([] : List (S48)))) else ((spec_l1In.f a1 0 (wrap64 ((l0.length : Int) - t574))).bind fun t579 => (if t579 = true then ((spec_StyleOk.f a3_0 a3_1 a3_2 a3_3 a3_4).bind fun t580 => (if t580 = true then ((spec_l4Written.f k l0 a1 a2 a3_0 a3_1 a3_2 a3_3 a3_4).bind fun t581 => (some t581)) else (some (([] : List (S48)))))) else (some (([] : List (S48))))))) else (some (([] : List (S48))))))
theorem spec_Written.mono : ∀ a0 a1 a2 a3 a4 a5 a6 a7 k, LeO (spec_Written.f k a0 a1 a2 a3 a4 a5 a6 a7) (spec_Written.f (k + 1) a0 a1 a2 a3 a4 a5 a6 a7) := by
 intro a0 a1 a2 a3 a4 a5 a6 a7 k
 unfold spec_Written.f
 repeat' first
   | (with_reducible exact spec_RowOk.mono _ _)
   | (with_reducible exact spec_Width.mono _ _)
   | (with_reducible exact spec_l4Written.mono _ _ _ _ _ _ _ _ _)
   | (with_reducible exact LeO.refl _)
   | (with_reducible exact LeO.none _)
   | (with_reducible refine LeO.ite ?_ ?_)
   | (with_reducible refine LeO.bind ?_ (fun _ => ?_))
set_option maxHeartbeats 8000000 in
set_option maxRecDepth 100000 in
theorem spec_Written.calls (k : Nat) (A0 : Option Addr) (c0 : Nat) (l0 : List (S48)) (a1 : Int) (a2 : Int) (a3_0 : Int) (a3_1 : Int) (a3_2 : Bool) (a3_3 : Bool) (a3_4 : Bool) (r : List (S48)) (w : World) (hr0 : Kd.C k48 w A0 l0.length l0) (hc0 : l0.length ≤ c0) (h : spec_Written.f k l0 a1 a2 a3_0 a3_1 a3_2 a3_3 a3_4 = some r) :
  Calls Tryd.prog 18 #[.slice A0 l0.length c0, .int .i64 a1, .int .i64 a2, .agg #[.int .i64 a3_0, .int .i64 a3_1, .bool a3_2, .bool a3_3, .bool a3_4]] w fun e w' => ∃ v0_ : Value, e = .returned (v0_) ∧ Kd.R k48 48 w' w.heap.size (fun _ => True) v0_ r ∧ Below w.heap.size w w' := by
 have hu37 := Tryd.underlying37
 have HR0 := am hr0
 have HC0 := am hc0
 clear hr0 hc0
 have HB := am (Below.refl w.heap.size w)
 have H := h
 unfold spec_Written.f at H
 clear h
 replace H := Option.bind_eq_some_iff.mp H
 obtain ⟨t574, A50, H⟩ := H
 (try dsimp only at H)
 have A5 := am A50
 clear A50
 replace H := Option.bind_eq_some_iff.mp H
 obtain ⟨t575, A60, H⟩ := H
 (try dsimp only at H)
 have A6 := am A60
 clear A60
 refine em_ (p := t575 = true) (fun c7 => ?g3p) (fun c7 => ?g3n)
 case' g3p =>
  subst c7
  rw [if_pos rfl] at H
  refine em_ (p := t574 = 0) (fun c8 => ?g2p) (fun c8 => ?g2n)
  case' g2p =>
   rw [if_pos c8] at H
   have c8b0 : (t574 == 0) = true := beq_iff_eq.mpr c8
   have c8b1 : (t574 != 0) = false := bne_eq_false_iff_eq.mpr c8
   clear c8
   obtain ⟨y576, hy576⟩ : ∃ y_ : List (S48), y_ = (([] : List (S48))) := ⟨_, rfl⟩
   replace H : (some y576) = some r := by first | (rw [hy576]; with_reducible exact H) | (rw [hy576]; exact H) | exact H
   have Ny576 := am hy576
   clear hy576
   obtain rfl := Option.some.inj H
   have lf1_ := trivial
  case' g2n =>
   rw [if_neg c8] at H
   have c8b0 : (t574 == 0) = false := beq_eq_false_iff_ne.mpr c8
   have c8b1 : (t574 != 0) = true := bne_iff_ne.mpr c8
   replace H := Option.bind_eq_some_iff.mp H
   obtain ⟨t579, A130, H⟩ := H
   (try dsimp only at H)
   have A13 := am A130
   clear A130
   refine em_ (p := t579 = true) (fun c14 => ?g1p) (fun c14 => ?g1n)
   case' g1p =>
    subst c14
    rw [if_pos rfl] at H
    replace H := Option.bind_eq_some_iff.mp H
    obtain ⟨t580, A150, H⟩ := H
    (try dsimp only at H)
    have A15 := am A150
    clear A150
    refine em_ (p := t580 = true) (fun c16 => ?g0p) (fun c16 => ?g0n)
    case' g0p =>
     subst c16
     rw [if_pos rfl] at H
     replace H := Option.bind_eq_some_iff.mp H
     obtain ⟨t581, A170, H⟩ := H
     replace H : (some t581) = some r := H
     have A17 := am A170
     clear A170
     obtain rfl := Option.some.inj H
     have lf2_ := trivial
    case' g0n =>
     replace c16 := Bool.eq_false_iff.mpr c16
     subst c16
     have H1 : (some (([] : List (S48)))) = some r := by rw [if_neg (show ¬ (false = true) by decide)] at H; exact H
     clear H
     have H := H1
     clear H1
     obtain ⟨y584, hy584⟩ : ∃ y_ : List (S48), y_ = (([] : List (S48))) := ⟨_, rfl⟩
     replace H : (some y584) = some r := by first | (rw [hy584]; with_reducible exact H) | (rw [hy584]; exact H) | exact H
     have Ny584 := am hy584
     clear hy584
     obtain rfl := Option.some.inj H
     have lf3_ := trivial
   case' g1n =>
    replace c14 := Bool.eq_false_iff.mpr c14
    subst c14
    have H1 : (some (([] : List (S48)))) = some r := by rw [if_neg (show ¬ (false = true) by decide)] at H; exact H
    clear H
    have H := H1
    clear H1
    obtain ⟨y587, hy587⟩ : ∃ y_ : List (S48), y_ = (([] : List (S48))) := ⟨_, rfl⟩
    replace H : (some y587) = some r := by first | (rw [hy587]; with_reducible exact H) | (rw [hy587]; exact H) | exact H
    have Ny587 := am hy587
    clear hy587
    obtain rfl := Option.some.inj H
    have lf4_ := trivial
 case' g3n =>
  replace c7 := Bool.eq_false_iff.mpr c7
  subst c7
  have H1 : (some (([] : List (S48)))) = some r := by rw [if_neg (show ¬ (false = true) by decide)] at H; exact H
  clear H
  have H := H1
  clear H1
  obtain ⟨y590, hy590⟩ : ∃ y_ : List (S48), y_ = (([] : List (S48))) := ⟨_, rfl⟩
  replace H : (some y590) = some r := by first | (rw [hy590]; with_reducible exact H) | (rw [hy590]; exact H) | exact H
  have Ny590 := am hy590
  clear hy590
  obtain rfl := Option.some.inj H
  have lf5_ := trivial
 all_goals
  go_enter Tryd.func18, Tryd.ntmps18
  go_wp2_with (first | (go_at_call 52; (with_reducible refine (spec_StyleOk.calls a3_0 a3_1 a3_2 a3_3 a3_4 true _ A15.out).mono ?_); rintro e w21 ⟨rfl, hb⟩; have n0_ := am (blk_below (g := gb573) (o := .cells #[.int .i64 a3_0, .int .i64 a3_1, .bool a3_2, .bool a3_3, .bool a3_4] 37 (0, 0)) (rk BK573) hb); have n1_ := am (below_step (rb1 HB GE573) hb); clear BK573; clear HB; have BK573 := n0_; have HB := n1_; clear n0_ n1_; (try clear hb); (try clear hb2); (try clear hk); (try clear hi); have hcz22_0 : w21.cell? ⟨gb573, 0, none⟩ = some (.int .i64 a3_0) := (blk_cell BK573.out 0).trans rfl; have hcz22_1 : w21.cell? ⟨gb573, 1, none⟩ = some (.int .i64 a3_1) := (blk_cell BK573.out 1).trans rfl; have hcz22_2 : w21.cell? ⟨gb573, 2, none⟩ = some (.bool a3_2) := (blk_cell BK573.out 2).trans rfl; have hcz22_3 : w21.cell? ⟨gb573, 3, none⟩ = some (.bool a3_3) := (blk_cell BK573.out 3).trans rfl; have hcz22_4 : w21.cell? ⟨gb573, 4, none⟩ = some (.bool a3_4) := (blk_cell BK573.out 4).trans rfl; have hfz22_0 := blk_frozen BK573.out 0; have hfz22_1 := blk_frozen BK573.out 1; have hfz22_2 := blk_frozen BK573.out 2; have hfz22_3 := blk_frozen BK573.out 3; have hfz22_4 := blk_frozen BK573.out 4) | ((with_reducible refine gate_dst (N := 33) rfl ?_); (try (refine gate_guard (by rfl) ?_; dsimp only)); refine Kd.R_lit k48 _ 48 ?hg (N := 33) ?hd (xs := ([] : List (S48))) (inner := []) (ok := fun _ => True) (okp := fun _ => True) ?hr ?hp (fun _ hk => hk) trivial (Below.refl _ _) (Nat.le_refl _) (by simp) ?_; (case hd => rfl); (case hg => rfl); (case hr => first | (go_simp; done) | (go_simp; rfl)); (case hp => exact (Reps.none _ _)); intro v577 w11 ho12 hb hg_ hnew_; clear hg_ hnew_; (first | rw [← Ny576.out] at ho12 | (simp only [Int.reduceToNat] at ho12; rw [← Ny576.out] at ho12)); have n0_ := am (Kd.R_lower ho12 (below_size (rb1 HB GE573))); have n1_ := am (blk_below (g := gb573) (o := .cells #[.int .i64 a3_0, .int .i64 a3_1, .bool a3_2, .bool a3_3, .bool a3_4] 37 (0, 0)) (rk BK573) hb); have n2_ := am (below_step (rb1 HB GE573) hb); clear BK573; clear HB; have HO578 := n0_; have BK573 := n1_; have HB := n2_; clear n0_ n1_ n2_; clear hb ho12) | ((with_reducible refine gate_dst (N := 33) rfl ?_); (try (refine gate_guard (by rfl) ?_; dsimp only)); refine Kd.R_lit k48 _ 48 ?hg (N := 33) ?hd (xs := ([] : List (S48))) (inner := []) (ok := fun _ => True) (okp := fun _ => True) ?hr ?hp (fun _ hk => hk) trivial (Below.refl _ _) (Nat.le_refl _) (by simp) ?_; (case hd => rfl); (case hg => rfl); (case hr => first | (go_simp; done) | (go_simp; rfl)); (case hp => exact (Reps.none _ _)); intro v585 w28 ho29 hb hg_ hnew_; clear hg_ hnew_; (first | rw [← Ny584.out] at ho29 | (simp only [Int.reduceToNat] at ho29; rw [← Ny584.out] at ho29)); have n0_ := am (Kd.R_lower ho29 (below_size (rb1 HB GE573))); have n1_ := am (blk_below (g := gb573) (o := .cells #[.int .i64 a3_0, .int .i64 a3_1, .bool a3_2, .bool a3_3, .bool a3_4] 37 (0, 0)) (rk BK573) hb); have n2_ := am (below_step (rb1 HB GE573) hb); clear BK573; clear HB; have HO578 := n0_; have BK573 := n1_; have HB := n2_; clear n0_ n1_ n2_; clear hb ho29) | ((with_reducible refine gate_dst (N := 33) rfl ?_); (try (refine gate_guard (by rfl) ?_; dsimp only)); refine Kd.R_lit k48 _ 48 ?hg (N := 33) ?hd (xs := ([] : List (S48))) (inner := []) (ok := fun _ => True) (okp := fun _ => True) ?hr ?hp (fun _ hk => hk) trivial (Below.refl _ _) (Nat.le_refl _) (by simp) ?_; (case hd => rfl); (case hg => rfl); (case hr => first | (go_simp; done) | (go_simp; rfl)); (case hp => exact (Reps.none _ _)); intro v588 w32 ho33 hb hg_ hnew_; clear hg_ hnew_; (first | rw [← Ny587.out] at ho33 | (simp only [Int.reduceToNat] at ho33; rw [← Ny587.out] at ho33)); have n0_ := am (Kd.R_lower ho33 (below_size (rb1 HB GE573))); have n1_ := am (blk_below (g := gb573) (o := .cells #[.int .i64 a3_0, .int .i64 a3_1, .bool a3_2, .bool a3_3, .bool a3_4] 37 (0, 0)) (rk BK573) hb); have n2_ := am (below_step (rb1 HB GE573) hb); clear BK573; clear HB; have HO578 := n0_; have BK573 := n1_; have HB := n2_; clear n0_ n1_ n2_; clear hb ho33) | ((with_reducible refine gate_dst (N := 33) rfl ?_); (try (refine gate_guard (by rfl) ?_; dsimp only)); refine Kd.R_lit k48 _ 48 ?hg (N := 33) ?hd (xs := ([] : List (S48))) (inner := []) (ok := fun _ => True) (okp := fun _ => True) ?hr ?hp (fun _ hk => hk) trivial (Below.refl _ _) (Nat.le_refl _) (by simp) ?_; (case hd => rfl); (case hg => rfl); (case hr => first | (go_simp; done) | (go_simp; rfl)); (case hp => exact (Reps.none _ _)); intro v591 w36 ho37 hb hg_ hnew_; clear hg_ hnew_; (first | rw [← Ny590.out] at ho37 | (simp only [Int.reduceToNat] at ho37; rw [← Ny590.out] at ho37)); have n0_ := am (Kd.R_lower ho37 (below_size (rb1 HB GE573))); have n1_ := am (blk_below (g := gb573) (o := .cells #[.int .i64 a3_0, .int .i64 a3_1, .bool a3_2, .bool a3_3, .bool a3_4] 37 (0, 0)) (rk BK573) hb); have n2_ := am (below_step (rb1 HB GE573) hb); clear BK573; clear HB; have HO578 := n0_; have BK573 := n1_; have HB := n2_; clear n0_ n1_ n2_; clear hb ho37) | ((with_reducible refine gate_callee (f := 53) rfl ?_); refine gl_ (some 38) Tryd.func53 #[.slice A0 l0.length c0, .int .i64 a1, .int .i64 a2, .agg #[.int .i64 a3_0, .int .i64 a3_1, .bool a3_2, .bool a3_3, .bool a3_4]] ?_; (with_reducible refine (spec_l4Written.calls k _ _ l0 a1 a2 a3_0 a3_1 a3_2 a3_3 a3_4 t581 _ ?side1 ?side2 A17.out).mono ?_); (case side1 => exact rc ((Kd.C_below HR0.out HB.out))); (case side2 => exact HC0.out); rintro e w23 ⟨v582, rfl, ho0, hb⟩; refine ⟨_, rfl, ?_⟩; have n0_ := am (Kd.R_lower ho0 (below_size (rb1 HB GE573))); have n1_ := am (blk_below (g := gb573) (o := .cells #[.int .i64 a3_0, .int .i64 a3_1, .bool a3_2, .bool a3_3, .bool a3_4] 37 (0, 0)) (rk BK573) hb); have n2_ := am (below_step (rb1 HB GE573) hb); clear BK573; clear HB; have HO578 := n0_; have BK573 := n1_; have HB := n2_; clear n0_ n1_ n2_; (try clear hb); (try clear hb2); (try clear hk); (try clear hi); (try clear ho0)) | (go_at_call 51; (with_reducible refine (spec_l1In.calls a1 0 (wrap64 ((l0.length : Int) - t574)) true _ A13.out).mono ?_); rintro e w' ⟨rfl, ⟨nd, rfl⟩⟩; have hcz20_0 : w10.cell? ⟨gb573, 0, none⟩ = some (.int .i64 a3_0) := (blk_cell BK573.out 0).trans rfl; have hcz20_1 : w10.cell? ⟨gb573, 1, none⟩ = some (.int .i64 a3_1) := (blk_cell BK573.out 1).trans rfl; have hcz20_2 : w10.cell? ⟨gb573, 2, none⟩ = some (.bool a3_2) := (blk_cell BK573.out 2).trans rfl; have hcz20_3 : w10.cell? ⟨gb573, 3, none⟩ = some (.bool a3_3) := (blk_cell BK573.out 3).trans rfl; have hcz20_4 : w10.cell? ⟨gb573, 4, none⟩ = some (.bool a3_4) := (blk_cell BK573.out 4).trans rfl; have hfz20_0 := blk_frozen BK573.out 0; have hfz20_1 := blk_frozen BK573.out 1; have hfz20_2 := blk_frozen BK573.out 2; have hfz20_3 := blk_frozen BK573.out 3; have hfz20_4 := blk_frozen BK573.out 4) | ((with_reducible refine gate_dst (N := 7) rfl ?_); (try (refine gate_guard (by rfl) ?_; dsimp only)); refine box_event ?hg (N := 7) ?hd (cs := #[.int .i64 a3_0, .int .i64 a3_1, .bool a3_2, .bool a3_3, .bool a3_4]) (t := 37) ?hr ?_; (case hd => rfl); (case hg => rfl); (case hr => first | (go_simp; done) | (go_simp; rfl)); intro gb573 hg w9 hbox hb; have n0_ := am (below_step (rb HB) hb); have n1_ := am (hbox); have n2_ := am ((by rw [hg]; exact (below_size (rb HB)) : w.heap.size ≤ gb573)); have n3_ := am ((by rw [hg]; exact (below_size (rb HB)) : w.heap.size ≤ gb573)); clear HB; have HB := n0_; have BK573 := n1_; have GW573 := n2_; have GE573 := n3_; clear n0_ n1_ n2_ n3_; clear hb hbox hg) | ((with_reducible refine gate_callee (f := 22) rfl ?_); refine gl_ (some 13) Tryd.func22 #[.slice A0 l0.length c0] ?_; (with_reducible refine (spec_RowOk.calls k _ _ l0 false _ ?side1 ?side2 A6.out).mono ?_); (case side1 => exact rc ((Kd.C_below HR0.out (rb1 HB GE573)))); (case side2 => exact HC0.out); rintro e w35 ⟨rfl, hb⟩; refine ⟨_, rfl, ?_⟩; have n0_ := am (blk_below (g := gb573) (o := .cells #[.int .i64 a3_0, .int .i64 a3_1, .bool a3_2, .bool a3_3, .bool a3_4] 37 (0, 0)) (rk BK573) hb); have n1_ := am (below_step (rb1 HB GE573) hb); clear BK573; clear HB; have BK573 := n0_; have HB := n1_; clear n0_ n1_; (try clear hb); (try clear hb2); (try clear hk); (try clear hi)) | ((with_reducible refine gate_callee (f := 22) rfl ?_); refine gl_ (some 13) Tryd.func22 #[.slice A0 l0.length c0] ?_; (with_reducible refine (spec_RowOk.calls k _ _ l0 true _ ?side1 ?side2 A6.out).mono ?_); (case side1 => exact rc ((Kd.C_below HR0.out (rb1 HB GE573)))); (case side2 => exact HC0.out); rintro e w10 ⟨rfl, hb⟩; refine ⟨_, rfl, ?_⟩; have n0_ := am (blk_below (g := gb573) (o := .cells #[.int .i64 a3_0, .int .i64 a3_1, .bool a3_2, .bool a3_3, .bool a3_4] 37 (0, 0)) (rk BK573) hb); have n1_ := am (below_step (rb1 HB GE573) hb); clear BK573; clear HB; have BK573 := n0_; have HB := n1_; clear n0_ n1_; (try clear hb); (try clear hb2); (try clear hk); (try clear hi)) | (go_at_call 52; (with_reducible refine (spec_StyleOk.calls a3_0 a3_1 a3_2 a3_3 a3_4 false _ A15.out).mono ?_); rintro e w27 ⟨rfl, hb⟩; have n0_ := am (blk_below (g := gb573) (o := .cells #[.int .i64 a3_0, .int .i64 a3_1, .bool a3_2, .bool a3_3, .bool a3_4] 37 (0, 0)) (rk BK573) hb); have n1_ := am (below_step (rb1 HB GE573) hb); clear BK573; clear HB; have BK573 := n0_; have HB := n1_; clear n0_ n1_; (try clear hb); (try clear hb2); (try clear hk); (try clear hi)) | ((with_reducible refine gate_callee (f := 25) rfl ?_); refine gl_ (some 11) Tryd.func25 #[.int .i64 a2] ?_; (with_reducible refine (spec_Width.calls k a2 t574 _ A5.out).mono ?_); rintro e w' ⟨rfl, ⟨nd, rfl⟩⟩; refine ⟨_, rfl, ?_⟩) | (go_at_call 51; (with_reducible refine (spec_l1In.calls a1 0 (wrap64 ((l0.length : Int) - t574)) false _ A13.out).mono ?_); rintro e w' ⟨rfl, ⟨nd, rfl⟩⟩))
  go_ret
  exact ⟨_, by first | rfl | (simp [errW_none, errW_some] <;> rfl) | (simp [*, errW_none, errW_some] <;> rfl), by (with_reducible repeat (first | apply r1 | apply r2 | apply r3)); exact HO578.out, by repeat (first | (with_reducible first | exact HB.out | apply b1 | apply b2 | apply b3 | refine below_set ?_ GE573.out) | exact HB.out)⟩

/-! ### spec_Cleared: function 19 -/
def spec_Cleared.f (k : Nat) (l0 : List (S48)) (a1 : Int) (a2 : Int) (a3_0 : Int) (a3_1 : Int) (a3_2 : Bool) (a3_3 : Bool) (a3_4 : Bool) : Option ((List (S48))) := (spec_RowOk.f k l0).bind fun t594 => (if t594 = true then ((spec_StyleOk.f a3_0 a3_1 a3_2 a3_3 a3_4).bind fun t595 => (if t595 = true then ((spec_l1In.f a1 0 a2).bind fun t596 => (if t596 = true then (if a2 > (l0.length : Int) then (some (([] : List (S48)))) else ((spec_l4Cleared.f k l0 a1 a2 a3_0 a3_1 a3_2 a3_3 a3_4).bind fun t600 => (some t600))) else (some (([] : List (S48)))))) else (some (([] : List (S48)))))) else (some (([] : List (S48)))))
theorem spec_Cleared.mono : ∀ a0 a1 a2 a3 a4 a5 a6 a7 k, LeO (spec_Cleared.f k a0 a1 a2 a3 a4 a5 a6 a7) (spec_Cleared.f (k + 1) a0 a1 a2 a3 a4 a5 a6 a7) := by
 intro a0 a1 a2 a3 a4 a5 a6 a7 k
 unfold spec_Cleared.f
 repeat' first
   | (with_reducible exact spec_RowOk.mono _ _)
   | (with_reducible exact spec_l4Cleared.mono _ _ _ _ _ _ _ _ _)
   | (with_reducible exact LeO.refl _)
   | (with_reducible exact LeO.none _)
   | (with_reducible refine LeO.ite ?_ ?_)
   | (with_reducible refine LeO.bind ?_ (fun _ => ?_))
set_option maxHeartbeats 8000000 in
set_option maxRecDepth 100000 in
theorem spec_Cleared.calls (k : Nat) (A0 : Option Addr) (c0 : Nat) (l0 : List (S48)) (a1 : Int) (a2 : Int) (a3_0 : Int) (a3_1 : Int) (a3_2 : Bool) (a3_3 : Bool) (a3_4 : Bool) (r : List (S48)) (w : World) (hr0 : Kd.C k48 w A0 l0.length l0) (hc0 : l0.length ≤ c0) (h : spec_Cleared.f k l0 a1 a2 a3_0 a3_1 a3_2 a3_3 a3_4 = some r) :
  Calls Tryd.prog 19 #[.slice A0 l0.length c0, .int .i64 a1, .int .i64 a2, .agg #[.int .i64 a3_0, .int .i64 a3_1, .bool a3_2, .bool a3_3, .bool a3_4]] w fun e w' => ∃ v0_ : Value, e = .returned (v0_) ∧ Kd.R k48 48 w' w.heap.size (fun _ => True) v0_ r ∧ Below w.heap.size w w' := by
 have hu37 := Tryd.underlying37
 have HR0 := am hr0
 have HC0 := am hc0
 clear hr0 hc0
 have HB := am (Below.refl w.heap.size w)
 have H := h
 unfold spec_Cleared.f at H
 clear h
 replace H := Option.bind_eq_some_iff.mp H
 obtain ⟨t594, A50, H⟩ := H
 (try dsimp only at H)
 have A5 := am A50
 clear A50
 refine em_ (p := t594 = true) (fun c6 => ?g7p) (fun c6 => ?g7n)
 case' g7p =>
  subst c6
  rw [if_pos rfl] at H
  replace H := Option.bind_eq_some_iff.mp H
  obtain ⟨t595, A70, H⟩ := H
  (try dsimp only at H)
  have A7 := am A70
  clear A70
  refine em_ (p := t595 = true) (fun c8 => ?g6p) (fun c8 => ?g6n)
  case' g6p =>
   subst c8
   rw [if_pos rfl] at H
   replace H := Option.bind_eq_some_iff.mp H
   obtain ⟨t596, A90, H⟩ := H
   (try dsimp only at H)
   have A9 := am A90
   clear A90
   refine em_ (p := t596 = true) (fun c10 => ?g5p) (fun c10 => ?g5n)
   case' g5p =>
    subst c10
    rw [if_pos rfl] at H
    refine em_ (p := a2 > (l0.length : Int)) (fun c11 => ?g4p) (fun c11 => ?g4n)
    case' g4p =>
     rw [if_pos c11] at H
     have c11b0 : decide ((l0.length : Int) < a2) = true := decide_eq_true c11
     clear c11
     obtain ⟨y597, hy597⟩ : ∃ y_ : List (S48), y_ = (([] : List (S48))) := ⟨_, rfl⟩
     replace H : (some y597) = some r := by first | (rw [hy597]; with_reducible exact H) | (rw [hy597]; exact H) | exact H
     have Ny597 := am hy597
     clear hy597
     obtain rfl := Option.some.inj H
     have lf6_ := trivial
    case' g4n =>
     rw [if_neg c11] at H
     have c11b0 : decide ((l0.length : Int) < a2) = false := decide_eq_false c11
     clear c11
     replace H := Option.bind_eq_some_iff.mp H
     obtain ⟨t600, A180, H⟩ := H
     replace H : (some t600) = some r := H
     have A18 := am A180
     clear A180
     obtain rfl := Option.some.inj H
     have lf7_ := trivial
   case' g5n =>
    replace c10 := Bool.eq_false_iff.mpr c10
    subst c10
    have H1 : (some (([] : List (S48)))) = some r := by rw [if_neg (show ¬ (false = true) by decide)] at H; exact H
    clear H
    have H := H1
    clear H1
    obtain ⟨y603, hy603⟩ : ∃ y_ : List (S48), y_ = (([] : List (S48))) := ⟨_, rfl⟩
    replace H : (some y603) = some r := by first | (rw [hy603]; with_reducible exact H) | (rw [hy603]; exact H) | exact H
    have Ny603 := am hy603
    clear hy603
    obtain rfl := Option.some.inj H
    have lf8_ := trivial
  case' g6n =>
   replace c8 := Bool.eq_false_iff.mpr c8
   subst c8
   have H1 : (some (([] : List (S48)))) = some r := by rw [if_neg (show ¬ (false = true) by decide)] at H; exact H
   clear H
   have H := H1
   clear H1
   obtain ⟨y606, hy606⟩ : ∃ y_ : List (S48), y_ = (([] : List (S48))) := ⟨_, rfl⟩
   replace H : (some y606) = some r := by first | (rw [hy606]; with_reducible exact H) | (rw [hy606]; exact H) | exact H
   have Ny606 := am hy606
   clear hy606
   obtain rfl := Option.some.inj H
   have lf9_ := trivial
 case' g7n =>
  replace c6 := Bool.eq_false_iff.mpr c6
  subst c6
  have H1 : (some (([] : List (S48)))) = some r := by rw [if_neg (show ¬ (false = true) by decide)] at H; exact H
  clear H
  have H := H1
  clear H1
  obtain ⟨y609, hy609⟩ : ∃ y_ : List (S48), y_ = (([] : List (S48))) := ⟨_, rfl⟩
  replace H : (some y609) = some r := by first | (rw [hy609]; with_reducible exact H) | (rw [hy609]; exact H) | exact H
  have Ny609 := am hy609
  clear hy609
  obtain rfl := Option.some.inj H
  have lf10_ := trivial
 all_goals
  go_enter Tryd.func19, Tryd.ntmps19
  go_wp2_with (first | ((with_reducible refine gate_callee (f := 22) rfl ?_); refine gl_ (some 10) Tryd.func22 #[.slice A0 l0.length c0] ?_; (with_reducible refine (spec_RowOk.calls k _ _ l0 true _ ?side1 ?side2 A5.out).mono ?_); (case side1 => exact rc ((Kd.C_below HR0.out HB.out))); (case side2 => exact HC0.out); rintro e w13 ⟨rfl, hb⟩; refine ⟨_, rfl, ?_⟩; have n0_ := am (blk_below (g := gb593) (o := .cells #[.int .i64 a3_0, .int .i64 a3_1, .bool a3_2, .bool a3_3, .bool a3_4] 37 (0, 0)) (rk BK593) hb); have n1_ := am (below_step (rb1 HB GE593) hb); clear BK593; clear HB; have BK593 := n0_; have HB := n1_; clear n0_ n1_; (try clear hb); (try clear hb2); (try clear hk); (try clear hi); have hcz14_0 : w13.cell? ⟨gb593, 0, none⟩ = some (.int .i64 a3_0) := (blk_cell BK593.out 0).trans rfl; have hcz14_1 : w13.cell? ⟨gb593, 1, none⟩ = some (.int .i64 a3_1) := (blk_cell BK593.out 1).trans rfl; have hcz14_2 : w13.cell? ⟨gb593, 2, none⟩ = some (.bool a3_2) := (blk_cell BK593.out 2).trans rfl; have hcz14_3 : w13.cell? ⟨gb593, 3, none⟩ = some (.bool a3_3) := (blk_cell BK593.out 3).trans rfl; have hcz14_4 : w13.cell? ⟨gb593, 4, none⟩ = some (.bool a3_4) := (blk_cell BK593.out 4).trans rfl; have hfz14_0 := blk_frozen BK593.out 0; have hfz14_1 := blk_frozen BK593.out 1; have hfz14_2 := blk_frozen BK593.out 2; have hfz14_3 := blk_frozen BK593.out 3; have hfz14_4 := blk_frozen BK593.out 4) | ((with_reducible refine gate_dst (N := 29) rfl ?_); (try (refine gate_guard (by rfl) ?_; dsimp only)); refine Kd.R_lit k48 _ 48 ?hg (N := 29) ?hd (xs := ([] : List (S48))) (inner := []) (ok := fun _ => True) (okp := fun _ => True) ?hr ?hp (fun _ hk => hk) trivial (Below.refl _ _) (Nat.le_refl _) (by simp) ?_; (case hd => rfl); (case hg => rfl); (case hr => first | (go_simp; done) | (go_simp; rfl)); (case hp => exact (Reps.none _ _)); intro v598 w16 ho17 hb hg_ hnew_; clear hg_ hnew_; (first | rw [← Ny597.out] at ho17 | (simp only [Int.reduceToNat] at ho17; rw [← Ny597.out] at ho17)); have n0_ := am (Kd.R_lower ho17 (below_size (rb1 HB GE593))); have n1_ := am (blk_below (g := gb593) (o := .cells #[.int .i64 a3_0, .int .i64 a3_1, .bool a3_2, .bool a3_3, .bool a3_4] 37 (0, 0)) (rk BK593) hb); have n2_ := am (below_step (rb1 HB GE593) hb); clear BK593; clear HB; have HO599 := n0_; have BK593 := n1_; have HB := n2_; clear n0_ n1_ n2_; clear hb ho17) | ((with_reducible refine gate_dst (N := 29) rfl ?_); (try (refine gate_guard (by rfl) ?_; dsimp only)); refine Kd.R_lit k48 _ 48 ?hg (N := 29) ?hd (xs := ([] : List (S48))) (inner := []) (ok := fun _ => True) (okp := fun _ => True) ?hr ?hp (fun _ hk => hk) trivial (Below.refl _ _) (Nat.le_refl _) (by simp) ?_; (case hd => rfl); (case hg => rfl); (case hr => first | (go_simp; done) | (go_simp; rfl)); (case hp => exact (Reps.none _ _)); intro v604 w29 ho30 hb hg_ hnew_; clear hg_ hnew_; (first | rw [← Ny603.out] at ho30 | (simp only [Int.reduceToNat] at ho30; rw [← Ny603.out] at ho30)); have n0_ := am (Kd.R_lower ho30 (below_size (rb1 HB GE593))); have n1_ := am (blk_below (g := gb593) (o := .cells #[.int .i64 a3_0, .int .i64 a3_1, .bool a3_2, .bool a3_3, .bool a3_4] 37 (0, 0)) (rk BK593) hb); have n2_ := am (below_step (rb1 HB GE593) hb); clear BK593; clear HB; have HO599 := n0_; have BK593 := n1_; have HB := n2_; clear n0_ n1_ n2_; clear hb ho30) | ((with_reducible refine gate_dst (N := 29) rfl ?_); (try (refine gate_guard (by rfl) ?_; dsimp only)); refine Kd.R_lit k48 _ 48 ?hg (N := 29) ?hd (xs := ([] : List (S48))) (inner := []) (ok := fun _ => True) (okp := fun _ => True) ?hr ?hp (fun _ hk => hk) trivial (Below.refl _ _) (Nat.le_refl _) (by simp) ?_; (case hd => rfl); (case hg => rfl); (case hr => first | (go_simp; done) | (go_simp; rfl)); (case hp => exact (Reps.none _ _)); intro v607 w35 ho36 hb hg_ hnew_; clear hg_ hnew_; (first | rw [← Ny606.out] at ho36 | (simp only [Int.reduceToNat] at ho36; rw [← Ny606.out] at ho36)); have n0_ := am (Kd.R_lower ho36 (below_size (rb1 HB GE593))); have n1_ := am (blk_below (g := gb593) (o := .cells #[.int .i64 a3_0, .int .i64 a3_1, .bool a3_2, .bool a3_3, .bool a3_4] 37 (0, 0)) (rk BK593) hb); have n2_ := am (below_step (rb1 HB GE593) hb); clear BK593; clear HB; have HO599 := n0_; have BK593 := n1_; have HB := n2_; clear n0_ n1_ n2_; clear hb ho36) | ((with_reducible refine gate_dst (N := 29) rfl ?_); (try (refine gate_guard (by rfl) ?_; dsimp only)); refine Kd.R_lit k48 _ 48 ?hg (N := 29) ?hd (xs := ([] : List (S48))) (inner := []) (ok := fun _ => True) (okp := fun _ => True) ?hr ?hp (fun _ hk => hk) trivial (Below.refl _ _) (Nat.le_refl _) (by simp) ?_; (case hd => rfl); (case hg => rfl); (case hr => first | (go_simp; done) | (go_simp; rfl)); (case hp => exact (Reps.none _ _)); intro v610 w39 ho40 hb hg_ hnew_; clear hg_ hnew_; (first | rw [← Ny609.out] at ho40 | (simp only [Int.reduceToNat] at ho40; rw [← Ny609.out] at ho40)); have n0_ := am (Kd.R_lower ho40 (below_size (rb1 HB GE593))); have n1_ := am (blk_below (g := gb593) (o := .cells #[.int .i64 a3_0, .int .i64 a3_1, .bool a3_2, .bool a3_3, .bool a3_4] 37 (0, 0)) (rk BK593) hb); have n2_ := am (below_step (rb1 HB GE593) hb); clear BK593; clear HB; have HO599 := n0_; have BK593 := n1_; have HB := n2_; clear n0_ n1_ n2_; clear hb ho40) | ((with_reducible refine gate_callee (f := 54) rfl ?_); refine gl_ (some 34) Tryd.func54 #[.slice A0 l0.length c0, .int .i64 a1, .int .i64 a2, .agg #[.int .i64 a3_0, .int .i64 a3_1, .bool a3_2, .bool a3_3, .bool a3_4]] ?_; (with_reducible refine (spec_l4Cleared.calls k _ _ l0 a1 a2 a3_0 a3_1 a3_2 a3_3 a3_4 t600 _ ?side1 ?side2 A18.out).mono ?_); (case side1 => exact rc ((Kd.C_below HR0.out (rb1 HB GE593)))); (case side2 => exact HC0.out); rintro e w24 ⟨v601, rfl, ho0, hb⟩; refine ⟨_, rfl, ?_⟩; have n0_ := am (Kd.R_lower ho0 (below_size (rb1 HB GE593))); have n1_ := am (blk_below (g := gb593) (o := .cells #[.int .i64 a3_0, .int .i64 a3_1, .bool a3_2, .bool a3_3, .bool a3_4] 37 (0, 0)) (rk BK593) hb); have n2_ := am (below_step (rb1 HB GE593) hb); clear BK593; clear HB; have HO599 := n0_; have BK593 := n1_; have HB := n2_; clear n0_ n1_ n2_; (try clear hb); (try clear hb2); (try clear hk); (try clear hi); (try clear ho0)) | (go_at_call 51; (with_reducible refine (spec_l1In.calls a1 0 a2 true _ A9.out).mono ?_); rintro e w' ⟨rfl, ⟨nd, rfl⟩⟩; have hcz23_0 : w15.cell? ⟨gb593, 0, none⟩ = some (.int .i64 a3_0) := (blk_cell BK593.out 0).trans rfl; have hcz23_1 : w15.cell? ⟨gb593, 1, none⟩ = some (.int .i64 a3_1) := (blk_cell BK593.out 1).trans rfl; have hcz23_2 : w15.cell? ⟨gb593, 2, none⟩ = some (.bool a3_2) := (blk_cell BK593.out 2).trans rfl; have hcz23_3 : w15.cell? ⟨gb593, 3, none⟩ = some (.bool a3_3) := (blk_cell BK593.out 3).trans rfl; have hcz23_4 : w15.cell? ⟨gb593, 4, none⟩ = some (.bool a3_4) := (blk_cell BK593.out 4).trans rfl; have hfz23_0 := blk_frozen BK593.out 0; have hfz23_1 := blk_frozen BK593.out 1; have hfz23_2 := blk_frozen BK593.out 2; have hfz23_3 := blk_frozen BK593.out 3; have hfz23_4 := blk_frozen BK593.out 4) | ((with_reducible refine gate_dst (N := 7) rfl ?_); (try (refine gate_guard (by rfl) ?_; dsimp only)); refine box_event ?hg (N := 7) ?hd (cs := #[.int .i64 a3_0, .int .i64 a3_1, .bool a3_2, .bool a3_3, .bool a3_4]) (t := 37) ?hr ?_; (case hd => rfl); (case hg => rfl); (case hr => first | (go_simp; done) | (go_simp; rfl)); intro gb593 hg w12 hbox hb; have n0_ := am (below_step (rb HB) hb); have n1_ := am (hbox); have n2_ := am ((by rw [hg]; exact (below_size (rb HB)) : w.heap.size ≤ gb593)); have n3_ := am ((by rw [hg]; exact (below_size (rb HB)) : w.heap.size ≤ gb593)); clear HB; have HB := n0_; have BK593 := n1_; have GW593 := n2_; have GE593 := n3_; clear n0_ n1_ n2_ n3_; clear hb hbox hg) | ((with_reducible refine gate_callee (f := 22) rfl ?_); refine gl_ (some 10) Tryd.func22 #[.slice A0 l0.length c0] ?_; (with_reducible refine (spec_RowOk.calls k _ _ l0 false _ ?side1 ?side2 A5.out).mono ?_); (case side1 => exact rc ((Kd.C_below HR0.out HB.out))); (case side2 => exact HC0.out); rintro e w38 ⟨rfl, hb⟩; refine ⟨_, rfl, ?_⟩; have n0_ := am (blk_below (g := gb593) (o := .cells #[.int .i64 a3_0, .int .i64 a3_1, .bool a3_2, .bool a3_3, .bool a3_4] 37 (0, 0)) (rk BK593) hb); have n1_ := am (below_step (rb1 HB GE593) hb); clear BK593; clear HB; have BK593 := n0_; have HB := n1_; clear n0_ n1_; (try clear hb); (try clear hb2); (try clear hk); (try clear hi)) | (go_at_call 52; (with_reducible refine (spec_StyleOk.calls a3_0 a3_1 a3_2 a3_3 a3_4 false _ A7.out).mono ?_); rintro e w34 ⟨rfl, hb⟩; have n0_ := am (blk_below (g := gb593) (o := .cells #[.int .i64 a3_0, .int .i64 a3_1, .bool a3_2, .bool a3_3, .bool a3_4] 37 (0, 0)) (rk BK593) hb); have n1_ := am (below_step (rb1 HB GE593) hb); clear BK593; clear HB; have BK593 := n0_; have HB := n1_; clear n0_ n1_; (try clear hb); (try clear hb2); (try clear hk); (try clear hi)) | (go_at_call 52; (with_reducible refine (spec_StyleOk.calls a3_0 a3_1 a3_2 a3_3 a3_4 true _ A7.out).mono ?_); rintro e w15 ⟨rfl, hb⟩; have n0_ := am (blk_below (g := gb593) (o := .cells #[.int .i64 a3_0, .int .i64 a3_1, .bool a3_2, .bool a3_3, .bool a3_4] 37 (0, 0)) (rk BK593) hb); have n1_ := am (below_step (rb1 HB GE593) hb); clear BK593; clear HB; have BK593 := n0_; have HB := n1_; clear n0_ n1_; (try clear hb); (try clear hb2); (try clear hk); (try clear hi)) | (go_at_call 51; (with_reducible refine (spec_l1In.calls a1 0 a2 false _ A9.out).mono ?_); rintro e w' ⟨rfl, ⟨nd, rfl⟩⟩) | (go_at_call 51; (with_reducible refine (spec_l1In.calls a1 0 a2 true _ A9.out).mono ?_); rintro e w' ⟨rfl, ⟨nd, rfl⟩⟩))
  go_ret
  exact ⟨_, by first | rfl | (simp [errW_none, errW_some] <;> rfl) | (simp [*, errW_none, errW_some] <;> rfl), by (with_reducible repeat (first | apply r1 | apply r2 | apply r3)); exact HO599.out, by repeat (first | (with_reducible first | exact HB.out | apply b1 | apply b2 | apply b3 | refine below_set ?_ GE593.out) | exact HB.out)⟩

/-! ### spec_Blank: function 20 -/
def spec_Blank.f (k : Nat) (a0 : Int) (a1_0 : Int) (a1_1 : Int) (a1_2 : Bool) (a1_3 : Bool) (a1_4 : Bool) : Option ((List (S48))) := (spec_l1In.f a0 1 60).bind fun t613 => (if t613 = true then ((spec_StyleOk.f a1_0 a1_1 a1_2 a1_3 a1_4).bind fun t614 => (if t614 = true then ((spec_l4Row.f k a0 a1_0 a1_1 a1_2 a1_3 a1_4).bind fun t615 => (some t615)) else (some (([] : List (S48)))))) else (some (([] : List (S48)))))
theorem spec_Blank.mono : ∀ a0 a1 a2 a3 a4 a5 k, LeO (spec_Blank.f k a0 a1 a2 a3 a4 a5) (spec_Blank.f (k + 1) a0 a1 a2 a3 a4 a5) := by
 intro a0 a1 a2 a3 a4 a5 k
 unfold spec_Blank.f
 repeat' first
   | (with_reducible exact spec_l4Row.mono _ _ _ _ _ _ _)
   | (with_reducible exact LeO.refl _)
   | (with_reducible exact LeO.none _)
   | (with_reducible refine LeO.ite ?_ ?_)
   | (with_reducible refine LeO.bind ?_ (fun _ => ?_))
set_option maxHeartbeats 8000000 in
set_option maxRecDepth 100000 in
theorem spec_Blank.calls (k : Nat) (a0 : Int) (a1_0 : Int) (a1_1 : Int) (a1_2 : Bool) (a1_3 : Bool) (a1_4 : Bool) (r : List (S48)) (w : World) (h : spec_Blank.f k a0 a1_0 a1_1 a1_2 a1_3 a1_4 = some r) :
  Calls Tryd.prog 20 #[.int .i64 a0, .agg #[.int .i64 a1_0, .int .i64 a1_1, .bool a1_2, .bool a1_3, .bool a1_4]] w fun e w' => ∃ v0_ : Value, e = .returned (v0_) ∧ Kd.R k48 48 w' w.heap.size (fun _ => True) v0_ r ∧ Below w.heap.size w w' := by
 have hu37 := Tryd.underlying37
 have HB := am (Below.refl w.heap.size w)
 have H := h
 unfold spec_Blank.f at H
 clear h
 replace H := Option.bind_eq_some_iff.mp H
 obtain ⟨t613, A30, H⟩ := H
 (try dsimp only at H)
 have A3 := am A30
 clear A30
 refine em_ (p := t613 = true) (fun c4 => ?g9p) (fun c4 => ?g9n)
 case' g9p =>
  subst c4
  rw [if_pos rfl] at H
  replace H := Option.bind_eq_some_iff.mp H
  obtain ⟨t614, A50, H⟩ := H
  (try dsimp only at H)
  have A5 := am A50
  clear A50
  refine em_ (p := t614 = true) (fun c6 => ?g8p) (fun c6 => ?g8n)
  case' g8p =>
   subst c6
   rw [if_pos rfl] at H
   replace H := Option.bind_eq_some_iff.mp H
   obtain ⟨t615, A70, H⟩ := H
   replace H : (some t615) = some r := H
   have A7 := am A70
   clear A70
   obtain rfl := Option.some.inj H
   have lf11_ := trivial
  case' g8n =>
   replace c6 := Bool.eq_false_iff.mpr c6
   subst c6
   have H1 : (some (([] : List (S48)))) = some r := by rw [if_neg (show ¬ (false = true) by decide)] at H; exact H
   clear H
   have H := H1
   clear H1
   obtain ⟨y618, hy618⟩ : ∃ y_ : List (S48), y_ = (([] : List (S48))) := ⟨_, rfl⟩
   replace H : (some y618) = some r := by first | (rw [hy618]; with_reducible exact H) | (rw [hy618]; exact H) | exact H
   have Ny618 := am hy618
   clear hy618
   obtain rfl := Option.some.inj H
   have lf12_ := trivial
 case' g9n =>
  replace c4 := Bool.eq_false_iff.mpr c4
  subst c4
  have H1 : (some (([] : List (S48)))) = some r := by rw [if_neg (show ¬ (false = true) by decide)] at H; exact H
  clear H
  have H := H1
  clear H1
  obtain ⟨y621, hy621⟩ : ∃ y_ : List (S48), y_ = (([] : List (S48))) := ⟨_, rfl⟩
  replace H : (some y621) = some r := by first | (rw [hy621]; with_reducible exact H) | (rw [hy621]; exact H) | exact H
  have Ny621 := am hy621
  clear hy621
  obtain rfl := Option.some.inj H
  have lf13_ := trivial
 all_goals
  go_enter Tryd.func20, Tryd.ntmps20
  go_wp2_with (first | (go_at_call 52; (with_reducible refine (spec_StyleOk.calls a1_0 a1_1 a1_2 a1_3 a1_4 true _ A5.out).mono ?_); rintro e w10 ⟨rfl, hb⟩; have n0_ := am (blk_below (g := gb612) (o := .cells #[.int .i64 a1_0, .int .i64 a1_1, .bool a1_2, .bool a1_3, .bool a1_4] 37 (0, 0)) (rk BK612) hb); have n1_ := am (below_step (rb1 HB GE612) hb); clear BK612; clear HB; have BK612 := n0_; have HB := n1_; clear n0_ n1_; (try clear hb); (try clear hb2); (try clear hk); (try clear hi); have hcz11_0 : w10.cell? ⟨gb612, 0, none⟩ = some (.int .i64 a1_0) := (blk_cell BK612.out 0).trans rfl; have hcz11_1 : w10.cell? ⟨gb612, 1, none⟩ = some (.int .i64 a1_1) := (blk_cell BK612.out 1).trans rfl; have hcz11_2 : w10.cell? ⟨gb612, 2, none⟩ = some (.bool a1_2) := (blk_cell BK612.out 2).trans rfl; have hcz11_3 : w10.cell? ⟨gb612, 3, none⟩ = some (.bool a1_3) := (blk_cell BK612.out 3).trans rfl; have hcz11_4 : w10.cell? ⟨gb612, 4, none⟩ = some (.bool a1_4) := (blk_cell BK612.out 4).trans rfl; have hfz11_0 := blk_frozen BK612.out 0; have hfz11_1 := blk_frozen BK612.out 1; have hfz11_2 := blk_frozen BK612.out 2; have hfz11_3 := blk_frozen BK612.out 3; have hfz11_4 := blk_frozen BK612.out 4) | ((with_reducible refine gate_callee (f := 51) rfl ?_); refine gl_ (some 6) Tryd.func51 #[.int .i64 a0, .int .i64 1, .int .i64 60] ?_; (with_reducible refine (spec_l1In.calls a0 1 60 true _ A3.out).mono ?_); rintro e w' ⟨rfl, ⟨nd, rfl⟩⟩; refine ⟨_, rfl, ?_⟩; have hcz9_0 : w8.cell? ⟨gb612, 0, none⟩ = some (.int .i64 a1_0) := (blk_cell BK612.out 0).trans rfl; have hcz9_1 : w8.cell? ⟨gb612, 1, none⟩ = some (.int .i64 a1_1) := (blk_cell BK612.out 1).trans rfl; have hcz9_2 : w8.cell? ⟨gb612, 2, none⟩ = some (.bool a1_2) := (blk_cell BK612.out 2).trans rfl; have hcz9_3 : w8.cell? ⟨gb612, 3, none⟩ = some (.bool a1_3) := (blk_cell BK612.out 3).trans rfl; have hcz9_4 : w8.cell? ⟨gb612, 4, none⟩ = some (.bool a1_4) := (blk_cell BK612.out 4).trans rfl; have hfz9_0 := blk_frozen BK612.out 0; have hfz9_1 := blk_frozen BK612.out 1; have hfz9_2 := blk_frozen BK612.out 2; have hfz9_3 := blk_frozen BK612.out 3; have hfz9_4 := blk_frozen BK612.out 4) | ((with_reducible refine gate_dst (N := 13) rfl ?_); refine Kd.R_lit k48 _ 48 ?hg (N := 13) ?hd (xs := ([] : List (S48))) (inner := []) (ok := fun _ => True) (okp := fun _ => True) ?hr ?hp (fun _ hk => hk) trivial (Below.refl _ _) (Nat.le_refl _) (by simp) ?_; (case hd => rfl); (case hg => rfl); (case hr => first | (go_simp; done) | (go_simp; rfl)); (case hp => exact (Reps.none _ _)); intro v619 w16 ho17 hb hg_ hnew_; clear hg_ hnew_; (first | rw [← Ny618.out] at ho17 | (simp only [Int.reduceToNat] at ho17; rw [← Ny618.out] at ho17)); have n0_ := am (Kd.R_lower ho17 (below_size (rb1 HB GE612))); have n1_ := am (blk_below (g := gb612) (o := .cells #[.int .i64 a1_0, .int .i64 a1_1, .bool a1_2, .bool a1_3, .bool a1_4] 37 (0, 0)) (rk BK612) hb); have n2_ := am (below_step (rb1 HB GE612) hb); clear BK612; clear HB; have HO617 := n0_; have BK612 := n1_; have HB := n2_; clear n0_ n1_ n2_; clear hb ho17) | ((with_reducible refine gate_dst (N := 13) rfl ?_); refine Kd.R_lit k48 _ 48 ?hg (N := 13) ?hd (xs := ([] : List (S48))) (inner := []) (ok := fun _ => True) (okp := fun _ => True) ?hr ?hp (fun _ hk => hk) trivial (Below.refl _ _) (Nat.le_refl _) (by simp) ?_; (case hd => rfl); (case hg => rfl); (case hr => first | (go_simp; done) | (go_simp; rfl)); (case hp => exact (Reps.none _ _)); intro v622 w19 ho20 hb hg_ hnew_; clear hg_ hnew_; (first | rw [← Ny621.out] at ho20 | (simp only [Int.reduceToNat] at ho20; rw [← Ny621.out] at ho20)); have n0_ := am (Kd.R_lower ho20 (below_size (rb1 HB GE612))); have n1_ := am (blk_below (g := gb612) (o := .cells #[.int .i64 a1_0, .int .i64 a1_1, .bool a1_2, .bool a1_3, .bool a1_4] 37 (0, 0)) (rk BK612) hb); have n2_ := am (below_step (rb1 HB GE612) hb); clear BK612; clear HB; have HO617 := n0_; have BK612 := n1_; have HB := n2_; clear n0_ n1_ n2_; clear hb ho20) | ((with_reducible refine gate_callee (f := 55) rfl ?_); refine gl_ (some 16) Tryd.func55 #[.int .i64 a0, .agg #[.int .i64 a1_0, .int .i64 a1_1, .bool a1_2, .bool a1_3, .bool a1_4]] ?_; (with_reducible refine (spec_l4Row.calls k a0 a1_0 a1_1 a1_2 a1_3 a1_4 t615 _ A7.out).mono ?_); rintro e w12 ⟨v616, rfl, ho0, hb⟩; refine ⟨_, rfl, ?_⟩; have n0_ := am (Kd.R_lower ho0 (below_size (rb1 HB GE612))); have n1_ := am (blk_below (g := gb612) (o := .cells #[.int .i64 a1_0, .int .i64 a1_1, .bool a1_2, .bool a1_3, .bool a1_4] 37 (0, 0)) (rk BK612) hb); have n2_ := am (below_step (rb1 HB GE612) hb); clear BK612; clear HB; have HO617 := n0_; have BK612 := n1_; have HB := n2_; clear n0_ n1_ n2_; (try clear hb); (try clear hb2); (try clear hk); (try clear hi); (try clear ho0)) | ((with_reducible refine gate_dst (N := 3) rfl ?_); refine box_event ?hg (N := 3) ?hd (cs := #[.int .i64 a1_0, .int .i64 a1_1, .bool a1_2, .bool a1_3, .bool a1_4]) (t := 37) ?hr ?_; (case hd => rfl); (case hg => rfl); (case hr => first | (go_simp; done) | (go_simp; rfl)); intro gb612 hg w8 hbox hb; have n0_ := am (below_step (rb HB) hb); have n1_ := am (hbox); have n2_ := am ((by rw [hg]; exact (below_size (rb HB)) : w.heap.size ≤ gb612)); have n3_ := am ((by rw [hg]; exact (below_size (rb HB)) : w.heap.size ≤ gb612)); clear HB; have HB := n0_; have BK612 := n1_; have GW612 := n2_; have GE612 := n3_; clear n0_ n1_ n2_ n3_; clear hb hbox hg) | (go_at_call 52; (with_reducible refine (spec_StyleOk.calls a1_0 a1_1 a1_2 a1_3 a1_4 false _ A5.out).mono ?_); rintro e w15 ⟨rfl, hb⟩; have n0_ := am (blk_below (g := gb612) (o := .cells #[.int .i64 a1_0, .int .i64 a1_1, .bool a1_2, .bool a1_3, .bool a1_4] 37 (0, 0)) (rk BK612) hb); have n1_ := am (below_step (rb1 HB GE612) hb); clear BK612; clear HB; have BK612 := n0_; have HB := n1_; clear n0_ n1_; (try clear hb); (try clear hb2); (try clear hk); (try clear hi)) | ((with_reducible refine gate_callee (f := 51) rfl ?_); refine gl_ (some 6) Tryd.func51 #[.int .i64 a0, .int .i64 1, .int .i64 60] ?_; (with_reducible refine (spec_l1In.calls a0 1 60 false _ A3.out).mono ?_); rintro e w' ⟨rfl, ⟨nd, rfl⟩⟩; refine ⟨_, rfl, ?_⟩))
  go_ret
  exact ⟨_, by first | rfl | (simp [errW_none, errW_some] <;> rfl) | (simp [*, errW_none, errW_some] <;> rfl), by (with_reducible repeat (first | apply r1 | apply r2 | apply r3)); exact HO617.out, by repeat (first | (with_reducible first | exact HB.out | apply b1 | apply b2 | apply b3 | refine below_set ?_ GE612.out) | exact HB.out)⟩

-- NOT PRINTED: function 85 (abi_NoEscape)

-- NOT PRINTED: function 65 (strings_Builder_copyCheck)

-- NOT PRINTED: function 31 (strings_Builder_WriteString)

-- NOT PRINTED: function 32 (strings_Builder_String)

end Go.Proofs.YtepeanpoicefdaaDoor.PB
