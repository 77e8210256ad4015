/- Contracts of Go functions that laws of this seat reach: each Lean function answers as its Go function does. No condition. Written by wip/tools/inj.py, over the kit's print. -/
import Derived.Test.YtfhkpneffmcdbaaQDx0
import Derived.Test.YtfhkpneffmcdbaaQDx2
import Derived.Test.YtfhkpneffmcdbaaQDx25
import Derived.Test.YtfhkpneffmcdbaaQDx26
import Derived.Test.YtfhkpneffmcdbaaQDx27
namespace Go.Proofs.Ytfhkpneffmcdbaa.QD
open Go.RowKit Go.Proofs.YtfhkpneffmcdbaaW.PrintWords Go.Proofs.YtfhkpneffmcdbaaW.PrintLast Go.Proofs.YtfhkpneffmcdbaaW.PrintMore
attribute [local go_sem] max2_int min2_int max_two min_two max_three min_three max_four min_four   -- for this text's walks alone
set_option linter.unusedVariables false
set_option linter.unusedSimpArgs false

attribute [local go_sem high] eqA40
/-! ### spec_l4DrawAt: function 43 -/
def spec_l4DrawAt.f (s0_0 : List Int) (s0_1 : Int) (s0_2 : Int) (a1 : Int) : Option (Int × Int × Int) := (spec_l1Once.f s0_0 s0_1 s0_2 12).bind fun bt744 => (if bt744.1 = true then ((some (([(-1), a1, wrap64 (a1 + 1), 4611686018427387904, (-9223372036854775808)] : List Int) : List Int)).bind fun y747 => ((spec_l1Below.f s0_0 bt744.2.1 bt744.2.2 5).bind fun bt750 => (if 0 ≤ bt750.1 then (if bt750.1 < (y747.length : Int) then (some (rd y747 bt750.1, bt750.2.1, bt750.2.2)) else (none)) else (none)))) else ((spec_l1Max.f 1 a1).bind fun t754 => ((spec_l1Below.f s0_0 bt744.2.1 bt744.2.2 t754).bind fun bt755 => (some (bt755.1, bt755.2.1, bt755.2.2)))))
set_option maxHeartbeats 8000000 in
set_option maxRecDepth 100000 in
theorem spec_l4DrawAt.calls (g : Nat) (s0_0 : List Int) (s0_1 : Int) (s0_2 : Int) (a1 : Int) (r1 : Int) (r2 : Int) (r3 : Int) (w0 w : World) (hI : IsS86 w0 w g s0_0 s0_1 s0_2) (hB : Below w0.heap.size w0 w) (h : spec_l4DrawAt.f s0_0 s0_1 s0_2 a1 = some (r1, r2, r3)) :
  Calls Try.prog 43 #[.pointer (some ⟨g, 0, none⟩), .int .i64 a1] w fun e w' => e = .returned (.int .i64 r1) ∧ IsS86 w0 w' g s0_0 r2 r3 ∧ Below w0.heap.size w0 w' ∧ KeepBut w w' g none := by
 have HI0 := am hI
 have HK := am (KeepBut.refl w g none)
 have HL := am hB.size
 clear hI
 have HW0 := am hB.size
 have HB := am hB
 clear hB
 have H := h
 unfold spec_l4DrawAt.f at H
 clear h
 replace H := Option.bind_eq_some_iff.mp H
 obtain ⟨⟨t744, t745, t746⟩, A30, H⟩ := H
 (try dsimp only at H)
 have A3 := am A30
 clear A30
 refine em_ (p := t744 = true) (fun c4 => ?g2p) (fun c4 => ?g2n)
 case' g2p =>
  subst c4
  rw [if_pos rfl] at H
  obtain ⟨y747, hy747⟩ : ∃ y_ : List Int, y_ = (([(-1), a1, wrap64 (a1 + 1), 4611686018427387904, (-9223372036854775808)] : List Int)) := ⟨_, rfl⟩
  replace H : ((spec_l1Below.f s0_0 t745 t746 5).bind fun bt750 => (if 0 ≤ bt750.1 then (if bt750.1 < (y747.length : Int) then (some (rd y747 bt750.1, bt750.2.1, bt750.2.2)) else (none)) else (none))) = some (r1, r2, r3) := by first | (rw [hy747]; with_reducible exact H) | (rw [hy747]; exact H) | exact H
  have Ny747 := am hy747
  clear hy747
  replace H := Option.bind_eq_some_iff.mp H
  obtain ⟨⟨t750, t751, t752⟩, A50, H⟩ := H
  (try dsimp only at H)
  have A5 := am A50
  clear A50
  refine em_ (p := 0 ≤ t750) (fun c6 => ?g1p) (fun c6 => ?g1n)
  case' g1p =>
   rw [if_pos c6] at H
   have c6b0 : decide (0 ≤ t750) = true := decide_eq_true c6
   clear c6
   refine em_ (p := t750 < (y747.length : Int)) (fun c7 => ?g0p) (fun c7 => ?g0n)
   case' g0p =>
    rw [if_pos c7] at H
    have c7b0 : decide (t750 < (y747.length : Int)) = true := decide_eq_true c7
    clear c7
    simp only [Option.some.injEq, Prod.mk.injEq] at H
    obtain ⟨rfl, rfl, rfl⟩ := H
    have lf1_ := trivial
   case g0n =>
    rw [if_neg c7] at H
    exact absurd H (by simp)
  case g1n =>
   rw [if_neg c6] at H
   exact absurd H (by simp)
 case' g2n =>
  replace c4 := Bool.eq_false_iff.mpr c4
  subst c4
  rw [if_neg (show ¬ (false = true) by decide)] at H
  replace H := Option.bind_eq_some_iff.mp H
  obtain ⟨t754, A130, H⟩ := H
  (try dsimp only at H)
  have A13 := am A130
  clear A130
  replace H := Option.bind_eq_some_iff.mp H
  obtain ⟨⟨t755, t756, t757⟩, A140, H⟩ := H
  (try dsimp only at H)
  have A14 := am A140
  clear A140
  simp only [Option.some.injEq, Prod.mk.injEq] at H
  obtain ⟨rfl, rfl, rfl⟩ := H
  have lf2_ := trivial
 all_goals
  go_enter Try.func43, Try.ntmps43
  go_wp2_with (first | ((with_reducible refine gate_dst (N := 10) rfl ?_); refine Kd.R_lit (Kd.int .i64) _ 2 ?hg (N := 10) ?hd (xs := ([(-1), a1, wrap64 (a1 + 1), 4611686018427387904, (-9223372036854775808)] : List Int)) (inner := [.int .i64 (-1), .int .i64 a1, .int .i64 (wrap64 (a1 + 1)), .int .i64 4611686018427387904, .int .i64 (-9223372036854775808)]) (ok := fun _ => True) (okp := fun _ => True) ?hr ?hp (fun _ hk => hk) trivial (Below.refl _ _) (Nat.le_refl _) (by simp) ?_; (case hd => rfl); (case hg => rfl); (case hr => first | (go_simp; done) | (go_simp; rfl)); (case hp => exact (Reps.one (show Kd.M (Kd.int .i64) _ _ _ (-1) [.int .i64 (-1)] from rfl) (Reps.one (show Kd.M (Kd.int .i64) _ _ _ a1 [.int .i64 a1] from rfl) (Reps.one (show Kd.M (Kd.int .i64) _ _ _ (wrap64 (a1 + 1)) [.int .i64 (wrap64 (a1 + 1))] from rfl) (Reps.one (show Kd.M (Kd.int .i64) _ _ _ 4611686018427387904 [.int .i64 4611686018427387904] from rfl) (Reps.one (show Kd.M (Kd.int .i64) _ _ _ (-9223372036854775808) [.int .i64 (-9223372036854775808)] from rfl) (Reps.none _ _))))))); intro v748 w9 ho10 hb hg_ hnew_; clear hg_ hnew_; (first | rw [← Ny747.out] at ho10 | (simp only [Int.reduceToNat] at ho10; rw [← Ny747.out] at ho10)); have n0_ := am (Kd.R_lower ho10 (keep_size (w := w) (g := g) (row := none) (rkk HK))); have n1_ := am (IsS86.below (ri86 HI0) hb); have n2_ := am (KeepBut.trans (rkk HK) (KeepBut.of_below hb g none) (.inl rfl)); have n3_ := am (below_step (rbi86 HB HI0 IsS86.ge) hb); clear HI0; clear HK; clear HB; have HO749 := n0_; have HI0 := n1_; have HK := n2_; have HB := n3_; clear n0_ n1_ n2_ n3_; clear hb ho10) | ((with_reducible refine gate_callee (f := 71) rfl ?_); refine gl_ (some 12) Try.func71 #[.pointer (some ⟨g, 0, none⟩), .int .i64 5] ?_; (with_reducible refine (spec_l1Below.calls g s0_0 t745 t746 5 t750 t751 t752 w0 _ ?side1 ?side2 A5.out).mono ?_); (case side1 => exact ri86 HI0); (case side2 => exact rbi86 HB HI0 IsS86.ge); rintro e w11 ⟨rfl, hi, hb, hk⟩; refine ⟨_, rfl, ?_⟩; have n0_ := am (Kd.R_mono (Kd.R_keep (IsS86.apart (show IsS86 w0 _ g s0_0 t745 t746 from ri86 HI0) (rr HO749) (by decide)) hk (fun _ h => h.2)) (fun _ h => h.1)); have n1_ := am (KeepBut.trans (rkk HK) hk (.inl rfl)); have n2_ := am (hb); have n3_ := am (hi); clear HO749; clear HK; clear HB; clear HI0; have HO749 := n0_; have HK := n1_; have HB := n2_; have HI0 := n3_; clear n0_ n1_ n2_ n3_; (try clear hb); (try clear hb2); (try clear hk); (try clear hi); obtain ⟨Ao12, co12, eo12⟩ := Kd.R_slice HO749.out; subst eo12; have p753 : 0 ≤ (t750 : Int) := dt_; have q753 : t750 < (y747.length : Int) := dt_; obtain ⟨ad753, e753, hx753_0⟩ := Kd.at_int (Kd.R_reads' HO749.out).2.2 t750 p753 q753; cases e753; replace p753 := eq_true p753; replace q753 := eq_true q753) | ((with_reducible refine gate_callee (f := 71) rfl ?_); refine gl_ (some 18) Try.func71 #[.pointer (some ⟨g, 0, none⟩), .int .i64 t754] ?_; (with_reducible refine (spec_l1Below.calls g s0_0 t745 t746 t754 t755 t756 t757 w0 _ ?side1 ?side2 A14.out).mono ?_); (case side1 => exact ri86 HI0); (case side2 => exact rbi86 HB HI0 IsS86.ge); rintro e w16 ⟨rfl, hi, hb, hk⟩; refine ⟨_, rfl, ?_⟩; have n0_ := am (KeepBut.trans (rkk HK) hk (.inl rfl)); have n1_ := am (hb); have n2_ := am (hi); clear HK; clear HB; clear HI0; have HK := n0_; have HB := n1_; have HI0 := n2_; clear n0_ n1_ n2_; (try clear hb); (try clear hb2); (try clear hk); (try clear hi)) | ((with_reducible refine gate_callee (f := 72) rfl ?_); refine gl_ (some 6) Try.func72 #[.pointer (some ⟨g, 0, none⟩), .int .i64 12] ?_; (with_reducible refine (spec_l1Once.calls g s0_0 s0_1 s0_2 12 false t745 t746 w0 _ ?side1 ?side2 A3.out).mono ?_); (case side1 => exact ri86 HI0); (case side2 => exact rbi86 HB HI0 IsS86.ge); rintro e w15 ⟨rfl, hi, hb, hk⟩; refine ⟨_, rfl, ?_⟩; have n0_ := am (KeepBut.trans (rkk HK) hk (.inl rfl)); have n1_ := am (hb); have n2_ := am (hi); clear HK; clear HB; clear HI0; have HK := n0_; have HB := n1_; have HI0 := n2_; clear n0_ n1_ n2_; (try clear hb); (try clear hb2); (try clear hk); (try clear hi)) | ((with_reducible refine gate_callee (f := 72) rfl ?_); refine gl_ (some 6) Try.func72 #[.pointer (some ⟨g, 0, none⟩), .int .i64 12] ?_; (with_reducible refine (spec_l1Once.calls g s0_0 s0_1 s0_2 12 true t745 t746 w0 _ ?side1 ?side2 A3.out).mono ?_); (case side1 => exact ri86 HI0); (case side2 => exact rbi86 HB HI0 IsS86.ge); rintro e w8 ⟨rfl, hi, hb, hk⟩; refine ⟨_, rfl, ?_⟩; have n0_ := am (KeepBut.trans (rkk HK) hk (.inl rfl)); have n1_ := am (hb); have n2_ := am (hi); clear HK; clear HB; clear HI0; have HK := n0_; have HB := n1_; have HI0 := n2_; clear n0_ n1_ n2_; (try clear hb); (try clear hb2); (try clear hk); (try clear hi)) | ((with_reducible refine gate_callee (f := 74) rfl ?_); refine gl_ (some 17) Try.func74 #[.int .i64 1, .int .i64 a1] ?_; (with_reducible refine (spec_l1Max.calls 1 a1 t754 _ A13.out).mono ?_); rintro e w' ⟨rfl, ⟨nd, rfl⟩⟩; refine ⟨_, rfl, ?_⟩))
  go_ret
  exact ⟨by first | rfl | (simp [errW_none, errW_some] <;> rfl) | (simp [*, errW_none, errW_some] <;> rfl), ri86 HI0, rbi86 HB HI0 IsS86.ge, rkk HK⟩

/-! ### spec_DrawPushed: function 19 -/
def spec_DrawPushed.f (k : Nat) (l0 : List Int) : Option ((List (S40)) × Int × Int × Int × Int × Bool × Bool × Bool) := (spec_l1New.f k l0).bind fun bt759 => ((spec_l4DrawAny.f k bt759.1 bt759.2.1 bt759.2.2).bind fun bt763 => ((spec_l4DrawAt.f bt759.1 bt763.2.1 bt763.2.2 (bt763.1.length : Int)).bind fun bt768 => ((spec_l4DrawAt.f bt759.1 bt768.2.1 bt768.2.2 (wrap64 ((bt763.1.length : Int) + 1))).bind fun bt771 => ((spec_l3DrawAny.f bt759.1 bt771.2.1 bt771.2.2).bind fun bt774 => (some (bt763.1, bt768.1, bt771.1, bt774.1, bt774.2.1, bt774.2.2.1, bt774.2.2.2.1, bt774.2.2.2.2.1))))))
theorem spec_DrawPushed.mono : ∀ a0 k, LeO (spec_DrawPushed.f k a0) (spec_DrawPushed.f (k + 1) a0) := by
 intro a0 k
 unfold spec_DrawPushed.f
 repeat' first
   | (with_reducible exact spec_l1New.mono _ _)
   | (with_reducible exact spec_l4DrawAny.mono _ _ _ _)
   | (with_reducible exact LeO.refl _)
   | (with_reducible exact LeO.none _)
   | (with_reducible refine LeO.ite ?_ ?_)
   | (with_reducible refine LeO.bind ?_ (fun _ => ?_))
set_option maxHeartbeats 8000000 in
set_option maxRecDepth 100000 in
theorem spec_DrawPushed.calls (k : Nat) (A0 : Option Addr) (c0 : Nat) (l0 : List Int) (r1 : List (S40)) (r2 : Int) (r3 : Int) (r4 : Int) (r5 : Int) (r6 : Bool) (r7 : Bool) (r8 : Bool) (w : World) (hr0 : Kd.C (Kd.int .u8) w A0 l0.length l0) (hc0 : l0.length ≤ c0) (h : spec_DrawPushed.f k l0 = some (r1, r2, r3, r4, r5, r6, r7, r8)) :
  Calls Try.prog 19 #[.slice A0 l0.length c0] w fun e w' => ∃ v0_ : Value, e = .returned (.tuple #[v0_, .int .i64 r2, .int .i64 r3, .agg #[.int .i64 r4, .int .i64 r5, .bool r6, .bool r7, .bool r8]]) ∧ Kd.R k40 40 w' w.heap.size (fun _ => True) v0_ r1 ∧ Below w.heap.size w w' := by
 have hu29 := Try.underlying29
 have HR0 := am hr0
 have HC0 := am hc0
 clear hr0 hc0
 have HB := am (Below.refl w.heap.size w)
 have H := h
 unfold spec_DrawPushed.f at H
 clear h
 replace H := Option.bind_eq_some_iff.mp H
 obtain ⟨⟨t759, t760, t761⟩, A20, H⟩ := H
 (try dsimp only at H)
 have A2 := am A20
 clear A20
 replace H := Option.bind_eq_some_iff.mp H
 obtain ⟨⟨t763, t766, t767⟩, A30, H⟩ := H
 (try dsimp only at H)
 have A3 := am A30
 clear A30
 replace H := Option.bind_eq_some_iff.mp H
 obtain ⟨⟨t768, t769, t770⟩, A40, H⟩ := H
 (try dsimp only at H)
 have A4 := am A40
 clear A40
 replace H := Option.bind_eq_some_iff.mp H
 obtain ⟨⟨t771, t772, t773⟩, A50, H⟩ := H
 (try dsimp only at H)
 have A5 := am A50
 clear A50
 replace H := Option.bind_eq_some_iff.mp H
 obtain ⟨⟨t774, t775, t776, t777, t778, t779, t780⟩, A60, H⟩ := H
 (try dsimp only at H)
 have A6 := am A60
 clear A60
 simp only [Option.some.injEq, Prod.mk.injEq] at H
 obtain ⟨rfl, rfl, rfl, rfl, rfl, rfl, rfl, rfl⟩ := H
 go_enter Try.func19, Try.ntmps19
 go_wp2_with (first | ((with_reducible refine gate_dst (N := 5) rfl ?_); refine box_event ?hg (N := 5) ?hd (cs := #[.int .i64 0, .int .i64 0, .bool false, .bool false, .bool false]) (t := 29) ?hr ?_; (case hd => rfl); (case hg => rfl); (case hr => first | (go_simp; done) | (go_simp; rfl)); intro gb758 hg w7 hbox hb; have n0_ := am (below_step (rb HB) hb); have n1_ := am (hbox); have n2_ := am ((by rw [hg]; exact (below_size (rb HB)) : w.heap.size ≤ gb758)); have n3_ := am ((by rw [hg]; exact (below_size (rb HB)) : w.heap.size ≤ gb758)); clear HB; have HB := n0_; have BK758 := n1_; have GW758 := n2_; have GE758 := n3_; clear n0_ n1_ n2_ n3_; clear hb hbox hg) | ((with_reducible refine gate_callee (f := 41) rfl ?_); refine gl_ (some 10) Try.func41 #[.slice A0 l0.length c0] ?_; (with_reducible refine (spec_l1New.calls k _ _ l0 t759 t760 t761 w _ ?side1 ?side2 ?side3 A2.out).mono ?_); (case side1 => repeat (first | (with_reducible first | exact HB.out | apply b1 | apply b2 | apply b3 | refine below_set ?_ GE758.out) | exact HB.out)); (case side2 => exact HR0.out); (case side3 => exact HC0.out); rintro e w8 ⟨g762, rfl, hi, hb, hb2⟩; refine ⟨_, rfl, ?_⟩; have n0_ := am (blk_below (g := gb758) (o := .cells #[.int .i64 0, .int .i64 0, .bool false, .bool false, .bool false] 29 (0, 0)) (rk BK758) hb2); have n1_ := am (hb); have n2_ := am (hi); have n3_ := am (IsS86.ne_blk hi (blk_below (g := gb758) (o := .cells #[.int .i64 0, .int .i64 0, .bool false, .bool false, .bool false] 29 (0, 0)) (rk BK758) hb2) (by decide)); have n4_ := am (Ne.symm (IsS86.ne_blk hi (blk_below (g := gb758) (o := .cells #[.int .i64 0, .int .i64 0, .bool false, .bool false, .bool false] 29 (0, 0)) (rk BK758) hb2) (by decide))); clear BK758; clear HB; have BK758 := n0_; have HB := n1_; have HI762 := n2_; have NB762_758 := n3_; have NB758_762 := n4_; clear n0_ n1_ n2_ n3_ n4_; (try clear hb); (try clear hb2); (try clear hk); (try clear hi)) | ((with_reducible refine gate_callee (f := 42) rfl ?_); refine gl_ (some 12) Try.func42 #[.pointer (some ⟨g762, 0, none⟩)] ?_; (with_reducible refine (spec_l4DrawAny.calls k g762 t759 t760 t761 t763 t766 t767 w _ ?side1 ?side2 A3.out).mono ?_); (case side1 => repeat (first | (with_reducible first | exact HI762.out | apply IsS86.alloc | apply IsS86.drewN | apply IsS86.drew | apply IsS86.set_1 | apply IsS86.set_2 | refine IsS86.far ?_ NB762_758.out _) | exact HI762.out)); (case side2 => repeat (first | (with_reducible first | exact HB.out | apply b1 | apply b2 | apply b3 | refine below_set ?_ (IsS86.ge HI762.out) | refine below_set ?_ GE758.out) | exact HB.out)); rintro e w9 ⟨v764, rfl, ho0, hi, hb, hk⟩; refine ⟨_, rfl, ?_⟩; have n0_ := am (KeepBut.blk hk (g' := gb758) (o := .cells #[.int .i64 0, .int .i64 0, .bool false, .bool false, .bool false] 29 (0, 0)) (rk BK758) NB758_762.out (by simp)); have n1_ := am (Kd.R_lower ho0 (below_size (by repeat (first | (with_reducible first | exact HB.out | apply b1 | apply b2 | apply b3 | refine below_set ?_ (IsS86.ge HI762.out) | refine below_set ?_ GE758.out) | exact HB.out)))); have n2_ := am (hb); have n3_ := am (hi); clear BK758; clear HB; clear HI762; have BK758 := n0_; have HO765 := n1_; have HB := n2_; have HI762 := n3_; clear n0_ n1_ n2_ n3_; (try clear hb); (try clear hb2); (try clear hk); (try clear hi); (try clear ho0); obtain ⟨Ao10, co10, eo10⟩ := Kd.R_slice HO765.out; subst eo10) | ((with_reducible refine gate_callee (f := 43) rfl ?_); refine gl_ (some 16) Try.func43 #[.pointer (some ⟨g762, 0, none⟩), .int .i64 (t763.length : Int)] ?_; (with_reducible refine (spec_l4DrawAt.calls g762 t759 t766 t767 (t763.length : Int) t768 t769 t770 w _ ?side1 ?side2 A4.out).mono ?_); (case side1 => repeat (first | (with_reducible first | exact HI762.out | apply IsS86.alloc | apply IsS86.drewN | apply IsS86.drew | apply IsS86.set_1 | apply IsS86.set_2 | refine IsS86.far ?_ NB762_758.out _) | exact HI762.out)); (case side2 => repeat (first | (with_reducible first | exact HB.out | apply b1 | apply b2 | apply b3 | refine below_set ?_ (IsS86.ge HI762.out) | refine below_set ?_ GE758.out) | exact HB.out)); rintro e w11 ⟨rfl, hi, hb, hk⟩; refine ⟨_, rfl, ?_⟩; have n0_ := am (KeepBut.blk hk (g' := gb758) (o := .cells #[.int .i64 0, .int .i64 0, .bool false, .bool false, .bool false] 29 (0, 0)) (rk BK758) NB758_762.out (by simp)); have n1_ := am (Kd.R_mono (Kd.R_keep (IsS86.apart (show IsS86 w _ g762 t759 t766 t767 from by repeat (first | (with_reducible first | exact HI762.out | apply IsS86.alloc | apply IsS86.drewN | apply IsS86.drew | apply IsS86.set_1 | apply IsS86.set_2 | refine IsS86.far ?_ NB762_758.out _) | exact HI762.out)) (rr HO765) (by decide)) hk (fun _ h => h.2)) (fun _ h => h.1)); have n2_ := am (hb); have n3_ := am (hi); clear BK758; clear HO765; clear HB; clear HI762; have BK758 := n0_; have HO765 := n1_; have HB := n2_; have HI762 := n3_; clear n0_ n1_ n2_ n3_; (try clear hb); (try clear hb2); (try clear hk); (try clear hi)) | ((with_reducible refine gate_callee (f := 43) rfl ?_); refine gl_ (some 23) Try.func43 #[.pointer (some ⟨g762, 0, none⟩), .int .i64 (wrap64 ((t763.length : Int) + 1))] ?_; (with_reducible refine (spec_l4DrawAt.calls g762 t759 t769 t770 (wrap64 ((t763.length : Int) + 1)) t771 t772 t773 w _ ?side1 ?side2 A5.out).mono ?_); (case side1 => repeat (first | (with_reducible first | exact HI762.out | apply IsS86.alloc | apply IsS86.drewN | apply IsS86.drew | apply IsS86.set_1 | apply IsS86.set_2 | refine IsS86.far ?_ NB762_758.out _) | exact HI762.out)); (case side2 => repeat (first | (with_reducible first | exact HB.out | apply b1 | apply b2 | apply b3 | refine below_set ?_ (IsS86.ge HI762.out) | refine below_set ?_ GE758.out) | exact HB.out)); rintro e w12 ⟨rfl, hi, hb, hk⟩; refine ⟨_, rfl, ?_⟩; have n0_ := am (KeepBut.blk hk (g' := gb758) (o := .cells #[.int .i64 0, .int .i64 0, .bool false, .bool false, .bool false] 29 (0, 0)) (rk BK758) NB758_762.out (by simp)); have n1_ := am (Kd.R_mono (Kd.R_keep (IsS86.apart (show IsS86 w _ g762 t759 t769 t770 from by repeat (first | (with_reducible first | exact HI762.out | apply IsS86.alloc | apply IsS86.drewN | apply IsS86.drew | apply IsS86.set_1 | apply IsS86.set_2 | refine IsS86.far ?_ NB762_758.out _) | exact HI762.out)) (rr HO765) (by decide)) hk (fun _ h => h.2)) (fun _ h => h.1)); have n2_ := am (hb); have n3_ := am (hi); clear BK758; clear HO765; clear HB; clear HI762; have BK758 := n0_; have HO765 := n1_; have HB := n2_; have HI762 := n3_; clear n0_ n1_ n2_ n3_; (try clear hb); (try clear hb2); (try clear hk); (try clear hi)) | ((with_reducible refine gate_callee (f := 44) rfl ?_); refine gl_ (some 25) Try.func44 #[.pointer (some ⟨g762, 0, none⟩)] ?_; (with_reducible refine (spec_l3DrawAny.calls g762 t759 t772 t773 t774 t775 t776 t777 t778 t779 t780 w _ ?side1 ?side2 A6.out).mono ?_); (case side1 => repeat (first | (with_reducible first | exact HI762.out | apply IsS86.alloc | apply IsS86.drewN | apply IsS86.drew | apply IsS86.set_1 | apply IsS86.set_2 | refine IsS86.far ?_ NB762_758.out _) | exact HI762.out)); (case side2 => repeat (first | (with_reducible first | exact HB.out | apply b1 | apply b2 | apply b3 | refine below_set ?_ (IsS86.ge HI762.out) | refine below_set ?_ GE758.out) | exact HB.out)); rintro e w13 ⟨rfl, hi, hb, hk⟩; refine ⟨_, rfl, ?_⟩; have n0_ := am (KeepBut.blk hk (g' := gb758) (o := .cells #[.int .i64 0, .int .i64 0, .bool false, .bool false, .bool false] 29 (0, 0)) (rk BK758) NB758_762.out (by simp)); have n1_ := am (Kd.R_mono (Kd.R_keep (IsS86.apart (show IsS86 w _ g762 t759 t772 t773 from by repeat (first | (with_reducible first | exact HI762.out | apply IsS86.alloc | apply IsS86.drewN | apply IsS86.drew | apply IsS86.set_1 | apply IsS86.set_2 | refine IsS86.far ?_ NB762_758.out _) | exact HI762.out)) (rr HO765) (by decide)) hk (fun _ h => h.2)) (fun _ h => h.1)); have n2_ := am (hb); have n3_ := am (hi); clear BK758; clear HO765; clear HB; clear HI762; have BK758 := n0_; have HO765 := n1_; have HB := n2_; have HI762 := n3_; clear n0_ n1_ n2_ n3_; (try clear hb); (try clear hb2); (try clear hk); (try clear hi); have hnb14 := NB758_762.out; have hnc14 := NB762_758.out; have hcz15_0 : w13.cell? ⟨gb758, 0, none⟩ = some (.int .i64 0) := (blk_cell BK758.out 0).trans rfl; have hcz15_1 : w13.cell? ⟨gb758, 1, none⟩ = some (.int .i64 0) := (blk_cell BK758.out 1).trans rfl; have hcz15_2 : w13.cell? ⟨gb758, 2, none⟩ = some (.bool false) := (blk_cell BK758.out 2).trans rfl; have hcz15_3 : w13.cell? ⟨gb758, 3, none⟩ = some (.bool false) := (blk_cell BK758.out 3).trans rfl; have hcz15_4 : w13.cell? ⟨gb758, 4, none⟩ = some (.bool false) := (blk_cell BK758.out 4).trans rfl; have hfz15_0 := blk_frozen BK758.out 0; have hfz15_1 := blk_frozen BK758.out 1; have hfz15_2 := blk_frozen BK758.out 2; have hfz15_3 := blk_frozen BK758.out 3; have hfz15_4 := blk_frozen BK758.out 4))
 refine bodyPost_ret (results_list (rs := [.tmp 2, .tmp 3, .tmp 4, .cell 5 29]) rfl (by simp) (.tmp (.tmp (.tmp (.cell gb758 29 #[.int .i64 t774, .int .i64 t775, .bool t776, .bool t777, .bool t778] (0, 0) _ rfl (by (with_reducible repeat (first | apply k1 | apply k2 | apply k3)); refine blk_put (cs := #[.int .i64 t774, .int .i64 t775, .bool t776, .bool t777, .bool false]) ?_ 4 _ rfl; (with_reducible repeat (first | apply k1 | apply k2 | apply k3)); refine blk_put (cs := #[.int .i64 t774, .int .i64 t775, .bool t776, .bool false, .bool false]) ?_ 3 _ rfl; (with_reducible repeat (first | apply k1 | apply k2 | apply k3)); refine blk_put (cs := #[.int .i64 t774, .int .i64 t775, .bool false, .bool false, .bool false]) ?_ 2 _ rfl; (with_reducible repeat (first | apply k1 | apply k2 | apply k3)); refine blk_put (cs := #[.int .i64 t774, .int .i64 0, .bool false, .bool false, .bool false]) ?_ 1 _ rfl; (with_reducible repeat (first | apply k1 | apply k2 | apply k3)); refine blk_put (cs := #[.int .i64 0, .int .i64 0, .bool false, .bool false, .bool false]) ?_ 0 _ rfl; (with_reducible repeat (first | apply k1 | apply k2 | apply k3)); exact BK758.out) Try.underlying29 rfl (by kernel_rfl) .nil))))) rfl ?_
 exact ⟨_, by first | rfl | (simp [errW_none, errW_some] <;> rfl) | (simp [*, errW_none, errW_some] <;> rfl), by (with_reducible repeat (first | apply r1 | apply r2 | apply r3)); exact Kd.R_mono (Kd.R_far (p := ⟨gb758, 4, none⟩) (Kd.R_far (p := ⟨gb758, 3, none⟩) (Kd.R_far (p := ⟨gb758, 2, none⟩) (Kd.R_far (p := ⟨gb758, 1, none⟩) (Kd.R_far (p := ⟨gb758, 0, none⟩) (Kd.R_types HO765.out BK758.out (by decide)) (fun _ hk => hk.2) (.int .i64 t774)) (fun _ hk => hk.2) (.int .i64 t775)) (fun _ hk => hk.2) (.bool t776)) (fun _ hk => hk.2) (.bool t777)) (fun _ hk => hk.2) (.bool t778)) (fun _ hk => trivial), by repeat (first | (with_reducible first | exact HB.out | apply b1 | apply b2 | apply b3 | refine below_set ?_ (IsS86.ge HI762.out) | refine below_set ?_ GE758.out) | exact HB.out)⟩

/-! ### laws_likeRow: function 20 -/
def laws_likeRow.l0 : Nat → List (S40) → List (S40) → Int → Option (Bool)
 | 0, _, _, _ => none
 | k + 1, x0, x1, x5 => if x5 < (x0.length : Int) then (if 0 ≤ x5 then (if x5 < (x1.length : Int) then (if (!(((rd_T40 x0 x5).f0) == ((rd_T40 x1 x5).f0)) || ((!(((rd_T40 x0 x5).f1.f0) == ((rd_T40 x1 x5).f1.f0)) || (!(((rd_T40 x0 x5).f1.f1) == ((rd_T40 x1 x5).f1.f1)) || (!(((rd_T40 x0 x5).f1.f2) == ((rd_T40 x1 x5).f1.f2)) || (!(((rd_T40 x0 x5).f1.f3) == ((rd_T40 x1 x5).f1.f3)) || (!(((rd_T40 x0 x5).f1.f4) == ((rd_T40 x1 x5).f1.f4))))))) || (!(((rd_T40 x0 x5).f2) == ((rd_T40 x1 x5).f2))))) = true then (some false) else (laws_likeRow.l0 k x0 x1 (wrap64 (x5 + 1)))) else (none)) else (none)) else (some true)
def laws_likeRow.f (k : Nat) (l0 : List (S40)) (l1 : List (S40)) : Option (Bool) := if (l0.length : Int) = (l1.length : Int) then (laws_likeRow.l0 k l0 l1 0) else (some false)
theorem laws_likeRow.mono_l : ∀ k, (∀ y0 y1 y2, LeO (laws_likeRow.l0 k y0 y1 y2) (laws_likeRow.l0 (k + 1) y0 y1 y2))
 | 0 => fun _ _ _ r h => by simp [laws_likeRow.l0] at h
 | k + 1 => by
  have ih0 := laws_likeRow.mono_l k
  ·intro y0 y1 y2
   unfold laws_likeRow.l0
   repeat' first
   | (with_reducible exact ih0 _ _ _)
   | (with_reducible exact LeO.refl _)
   | (with_reducible exact LeO.none _)
   | (with_reducible refine LeO.ite ?_ ?_)
   | (with_reducible refine LeO.bind ?_ (fun _ => ?_))
theorem laws_likeRow.mono : ∀ a0 a1 k, LeO (laws_likeRow.f k a0 a1) (laws_likeRow.f (k + 1) a0 a1) := by
 intro a0 a1 k
 have ih0 := laws_likeRow.mono_l k
 unfold laws_likeRow.f
 repeat' first
   | (with_reducible exact ih0 _ _ _)
   | (with_reducible exact LeO.refl _)
   | (with_reducible exact LeO.none _)
   | (with_reducible refine LeO.ite ?_ ?_)
   | (with_reducible refine LeO.bind ?_ (fun _ => ?_))
set_option maxHeartbeats 8000000 in
set_option maxRecDepth 100000 in
theorem laws_likeRow.calls (k : Nat) (A0 : Option Addr) (c0 : Nat) (l0 : List (S40)) (A1 : Option Addr) (c1 : Nat) (l1 : List (S40)) (r : Bool) (w : World) (hr0 : Kd.C k40 w A0 l0.length l0) (hc0 : l0.length ≤ c0) (hr1 : Kd.C k40 w A1 l1.length l1) (hc1 : l1.length ≤ c1) (h : laws_likeRow.f k l0 l1 = some r) :
  Calls Try.prog 20 #[.slice A0 l0.length c0, .slice A1 l1.length c1] w fun e w' => e = .returned (.bool r) ∧ Drawn0 w w' := by
 have hu40 := Try.underlying40
 have HR0 := am hr0
 have HC0 := am hc0
 clear hr0 hc0
 have HR1 := am hr1
 have HC1 := am hc1
 clear hr1 hc1
 have H : (if (l0.length : Int) = (l1.length : Int) then (laws_likeRow.l0 k l0 l1 0) else (some false)) = some r := h
 clear h
 by_cases c3 : (l0.length : Int) = (l1.length : Int)
 ·rw [if_pos c3] at H
  have c3b0 : ((l0.length : Int) == (l1.length : Int)) = true := beq_iff_eq.mpr c3
  have c3b1 : ((l0.length : Int) != (l1.length : Int)) = false := bne_eq_false_iff_eq.mpr c3
  have c3b2 : (l0.length == l1.length) = true := by first | simpa using c3 | (simp at c3 ⊢; omega)
  clear c3
  have H' := am H
  clear H
  go_enter Try.func20, Try.ntmps20
  go_wp2
  repeat (go_quiet (fail); try go_wp2)
  go_loopg [5] k (fun kq v5 w' => ∃ (x5_1 : Int), v5 = .int .i64 x5_1 ∧ Aside0 (laws_likeRow.l0 kq l0 l1 x5_1 = some r) ∧ Aside0 (kq ≤ k) ∧ Drawn0 w w')
  case atStart => exact ⟨(0), (by first | rfl | (simp; done) | (simp [*]; done)), H', ⟨Nat.le_refl _⟩, by repeat (first | exact Drawn0.refl _ | apply Drawn0.step)⟩
  case round =>
   clear H'
   try clear c1
   try clear c2
   try clear p2
   try clear c3
   try clear c3b0
   try clear c3b1
   try clear c3b2
   obtain ⟨x5_1, rfl, HA, HK1, ⟨m1, rfl⟩⟩ := hrel
   cases gk with
   | zero => exact absurd HA.out (by simp [laws_likeRow.l0])
   | succ k1 =>
    have H := HA.out
    clear HA
    simp only [laws_likeRow.l0] at H
    by_cases c4 : x5_1 < (l0.length : Int)
    ·rw [if_pos c4] at H
     have c4b0 : decide (x5_1 < (l0.length : Int)) = true := decide_eq_true c4
     clear c4
     by_cases c5 : 0 ≤ x5_1
     ·rw [if_pos c5] at H
      have c5b0 : decide (0 ≤ x5_1) = true := decide_eq_true c5
      clear c5
      by_cases c6 : x5_1 < (l1.length : Int)
      ·rw [if_pos c6] at H
       have c6b0 : decide (x5_1 < (l1.length : Int)) = true := decide_eq_true c6
       clear c6
       by_cases c7 : (!(((rd_T40 l0 x5_1).f0) == ((rd_T40 l1 x5_1).f0)) || ((!(((rd_T40 l0 x5_1).f1.f0) == ((rd_T40 l1 x5_1).f1.f0)) || (!(((rd_T40 l0 x5_1).f1.f1) == ((rd_T40 l1 x5_1).f1.f1)) || (!(((rd_T40 l0 x5_1).f1.f2) == ((rd_T40 l1 x5_1).f1.f2)) || (!(((rd_T40 l0 x5_1).f1.f3) == ((rd_T40 l1 x5_1).f1.f3)) || (!(((rd_T40 l0 x5_1).f1.f4) == ((rd_T40 l1 x5_1).f1.f4))))))) || (!(((rd_T40 l0 x5_1).f2) == ((rd_T40 l1 x5_1).f2))))) = true
       ·rw [if_pos c7] at H
        have c7b0 : (!(((rd_T40 l0 x5_1).f0) == ((rd_T40 l1 x5_1).f0)) || ((!(((rd_T40 l0 x5_1).f1.f0) == ((rd_T40 l1 x5_1).f1.f0)) || (!(((rd_T40 l0 x5_1).f1.f1) == ((rd_T40 l1 x5_1).f1.f1)) || (!(((rd_T40 l0 x5_1).f1.f2) == ((rd_T40 l1 x5_1).f1.f2)) || (!(((rd_T40 l0 x5_1).f1.f3) == ((rd_T40 l1 x5_1).f1.f3)) || (!(((rd_T40 l0 x5_1).f1.f4) == ((rd_T40 l1 x5_1).f1.f4))))))) || (!(((rd_T40 l0 x5_1).f2) == ((rd_T40 l1 x5_1).f2))))) = true := c7
        clear c7
        obtain rfl := Option.some.inj H
        have p781 : 0 ≤ (x5_1 : Int) := dt_
        have q781 : x5_1 < (l0.length : Int) := dt_
        obtain ⟨ad781, e781, hx781_0, hx781_1, hx781_2, hx781_3, hx781_4, hx781_5, hx781_6⟩ := at_T40 HR0.out x5_1 p781 q781
        cases e781
        replace p781 := eq_true p781
        replace q781 := eq_true q781
        have p782 : 0 ≤ (x5_1 : Int) := dt_
        have q782 : x5_1 < (l1.length : Int) := dt_
        obtain ⟨ad782, e782, hx782_0, hx782_1, hx782_2, hx782_3, hx782_4, hx782_5, hx782_6⟩ := at_T40 HR1.out x5_1 p782 q782
        cases e782
        replace p782 := eq_true p782
        replace q782 := eq_true q782
        go_wp2
        repeat (go_quiet (fail); try go_wp2)
        go_ret
        exact ⟨by first | rfl | (simp; done) | (simp [*]; done), by repeat (first | exact Drawn0.refl _ | apply Drawn0.step)⟩
       ·rw [if_neg c7] at H
        have c7b0 : (!(((rd_T40 l0 x5_1).f0) == ((rd_T40 l1 x5_1).f0)) || ((!(((rd_T40 l0 x5_1).f1.f0) == ((rd_T40 l1 x5_1).f1.f0)) || (!(((rd_T40 l0 x5_1).f1.f1) == ((rd_T40 l1 x5_1).f1.f1)) || (!(((rd_T40 l0 x5_1).f1.f2) == ((rd_T40 l1 x5_1).f1.f2)) || (!(((rd_T40 l0 x5_1).f1.f3) == ((rd_T40 l1 x5_1).f1.f3)) || (!(((rd_T40 l0 x5_1).f1.f4) == ((rd_T40 l1 x5_1).f1.f4))))))) || (!(((rd_T40 l0 x5_1).f2) == ((rd_T40 l1 x5_1).f2))))) = false := by simpa using c7
        clear c7
        have H' := am H
        clear H
        have p781 : 0 ≤ (x5_1 : Int) := dt_
        have q781 : x5_1 < (l0.length : Int) := dt_
        obtain ⟨ad781, e781, hx781_0, hx781_1, hx781_2, hx781_3, hx781_4, hx781_5, hx781_6⟩ := at_T40 HR0.out x5_1 p781 q781
        cases e781
        replace p781 := eq_true p781
        replace q781 := eq_true q781
        have p782 : 0 ≤ (x5_1 : Int) := dt_
        have q782 : x5_1 < (l1.length : Int) := dt_
        obtain ⟨ad782, e782, hx782_0, hx782_1, hx782_2, hx782_3, hx782_4, hx782_5, hx782_6⟩ := at_T40 HR1.out x5_1 p782 q782
        cases e782
        replace p782 := eq_true p782
        replace q782 := eq_true q782
        go_wp2
        repeat (go_quiet (fail); try go_wp2)
        go_roundg k1
        case measure => have := HK1.out; omega
        case rel => exact ⟨(wrap64 (x5_1 + 1)), (by first | rfl | (simp; done) | (simp [*]; done)), H', ⟨by have := HK1.out; omega⟩, by repeat (first | exact Drawn0.refl _ | apply Drawn0.step)⟩
      ·rw [if_neg c6] at H
       exact absurd H (by simp)
     ·rw [if_neg c5] at H
      exact absurd H (by simp)
    ·rw [if_neg c4] at H
     have c4b0 : decide (x5_1 < (l0.length : Int)) = false := decide_eq_false c4
     clear c4
     obtain rfl := Option.some.inj H
     go_wp2
     repeat (go_quiet (fail); try go_wp2)
     go_ret
     exact ⟨by first | rfl | (simp; done) | (simp [*]; done), by repeat (first | exact Drawn0.refl _ | apply Drawn0.step)⟩
 ·rw [if_neg c3] at H
  have c3b0 : ((l0.length : Int) == (l1.length : Int)) = false := beq_eq_false_iff_ne.mpr c3
  have c3b1 : ((l0.length : Int) != (l1.length : Int)) = true := bne_iff_ne.mpr c3
  have c3b2 : (l0.length == l1.length) = false := by first | simpa using c3 | (simp at c3 ⊢; omega)
  obtain rfl := Option.some.inj H
  go_enter Try.func20, Try.ntmps20
  go_wp2
  repeat (go_quiet (fail); try go_wp2)
  go_ret
  exact ⟨by first | rfl | (simp; done) | (simp [*]; done), by repeat (first | exact Drawn0.refl _ | apply Drawn0.step)⟩

end Go.Proofs.Ytfhkpneffmcdbaa.QD
