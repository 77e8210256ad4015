/- Contracts of Go functions that laws of this seat reach: each Lean function answers as its Go function does. No condition. Written by wip/tools/inj.py, over the kit's print. -/
import Derived.Test.YtfhkpneffmcdbaaQDx0
import Derived.Test.YtfhkpneffmcdbaaQDx3
import Derived.Test.YtfhkpneffmcdbaaQDx7
import Derived.Test.YtfhkpneffmcdbaaQDx25
import Derived.Test.YtfhkpneffmcdbaaQDx26
namespace Go.Proofs.Ytfhkpneffmcdbaa.QD
open Go.RowKit Go.Proofs.YtfhkpneffmcdbaaW.PrintWords Go.Proofs.YtfhkpneffmcdbaaW.PrintLast Go.Proofs.YtfhkpneffmcdbaaW.PrintMore
attribute [local go_sem] max2_int min2_int max_two min_two max_three min_three max_four min_four   -- for this text's walks alone
set_option linter.unusedVariables false
set_option linter.unusedSimpArgs false

/-! ### spec_l4Draw: function 70 -/
def spec_l4Draw.l0 : Nat → Int → List (S40) → Int → List Int → Int → Int → Option ((List (S40)) × Int × Int)
 | 0, _, _, _, _, _, _ => none
 | k + 1, x1, x5, x6, x1000, x1001, x1002 => if x6 > 0 then ((spec_l4DrawRune.f x1000 x1001 x1002).bind fun bt680 => ((spec_l1Below.f x1000 bt680.2.1 bt680.2.2 x1).bind fun bt683 => ((spec_Width.f k bt680.1).bind fun t686 => (if (wrap64 (bt683.1 + t686)) ≤ x1 then ((spec_l3Draw.f x1000 bt683.2.1 bt683.2.2).bind fun bt687 => ((spec_l4Written.f k x5 bt683.1 bt680.1 bt687.1 bt687.2.1 bt687.2.2.1 bt687.2.2.2.1 bt687.2.2.2.2.1).bind fun t694 => (spec_l4Draw.l0 k x1 t694 (wrap64 (x6 - 1)) x1000 bt687.2.2.2.2.2.1 bt687.2.2.2.2.2.2))) else (spec_l4Draw.l0 k x1 x5 (wrap64 (x6 - 1)) x1000 bt683.2.1 bt683.2.2))))) else (some (x5, x1001, x1002))
def spec_l4Draw.f (k : Nat) (s0_0 : List Int) (s0_1 : Int) (s0_2 : Int) (a1 : Int) : Option ((List (S40)) × Int × Int) := (spec_l4Row.f k a1 0 0 false false false).bind fun t674 => ((spec_l1Below.f s0_0 s0_1 s0_2 7).bind fun bt677 => (spec_l4Draw.l0 k a1 t674 bt677.1 s0_0 bt677.2.1 bt677.2.2))
theorem spec_l4Draw.mono_l : ∀ k, (∀ y0 y1 y2 y3 y4 y5, LeO (spec_l4Draw.l0 k y0 y1 y2 y3 y4 y5) (spec_l4Draw.l0 (k + 1) y0 y1 y2 y3 y4 y5))
 | 0 => fun _ _ _ _ _ _ r h => by simp [spec_l4Draw.l0] at h
 | k + 1 => by
  have ih0 := spec_l4Draw.mono_l k
  ·intro y0 y1 y2 y3 y4 y5
   unfold spec_l4Draw.l0
   repeat' first
   | (with_reducible exact ih0 _ _ _ _ _ _)
   | (with_reducible exact spec_Width.mono _ _)
   | (with_reducible exact spec_l4Row.mono _ _ _ _ _ _ _)
   | (with_reducible exact spec_l4Written.mono _ _ _ _ _ _ _ _ _)
   | (with_reducible exact LeO.refl _)
   | (with_reducible exact LeO.none _)
   | (with_reducible refine LeO.ite ?_ ?_)
   | (with_reducible refine LeO.bind ?_ (fun _ => ?_))
theorem spec_l4Draw.mono : ∀ a0 a1 a2 a3 k, LeO (spec_l4Draw.f k a0 a1 a2 a3) (spec_l4Draw.f (k + 1) a0 a1 a2 a3) := by
 intro a0 a1 a2 a3 k
 have ih0 := spec_l4Draw.mono_l k
 unfold spec_l4Draw.f
 repeat' first
   | (with_reducible exact ih0 _ _ _ _ _ _)
   | (with_reducible exact spec_Width.mono _ _)
   | (with_reducible exact spec_l4Row.mono _ _ _ _ _ _ _)
   | (with_reducible exact spec_l4Written.mono _ _ _ _ _ _ _ _ _)
   | (with_reducible exact LeO.refl _)
   | (with_reducible exact LeO.none _)
   | (with_reducible refine LeO.ite ?_ ?_)
   | (with_reducible refine LeO.bind ?_ (fun _ => ?_))
set_option maxHeartbeats 8000000 in
set_option maxRecDepth 100000 in
theorem spec_l4Draw.calls (k : Nat) (g : Nat) (s0_0 : List Int) (s0_1 : Int) (s0_2 : Int) (a1 : Int) (r1 : List (S40)) (r2 : Int) (r3 : Int) (w0 w : World) (hI : IsS86 w0 w g s0_0 s0_1 s0_2) (hB : Below w0.heap.size w0 w) (h : spec_l4Draw.f k s0_0 s0_1 s0_2 a1 = some (r1, r2, r3)) :
  Calls Try.prog 70 #[.pointer (some ⟨g, 0, none⟩), .int .i64 a1] w fun e w' => ∃ v0_ : Value, e = .returned (v0_) ∧ Kd.R k40 40 w' w.heap.size (fun _ => True) v0_ r1 ∧ IsS86 w0 w' g s0_0 r2 r3 ∧ Below w0.heap.size w0 w' ∧ KeepBut w w' g none := by
 have hu29 := Try.underlying29
 have HI0 := am hI
 have HK := am (KeepBut.refl w g none)
 have HL := am hB.size
 clear hI
 have HW0 := am hB.size
 have HB := am hB
 clear hB
 have H := h
 unfold spec_l4Draw.f at H
 clear h
 replace H := Option.bind_eq_some_iff.mp H
 obtain ⟨t674, A30, H⟩ := H
 (try dsimp only at H)
 have A3 := am A30
 clear A30
 replace H := Option.bind_eq_some_iff.mp H
 obtain ⟨⟨t677, t678, t679⟩, A40, H⟩ := H
 (try dsimp only at H)
 have A4 := am A40
 clear A40
 have H' := am H
 clear H
 go_enter Try.func70, Try.ntmps70
 go_wp2_with (first | ((with_reducible refine gate_callee (f := 61) rfl ?_); refine gl_ (some 11) Try.func61 #[.int .i64 a1, .agg #[.int .i64 0, .int .i64 0, .bool false, .bool false, .bool false]] ?_; (with_reducible refine (spec_l4Row.calls k a1 0 0 false false false t674 _ A3.out).mono ?_); rintro e w5 ⟨v675, rfl, ho0, hb⟩; refine ⟨_, rfl, ?_⟩; have n0_ := am (Kd.R_lower ho0 (keep_size (w := w) (g := g) (row := none) (rkk HK))); have n1_ := am (IsS86.below (ri86 HI0) hb); have n2_ := am (KeepBut.trans (rkk HK) (KeepBut.of_below hb g none) (.inl rfl)); have n3_ := am (below_step (rbi86 HB HI0 IsS86.ge) hb); clear HI0; clear HK; clear HB; have HO676 := n0_; have HI0 := n1_; have HK := n2_; have HB := n3_; clear n0_ n1_ n2_ n3_; (try clear hb); (try clear hb2); (try clear hk); (try clear hi); (try clear ho0)) | ((with_reducible refine gate_callee (f := 71) rfl ?_); refine gl_ (some 13) Try.func71 #[.pointer (some ⟨g, 0, none⟩), .int .i64 7] ?_; (with_reducible refine (spec_l1Below.calls g s0_0 s0_1 s0_2 7 t677 t678 t679 w0 _ ?side1 ?side2 A4.out).mono ?_); (case side1 => exact ri86 HI0); (case side2 => exact rbi86 HB HI0 IsS86.ge); rintro e w6 ⟨rfl, hi, hb, hk⟩; refine ⟨_, rfl, ?_⟩; have n0_ := am (Kd.R_mono (Kd.R_keep (IsS86.apart (show IsS86 w0 _ g s0_0 s0_1 s0_2 from ri86 HI0) (rr HO676) (by decide)) hk (fun _ h => h.2)) (fun _ h => h.1)); have n1_ := am (KeepBut.trans (rkk HK) hk (.inl rfl)); have n2_ := am (hb); have n3_ := am (hi); clear HO676; clear HK; clear HB; clear HI0; have HO676 := n0_; have HK := n1_; have HB := n2_; have HI0 := n3_; clear n0_ n1_ n2_ n3_; (try clear hb); (try clear hb2); (try clear hk); (try clear hi)))
 go_loopg [5, 6] k (fun kq v5 v6 w' => ∃ (x5_1 : List (S40)) (x6_1 : Int) (x1001_1 : Int) (x1002_1 : Int), v6 = .int .i64 x6_1 ∧ Aside0 (spec_l4Draw.l0 kq a1 x5_1 x6_1 s0_0 x1001_1 x1002_1 = some (r1, r2, r3)) ∧ Aside0 (kq ≤ k) ∧ Aside0 (Kd.R k40 40 w' w.heap.size (fun _ => True) v5 x5_1) ∧ Aside0 (IsS86 w0 w' g s0_0 x1001_1 x1002_1) ∧ Aside0 (KeepBut w w' g none) ∧ Aside0 (Below w0.heap.size w0 w'))
 case atStart => exact ⟨(t674), (t677), (t678), (t679), (by first | rfl | (simp; done) | (simp [*]; done)), H', ⟨Nat.le_refl _⟩, ⟨rr HO676⟩, ⟨ri86 HI0⟩, ⟨rkk HK⟩, ⟨rbi86 HB HI0 IsS86.ge⟩⟩
 case round =>
  clear H'
  try clear p2
  try clear c6
  obtain ⟨x5_1, x6_1, x1001_1, x1002_1, rfl, HA, HK1, HO_5, HI0, HK, HB⟩ := hrel
  cases gk with
  | zero => exact absurd HA.out (by simp [spec_l4Draw.l0])
  | succ k1 =>
   have H := HA.out
   clear HA
   simp only [spec_l4Draw.l0] at H
   by_cases c7 : x6_1 > 0
   ·rw [if_pos c7] at H
    have c7b0 : decide (0 < x6_1) = true := decide_eq_true c7
    clear c7
    replace H := Option.bind_eq_some_iff.mp H
    obtain ⟨⟨t680, t681, t682⟩, A80, H⟩ := H
    (try dsimp only at H)
    have A8 := am A80
    clear A80
    replace H := Option.bind_eq_some_iff.mp H
    obtain ⟨⟨t683, t684, t685⟩, A90, H⟩ := H
    (try dsimp only at H)
    have A9 := am A90
    clear A90
    replace H := Option.bind_eq_some_iff.mp H
    obtain ⟨t686, A100, H⟩ := H
    (try dsimp only at H)
    have A10 := am A100
    clear A100
    refine em_ (p := (wrap64 (t683 + t686)) ≤ a1) (fun c11 => ?g0p) (fun c11 => ?g0n)
    case' g0p =>
     rw [if_pos c11] at H
     have c11b0 : decide ((wrap64 (t683 + t686)) ≤ a1) = true := decide_eq_true c11
     clear c11
     replace H := Option.bind_eq_some_iff.mp H
     obtain ⟨⟨t687, t688, t689, t690, t691, t692, t693⟩, A120, H⟩ := H
     (try dsimp only at H)
     have A12 := am A120
     clear A120
     replace H := Option.bind_eq_some_iff.mp H
     obtain ⟨t694, A130, H⟩ := H
     (try dsimp only at H)
     have A13 := am A130
     clear A130
     have H' := am H
     clear H
     have lf1_ := trivial
    case' g0n =>
     rw [if_neg c11] at H
     have c11b0 : decide ((wrap64 (t683 + t686)) ≤ a1) = false := decide_eq_false c11
     clear c11
     have H' := am H
     clear H
     have lf2_ := trivial
    all_goals
     go_wp2_with (first | ((with_reducible refine gate_callee (f := 86) rfl ?_); refine gl_ (some 34) Try.func86 #[.slice Ao17 x5_1.length co17, .int .i64 t683, .int .i64 t680, .agg #[.int .i64 t687, .int .i64 t688, .bool t689, .bool t690, .bool t691]] ?_; (with_reducible refine (spec_l4Written.calls k1 _ _ x5_1 t683 t680 t687 t688 t689 t690 t691 t694 _ ?side1 ?side2 A13.out).mono ?_); (case side1 => repeat (first | exact (Kd.R_reads' HO_5.out).2.2 | (with_reducible refine Kd.C_alloc ?_ _) | (with_reducible refine Kd.C_drewN ?_ _) | (with_reducible refine Kd.C_drew ?_))); (case side2 => exact (Kd.R_reads' HO_5.out).2.1); rintro e w18 ⟨v695, rfl, ho0, hb⟩; refine ⟨_, rfl, ?_⟩; have n0_ := am (Kd.R_elder' (rr HO_5) (Kd.R_base ho0) hb); have n1_ := am (Kd.R_lower (Kd.R_new' ho0 (Kd.R_lt (rr HO_5))) (keep_size (w := w) (g := g) (row := none) (rkk HK))); have n2_ := am (IsS86.below (ri86 HI0) hb); have n3_ := am (KeepBut.trans (rkk HK) (KeepBut.of_below hb g none) (.inl rfl)); have n4_ := am (below_step (rbi86 HB HI0 IsS86.ge) hb); clear HO_5; clear HI0; clear HK; clear HB; have HO_5 := n0_; have HO696 := n1_; have HI0 := n2_; have HK := n3_; have HB := n4_; clear n0_ n1_ n2_ n3_ n4_; (try clear hb); (try clear hb2); (try clear hk); (try clear hi); (try clear ho0)) | ((with_reducible refine gate_callee (f := 75) rfl ?_); refine gl_ (some 33) Try.func75 #[.pointer (some ⟨g, 0, none⟩)] ?_; (with_reducible refine (spec_l3Draw.calls g s0_0 t684 t685 t687 t688 t689 t690 t691 t692 t693 w0 _ ?side1 ?side2 A12.out).mono ?_); (case side1 => exact ri86 HI0); (case side2 => exact rbi86 HB HI0 IsS86.ge); rintro e w16 ⟨rfl, hi, hb, hk⟩; refine ⟨_, rfl, ?_⟩; have n0_ := am (Kd.R_mono (Kd.R_keep (IsS86.apart (show IsS86 w0 _ g s0_0 t684 t685 from ri86 HI0) (rr HO_5) (by decide)) hk (fun _ h => h.2)) (fun _ h => h.1)); have n1_ := am (KeepBut.trans (rkk HK) hk (.inl rfl)); have n2_ := am (hb); have n3_ := am (hi); clear HO_5; clear HK; clear HB; clear HI0; have HO_5 := n0_; have HK := n1_; have HB := n2_; have HI0 := n3_; clear n0_ n1_ n2_ n3_; (try clear hb); (try clear hb2); (try clear hk); (try clear hi); obtain ⟨Ao17, co17, eo17⟩ := Kd.R_slice HO_5.out; subst eo17) | ((with_reducible refine gate_callee (f := 71) rfl ?_); refine gl_ (some 22) Try.func71 #[.pointer (some ⟨g, 0, none⟩), .int .i64 a1] ?_; (with_reducible refine (spec_l1Below.calls g s0_0 t681 t682 a1 t683 t684 t685 w0 _ ?side1 ?side2 A9.out).mono ?_); (case side1 => exact ri86 HI0); (case side2 => exact rbi86 HB HI0 IsS86.ge); rintro e w15 ⟨rfl, hi, hb, hk⟩; refine ⟨_, rfl, ?_⟩; have n0_ := am (Kd.R_mono (Kd.R_keep (IsS86.apart (show IsS86 w0 _ g s0_0 t681 t682 from ri86 HI0) (rr HO_5) (by decide)) hk (fun _ h => h.2)) (fun _ h => h.1)); have n1_ := am (KeepBut.trans (rkk HK) hk (.inl rfl)); have n2_ := am (hb); have n3_ := am (hi); clear HO_5; clear HK; clear HB; clear HI0; have HO_5 := n0_; have HK := n1_; have HB := n2_; have HI0 := n3_; clear n0_ n1_ n2_ n3_; (try clear hb); (try clear hb2); (try clear hk); (try clear hi)) | ((with_reducible refine gate_callee (f := 85) rfl ?_); refine gl_ (some 19) Try.func85 #[.pointer (some ⟨g, 0, none⟩)] ?_; (with_reducible refine (spec_l4DrawRune.calls g s0_0 x1001_1 x1002_1 t680 t681 t682 w0 _ ?side1 ?side2 A8.out).mono ?_); (case side1 => exact ri86 HI0); (case side2 => exact rbi86 HB HI0 IsS86.ge); rintro e w14 ⟨rfl, hi, hb, hk⟩; refine ⟨_, rfl, ?_⟩; have n0_ := am (Kd.R_mono (Kd.R_keep (IsS86.apart (show IsS86 w0 _ g s0_0 x1001_1 x1002_1 from ri86 HI0) (rr HO_5) (by decide)) hk (fun _ h => h.2)) (fun _ h => h.1)); have n1_ := am (KeepBut.trans (rkk HK) hk (.inl rfl)); have n2_ := am (hb); have n3_ := am (hi); clear HO_5; clear HK; clear HB; clear HI0; have HO_5 := n0_; have HK := n1_; have HB := n2_; have HI0 := n3_; clear n0_ n1_ n2_ n3_; (try clear hb); (try clear hb2); (try clear hk); (try clear hi)) | ((with_reducible refine gate_callee (f := 58) rfl ?_); refine gl_ (some 25) Try.func58 #[.int .i64 t680] ?_; (with_reducible refine (spec_Width.calls k1 t680 t686 _ A10.out).mono ?_); rintro e w' ⟨rfl, ⟨nd, rfl⟩⟩; refine ⟨_, rfl, ?_⟩))
     go_roundg k1
     case measure => have := HK1.out; omega
     first
     | (
       have q_ := lf1_
       case rel => exact ⟨(t694), (wrap64 (x6_1 - 1)), (t692), (t693), (by first | rfl | (simp; done) | (simp [*]; done)), H', ⟨by have := HK1.out; omega⟩, ⟨by (with_reducible repeat (first | apply r1 | apply r2 | apply r3)); exact Kd.R_mono HO696.out (fun _ hk => trivial)⟩, ⟨ri86 HI0⟩, ⟨rkk HK⟩, ⟨rbi86 HB HI0 IsS86.ge⟩⟩
       )
     | (
       have q_ := lf2_
       case rel => exact ⟨(x5_1), (wrap64 (x6_1 - 1)), (t684), (t685), (by first | rfl | (simp; done) | (simp [*]; done)), H', ⟨by have := HK1.out; omega⟩, ⟨rr HO_5⟩, ⟨ri86 HI0⟩, ⟨rkk HK⟩, ⟨rbi86 HB HI0 IsS86.ge⟩⟩
       )
   ·rw [if_neg c7] at H
    have c7b0 : decide (0 < x6_1) = false := decide_eq_false c7
    clear c7
    simp only [Option.some.injEq, Prod.mk.injEq] at H
    obtain ⟨rfl, rfl, rfl⟩ := H
    go_wp2
    go_ret
    exact ⟨_, by first | rfl | (simp [errW_none, errW_some] <;> rfl) | (simp [*, errW_none, errW_some] <;> rfl), by (with_reducible repeat (first | apply r1 | apply r2 | apply r3)); exact HO_5.out, ri86 HI0, rbi86 HB HI0 IsS86.ge, rkk HK⟩

/-! ### spec_l1From: function 73 -/
def spec_l1From.f (s0_0 : List Int) (s0_1 : Int) (s0_2 : Int) (a1 : Int) (a2 : Int) : Option (Int × Int × Int) := (spec_l1Below.f s0_0 s0_1 s0_2 (wrap64 ((wrap64 (a2 - a1)) + 1))).bind fun bt697 => (some (wrap64 (a1 + bt697.1), bt697.2.1, bt697.2.2))
set_option maxHeartbeats 8000000 in
set_option maxRecDepth 100000 in
theorem spec_l1From.calls (g : Nat) (s0_0 : List Int) (s0_1 : Int) (s0_2 : Int) (a1 : Int) (a2 : Int) (r1 : Int) (r2 : Int) (r3 : Int) (w0 w : World) (hI : IsS86 w0 w g s0_0 s0_1 s0_2) (hB : Below w0.heap.size w0 w) (h : spec_l1From.f s0_0 s0_1 s0_2 a1 a2 = some (r1, r2, r3)) :
  Calls Try.prog 73 #[.pointer (some ⟨g, 0, none⟩), .int .i64 a1, .int .i64 a2] w fun e w' => e = .returned (.int .i64 r1) ∧ IsS86 w0 w' g s0_0 r2 r3 ∧ Below w0.heap.size w0 w' ∧ KeepBut w w' g none := by
 have HI0 := am hI
 have HK := am (KeepBut.refl w g none)
 have HL := am hB.size
 clear hI
 have HW0 := am hB.size
 have HB := am hB
 clear hB
 have H := h
 unfold spec_l1From.f at H
 clear h
 replace H := Option.bind_eq_some_iff.mp H
 obtain ⟨⟨t697, t698, t699⟩, A40, H⟩ := H
 (try dsimp only at H)
 have A4 := am A40
 clear A40
 simp only [Option.some.injEq, Prod.mk.injEq] at H
 obtain ⟨rfl, rfl, rfl⟩ := H
 go_enter Try.func73, Try.ntmps73
 go_wp2_with (first | ((with_reducible refine gate_callee (f := 71) rfl ?_); refine gl_ (some 13) Try.func71 #[.pointer (some ⟨g, 0, none⟩), .int .i64 (wrap64 ((wrap64 (a2 - a1)) + 1))] ?_; (with_reducible refine (spec_l1Below.calls g s0_0 s0_1 s0_2 (wrap64 ((wrap64 (a2 - a1)) + 1)) t697 t698 t699 w0 _ ?side1 ?side2 A4.out).mono ?_); (case side1 => exact ri86 HI0); (case side2 => exact rbi86 HB HI0 IsS86.ge); rintro e w5 ⟨rfl, hi, hb, hk⟩; refine ⟨_, rfl, ?_⟩; have n0_ := am (KeepBut.trans (rkk HK) hk (.inl rfl)); have n1_ := am (hb); have n2_ := am (hi); clear HK; clear HB; clear HI0; have HK := n0_; have HB := n1_; have HI0 := n2_; clear n0_ n1_ n2_; (try clear hb); (try clear hb2); (try clear hk); (try clear hi)))
 go_ret
 exact ⟨by first | rfl | (simp [errW_none, errW_some] <;> rfl) | (simp [*, errW_none, errW_some] <;> rfl), ri86 HI0, rbi86 HB HI0 IsS86.ge, rkk HK⟩

/-! ### spec_l4DrawAny: function 42 -/
def spec_l4DrawAny.f (k : Nat) (s0_0 : List Int) (s0_1 : Int) (s0_2 : Int) : Option ((List (S40)) × Int × Int) := (spec_l1Below.f s0_0 s0_1 s0_2 9).bind fun bt700 => ((spec_l4Draw.f k s0_0 bt700.2.1 bt700.2.2 (wrap64 (1 + bt700.1))).bind fun bt703 => ((spec_l1Once.f s0_0 bt703.2.1 bt703.2.2 12).bind fun bt708 => (if bt708.1 = true then ((spec_l1Below.f s0_0 bt708.2.1 bt708.2.2 (bt703.1.length : Int)).bind fun bt711 => (if 0 ≤ bt711.1 then (if bt711.1 < (bt703.1.length : Int) then ((spec_l1Below.f s0_0 bt711.2.1 bt711.2.2 4).bind fun bt715 => (if bt715.1 = 0 then ((spec_l1From.f s0_0 bt715.2.1 bt715.2.2 (-1) 4).bind fun bt718 => (some ((bt703.1.set (bt711.1 : Int).toNat (⟨(rd_T40 bt703.1 bt711.1).f0, (⟨(rd_T40 bt703.1 bt711.1).f1.f0, (rd_T40 bt703.1 bt711.1).f1.f1, (rd_T40 bt703.1 bt711.1).f1.f2, (rd_T40 bt703.1 bt711.1).f1.f3, (rd_T40 bt703.1 bt711.1).f1.f4⟩ : S29), bt718.1⟩ : S40)), bt718.2.1, bt718.2.2))) else (if bt715.1 = 1 then ((some (([0, 10, 19968, (-1)] : List Int) : List Int)).bind fun y722 => ((spec_l1Below.f s0_0 bt715.2.1 bt715.2.2 4).bind fun bt725 => (if 0 ≤ bt725.1 then (if bt725.1 < (y722.length : Int) then (some ((bt703.1.set (bt711.1 : Int).toNat (⟨rd y722 bt725.1, (⟨(rd_T40 bt703.1 bt711.1).f1.f0, (rd_T40 bt703.1 bt711.1).f1.f1, (rd_T40 bt703.1 bt711.1).f1.f2, (rd_T40 bt703.1 bt711.1).f1.f3, (rd_T40 bt703.1 bt711.1).f1.f4⟩ : S29), (rd_T40 bt703.1 bt711.1).f2⟩ : S40)), bt725.2.1, bt725.2.2)) else (none)) else (none)))) else (if bt715.1 = 2 then ((spec_l3DrawAny.f s0_0 bt715.2.1 bt715.2.2).bind fun bt730 => (some ((bt703.1.set (bt711.1 : Int).toNat (⟨(rd_T40 bt703.1 bt711.1).f0, (⟨bt730.1, bt730.2.1, bt730.2.2.1, bt730.2.2.2.1, bt730.2.2.2.2.1⟩ : S29), (rd_T40 bt703.1 bt711.1).f2⟩ : S40)), bt730.2.2.2.2.2.1, bt730.2.2.2.2.2.2))) else (if bt715.1 = 3 then ((spec_l1Below.f s0_0 bt715.2.1 bt715.2.2 2).bind fun bt738 => ((spec_l4Row.f k (wrap64 (60 + bt738.1)) 0 0 false false false).bind fun t741 => (some (t741, bt738.2.1, bt738.2.2)))) else (some (bt703.1, bt715.2.1, bt715.2.2))))))) else (none)) else (none))) else (some (bt703.1, bt708.2.1, bt708.2.2)))))
theorem spec_l4DrawAny.mono : ∀ a0 a1 a2 k, LeO (spec_l4DrawAny.f k a0 a1 a2) (spec_l4DrawAny.f (k + 1) a0 a1 a2) := by
 intro a0 a1 a2 k
 unfold spec_l4DrawAny.f
 repeat' first
   | (with_reducible exact spec_l4Draw.mono _ _ _ _ _)
   | (with_reducible exact spec_l4Row.mono _ _ _ _ _ _ _)
   | (with_reducible exact LeO.refl _)
   | (with_reducible exact LeO.none _)
   | (with_reducible refine LeO.ite ?_ ?_)
   | (with_reducible refine LeO.bind ?_ (fun _ => ?_))
set_option maxHeartbeats 8000000 in
set_option maxRecDepth 100000 in
theorem spec_l4DrawAny.calls (k : Nat) (g : Nat) (s0_0 : List Int) (s0_1 : Int) (s0_2 : Int) (r1 : List (S40)) (r2 : Int) (r3 : Int) (w0 w : World) (hI : IsS86 w0 w g s0_0 s0_1 s0_2) (hB : Below w0.heap.size w0 w) (h : spec_l4DrawAny.f k s0_0 s0_1 s0_2 = some (r1, r2, r3)) :
  Calls Try.prog 42 #[.pointer (some ⟨g, 0, none⟩)] w fun e w' => ∃ v0_ : Value, e = .returned (v0_) ∧ Kd.R k40 40 w' w.heap.size (fun _ => True) v0_ r1 ∧ IsS86 w0 w' g s0_0 r2 r3 ∧ Below w0.heap.size w0 w' ∧ KeepBut w w' g none := by
 have hu29 := Try.underlying29
 have HI0 := am hI
 have HK := am (KeepBut.refl w g none)
 have HL := am hB.size
 clear hI
 have HW0 := am hB.size
 have HB := am hB
 clear hB
 have H := h
 unfold spec_l4DrawAny.f at H
 clear h
 replace H := Option.bind_eq_some_iff.mp H
 obtain ⟨⟨t700, t701, t702⟩, A20, H⟩ := H
 (try dsimp only at H)
 have A2 := am A20
 clear A20
 replace H := Option.bind_eq_some_iff.mp H
 obtain ⟨⟨t703, t706, t707⟩, A30, H⟩ := H
 (try dsimp only at H)
 have A3 := am A30
 clear A30
 replace H := Option.bind_eq_some_iff.mp H
 obtain ⟨⟨t708, t709, t710⟩, A40, H⟩ := H
 (try dsimp only at H)
 have A4 := am A40
 clear A40
 refine em_ (p := t708 = true) (fun c5 => ?g9p) (fun c5 => ?g9n)
 case' g9p =>
  subst c5
  rw [if_pos rfl] at H
  replace H := Option.bind_eq_some_iff.mp H
  obtain ⟨⟨t711, t712, t713⟩, A60, H⟩ := H
  (try dsimp only at H)
  have A6 := am A60
  clear A60
  refine em_ (p := 0 ≤ t711) (fun c7 => ?g8p) (fun c7 => ?g8n)
  case' g8p =>
   rw [if_pos c7] at H
   have c7b0 : decide (0 ≤ t711) = true := decide_eq_true c7
   clear c7
   refine em_ (p := t711 < (t703.length : Int)) (fun c8 => ?g7p) (fun c8 => ?g7n)
   case' g7p =>
    rw [if_pos c8] at H
    have c8b0 : decide (t711 < (t703.length : Int)) = true := decide_eq_true c8
    clear c8
    replace H := Option.bind_eq_some_iff.mp H
    obtain ⟨⟨t715, t716, t717⟩, A90, H⟩ := H
    (try dsimp only at H)
    have A9 := am A90
    clear A90
    refine em_ (p := t715 = 0) (fun c10 => ?g6p) (fun c10 => ?g6n)
    case' g6p =>
     rw [if_pos c10] at H
     have c10b0 : (t715 == 0) = true := beq_iff_eq.mpr c10
     have c10b1 : (t715 != 0) = false := bne_eq_false_iff_eq.mpr c10
     clear c10
     replace H := Option.bind_eq_some_iff.mp H
     obtain ⟨⟨t718, t719, t720⟩, A110, H⟩ := H
     (try dsimp only at H)
     have A11 := am A110
     clear A110
     obtain ⟨y721, hy721⟩ : ∃ y_ : List (S40), y_ = (t703.set (t711 : Int).toNat (⟨(rd_T40 t703 t711).f0, (⟨(rd_T40 t703 t711).f1.f0, (rd_T40 t703 t711).f1.f1, (rd_T40 t703 t711).f1.f2, (rd_T40 t703 t711).f1.f3, (rd_T40 t703 t711).f1.f4⟩ : S29), t718⟩ : S40)) := ⟨_, rfl⟩
     replace H : (some (y721, t719, t720)) = some (r1, r2, r3) := by first | (rw [hy721]; with_reducible exact H) | (rw [hy721]; exact H) | exact H
     have Ny721 := am hy721
     clear hy721
     simp only [Option.some.injEq, Prod.mk.injEq] at H
     obtain ⟨rfl, rfl, rfl⟩ := H
     have lf4_ := trivial
    case' g6n =>
     rw [if_neg c10] at H
     have c10b0 : (t715 == 0) = false := beq_eq_false_iff_ne.mpr c10
     have c10b1 : (t715 != 0) = true := bne_iff_ne.mpr c10
     refine em_ (p := t715 = 1) (fun c22 => ?g5p) (fun c22 => ?g5n)
     case' g5p =>
      rw [if_pos c22] at H
      have c22b0 : (t715 == 1) = true := beq_iff_eq.mpr c22
      have c22b1 : (t715 != 1) = false := bne_eq_false_iff_eq.mpr c22
      clear c22
      obtain ⟨y722, hy722⟩ : ∃ y_ : List Int, y_ = (([0, 10, 19968, (-1)] : List Int)) := ⟨_, rfl⟩
      replace H : ((spec_l1Below.f s0_0 t716 t717 4).bind fun bt725 => (if 0 ≤ bt725.1 then (if bt725.1 < (y722.length : Int) then (some ((t703.set (t711 : Int).toNat (⟨rd y722 bt725.1, (⟨(rd_T40 t703 t711).f1.f0, (rd_T40 t703 t711).f1.f1, (rd_T40 t703 t711).f1.f2, (rd_T40 t703 t711).f1.f3, (rd_T40 t703 t711).f1.f4⟩ : S29), (rd_T40 t703 t711).f2⟩ : S40)), bt725.2.1, bt725.2.2)) else (none)) else (none))) = some (r1, r2, r3) := by first | (rw [hy722]; with_reducible exact H) | (rw [hy722]; exact H) | exact H
      have Ny722 := am hy722
      clear hy722
      replace H := Option.bind_eq_some_iff.mp H
      obtain ⟨⟨t725, t726, t727⟩, A230, H⟩ := H
      (try dsimp only at H)
      have A23 := am A230
      clear A230
      refine em_ (p := 0 ≤ t725) (fun c24 => ?g2p) (fun c24 => ?g2n)
      case' g2p =>
       rw [if_pos c24] at H
       have c24b0 : decide (0 ≤ t725) = true := decide_eq_true c24
       clear c24
       refine em_ (p := t725 < (y722.length : Int)) (fun c25 => ?g1p) (fun c25 => ?g1n)
       case' g1p =>
        rw [if_pos c25] at H
        have c25b0 : decide (t725 < (y722.length : Int)) = true := decide_eq_true c25
        clear c25
        obtain ⟨y729, hy729⟩ : ∃ y_ : List (S40), y_ = (t703.set (t711 : Int).toNat (⟨rd y722 t725, (⟨(rd_T40 t703 t711).f1.f0, (rd_T40 t703 t711).f1.f1, (rd_T40 t703 t711).f1.f2, (rd_T40 t703 t711).f1.f3, (rd_T40 t703 t711).f1.f4⟩ : S29), (rd_T40 t703 t711).f2⟩ : S40)) := ⟨_, rfl⟩
        replace H : (some (y729, t726, t727)) = some (r1, r2, r3) := by first | (rw [hy729]; with_reducible exact H) | (rw [hy729]; exact H) | exact H
        have Ny729 := am hy729
        clear hy729
        simp only [Option.some.injEq, Prod.mk.injEq] at H
        obtain ⟨rfl, rfl, rfl⟩ := H
        have lf5_ := trivial
       case g1n =>
        rw [if_neg c25] at H
        exact absurd H (by simp)
      case g2n =>
       rw [if_neg c24] at H
       exact absurd H (by simp)
     case' g5n =>
      rw [if_neg c22] at H
      have c22b0 : (t715 == 1) = false := beq_eq_false_iff_ne.mpr c22
      have c22b1 : (t715 != 1) = true := bne_iff_ne.mpr c22
      refine em_ (p := t715 = 2) (fun c39 => ?g4p) (fun c39 => ?g4n)
      case' g4p =>
       rw [if_pos c39] at H
       have c39b0 : (t715 == 2) = true := beq_iff_eq.mpr c39
       have c39b1 : (t715 != 2) = false := bne_eq_false_iff_eq.mpr c39
       clear c39
       replace H := Option.bind_eq_some_iff.mp H
       obtain ⟨⟨t730, t731, t732, t733, t734, t735, t736⟩, A400, H⟩ := H
       (try dsimp only at H)
       have A40 := am A400
       clear A400
       obtain ⟨y737, hy737⟩ : ∃ y_ : List (S40), y_ = (t703.set (t711 : Int).toNat (⟨(rd_T40 t703 t711).f0, (⟨t730, t731, t732, t733, t734⟩ : S29), (rd_T40 t703 t711).f2⟩ : S40)) := ⟨_, rfl⟩
       replace H : (some (y737, t735, t736)) = some (r1, r2, r3) := by first | (rw [hy737]; with_reducible exact H) | (rw [hy737]; exact H) | exact H
       have Ny737 := am hy737
       clear hy737
       simp only [Option.some.injEq, Prod.mk.injEq] at H
       obtain ⟨rfl, rfl, rfl⟩ := H
       have lf6_ := trivial
      case' g4n =>
       rw [if_neg c39] at H
       have c39b0 : (t715 == 2) = false := beq_eq_false_iff_ne.mpr c39
       have c39b1 : (t715 != 2) = true := bne_iff_ne.mpr c39
       refine em_ (p := t715 = 3) (fun c51 => ?g3p) (fun c51 => ?g3n)
       case' g3p =>
        rw [if_pos c51] at H
        have c51b0 : (t715 == 3) = true := beq_iff_eq.mpr c51
        have c51b1 : (t715 != 3) = false := bne_eq_false_iff_eq.mpr c51
        clear c51
        replace H := Option.bind_eq_some_iff.mp H
        obtain ⟨⟨t738, t739, t740⟩, A520, H⟩ := H
        (try dsimp only at H)
        have A52 := am A520
        clear A520
        replace H := Option.bind_eq_some_iff.mp H
        obtain ⟨t741, A530, H⟩ := H
        (try dsimp only at H)
        have A53 := am A530
        clear A530
        simp only [Option.some.injEq, Prod.mk.injEq] at H
        obtain ⟨rfl, rfl, rfl⟩ := H
        have lf7_ := trivial
       case' g3n =>
        rw [if_neg c51] at H
        have c51b0 : (t715 == 3) = false := beq_eq_false_iff_ne.mpr c51
        have c51b1 : (t715 != 3) = true := bne_iff_ne.mpr c51
        simp only [Option.some.injEq, Prod.mk.injEq] at H
        obtain ⟨rfl, rfl, rfl⟩ := H
        have lf8_ := trivial
   case g7n =>
    rw [if_neg c8] at H
    exact absurd H (by simp)
  case g8n =>
   rw [if_neg c7] at H
   exact absurd H (by simp)
 case' g9n =>
  replace c5 := Bool.eq_false_iff.mpr c5
  subst c5
  rw [if_neg (show ¬ (false = true) by decide)] at H
  simp only [Option.some.injEq, Prod.mk.injEq] at H
  obtain ⟨rfl, rfl, rfl⟩ := H
  have lf9_ := trivial
 all_goals
  go_enter Try.func42, Try.ntmps42
  go_wp2_with (first | ((with_reducible refine gate_callee (f := 44) rfl ?_); refine gl_ (some 41) Try.func44 #[.pointer (some ⟨g, 0, none⟩)] ?_; (with_reducible refine (spec_l3DrawAny.calls g s0_0 t716 t717 t730 t731 t732 t733 t734 t735 t736 w0 _ ?side1 ?side2 A40.out).mono ?_); (case side1 => exact ri86 HI0); (case side2 => exact rbi86 HB HI0 IsS86.ge); rintro e w48 ⟨rfl, hi, hb, hk⟩; refine ⟨_, rfl, ?_⟩; have n0_ := am (Kd.R_mono (Kd.R_keep (IsS86.apart (show IsS86 w0 _ g s0_0 t716 t717 from ri86 HI0) (rr HO705) (by decide)) hk (fun _ h => h.2)) (fun _ h => h.1)); have n1_ := am (KeepBut.trans (rkk HK) hk (.inl rfl)); have n2_ := am (hb); have n3_ := am (hi); clear HO705; clear HK; clear HB; clear HI0; have HO705 := n0_; have HK := n1_; have HB := n2_; have HI0 := n3_; clear n0_ n1_ n2_ n3_; (try clear hb); (try clear hb2); (try clear hk); (try clear hi); have p41 : 0 ≤ (t711 : Int) := dt_; have q41 : (t711 : Int) < ((t703.length : Int) : Int) := dt_; obtain ⟨go41, co41, eo41, gb41, gl41, cl41, HG41⟩ := Kd.R_form HO705.out (by omega); (first | cases eo41 | (injection eo41 with ea_ en_ ec_; (first | subst ea_ | (injection ea_ with ea_; subst ea_)); subst ec_; clear en_)); have GB41 := am gb41; have GG41 := am HG41; clear gb41 gl41 HG41; (first | simp only [add_plain] at hx714_0 | skip); (first | simp only [add_plain] at hx714_1 | skip); (first | simp only [add_plain] at hx714_2 | skip); (first | simp only [add_plain] at hx714_3 | skip); (first | simp only [add_plain] at hx714_4 | skip); (first | simp only [add_plain] at hx714_5 | skip); (first | simp only [add_plain] at hx714_6 | skip); obtain ⟨ce41, hcl41, hM41, hcc41, hfr41⟩ := Kd.R_elem HO705.out z40 (t711 : Int) p41 q41; obtain rfl := k40_openM hM41; have hx41_0 : w48.cell? ⟨go41, (t711 : Int).toNat * 7, none⟩ = some (.int .i64 ((rd_T40 t703 t711).f0)) := hcc41 0 _ rfl; have hx41_1 : w48.cell? ⟨go41, (t711 : Int).toNat * 7 + 1, none⟩ = some (.int .i64 ((rd_T40 t703 t711).f1.f0)) := hcc41 1 _ rfl; have hx41_2 : w48.cell? ⟨go41, (t711 : Int).toNat * 7 + 2, none⟩ = some (.int .i64 ((rd_T40 t703 t711).f1.f1)) := hcc41 2 _ rfl; have hx41_3 : w48.cell? ⟨go41, (t711 : Int).toNat * 7 + 3, none⟩ = some (.bool ((rd_T40 t703 t711).f1.f2)) := hcc41 3 _ rfl; have hx41_4 : w48.cell? ⟨go41, (t711 : Int).toNat * 7 + 4, none⟩ = some (.bool ((rd_T40 t703 t711).f1.f3)) := hcc41 4 _ rfl; have hx41_5 : w48.cell? ⟨go41, (t711 : Int).toNat * 7 + 5, none⟩ = some (.bool ((rd_T40 t703 t711).f1.f4)) := hcc41 5 _ rfl; have hx41_6 : w48.cell? ⟨go41, (t711 : Int).toNat * 7 + 6, none⟩ = some (.int .i64 ((rd_T40 t703 t711).f2)) := hcc41 6 _ rfl; have hf41_0 : w48.frozen? ⟨go41, (t711 : Int).toNat * 7, none⟩ = false := hfr41 0; have hf41_1 : w48.frozen? ⟨go41, (t711 : Int).toNat * 7 + 1, none⟩ = false := hfr41 1; have hf41_2 : w48.frozen? ⟨go41, (t711 : Int).toNat * 7 + 2, none⟩ = false := hfr41 2; have hf41_3 : w48.frozen? ⟨go41, (t711 : Int).toNat * 7 + 3, none⟩ = false := hfr41 3; have hf41_4 : w48.frozen? ⟨go41, (t711 : Int).toNat * 7 + 4, none⟩ = false := hfr41 4; have hf41_5 : w48.frozen? ⟨go41, (t711 : Int).toNat * 7 + 5, none⟩ = false := hfr41 5; have hf41_6 : w48.frozen? ⟨go41, (t711 : Int).toNat * 7 + 6, none⟩ = false := hfr41 6; clear hcl41 hcc41 hfr41 hM41; replace p41 := eq_true p41; replace q41 := eq_true q41; have HX49 := am (show Kd.R k40 40 w48 w.heap.size (fun _ => True) (.slice (some ⟨go41, 0, none⟩) t703.length co16) t703 from (rr HO705)); obtain ⟨ce49, hcl49, hM49, hcc49, hfr49⟩ := Kd.R_elem HX49.out z40 (t711 : Int) dt_ (by have h_ : (t711 : Int) < ((t703.length : Int) : Int) := dt_; first | exact h_ | (have e_ := (Kd.R_reads' HO705.out).1; omega) | simpa using h_); obtain rfl := k40_openM hM49; have HP49 := Kd.R_seg HX49.out (t711 : Int) dt_ (by have h_ : (t711 : Int) < ((t703.length : Int) : Int) := dt_; first | exact h_ | (have e_ := (Kd.R_reads' HO705.out).1; omega) | simpa using h_) (seg := [.int .i64 t730, .int .i64 t731, .bool t732, .bool t733, .bool t734]) (j := 1) hcl49 hcc49 (show 6 ≤ 7 from by decide) (x' := (⟨(rd_T40 t703 t711).f0, (⟨t730, t731, t732, t733, t734⟩ : S29), (rd_T40 t703 t711).f2⟩ : S40)) (k40_mkM _ _ _ (⟨(rd_T40 t703 t711).f0, (⟨t730, t731, t732, t733, t734⟩ : S29), (rd_T40 t703 t711).f2⟩ : S40) ) (fun _ hk => hk); have hx49_1 := hcc49 1 _ rfl; (try simp only [show (k40).sz = 7 from rfl, Nat.mul_one, Nat.add_zero] at hx49_1); have hf49_1 := hfr49 1; (try simp only [show (k40).sz = 7 from rfl, Nat.mul_one, Nat.add_zero] at hf49_1); have hx49_2 := hcc49 2 _ rfl; (try simp only [show (k40).sz = 7 from rfl, Nat.mul_one, Nat.add_zero] at hx49_2); have hf49_2 := hfr49 2; (try simp only [show (k40).sz = 7 from rfl, Nat.mul_one, Nat.add_zero] at hf49_2); have hx49_3 := hcc49 3 _ rfl; (try simp only [show (k40).sz = 7 from rfl, Nat.mul_one, Nat.add_zero] at hx49_3); have hf49_3 := hfr49 3; (try simp only [show (k40).sz = 7 from rfl, Nat.mul_one, Nat.add_zero] at hf49_3); have hx49_4 := hcc49 4 _ rfl; (try simp only [show (k40).sz = 7 from rfl, Nat.mul_one, Nat.add_zero] at hx49_4); have hf49_4 := hfr49 4; (try simp only [show (k40).sz = 7 from rfl, Nat.mul_one, Nat.add_zero] at hf49_4); have hx49_5 := hcc49 5 _ rfl; (try simp only [show (k40).sz = 7 from rfl, Nat.mul_one, Nat.add_zero] at hx49_5); have hf49_5 := hfr49 5; (try simp only [show (k40).sz = 7 from rfl, Nat.mul_one, Nat.add_zero] at hf49_5); clear hcl49 hcc49 hfr49 hM49) | ((with_reducible refine gate_callee (f := 71) rfl ?_); refine gl_ (some 32) Try.func71 #[.pointer (some ⟨g, 0, none⟩), .int .i64 4] ?_; (with_reducible refine (spec_l1Below.calls g s0_0 t716 t717 4 t725 t726 t727 w0 _ ?side1 ?side2 A23.out).mono ?_); (case side1 => exact ri86 HI0); (case side2 => exact rbi86 HB HI0 IsS86.ge); rintro e w35 ⟨rfl, hi, hb, hk⟩; refine ⟨_, rfl, ?_⟩; have n0_ := am (Kd.R_mono (Kd.R_keep (IsS86.apart (show IsS86 w0 _ g s0_0 t716 t717 from ri86 HI0) (rr HO705) (by decide)) hk (fun _ h => h.2)) (fun _ h => h.1)); have n1_ := am (Kd.R_mono (Kd.R_keep (IsS86.apart (show IsS86 w0 _ g s0_0 t716 t717 from ri86 HI0) (rr HO724) (by decide)) hk (fun _ h => h.2)) (fun _ h => h.1)); have n2_ := am (KeepBut.trans (rkk HK) hk (.inl rfl)); have n3_ := am (hb); have n4_ := am (hi); clear HO705; clear HO724; clear HK; clear HB; clear HI0; have HO705 := n0_; have HO724 := n1_; have HK := n2_; have HB := n3_; have HI0 := n4_; clear n0_ n1_ n2_ n3_ n4_; (try clear hb); (try clear hb2); (try clear hk); (try clear hi); obtain ⟨Ao36, co36, eo36⟩ := Kd.R_slice HO724.out; subst eo36; have p728 : 0 ≤ (t725 : Int) := dt_; have q728 : t725 < (y722.length : Int) := dt_; obtain ⟨ad728, e728, hx728_0⟩ := Kd.at_int (Kd.R_reads' HO724.out).2.2 t725 p728 q728; cases e728; replace p728 := eq_true p728; replace q728 := eq_true q728; have p26 : 0 ≤ (t711 : Int) := dt_; have q26 : (t711 : Int) < ((t703.length : Int) : Int) := dt_; obtain ⟨go26, co26, eo26, gb26, gl26, cl26, HG26⟩ := Kd.R_form HO705.out (by omega); (first | cases eo26 | (injection eo26 with ea_ en_ ec_; (first | subst ea_ | (injection ea_ with ea_; subst ea_)); subst ec_; clear en_)); have GB26 := am gb26; have GG26 := am HG26; clear gb26 gl26 HG26; (first | simp only [add_plain] at hx714_0 | skip); (first | simp only [add_plain] at hx714_1 | skip); (first | simp only [add_plain] at hx714_2 | skip); (first | simp only [add_plain] at hx714_3 | skip); (first | simp only [add_plain] at hx714_4 | skip); (first | simp only [add_plain] at hx714_5 | skip); (first | simp only [add_plain] at hx714_6 | skip); obtain ⟨ce26, hcl26, hM26, hcc26, hfr26⟩ := Kd.R_elem HO705.out z40 (t711 : Int) p26 q26; obtain rfl := k40_openM hM26; have hx26_0 : w35.cell? ⟨go26, (t711 : Int).toNat * 7, none⟩ = some (.int .i64 ((rd_T40 t703 t711).f0)) := hcc26 0 _ rfl; have hx26_1 : w35.cell? ⟨go26, (t711 : Int).toNat * 7 + 1, none⟩ = some (.int .i64 ((rd_T40 t703 t711).f1.f0)) := hcc26 1 _ rfl; have hx26_2 : w35.cell? ⟨go26, (t711 : Int).toNat * 7 + 2, none⟩ = some (.int .i64 ((rd_T40 t703 t711).f1.f1)) := hcc26 2 _ rfl; have hx26_3 : w35.cell? ⟨go26, (t711 : Int).toNat * 7 + 3, none⟩ = some (.bool ((rd_T40 t703 t711).f1.f2)) := hcc26 3 _ rfl; have hx26_4 : w35.cell? ⟨go26, (t711 : Int).toNat * 7 + 4, none⟩ = some (.bool ((rd_T40 t703 t711).f1.f3)) := hcc26 4 _ rfl; have hx26_5 : w35.cell? ⟨go26, (t711 : Int).toNat * 7 + 5, none⟩ = some (.bool ((rd_T40 t703 t711).f1.f4)) := hcc26 5 _ rfl; have hx26_6 : w35.cell? ⟨go26, (t711 : Int).toNat * 7 + 6, none⟩ = some (.int .i64 ((rd_T40 t703 t711).f2)) := hcc26 6 _ rfl; have hf26_0 : w35.frozen? ⟨go26, (t711 : Int).toNat * 7, none⟩ = false := hfr26 0; have hf26_1 : w35.frozen? ⟨go26, (t711 : Int).toNat * 7 + 1, none⟩ = false := hfr26 1; have hf26_2 : w35.frozen? ⟨go26, (t711 : Int).toNat * 7 + 2, none⟩ = false := hfr26 2; have hf26_3 : w35.frozen? ⟨go26, (t711 : Int).toNat * 7 + 3, none⟩ = false := hfr26 3; have hf26_4 : w35.frozen? ⟨go26, (t711 : Int).toNat * 7 + 4, none⟩ = false := hfr26 4; have hf26_5 : w35.frozen? ⟨go26, (t711 : Int).toNat * 7 + 5, none⟩ = false := hfr26 5; have hf26_6 : w35.frozen? ⟨go26, (t711 : Int).toNat * 7 + 6, none⟩ = false := hfr26 6; clear hcl26 hcc26 hfr26 hM26; replace p26 := eq_true p26; replace q26 := eq_true q26; have HX37 := am (show Kd.R k40 40 w35 w.heap.size (fun _ => True) (.slice (some ⟨go26, 0, none⟩) t703.length co16) t703 from (rr HO705)); obtain ⟨ce37, hcl37, hM37, hcc37, hfr37⟩ := Kd.R_elem HX37.out z40 (t711 : Int) dt_ (by have h_ : (t711 : Int) < ((t703.length : Int) : Int) := dt_; first | exact h_ | (have e_ := (Kd.R_reads' HO705.out).1; omega) | simpa using h_); obtain rfl := k40_openM hM37; have HP37 := Kd.R_seg HX37.out (t711 : Int) dt_ (by have h_ : (t711 : Int) < ((t703.length : Int) : Int) := dt_; first | exact h_ | (have e_ := (Kd.R_reads' HO705.out).1; omega) | simpa using h_) (seg := [.int .i64 (rd y722 t725)]) (j := 0) hcl37 hcc37 (show 1 ≤ 7 from by decide) (x' := (⟨rd y722 t725, (⟨(rd_T40 t703 t711).f1.f0, (rd_T40 t703 t711).f1.f1, (rd_T40 t703 t711).f1.f2, (rd_T40 t703 t711).f1.f3, (rd_T40 t703 t711).f1.f4⟩ : S29), (rd_T40 t703 t711).f2⟩ : S40)) (k40_mkM _ _ _ (⟨rd y722 t725, (⟨(rd_T40 t703 t711).f1.f0, (rd_T40 t703 t711).f1.f1, (rd_T40 t703 t711).f1.f2, (rd_T40 t703 t711).f1.f3, (rd_T40 t703 t711).f1.f4⟩ : S29), (rd_T40 t703 t711).f2⟩ : S40) ) (fun _ hk => hk); have hx37_0 := hcc37 0 _ rfl; (try simp only [show (k40).sz = 7 from rfl, Nat.mul_one, Nat.add_zero] at hx37_0); have hf37_0 := hfr37 0; (try simp only [show (k40).sz = 7 from rfl, Nat.mul_one, Nat.add_zero] at hf37_0); clear hcl37 hcc37 hfr37 hM37) | ((with_reducible refine gate_callee (f := 73) rfl ?_); refine gl_ (some 24) Try.func73 #[.pointer (some ⟨g, 0, none⟩), .int .i64 (-1), .int .i64 4] ?_; (with_reducible refine (spec_l1From.calls g s0_0 t716 t717 (-1) 4 t718 t719 t720 w0 _ ?side1 ?side2 A11.out).mono ?_); (case side1 => exact ri86 HI0); (case side2 => exact rbi86 HB HI0 IsS86.ge); rintro e w19 ⟨rfl, hi, hb, hk⟩; refine ⟨_, rfl, ?_⟩; have n0_ := am (Kd.R_mono (Kd.R_keep (IsS86.apart (show IsS86 w0 _ g s0_0 t716 t717 from ri86 HI0) (rr HO705) (by decide)) hk (fun _ h => h.2)) (fun _ h => h.1)); have n1_ := am (KeepBut.trans (rkk HK) hk (.inl rfl)); have n2_ := am (hb); have n3_ := am (hi); clear HO705; clear HK; clear HB; clear HI0; have HO705 := n0_; have HK := n1_; have HB := n2_; have HI0 := n3_; clear n0_ n1_ n2_ n3_; (try clear hb); (try clear hb2); (try clear hk); (try clear hi); have p12 : 0 ≤ (t711 : Int) := dt_; have q12 : (t711 : Int) < ((t703.length : Int) : Int) := dt_; obtain ⟨go12, co12, eo12, gb12, gl12, cl12, HG12⟩ := Kd.R_form HO705.out (by omega); (first | cases eo12 | (injection eo12 with ea_ en_ ec_; (first | subst ea_ | (injection ea_ with ea_; subst ea_)); subst ec_; clear en_)); have GB12 := am gb12; have GG12 := am HG12; clear gb12 gl12 HG12; (first | simp only [add_plain] at hx714_0 | skip); (first | simp only [add_plain] at hx714_1 | skip); (first | simp only [add_plain] at hx714_2 | skip); (first | simp only [add_plain] at hx714_3 | skip); (first | simp only [add_plain] at hx714_4 | skip); (first | simp only [add_plain] at hx714_5 | skip); (first | simp only [add_plain] at hx714_6 | skip); obtain ⟨ce12, hcl12, hM12, hcc12, hfr12⟩ := Kd.R_elem HO705.out z40 (t711 : Int) p12 q12; obtain rfl := k40_openM hM12; have hx12_0 : w19.cell? ⟨go12, (t711 : Int).toNat * 7, none⟩ = some (.int .i64 ((rd_T40 t703 t711).f0)) := hcc12 0 _ rfl; have hx12_1 : w19.cell? ⟨go12, (t711 : Int).toNat * 7 + 1, none⟩ = some (.int .i64 ((rd_T40 t703 t711).f1.f0)) := hcc12 1 _ rfl; have hx12_2 : w19.cell? ⟨go12, (t711 : Int).toNat * 7 + 2, none⟩ = some (.int .i64 ((rd_T40 t703 t711).f1.f1)) := hcc12 2 _ rfl; have hx12_3 : w19.cell? ⟨go12, (t711 : Int).toNat * 7 + 3, none⟩ = some (.bool ((rd_T40 t703 t711).f1.f2)) := hcc12 3 _ rfl; have hx12_4 : w19.cell? ⟨go12, (t711 : Int).toNat * 7 + 4, none⟩ = some (.bool ((rd_T40 t703 t711).f1.f3)) := hcc12 4 _ rfl; have hx12_5 : w19.cell? ⟨go12, (t711 : Int).toNat * 7 + 5, none⟩ = some (.bool ((rd_T40 t703 t711).f1.f4)) := hcc12 5 _ rfl; have hx12_6 : w19.cell? ⟨go12, (t711 : Int).toNat * 7 + 6, none⟩ = some (.int .i64 ((rd_T40 t703 t711).f2)) := hcc12 6 _ rfl; have hf12_0 : w19.frozen? ⟨go12, (t711 : Int).toNat * 7, none⟩ = false := hfr12 0; have hf12_1 : w19.frozen? ⟨go12, (t711 : Int).toNat * 7 + 1, none⟩ = false := hfr12 1; have hf12_2 : w19.frozen? ⟨go12, (t711 : Int).toNat * 7 + 2, none⟩ = false := hfr12 2; have hf12_3 : w19.frozen? ⟨go12, (t711 : Int).toNat * 7 + 3, none⟩ = false := hfr12 3; have hf12_4 : w19.frozen? ⟨go12, (t711 : Int).toNat * 7 + 4, none⟩ = false := hfr12 4; have hf12_5 : w19.frozen? ⟨go12, (t711 : Int).toNat * 7 + 5, none⟩ = false := hfr12 5; have hf12_6 : w19.frozen? ⟨go12, (t711 : Int).toNat * 7 + 6, none⟩ = false := hfr12 6; clear hcl12 hcc12 hfr12 hM12; replace p12 := eq_true p12; replace q12 := eq_true q12; have HX20 := am (show Kd.R k40 40 w19 w.heap.size (fun _ => True) (.slice (some ⟨go12, 0, none⟩) t703.length co16) t703 from (rr HO705)); obtain ⟨ce20, hcl20, hM20, hcc20, hfr20⟩ := Kd.R_elem HX20.out z40 (t711 : Int) dt_ (by have h_ : (t711 : Int) < ((t703.length : Int) : Int) := dt_; first | exact h_ | (have e_ := (Kd.R_reads' HO705.out).1; omega) | simpa using h_); obtain rfl := k40_openM hM20; have HP20 := Kd.R_seg HX20.out (t711 : Int) dt_ (by have h_ : (t711 : Int) < ((t703.length : Int) : Int) := dt_; first | exact h_ | (have e_ := (Kd.R_reads' HO705.out).1; omega) | simpa using h_) (seg := [.int .i64 t718]) (j := 6) hcl20 hcc20 (show 7 ≤ 7 from by decide) (x' := (⟨(rd_T40 t703 t711).f0, (⟨(rd_T40 t703 t711).f1.f0, (rd_T40 t703 t711).f1.f1, (rd_T40 t703 t711).f1.f2, (rd_T40 t703 t711).f1.f3, (rd_T40 t703 t711).f1.f4⟩ : S29), t718⟩ : S40)) (k40_mkM _ _ _ (⟨(rd_T40 t703 t711).f0, (⟨(rd_T40 t703 t711).f1.f0, (rd_T40 t703 t711).f1.f1, (rd_T40 t703 t711).f1.f2, (rd_T40 t703 t711).f1.f3, (rd_T40 t703 t711).f1.f4⟩ : S29), t718⟩ : S40) ) (fun _ hk => hk); have hx20_6 := hcc20 6 _ rfl; (try simp only [show (k40).sz = 7 from rfl, Nat.mul_one, Nat.add_zero] at hx20_6); have hf20_6 := hfr20 6; (try simp only [show (k40).sz = 7 from rfl, Nat.mul_one, Nat.add_zero] at hf20_6); clear hcl20 hcc20 hfr20 hM20) | ((with_reducible refine gate_dst (N := 30) rfl ?_); refine Kd.R_lit (Kd.int .i64) _ 2 ?hg (N := 30) ?hd (xs := ([0, 10, 19968, (-1)] : List Int)) (inner := [.int .i64 0, .int .i64 10, .int .i64 19968, .int .i64 (-1)]) (ok := fun _ => True) (okp := fun _ => True) ?hr ?hp (fun _ hk => hk) trivial (Below.refl _ _) (Nat.le_refl _) (by simp) ?_; (case hd => rfl); (case hg => rfl); (case hr => first | (go_simp; done) | (go_simp; rfl)); (case hp => exact (Reps.one (show Kd.M (Kd.int .i64) _ _ _ 0 [.int .i64 0] from rfl) (Reps.one (show Kd.M (Kd.int .i64) _ _ _ 10 [.int .i64 10] from rfl) (Reps.one (show Kd.M (Kd.int .i64) _ _ _ 19968 [.int .i64 19968] from rfl) (Reps.one (show Kd.M (Kd.int .i64) _ _ _ (-1) [.int .i64 (-1)] from rfl) (Reps.none _ _)))))); intro v723 w33 ho34 hb hg_ hnew_; clear hg_ hnew_; (first | rw [← Ny722.out] at ho34 | (simp only [Int.reduceToNat] at ho34; rw [← Ny722.out] at ho34)); have n0_ := am (Kd.R_below (rr HO705) hb); have n1_ := am (Kd.R_lower ho34 (keep_size (w := w) (g := g) (row := none) (rkk HK))); have n2_ := am (IsS86.below (ri86 HI0) hb); have n3_ := am (KeepBut.trans (rkk HK) (KeepBut.of_below hb g none) (.inl rfl)); have n4_ := am (below_step (rbi86 HB HI0 IsS86.ge) hb); clear HO705; clear HI0; clear HK; clear HB; have HO705 := n0_; have HO724 := n1_; have HI0 := n2_; have HK := n3_; have HB := n4_; clear n0_ n1_ n2_ n3_ n4_; clear hb ho34) | ((with_reducible refine gate_store (t := 29) (p := 43) rfl ?_); refine store_event (t := 29) (p := 43) (v := ?vo_w50) (w1 := (((((w48.setCell ⟨go41, (t711 : Int).toNat * 7 + 1, none⟩ (.int .i64 t730)).setCell ⟨go41, (t711 : Int).toNat * 7 + 2, none⟩ (.int .i64 t731)).setCell ⟨go41, (t711 : Int).toNat * 7 + 3, none⟩ (.bool t732)).setCell ⟨go41, (t711 : Int).toNat * 7 + 4, none⟩ (.bool t733)).setCell ⟨go41, (t711 : Int).toNat * 7 + 5, none⟩ (.bool t734))) ?hg ?ho ?hn ?hr ?_; (case ho => rfl); (case hg => rfl); (case hn => rfl); (case hr => first | (go_simp; done) | (go_simp; rfl)); intro w50 hw; have hg : w48.grownBy w50 (some go41) := (by rw [hw]; exact HP49.2); have hp_ : Kd.R k40 40 w50 w.heap.size (fun _ => True) (.slice (some ⟨go41, 0, none⟩) t703.length co16) y737 := (by rw [hw, Ny737.out]; exact HP49.1); clear HP49; have n0_ := am (IsS86.grown (ri86 HI0) hg (IsS86.own_ne HI0.out HO705.out (by decide))); have n1_ := am (hp_); have n2_ := am ((by rw [hw]; exact below_set (below_set (below_set (below_set (below_set (HB.out) (Nat.le_trans HL.out GB41.out)) (Nat.le_trans HL.out GB41.out)) (Nat.le_trans HL.out GB41.out)) (Nat.le_trans HL.out GB41.out)) (Nat.le_trans HL.out GB41.out) : Below w0.heap.size w0 w50)); have n3_ := am (KeepBut.trans (rkk HK) (KeepBut.of_grown hg g) (Kd.R_base2 HO705.out)); clear HI0; clear HO705; clear HB; clear HK; have HI0 := n0_; have HO705 := n1_; have HB := n2_; have HK := n3_; clear n0_ n1_ n2_ n3_; clear hg hw hp_) | ((with_reducible refine gate_callee (f := 71) rfl ?_); refine gl_ (some 16) Try.func71 #[.pointer (some ⟨g, 0, none⟩), .int .i64 (t703.length : Int)] ?_; (with_reducible refine (spec_l1Below.calls g s0_0 t709 t710 (t703.length : Int) t711 t712 t713 w0 _ ?side1 ?side2 A6.out).mono ?_); (case side1 => exact ri86 HI0); (case side2 => exact rbi86 HB HI0 IsS86.ge); rintro e w17 ⟨rfl, hi, hb, hk⟩; refine ⟨_, rfl, ?_⟩; have n0_ := am (Kd.R_mono (Kd.R_keep (IsS86.apart (show IsS86 w0 _ g s0_0 t709 t710 from ri86 HI0) (rr HO705) (by decide)) hk (fun _ h => h.2)) (fun _ h => h.1)); have n1_ := am (KeepBut.trans (rkk HK) hk (.inl rfl)); have n2_ := am (hb); have n3_ := am (hi); clear HO705; clear HK; clear HB; clear HI0; have HO705 := n0_; have HK := n1_; have HB := n2_; have HI0 := n3_; clear n0_ n1_ n2_ n3_; (try clear hb); (try clear hb2); (try clear hk); (try clear hi); have p714 : 0 ≤ (t711 : Int) := dt_; have q714 : t711 < (t703.length : Int) := dt_; obtain ⟨ad714, e714, hx714_0, hx714_1, hx714_2, hx714_3, hx714_4, hx714_5, hx714_6⟩ := at_T40 (Kd.R_reads' HO705.out).2.2 t711 p714 q714; cases e714; replace p714 := eq_true p714; replace q714 := eq_true q714) | ((with_reducible refine gate_callee (f := 61) rfl ?_); refine gl_ (some 50) Try.func61 #[.int .i64 (wrap64 (60 + t738)), .agg #[.int .i64 0, .int .i64 0, .bool false, .bool false, .bool false]] ?_; (with_reducible refine (spec_l4Row.calls k (wrap64 (60 + t738)) 0 0 false false false t741 _ A53.out).mono ?_); rintro e w61 ⟨v742, rfl, ho0, hb⟩; refine ⟨_, rfl, ?_⟩; have n0_ := am (Kd.R_elder' (rr HO705) (Kd.R_base ho0) hb); have n1_ := am (Kd.R_lower (Kd.R_new' ho0 (Kd.R_lt (rr HO705))) (keep_size (w := w) (g := g) (row := none) (rkk HK))); have n2_ := am (IsS86.below (ri86 HI0) hb); have n3_ := am (KeepBut.trans (rkk HK) (KeepBut.of_below hb g none) (.inl rfl)); have n4_ := am (below_step (rbi86 HB HI0 IsS86.ge) hb); clear HO705; clear HI0; clear HK; clear HB; have HO705 := n0_; have HO743 := n1_; have HI0 := n2_; have HK := n3_; have HB := n4_; clear n0_ n1_ n2_ n3_ n4_; (try clear hb); (try clear hb2); (try clear hk); (try clear hi); (try clear ho0)) | ((with_reducible refine gate_store (t := 2) (p := 36) rfl ?_); refine store_event (t := 2) (p := 36) (v := ?vo_w38) (w1 := (w35.setCell ⟨go26, (t711 : Int).toNat * 7, none⟩ (.int .i64 (rd y722 t725)))) ?hg ?ho ?hn ?hr ?_; (case ho => rfl); (case hg => rfl); (case hn => rfl); (case hr => first | (go_simp; done) | (go_simp; rfl)); intro w38 hw; have hg : w35.grownBy w38 (some go26) := (by rw [hw]; exact HP37.2); have hp_ : Kd.R k40 40 w38 w.heap.size (fun _ => True) (.slice (some ⟨go26, 0, none⟩) t703.length co16) y729 := (by rw [hw, Ny729.out]; exact HP37.1); clear HP37; have n0_ := am (IsS86.grown (ri86 HI0) hg (IsS86.own_ne HI0.out HO705.out (by decide))); have n1_ := am (hp_); have n2_ := am (Kd.R_over' (v := (.slice (some ⟨go26, 0, none⟩) t703.length co16)) (rr HO724) (Kd.R_typed HO705.out) (by decide) hg); have n3_ := am ((by rw [hw]; exact below_set (HB.out) (Nat.le_trans HL.out GB26.out) : Below w0.heap.size w0 w38)); have n4_ := am (KeepBut.trans (rkk HK) (KeepBut.of_grown hg g) (Kd.R_base2 HO705.out)); clear HI0; clear HO705; clear HO724; clear HB; clear HK; have HI0 := n0_; have HO705 := n1_; have HO724 := n2_; have HB := n3_; have HK := n4_; clear n0_ n1_ n2_ n3_ n4_; clear hg hw hp_) | ((with_reducible refine gate_callee (f := 72) rfl ?_); refine gl_ (some 11) Try.func72 #[.pointer (some ⟨g, 0, none⟩), .int .i64 12] ?_; (with_reducible refine (spec_l1Once.calls g s0_0 t706 t707 12 true t709 t710 w0 _ ?side1 ?side2 A4.out).mono ?_); (case side1 => exact ri86 HI0); (case side2 => exact rbi86 HB HI0 IsS86.ge); rintro e w15 ⟨rfl, hi, hb, hk⟩; refine ⟨_, rfl, ?_⟩; have n0_ := am (Kd.R_mono (Kd.R_keep (IsS86.apart (show IsS86 w0 _ g s0_0 t706 t707 from ri86 HI0) (rr HO705) (by decide)) hk (fun _ h => h.2)) (fun _ h => h.1)); have n1_ := am (KeepBut.trans (rkk HK) hk (.inl rfl)); have n2_ := am (hb); have n3_ := am (hi); clear HO705; clear HK; clear HB; clear HI0; have HO705 := n0_; have HK := n1_; have HB := n2_; have HI0 := n3_; clear n0_ n1_ n2_ n3_; (try clear hb); (try clear hb2); (try clear hk); (try clear hi); obtain ⟨Ao16, co16, eo16⟩ := Kd.R_slice HO705.out; subst eo16) | ((with_reducible refine gate_callee (f := 72) rfl ?_); refine gl_ (some 11) Try.func72 #[.pointer (some ⟨g, 0, none⟩), .int .i64 12] ?_; (with_reducible refine (spec_l1Once.calls g s0_0 t706 t707 12 false t709 t710 w0 _ ?side1 ?side2 A4.out).mono ?_); (case side1 => exact ri86 HI0); (case side2 => exact rbi86 HB HI0 IsS86.ge); rintro e w70 ⟨rfl, hi, hb, hk⟩; refine ⟨_, rfl, ?_⟩; have n0_ := am (Kd.R_mono (Kd.R_keep (IsS86.apart (show IsS86 w0 _ g s0_0 t706 t707 from ri86 HI0) (rr HO705) (by decide)) hk (fun _ h => h.2)) (fun _ h => h.1)); have n1_ := am (KeepBut.trans (rkk HK) hk (.inl rfl)); have n2_ := am (hb); have n3_ := am (hi); clear HO705; clear HK; clear HB; clear HI0; have HO705 := n0_; have HK := n1_; have HB := n2_; have HI0 := n3_; clear n0_ n1_ n2_ n3_; (try clear hb); (try clear hb2); (try clear hk); (try clear hi)) | ((with_reducible refine gate_callee (f := 71) rfl ?_); refine gl_ (some 47) Try.func71 #[.pointer (some ⟨g, 0, none⟩), .int .i64 2] ?_; (with_reducible refine (spec_l1Below.calls g s0_0 t716 t717 2 t738 t739 t740 w0 _ ?side1 ?side2 A52.out).mono ?_); (case side1 => exact ri86 HI0); (case side2 => exact rbi86 HB HI0 IsS86.ge); rintro e w60 ⟨rfl, hi, hb, hk⟩; refine ⟨_, rfl, ?_⟩; have n0_ := am (Kd.R_mono (Kd.R_keep (IsS86.apart (show IsS86 w0 _ g s0_0 t716 t717 from ri86 HI0) (rr HO705) (by decide)) hk (fun _ h => h.2)) (fun _ h => h.1)); have n1_ := am (KeepBut.trans (rkk HK) hk (.inl rfl)); have n2_ := am (hb); have n3_ := am (hi); clear HO705; clear HK; clear HB; clear HI0; have HO705 := n0_; have HK := n1_; have HB := n2_; have HI0 := n3_; clear n0_ n1_ n2_ n3_; (try clear hb); (try clear hb2); (try clear hk); (try clear hi)) | ((with_reducible refine gate_callee (f := 71) rfl ?_); refine gl_ (some 19) Try.func71 #[.pointer (some ⟨g, 0, none⟩), .int .i64 4] ?_; (with_reducible refine (spec_l1Below.calls g s0_0 t712 t713 4 t715 t716 t717 w0 _ ?side1 ?side2 A9.out).mono ?_); (case side1 => exact ri86 HI0); (case side2 => exact rbi86 HB HI0 IsS86.ge); rintro e w18 ⟨rfl, hi, hb, hk⟩; refine ⟨_, rfl, ?_⟩; have n0_ := am (Kd.R_mono (Kd.R_keep (IsS86.apart (show IsS86 w0 _ g s0_0 t712 t713 from ri86 HI0) (rr HO705) (by decide)) hk (fun _ h => h.2)) (fun _ h => h.1)); have n1_ := am (KeepBut.trans (rkk HK) hk (.inl rfl)); have n2_ := am (hb); have n3_ := am (hi); clear HO705; clear HK; clear HB; clear HI0; have HO705 := n0_; have HK := n1_; have HB := n2_; have HI0 := n3_; clear n0_ n1_ n2_ n3_; (try clear hb); (try clear hb2); (try clear hk); (try clear hi)) | ((with_reducible refine gate_callee (f := 70) rfl ?_); refine gl_ (some 9) Try.func70 #[.pointer (some ⟨g, 0, none⟩), .int .i64 (wrap64 (1 + t700))] ?_; (with_reducible refine (spec_l4Draw.calls k g s0_0 t701 t702 (wrap64 (1 + t700)) t703 t706 t707 w0 _ ?side1 ?side2 A3.out).mono ?_); (case side1 => exact ri86 HI0); (case side2 => exact rbi86 HB HI0 IsS86.ge); rintro e w14 ⟨v704, rfl, ho0, hi, hb, hk⟩; refine ⟨_, rfl, ?_⟩; have n0_ := am (Kd.R_lower ho0 (keep_size (w := w) (g := g) (row := none) (rkk HK))); have n1_ := am (KeepBut.trans (rkk HK) hk (.inl rfl)); have n2_ := am (hb); have n3_ := am (hi); clear HK; clear HB; clear HI0; have HO705 := n0_; have HK := n1_; have HB := n2_; have HI0 := n3_; clear n0_ n1_ n2_ n3_; (try clear hb); (try clear hb2); (try clear hk); (try clear hi); (try clear ho0)) | ((with_reducible refine gate_store (t := 2) (p := 26) rfl ?_); refine store_event (t := 2) (p := 26) (v := ?vo_w21) (w1 := (w19.setCell ⟨go12, (t711 : Int).toNat * 7 + 6, none⟩ (.int .i64 t718))) ?hg ?ho ?hn ?hr ?_; (case ho => rfl); (case hg => rfl); (case hn => rfl); (case hr => first | (go_simp; done) | (go_simp; rfl)); intro w21 hw; have hg : w19.grownBy w21 (some go12) := (by rw [hw]; exact HP20.2); have hp_ : Kd.R k40 40 w21 w.heap.size (fun _ => True) (.slice (some ⟨go12, 0, none⟩) t703.length co16) y721 := (by rw [hw, Ny721.out]; exact HP20.1); clear HP20; have n0_ := am (IsS86.grown (ri86 HI0) hg (IsS86.own_ne HI0.out HO705.out (by decide))); have n1_ := am (hp_); have n2_ := am ((by rw [hw]; exact below_set (HB.out) (Nat.le_trans HL.out GB12.out) : Below w0.heap.size w0 w21)); have n3_ := am (KeepBut.trans (rkk HK) (KeepBut.of_grown hg g) (Kd.R_base2 HO705.out)); clear HI0; clear HO705; clear HB; clear HK; have HI0 := n0_; have HO705 := n1_; have HB := n2_; have HK := n3_; clear n0_ n1_ n2_ n3_; clear hg hw hp_) | ((with_reducible refine gate_callee (f := 71) rfl ?_); refine gl_ (some 7) Try.func71 #[.pointer (some ⟨g, 0, none⟩), .int .i64 9] ?_; (with_reducible refine (spec_l1Below.calls g s0_0 s0_1 s0_2 9 t700 t701 t702 w0 _ ?side1 ?side2 A2.out).mono ?_); (case side1 => exact ri86 HI0); (case side2 => exact rbi86 HB HI0 IsS86.ge); rintro e w13 ⟨rfl, hi, hb, hk⟩; refine ⟨_, rfl, ?_⟩; have n0_ := am (KeepBut.trans (rkk HK) hk (.inl rfl)); have n1_ := am (hb); have n2_ := am (hi); clear HK; clear HB; clear HI0; have HK := n0_; have HB := n1_; have HI0 := n2_; clear n0_ n1_ n2_; (try clear hb); (try clear hb2); (try clear hk); (try clear hi)))
  go_ret
  first
  | (
    first | have q_ := lf4_ | have q_ := lf5_ | have q_ := lf6_ | have q_ := lf8_ | have q_ := lf9_
    exact ⟨_, by first | rfl | (simp [errW_none, errW_some] <;> rfl) | (simp [*, errW_none, errW_some] <;> rfl), by (with_reducible repeat (first | apply r1 | apply r2 | apply r3)); exact HO705.out, ri86 HI0, rbi86 HB HI0 IsS86.ge, rkk HK⟩
    )
  | (
    have q_ := lf7_
    exact ⟨_, by first | rfl | (simp [errW_none, errW_some] <;> rfl) | (simp [*, errW_none, errW_some] <;> rfl), by (with_reducible repeat (first | apply r1 | apply r2 | apply r3)); exact Kd.R_mono HO743.out (fun _ hk => trivial), ri86 HI0, rbi86 HB HI0 IsS86.ge, rkk HK⟩
    )

/-! ### spec_l1Max: function 74 -/
def spec_l1Max.f (a0 : Int) (a1 : Int) : Option (Int) := if a0 > a1 then (some a0) else (some a1)
set_option maxHeartbeats 8000000 in
set_option maxRecDepth 100000 in
theorem spec_l1Max.calls (a0 : Int) (a1 : Int) (r : Int) (w : World) (h : spec_l1Max.f a0 a1 = some r) :
  Calls Try.prog 74 #[.int .i64 a0, .int .i64 a1] w fun e w' => e = .returned (.int .i64 r) ∧ Drawn0 w w' := by
 have H : (if a0 > a1 then (some a0) else (some a1)) = some r := h
 clear h
 by_cases c3 : a0 > a1
 ·rw [if_pos c3] at H
  have c3b0 : decide (a1 < a0) = true := decide_eq_true c3
  clear c3
  obtain rfl := Option.some.inj H
  go_enter Try.func74, Try.ntmps74
  go_wp2
  go_ret
  exact ⟨by first | rfl | (simp; done) | (simp [*]; done), by repeat (first | exact Drawn0.refl _ | apply Drawn0.step)⟩
 ·rw [if_neg c3] at H
  have c3b0 : decide (a1 < a0) = false := decide_eq_false c3
  clear c3
  obtain rfl := Option.some.inj H
  go_enter Try.func74, Try.ntmps74
  go_wp2
  go_ret
  exact ⟨by first | rfl | (simp; done) | (simp [*]; done), by repeat (first | exact Drawn0.refl _ | apply Drawn0.step)⟩

end Go.Proofs.Ytfhkpneffmcdbaa.QD
