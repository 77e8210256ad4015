/- Contracts of Go functions that laws of this seat reach: each Lean function answers as its Go function does. No condition. Written by wip/tools/inj.py, over the kit's print. -/
import Derived.Test.YtfhkpneffmcdbaaDoorQBx0
import Derived.Test.YtfhkpneffmcdbaaDoorQBx3
import Derived.Test.YtfhkpneffmcdbaaDoorQBx5
import Derived.Test.YtfhkpneffmcdbaaDoorQBx8
import Derived.Test.YtfhkpneffmcdbaaDoorQBx21
namespace Go.Proofs.YtfhkpneffmcdbaaDoor.QB
open Go.RowKit Go.Proofs.YtfhkpneffmcdbaaDoorW.PrintWords Go.Proofs.YtfhkpneffmcdbaaDoorW.PrintLast Go.Proofs.YtfhkpneffmcdbaaDoorW.PrintMore
attribute [local go_sem] max2_int min2_int max_two min_two max_three min_three max_four min_four   -- for this text's walks alone
set_option linter.unusedVariables false
set_option linter.unusedSimpArgs false

/-! ### impl_Fitting: function 33 -/
def impl_Fitting.l0 : Nat → ByteArray → Int → Int → Option (ByteArray)
 | 0, _, _, _ => none
 | k + 1, x0, x1, x5 => if x5 < (x0.size : Int) then (if 0 ≤ x5 then (if x5 ≤ (x0.size : Int) then ((impl_Get.f (x0.extract (x5 : Int).toNat x0.size)).bind fun bt569 => ((impl_Width.f k bt569.1).bind fun t571 => (if (wrap64 (x1 - t571)) < 0 then (some (x0.extract 0 (x5 : Int).toNat)) else (impl_Fitting.l0 k x0 (wrap64 (x1 - t571)) (wrap64 (x5 + bt569.2)))))) else (none)) else (none)) else (if 0 ≤ x5 then (if x5 ≤ (x0.size : Int) then (some (x0.extract 0 (x5 : Int).toNat)) else (none)) else (none))
def impl_Fitting.f (k : Nat) (a0 : ByteArray) (a1 : Int) : Option (ByteArray) := (impl_in.f a1 0 1000).bind fun t568 => (if t568 = true then (impl_Fitting.l0 k a0 a1 0) else (some (⟨#[]⟩ : ByteArray)))
theorem impl_Fitting.mono_l : ∀ k, (∀ y0 y1 y2, LeO (impl_Fitting.l0 k y0 y1 y2) (impl_Fitting.l0 (k + 1) y0 y1 y2))
 | 0 => fun _ _ _ r h => by simp [impl_Fitting.l0] at h
 | k + 1 => by
  have ih0 := impl_Fitting.mono_l k
  ·intro y0 y1 y2
   unfold impl_Fitting.l0
   repeat' first
   | (with_reducible exact ih0 _ _ _)
   | (with_reducible exact impl_Width.mono _ _)
   | (with_reducible exact LeO.refl _)
   | (with_reducible exact LeO.none _)
   | (with_reducible refine LeO.ite ?_ ?_)
   | (with_reducible refine LeO.bind ?_ (fun _ => ?_))
theorem impl_Fitting.mono : ∀ a0 a1 k, LeO (impl_Fitting.f k a0 a1) (impl_Fitting.f (k + 1) a0 a1) := by
 intro a0 a1 k
 have ih0 := impl_Fitting.mono_l k
 unfold impl_Fitting.f
 repeat' first
   | (with_reducible exact ih0 _ _ _)
   | (with_reducible exact impl_Width.mono _ _)
   | (with_reducible exact LeO.refl _)
   | (with_reducible exact LeO.none _)
   | (with_reducible refine LeO.ite ?_ ?_)
   | (with_reducible refine LeO.bind ?_ (fun _ => ?_))
set_option maxHeartbeats 8000000 in
set_option maxRecDepth 100000 in
theorem impl_Fitting.calls (k : Nat) (a0 : ByteArray) (a1 : Int) (r : ByteArray) (w : World) (h : impl_Fitting.f k a0 a1 = some r) (hT : TB w) :
  Calls Tryd.prog 33 #[.string a0, .int .i64 a1] w fun e w' => e = .returned (.string r) ∧ Below w.heap.size w w' := by
 have HT := am hT
 clear hT
 have HB := am (Below.refl w.heap.size w)
 have H := h
 unfold impl_Fitting.f at H
 clear h
 replace H := Option.bind_eq_some_iff.mp H
 obtain ⟨t568, A30, H⟩ := H
 (try dsimp only at H)
 have A3 := am A30
 clear A30
 by_cases c4 : t568 = true
 ·subst c4
  have H1 : (impl_Fitting.l0 k a0 a1 0) = some r := by rw [if_pos rfl] at H; exact H
  clear H
  have H := H1
  clear H1
  have H' := am H
  clear H
  go_enter Tryd.func33, Tryd.ntmps33
  go_wp2_with (first | ((with_reducible refine gate_callee (f := 58) rfl ?_); refine gl_ (some 9) Tryd.func58 #[.int .i64 a1, .int .i64 0, .int .i64 1000] ?_; (with_reducible refine (impl_in.calls a1 0 1000 true _ A3.out).mono ?_); rintro e w' ⟨rfl, ⟨nd, rfl⟩⟩; refine ⟨_, rfl, ?_⟩))
  go_loopg [1, 5] k (fun kq v1 v5 w' => ∃ (x1_1 : Int) (x5_1 : Int), v1 = .int .i64 x1_1 ∧ v5 = .int .i64 x5_1 ∧ Aside0 (impl_Fitting.l0 kq a0 x1_1 x5_1 = some r) ∧ Aside0 (kq ≤ k) ∧ Aside0 (Below w.heap.size w w'))
  case atStart => exact ⟨(a1), (0), (by first | rfl | (simp; done) | (simp [*]; done)), (by first | rfl | (simp; done) | (simp [*]; done)), H', ⟨Nat.le_refl _⟩, ⟨rb HB⟩⟩
  case round =>
   clear H'
   try clear p2
   try clear c3
   try clear c4
   obtain ⟨x1_1, x5_1, rfl, rfl, HA, HK1, HB⟩ := hrel
   cases gk with
   | zero => exact absurd HA.out (by simp [impl_Fitting.l0])
   | succ k1 =>
    have H := HA.out
    clear HA
    simp only [impl_Fitting.l0] at H
    by_cases c5 : x5_1 < (a0.size : Int)
    ·rw [if_pos c5] at H
     have c5b0 : decide (x5_1 < (a0.size : Int)) = true := decide_eq_true c5
     clear c5
     refine em_ (p := 0 ≤ x5_1) (fun c6 => ?g2p) (fun c6 => ?g2n)
     case' g2p =>
      rw [if_pos c6] at H
      have c6b0 := eq_true c6
      have c6b1 : decide (0 ≤ x5_1) = true := decide_eq_true c6
      clear c6
      refine em_ (p := x5_1 ≤ (a0.size : Int)) (fun c7 => ?g1p) (fun c7 => ?g1n)
      case' g1p =>
       rw [if_pos c7] at H
       have c7b0 := eq_true c7
       have c7b1 : decide (x5_1 ≤ (a0.size : Int)) = true := decide_eq_true c7
       clear c7
       replace H := Option.bind_eq_some_iff.mp H
       obtain ⟨⟨t569, t570⟩, A80, H⟩ := H
       (try dsimp only at H)
       have A8 := am A80
       clear A80
       replace H := Option.bind_eq_some_iff.mp H
       obtain ⟨t571, A90, H⟩ := H
       (try dsimp only at H)
       have A9 := am A90
       clear A90
       refine em_ (p := (wrap64 (x1_1 - t571)) < 0) (fun c10 => ?g0p) (fun c10 => ?g0n)
       case' g0p =>
        rw [if_pos c10] at H
        have c10b0 : decide ((wrap64 (x1_1 - t571)) < 0) = true := decide_eq_true c10
        clear c10
        have c11b0 := eq_true (dt_ : 0 ≤ x5_1)
        have c12b0 := eq_true (dt_ : x5_1 ≤ (a0.size : Int))
        obtain rfl := Option.some.inj H
        have lf3_ := trivial
       case' g0n =>
        rw [if_neg c10] at H
        have c10b0 : decide ((wrap64 (x1_1 - t571)) < 0) = false := decide_eq_false c10
        clear c10
        have H' := am H
        clear H
        have lf4_ := trivial
      case g1n =>
       rw [if_neg c7] at H
       exact absurd H (by simp)
     case g2n =>
      rw [if_neg c6] at H
      exact absurd H (by simp)
     all_goals
      go_wp2_with (first | ((with_reducible refine gate_callee (f := 14) rfl ?_); refine gl_ (some 19) Tryd.func14 #[.string (a0.extract (x5_1 : Int).toNat a0.size)] ?_; (with_reducible refine (impl_Get.calls (a0.extract (x5_1 : Int).toNat a0.size) t569 t570 _ A8.out ?sideT).mono ?_); (case sideT => exact TB.below HT.out (rb HB)); rintro e w13 ⟨rfl, hb⟩; refine ⟨_, rfl, ?_⟩; have n0_ := am (below_step (rb HB) hb); clear HB; have HB := n0_; clear n0_; (try clear hb); (try clear hb2); (try clear hk); (try clear hi)) | ((with_reducible refine gate_callee (f := 34) rfl ?_); refine gl_ (some 24) Tryd.func34 #[.int .i64 t569] ?_; (with_reducible refine (impl_Width.calls k1 t569 t571 _ A9.out).mono ?_); rintro e w' ⟨rfl, ⟨nd, rfl⟩⟩; refine ⟨_, rfl, ?_⟩))
      first
      | (
        have q_ := lf4_
        go_roundg k1
        case measure => have := HK1.out; omega
        case rel => exact ⟨(wrap64 (x1_1 - t571)), (wrap64 (x5_1 + t570)), (by first | rfl | (simp; done) | (simp [*]; done)), (by first | rfl | (simp; done) | (simp [*]; done)), H', ⟨by have := HK1.out; omega⟩, ⟨rb HB⟩⟩
        )
      | (
        have q_ := lf3_
        go_ret
        exact ⟨by first | rfl | (simp [errW_none, errW_some] <;> rfl) | (simp [*, errW_none, errW_some] <;> rfl), by repeat (first | (with_reducible first | exact HB.out | apply b1 | apply b2 | apply b3) | exact HB.out)⟩
        )
    ·rw [if_neg c5] at H
     have c5b0 : decide (x5_1 < (a0.size : Int)) = false := decide_eq_false c5
     clear c5
     refine em_ (p := 0 ≤ x5_1) (fun c15 => ?g4p) (fun c15 => ?g4n)
     case' g4p =>
      rw [if_pos c15] at H
      have c15b0 := eq_true c15
      have c15b1 : decide (0 ≤ x5_1) = true := decide_eq_true c15
      clear c15
      refine em_ (p := x5_1 ≤ (a0.size : Int)) (fun c16 => ?g3p) (fun c16 => ?g3n)
      case' g3p =>
       rw [if_pos c16] at H
       have c16b0 := eq_true c16
       have c16b1 : decide (x5_1 ≤ (a0.size : Int)) = true := decide_eq_true c16
       clear c16
       obtain rfl := Option.some.inj H
       have lf5_ := trivial
      case g3n =>
       rw [if_neg c16] at H
       exact absurd H (by simp)
     case g4n =>
      rw [if_neg c15] at H
      exact absurd H (by simp)
     all_goals
      go_wp2
      go_ret
      exact ⟨by first | rfl | (simp [errW_none, errW_some] <;> rfl) | (simp [*, errW_none, errW_some] <;> rfl), by repeat (first | (with_reducible first | exact HB.out | apply b1 | apply b2 | apply b3) | exact HB.out)⟩
 ·replace c4 := Bool.eq_false_iff.mpr c4
  subst c4
  have H1 : (some (⟨#[]⟩ : ByteArray)) = some r := by rw [if_neg (show ¬ (false = true) by decide)] at H; exact H
  clear H
  have H := H1
  clear H1
  obtain rfl := Option.some.inj H
  go_enter Tryd.func33, Tryd.ntmps33
  go_wp2_with (first | ((with_reducible refine gate_callee (f := 58) rfl ?_); refine gl_ (some 9) Tryd.func58 #[.int .i64 a1, .int .i64 0, .int .i64 1000] ?_; (with_reducible refine (impl_in.calls a1 0 1000 false _ A3.out).mono ?_); rintro e w' ⟨rfl, ⟨nd, rfl⟩⟩; refine ⟨_, rfl, ?_⟩))
  go_ret
  exact ⟨by first | rfl | (simp [errW_none, errW_some] <;> rfl) | (simp [*, errW_none, errW_some] <;> rfl), by repeat (first | (with_reducible first | exact HB.out | apply b1 | apply b2 | apply b3) | exact HB.out)⟩

/-! ### spec_Width: function 35 -/
def spec_Width.j0 : Nat → Int → Bool → Option (Int)
 | 0, _, _ => none
 | k + 1, x0, x3 => if x3 = true then (some 0) else ((spec_l1In.f x0 4352 4447).bind fun t575 => (if t575 = true then (some 2) else ((spec_l1In.f x0 12288 55295).bind fun t576 => (if t576 = true then (some 2) else ((spec_l1In.f x0 127744 131071).bind fun t577 => (if t577 = true then (some 2) else (some 1)))))))
def spec_Width.f (k : Nat) (a0 : Int) : Option (Int) := (spec_RuneOk.f a0).bind fun t572 => (if t572 = true then (if a0 < 32 then (spec_Width.j0 k a0 true) else ((spec_l1In.f a0 127 159).bind fun t573 => (if t573 = true then (spec_Width.j0 k a0 true) else ((spec_l1In.f a0 768 879).bind fun t574 => (spec_Width.j0 k a0 t574))))) else (spec_Width.j0 k a0 true))
theorem spec_Width.mono_l : ∀ k, (∀ y0 y1, LeO (spec_Width.j0 k y0 y1) (spec_Width.j0 (k + 1) y0 y1))
 | 0 => fun _ _ r h => by simp [spec_Width.j0] at h
 | k + 1 => by
  have ih0 := spec_Width.mono_l k
  ·intro y0 y1
   unfold spec_Width.j0
   repeat' first
   | (with_reducible exact ih0 _ _)
   | (with_reducible exact LeO.refl _)
   | (with_reducible exact LeO.none _)
   | (with_reducible refine LeO.ite ?_ ?_)
   | (with_reducible refine LeO.bind ?_ (fun _ => ?_))
theorem spec_Width.mono : ∀ a0 k, LeO (spec_Width.f k a0) (spec_Width.f (k + 1) a0) := by
 intro a0 k
 have ih0 := spec_Width.mono_l k
 unfold spec_Width.f
 repeat' first
   | (with_reducible exact ih0 _ _)
   | (with_reducible exact LeO.refl _)
   | (with_reducible exact LeO.none _)
   | (with_reducible refine LeO.ite ?_ ?_)
   | (with_reducible refine LeO.bind ?_ (fun _ => ?_))
set_option maxHeartbeats 8000000 in
set_option maxRecDepth 100000 in
theorem spec_Width.calls (k : Nat) (a0 : Int) (r : Int) (w : World) (h : spec_Width.f k a0 = some r) :
  Calls Tryd.prog 35 #[.int .i64 a0] w fun e w' => e = .returned (.int .i64 r) ∧ Drawn0 w w' := by
 have H := h
 unfold spec_Width.f at H
 clear h
 have HC2 := am H
 clear H
 go_enter Tryd.func35, Tryd.ntmps35
 go_upto_region 1 with (fail)
 go_cut [3] (fun v3 wc => ∃ (kq : Nat) (x3_1 : Bool), v3 = .bool x3_1 ∧ Aside0 (spec_Width.j0 kq a0 x3_1 = some r) ∧ Aside0 (kq ≤ k) ∧ Drawn0 w wc)
 case first =>
  have H := HC2.out
  clear HC2
  replace H := Option.bind_eq_some_iff.mp H
  obtain ⟨t572, A30, H⟩ := H
  (try dsimp only at H)
  have A3 := am A30
  clear A30
  by_cases c4 : t572 = true
  ·subst c4
   rw [if_pos rfl] at H
   refine em_ (p := a0 < 32) (fun c5 => ?g5p) (fun c5 => ?g5n)
   case' g5p =>
    rw [if_pos c5] at H
    have c5b0 : decide (a0 < 32) = true := decide_eq_true c5
    clear c5
    (first | rw [c5b0] | (simp only [i64_w, i32_w]; rw [c5b0]) | skip)
    have H' := am H
    clear H
    have lf6_ := trivial
   case g5n =>
    rw [if_neg c5] at H
    have c5b0 : decide (a0 < 32) = false := decide_eq_false c5
    clear c5
    (first | rw [c5b0] | (simp only [i64_w, i32_w]; rw [c5b0]) | skip)
    replace H := Option.bind_eq_some_iff.mp H
    obtain ⟨t573, A60, H⟩ := H
    (try dsimp only at H)
    have A6 := am A60
    clear A60
    by_cases c7 : t573 = true
    ·subst c7
     have H1 : (spec_Width.j0 k a0 true) = some r := by rw [if_pos rfl] at H; exact H
     clear H
     have H := H1
     clear H1
     have H' := am H
     clear H
     go_wp2_with (first | ((with_reducible refine gate_callee (f := 24) rfl ?_); refine gl_ (some 5) Tryd.func24 #[.int .i64 a0] ?_; (with_reducible refine (spec_RuneOk.calls a0 true _ A3.out).mono ?_); rintro e w' ⟨rfl, ⟨nd, rfl⟩⟩; refine ⟨_, rfl, ?_⟩) | (go_at_call 59; (with_reducible refine (spec_l1In.calls a0 127 159 true _ A6.out).mono ?_); rintro e w' ⟨rfl, ⟨nd, rfl⟩⟩))
     go_meet
     case rel => exact ⟨_, (true), (by first | rfl | (simp; done) | (simp [*]; done)), H', ⟨by first | omega | exact Nat.le_refl _⟩, by repeat (first | exact Drawn0.refl _ | apply Drawn0.step)⟩
    ·replace c7 := Bool.eq_false_iff.mpr c7
     subst c7
     rw [if_neg (show ¬ (false = true) by decide)] at H
     replace H := Option.bind_eq_some_iff.mp H
     obtain ⟨t574, A80, H⟩ := H
     replace H : (spec_Width.j0 k a0 t574) = some r := H
     have A8 := am A80
     clear A80
     have H' := am H
     clear H
     go_wp2_with (first | ((with_reducible refine gate_callee (f := 24) rfl ?_); refine gl_ (some 5) Tryd.func24 #[.int .i64 a0] ?_; (with_reducible refine (spec_RuneOk.calls a0 true _ A3.out).mono ?_); rintro e w' ⟨rfl, ⟨nd, rfl⟩⟩; refine ⟨_, rfl, ?_⟩) | (go_at_call 59; (with_reducible refine (spec_l1In.calls a0 127 159 false _ A6.out).mono ?_); rintro e w' ⟨rfl, ⟨nd, rfl⟩⟩) | (go_at_call 59; (with_reducible refine (spec_l1In.calls a0 768 879 t574 _ A8.out).mono ?_); rintro e w' ⟨rfl, ⟨nd, rfl⟩⟩))
     go_meet
     case rel => exact ⟨_, (t574), (by first | rfl | (simp; done) | (simp [*]; done)), H', ⟨by first | omega | exact Nat.le_refl _⟩, by repeat (first | exact Drawn0.refl _ | apply Drawn0.step)⟩
   all_goals
    go_wp2_with (first | ((with_reducible refine gate_callee (f := 24) rfl ?_); refine gl_ (some 5) Tryd.func24 #[.int .i64 a0] ?_; (with_reducible refine (spec_RuneOk.calls a0 true _ A3.out).mono ?_); rintro e w' ⟨rfl, ⟨nd, rfl⟩⟩; refine ⟨_, rfl, ?_⟩))
    go_meet
    case rel => exact ⟨_, (true), (by first | rfl | (simp; done) | (simp [*]; done)), H', ⟨by first | omega | exact Nat.le_refl _⟩, by repeat (first | exact Drawn0.refl _ | apply Drawn0.step)⟩
  ·replace c4 := Bool.eq_false_iff.mpr c4
   subst c4
   have H1 : (spec_Width.j0 k a0 true) = some r := by rw [if_neg (show ¬ (false = true) by decide)] at H; exact H
   clear H
   have H := H1
   clear H1
   have H' := am H
   clear H
   go_wp2_with (first | ((with_reducible refine gate_callee (f := 24) rfl ?_); refine gl_ (some 5) Tryd.func24 #[.int .i64 a0] ?_; (with_reducible refine (spec_RuneOk.calls a0 false _ A3.out).mono ?_); rintro e w' ⟨rfl, ⟨nd, rfl⟩⟩; refine ⟨_, rfl, ?_⟩))
   go_meet
   case rel => exact ⟨_, (true), (by first | rfl | (simp; done) | (simp [*]; done)), H', ⟨by first | omega | exact Nat.le_refl _⟩, by repeat (first | exact Drawn0.refl _ | apply Drawn0.step)⟩
 case rest =>
  clear HC2
  try clear c2
  try clear p2
  try clear c3
  try clear c4
  try clear c5
  try clear c5b0
  try clear c7
  obtain ⟨kq, x3_1, rfl, HA, HJ1, ⟨mc1, rfl⟩⟩ := hcut
  cases kq with
  | zero => exact absurd HA.out (by simp [spec_Width.j0])
  | succ kj1 =>
   have H := HA.out
   clear HA
   simp only [spec_Width.j0] at H
   refine em_ (p := x3_1 = true) (fun c9 => ?g7p) (fun c9 => ?g7n)
   case' g7p =>
    subst c9
    have H1 : (some 0) = some r := by rw [if_pos rfl] at H; exact H
    clear H
    have H := H1
    clear H1
    obtain rfl := Option.some.inj H
    have lf12_ := trivial
   case g7n =>
    replace c9 := Bool.eq_false_iff.mpr c9
    subst c9
    rw [if_neg (show ¬ (false = true) by decide)] at H
    replace H := Option.bind_eq_some_iff.mp H
    obtain ⟨t575, A100, H⟩ := H
    (try dsimp only at H)
    have A10 := am A100
    clear A100
    refine em_ (p := t575 = true) (fun c11 => ?g8p) (fun c11 => ?g8n)
    case' g8p =>
     subst c11
     have H1 : (some 2) = some r := by rw [if_pos rfl] at H; exact H
     clear H
     have H := H1
     clear H1
     obtain rfl := Option.some.inj H
     have lf17_ := trivial
    case g8n =>
     replace c11 := Bool.eq_false_iff.mpr c11
     subst c11
     rw [if_neg (show ¬ (false = true) by decide)] at H
     replace H := Option.bind_eq_some_iff.mp H
     obtain ⟨t576, A120, H⟩ := H
     (try dsimp only at H)
     have A12 := am A120
     clear A120
     refine em_ (p := t576 = true) (fun c13 => ?g6p) (fun c13 => ?g6n)
     case' g6p =>
      subst c13
      have H1 : (some 2) = some r := by rw [if_pos rfl] at H; exact H
      clear H
      have H := H1
      clear H1
      obtain rfl := Option.some.inj H
      have lf14_ := trivial
     case g6n =>
      replace c13 := Bool.eq_false_iff.mpr c13
      subst c13
      rw [if_neg (show ¬ (false = true) by decide)] at H
      replace H := Option.bind_eq_some_iff.mp H
      obtain ⟨t577, A140, H⟩ := H
      (try dsimp only at H)
      have A14 := am A140
      clear A140
      by_cases c15 : t577 = true
      ·subst c15
       have H1 : (some 2) = some r := by rw [if_pos rfl] at H; exact H
       clear H
       have H := H1
       clear H1
       obtain rfl := Option.some.inj H
       go_wp2_with (first | ((with_reducible refine gate_callee (f := 59) rfl ?_); refine gl_ (some 21) Tryd.func59 #[.int .i64 a0, .int .i64 4352, .int .i64 4447] ?_; (with_reducible refine (spec_l1In.calls a0 4352 4447 false _ A10.out).mono ?_); rintro e w' ⟨rfl, ⟨nd, rfl⟩⟩; refine ⟨_, rfl, ?_⟩) | (go_at_call 59; (with_reducible refine (spec_l1In.calls a0 12288 55295 false _ A12.out).mono ?_); rintro e w' ⟨rfl, ⟨nd, rfl⟩⟩) | (go_at_call 59; (with_reducible refine (spec_l1In.calls a0 127744 131071 true _ A14.out).mono ?_); rintro e w' ⟨rfl, ⟨nd, rfl⟩⟩))
       go_ret
       exact ⟨by first | rfl | (simp; done) | (simp [*]; done), by repeat (first | exact Drawn0.refl _ | apply Drawn0.step)⟩
      ·replace c15 := Bool.eq_false_iff.mpr c15
       subst c15
       have H1 : (some 1) = some r := by rw [if_neg (show ¬ (false = true) by decide)] at H; exact H
       clear H
       have H := H1
       clear H1
       obtain rfl := Option.some.inj H
       go_wp2_with (first | ((with_reducible refine gate_callee (f := 59) rfl ?_); refine gl_ (some 21) Tryd.func59 #[.int .i64 a0, .int .i64 4352, .int .i64 4447] ?_; (with_reducible refine (spec_l1In.calls a0 4352 4447 false _ A10.out).mono ?_); rintro e w' ⟨rfl, ⟨nd, rfl⟩⟩; refine ⟨_, rfl, ?_⟩) | (go_at_call 59; (with_reducible refine (spec_l1In.calls a0 12288 55295 false _ A12.out).mono ?_); rintro e w' ⟨rfl, ⟨nd, rfl⟩⟩) | (go_at_call 59; (with_reducible refine (spec_l1In.calls a0 127744 131071 false _ A14.out).mono ?_); rintro e w' ⟨rfl, ⟨nd, rfl⟩⟩))
       go_ret
       exact ⟨by first | rfl | (simp; done) | (simp [*]; done), by repeat (first | exact Drawn0.refl _ | apply Drawn0.step)⟩
     all_goals
      go_wp2_with (first | ((with_reducible refine gate_callee (f := 59) rfl ?_); refine gl_ (some 21) Tryd.func59 #[.int .i64 a0, .int .i64 4352, .int .i64 4447] ?_; (with_reducible refine (spec_l1In.calls a0 4352 4447 false _ A10.out).mono ?_); rintro e w' ⟨rfl, ⟨nd, rfl⟩⟩; refine ⟨_, rfl, ?_⟩) | (go_at_call 59; (with_reducible refine (spec_l1In.calls a0 12288 55295 true _ A12.out).mono ?_); rintro e w' ⟨rfl, ⟨nd, rfl⟩⟩))
      go_ret
      exact ⟨by first | rfl | (simp; done) | (simp [*]; done), by repeat (first | exact Drawn0.refl _ | apply Drawn0.step)⟩
    all_goals
     go_wp2_with (first | ((with_reducible refine gate_callee (f := 59) rfl ?_); refine gl_ (some 21) Tryd.func59 #[.int .i64 a0, .int .i64 4352, .int .i64 4447] ?_; (with_reducible refine (spec_l1In.calls a0 4352 4447 true _ A10.out).mono ?_); rintro e w' ⟨rfl, ⟨nd, rfl⟩⟩; refine ⟨_, rfl, ?_⟩))
     go_ret
     exact ⟨by first | rfl | (simp; done) | (simp [*]; done), by repeat (first | exact Drawn0.refl _ | apply Drawn0.step)⟩
   all_goals
    go_wp2
    go_ret
    exact ⟨by first | rfl | (simp; done) | (simp [*]; done), by repeat (first | exact Drawn0.refl _ | apply Drawn0.step)⟩

end Go.Proofs.YtfhkpneffmcdbaaDoor.QB
