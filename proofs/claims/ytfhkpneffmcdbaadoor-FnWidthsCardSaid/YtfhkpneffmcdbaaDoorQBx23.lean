/- Contracts of Go functions that laws of this seat reach: each Lean function answers as its Go function does. No condition. Written by wip/tools/inj.py, over the kit's print. -/
import Derived.Test.YtfhkpneffmcdbaaDoorQBx0
import Derived.Test.YtfhkpneffmcdbaaDoorQBx5
import Derived.Test.YtfhkpneffmcdbaaDoorQBx8
import Derived.Test.YtfhkpneffmcdbaaDoorQBx10
import Derived.Test.YtfhkpneffmcdbaaDoorQBx11
import Derived.Test.YtfhkpneffmcdbaaDoorQBx21
import Derived.Test.YtfhkpneffmcdbaaDoorQBx22
namespace Go.Proofs.YtfhkpneffmcdbaaDoor.QB
open Go.RowKit Go.Proofs.YtfhkpneffmcdbaaDoorW.PrintWords Go.Proofs.YtfhkpneffmcdbaaDoorW.PrintLast Go.Proofs.YtfhkpneffmcdbaaDoorW.PrintMore
attribute [local go_sem] max2_int min2_int max_two min_two max_three min_three max_four min_four   -- for this text's walks alone
set_option linter.unusedVariables false
set_option linter.unusedSimpArgs false

/-! ### impl_TextWidth: function 36 -/
def impl_TextWidth.l0 : Nat → Int → List Int → Int → Int → Option (Int)
 | 0, _, _, _, _ => none
 | k + 1, x3, x7, x8, x9 => if x9 < x8 then (if 0 ≤ x9 then (if x9 < (x7.length : Int) then ((impl_Width.f k (rd x7 x9)).bind fun t582 => (impl_TextWidth.l0 k (wrap64 (x3 + t582)) x7 x8 (wrap64 (x9 + 1)))) else (none)) else (none)) else (some x3)
def impl_TextWidth.f (k : Nat) (a0 : ByteArray) : Option (Int) := (impl_Runes.f k a0).bind fun t578 => (impl_TextWidth.l0 k 0 t578 (t578.length : Int) 0)
theorem impl_TextWidth.mono_l : ∀ k, (∀ y0 y1 y2 y3, LeO (impl_TextWidth.l0 k y0 y1 y2 y3) (impl_TextWidth.l0 (k + 1) y0 y1 y2 y3))
 | 0 => fun _ _ _ _ r h => by simp [impl_TextWidth.l0] at h
 | k + 1 => by
  have ih0 := impl_TextWidth.mono_l k
  ·intro y0 y1 y2 y3
   unfold impl_TextWidth.l0
   repeat' first
   | (with_reducible exact ih0 _ _ _ _)
   | (with_reducible exact impl_Runes.mono _ _)
   | (with_reducible exact impl_Width.mono _ _)
   | (with_reducible exact LeO.refl _)
   | (with_reducible exact LeO.none _)
   | (with_reducible refine LeO.ite ?_ ?_)
   | (with_reducible refine LeO.bind ?_ (fun _ => ?_))
theorem impl_TextWidth.mono : ∀ a0 k, LeO (impl_TextWidth.f k a0) (impl_TextWidth.f (k + 1) a0) := by
 intro a0 k
 have ih0 := impl_TextWidth.mono_l k
 unfold impl_TextWidth.f
 repeat' first
   | (with_reducible exact ih0 _ _ _ _)
   | (with_reducible exact impl_Runes.mono _ _)
   | (with_reducible exact impl_Width.mono _ _)
   | (with_reducible exact LeO.refl _)
   | (with_reducible exact LeO.none _)
   | (with_reducible refine LeO.ite ?_ ?_)
   | (with_reducible refine LeO.bind ?_ (fun _ => ?_))
set_option maxHeartbeats 8000000 in
set_option maxRecDepth 100000 in
theorem impl_TextWidth.calls (k : Nat) (a0 : ByteArray) (r : Int) (w : World) (h : impl_TextWidth.f k a0 = some r) (hT : TB w) :
  Calls Tryd.prog 36 #[.string a0] w fun e w' => e = .returned (.int .i64 r) ∧ Below w.heap.size w w' := by
 have HT := am hT
 clear hT
 have HB := am (Below.refl w.heap.size w)
 have H : ((impl_Runes.f k a0).bind fun t578 => (impl_TextWidth.l0 k 0 t578 (t578.length : Int) 0)) = some r := h
 clear h
 replace H := Option.bind_eq_some_iff.mp H
 obtain ⟨t578, A20, H⟩ := H
 (try dsimp only at H)
 have A2 := am A20
 clear A20
 have H' := am H
 clear H
 go_enter Tryd.func36, Tryd.ntmps36
 go_wp2_with (first | ((with_reducible refine gate_callee (f := 13) rfl ?_); refine gl_ (some 7) Tryd.func13 #[.string a0] ?_; (with_reducible refine (impl_Runes.calls k a0 t578 _ A2.out ?sideT).mono ?_); (case sideT => exact TB.below HT.out (rb HB)); rintro e w3 ⟨v579, rfl, ho0, hb⟩; refine ⟨_, rfl, ?_⟩; have n0_ := am (Kd.R_lower ho0 (below_size (rb HB))); have n1_ := am (below_step (rb HB) hb); clear HB; have HO580 := n0_; have HB := n1_; clear n0_ n1_; (try clear hb); (try clear hb2); (try clear hk); (try clear hi); (try clear ho0); obtain ⟨Ao4, co4, eo4⟩ := Kd.R_slice HO580.out; subst eo4))
 go_loopg [3, 9] k (fun kq v3 v9 w' => ∃ (x3_1 : Int) (x9_1 : Int), v3 = .int .i64 x3_1 ∧ v9 = .int .i64 x9_1 ∧ Aside0 (impl_TextWidth.l0 kq x3_1 t578 (t578.length : Int) x9_1 = some r) ∧ Aside0 (kq ≤ k) ∧ Aside0 (Kd.R (Kd.int .i64) 2 w' w.heap.size (fun _ => True) (.slice Ao4 t578.length co4) t578) ∧ Aside0 (Below w.heap.size w w'))
 case atStart => exact ⟨(0), (0), (by first | rfl | (simp; done) | (simp [*]; done)), (by first | rfl | (simp; done) | (simp [*]; done)), H', ⟨Nat.le_refl _⟩, ⟨rr HO580⟩, ⟨rb HB⟩⟩
 case round =>
  clear H'
  try clear c1
  try clear p2
  try clear c3
  obtain ⟨x3_1, x9_1, rfl, rfl, HA, HK1, HO_7, HB⟩ := hrel
  cases gk with
  | zero => exact absurd HA.out (by simp [impl_TextWidth.l0])
  | succ k1 =>
   have H := HA.out
   clear HA
   simp only [impl_TextWidth.l0] at H
   by_cases c5 : x9_1 < (t578.length : Int)
   ·rw [if_pos c5] at H
    have c5b0 : decide (x9_1 < (t578.length : Int)) = true := decide_eq_true c5
    clear c5
    by_cases c6 : 0 ≤ x9_1
    ·rw [if_pos c6] at H
     have c6b0 : decide (0 ≤ x9_1) = true := decide_eq_true c6
     clear c6
     by_cases c7 : x9_1 < (t578.length : Int)
     ·rw [if_pos c7] at H
      have c7b0 : decide (x9_1 < (t578.length : Int)) = true := decide_eq_true c7
      clear c7
      replace H := Option.bind_eq_some_iff.mp H
      obtain ⟨t582, A80, H⟩ := H
      (try dsimp only at H)
      have A8 := am A80
      clear A80
      have H' := am H
      clear H
      have p581 : 0 ≤ (x9_1 : Int) := dt_
      have q581 : x9_1 < (t578.length : Int) := dt_
      obtain ⟨ad581, e581, hx581_0⟩ := Kd.at_int (Kd.R_reads' HO_7.out).2.2 x9_1 p581 q581
      cases e581
      replace p581 := eq_true p581
      replace q581 := eq_true q581
      go_wp2_with (first | ((with_reducible refine gate_callee (f := 34) rfl ?_); refine gl_ (some 15) Tryd.func34 #[.int .i64 (rd t578 x9_1)] ?_; (with_reducible refine (impl_Width.calls k1 (rd t578 x9_1) t582 _ A8.out).mono ?_); rintro e w' ⟨rfl, ⟨nd, rfl⟩⟩; refine ⟨_, rfl, ?_⟩))
      go_roundg k1
      case measure => have := HK1.out; omega
      case rel => exact ⟨(wrap64 (x3_1 + t582)), (wrap64 (x9_1 + 1)), (by first | rfl | (simp; done) | (simp [*]; done)), (by first | rfl | (simp; done) | (simp [*]; done)), H', ⟨by have := HK1.out; omega⟩, ⟨rr HO_7⟩, ⟨rb HB⟩⟩
     ·rw [if_neg c7] at H
      exact absurd H (by simp)
    ·rw [if_neg c6] at H
     exact absurd H (by simp)
   ·rw [if_neg c5] at H
    have c5b0 : decide (x9_1 < (t578.length : Int)) = false := decide_eq_false c5
    clear c5
    obtain rfl := Option.some.inj H
    go_wp2
    go_ret
    exact ⟨by first | rfl | (simp [errW_none, errW_some] <;> rfl) | (simp [*, errW_none, errW_some] <;> rfl), by repeat (first | (with_reducible first | exact HB.out | apply b1 | apply b2 | apply b3) | exact HB.out)⟩

/-! ### spec_TextWidth: function 37 -/
def spec_TextWidth.l0 : Nat → Int → List Int → Int → Option (Int)
 | 0, _, _, _ => none
 | k + 1, x3, x4, x5 => if x5 < (x4.length : Int) then (if 0 ≤ x5 then ((spec_Width.f k (rd x4 x5)).bind fun t587 => (spec_TextWidth.l0 k (wrap64 (x3 + t587)) x4 (wrap64 (x5 + 1)))) else (none)) else (some x3)
def spec_TextWidth.f (k : Nat) (a0 : ByteArray) : Option (Int) := (spec_Runes.f k a0).bind fun t583 => (spec_TextWidth.l0 k 0 t583 0)
theorem spec_TextWidth.mono_l : ∀ k, (∀ y0 y1 y2, LeO (spec_TextWidth.l0 k y0 y1 y2) (spec_TextWidth.l0 (k + 1) y0 y1 y2))
 | 0 => fun _ _ _ r h => by simp [spec_TextWidth.l0] at h
 | k + 1 => by
  have ih0 := spec_TextWidth.mono_l k
  ·intro y0 y1 y2
   unfold spec_TextWidth.l0
   repeat' first
   | (with_reducible exact ih0 _ _ _)
   | (with_reducible exact spec_Runes.mono _ _)
   | (with_reducible exact spec_Width.mono _ _)
   | (with_reducible exact LeO.refl _)
   | (with_reducible exact LeO.none _)
   | (with_reducible refine LeO.ite ?_ ?_)
   | (with_reducible refine LeO.bind ?_ (fun _ => ?_))
theorem spec_TextWidth.mono : ∀ a0 k, LeO (spec_TextWidth.f k a0) (spec_TextWidth.f (k + 1) a0) := by
 intro a0 k
 have ih0 := spec_TextWidth.mono_l k
 unfold spec_TextWidth.f
 repeat' first
   | (with_reducible exact ih0 _ _ _)
   | (with_reducible exact spec_Runes.mono _ _)
   | (with_reducible exact spec_Width.mono _ _)
   | (with_reducible exact LeO.refl _)
   | (with_reducible exact LeO.none _)
   | (with_reducible refine LeO.ite ?_ ?_)
   | (with_reducible refine LeO.bind ?_ (fun _ => ?_))
set_option maxHeartbeats 8000000 in
set_option maxRecDepth 100000 in
theorem spec_TextWidth.calls (k : Nat) (a0 : ByteArray) (r : Int) (w : World) (h : spec_TextWidth.f k a0 = some r) :
  Calls Tryd.prog 37 #[.string a0] w fun e w' => e = .returned (.int .i64 r) ∧ Below w.heap.size w w' := by
 have HB := am (Below.refl w.heap.size w)
 have H : ((spec_Runes.f k a0).bind fun t583 => (spec_TextWidth.l0 k 0 t583 0)) = some r := h
 clear h
 replace H := Option.bind_eq_some_iff.mp H
 obtain ⟨t583, A20, H⟩ := H
 replace H : (spec_TextWidth.l0 k 0 t583 0) = some r := H
 have A2 := am A20
 clear A20
 have H' := am H
 clear H
 go_enter Tryd.func37, Tryd.ntmps37
 go_wp2_with (first | ((with_reducible refine gate_callee (f := 20) rfl ?_); refine gl_ (some 7) Tryd.func20 #[.string a0] ?_; (with_reducible refine (spec_Runes.calls k a0 t583 _ A2.out).mono ?_); rintro e w3 ⟨v584, rfl, ho0, hb⟩; refine ⟨_, rfl, ?_⟩; have n0_ := am (Kd.R_lower ho0 (below_size (rb HB))); have n1_ := am (below_step (rb HB) hb); clear HB; have HO585 := n0_; have HB := n1_; clear n0_ n1_; (try clear hb); (try clear hb2); (try clear hk); (try clear hi); (try clear ho0)))
 go_loopg [3, 5] k (fun kq v3 v5 w' => ∃ (x3_1 : Int) (x5_1 : Int), v3 = .int .i64 x3_1 ∧ v5 = .int .i64 x5_1 ∧ Aside0 (spec_TextWidth.l0 kq x3_1 t583 x5_1 = some r) ∧ Aside0 (kq ≤ k) ∧ Aside0 (Kd.R (Kd.int .i64) 2 w' w.heap.size (fun _ => True) v584 t583) ∧ Aside0 (Below w.heap.size w w'))
 case atStart => exact ⟨(0), (0), (by first | rfl | (simp; done) | (simp [*]; done)), (by first | rfl | (simp; done) | (simp [*]; done)), H', ⟨Nat.le_refl _⟩, ⟨rr HO585⟩, ⟨rb HB⟩⟩
 case round =>
  clear H'
  try clear c2
  try clear p2
  try clear c3
  obtain ⟨x3_1, x5_1, rfl, rfl, HA, HK1, HO_4, HB⟩ := hrel
  cases gk with
  | zero => exact absurd HA.out (by simp [spec_TextWidth.l0])
  | succ k1 =>
   have H := HA.out
   clear HA
   simp only [spec_TextWidth.l0] at H
   by_cases c4 : x5_1 < (t583.length : Int)
   ·rw [if_pos c4] at H
    have c4b0 : decide (x5_1 < (t583.length : Int)) = true := decide_eq_true c4
    clear c4
    by_cases c5 : 0 ≤ x5_1
    ·rw [if_pos c5] at H
     have c5b0 : decide (0 ≤ x5_1) = true := decide_eq_true c5
     clear c5
     replace H := Option.bind_eq_some_iff.mp H
     obtain ⟨t587, A60, H⟩ := H
     (try dsimp only at H)
     have A6 := am A60
     clear A60
     have H' := am H
     clear H
     obtain ⟨Ao7, co7, eo7⟩ := Kd.R_slice HO_4.out
     subst eo7
     have p586 : 0 ≤ (x5_1 : Int) := dt_
     have q586 : x5_1 < (t583.length : Int) := dt_
     obtain ⟨ad586, e586, hx586_0⟩ := Kd.at_int (Kd.R_reads' HO_4.out).2.2 x5_1 p586 q586
     cases e586
     replace p586 := eq_true p586
     replace q586 := eq_true q586
     go_wp2_with (first | ((with_reducible refine gate_callee (f := 35) rfl ?_); refine gl_ (some 19) Tryd.func35 #[.int .i64 (rd t583 x5_1)] ?_; (with_reducible refine (spec_Width.calls k1 (rd t583 x5_1) t587 _ A6.out).mono ?_); rintro e w' ⟨rfl, ⟨nd, rfl⟩⟩; refine ⟨_, rfl, ?_⟩))
     go_roundg k1
     case measure => have := HK1.out; omega
     case rel => exact ⟨(wrap64 (x3_1 + t587)), (wrap64 (x5_1 + 1)), (by first | rfl | (simp; done) | (simp [*]; done)), (by first | rfl | (simp; done) | (simp [*]; done)), H', ⟨by have := HK1.out; omega⟩, ⟨rr HO_4⟩, ⟨rb HB⟩⟩
    ·rw [if_neg c5] at H
     exact absurd H (by simp)
   ·rw [if_neg c4] at H
    have c4b0 : decide (x5_1 < (t583.length : Int)) = false := decide_eq_false c4
    clear c4
    obtain rfl := Option.some.inj H
    obtain ⟨Ao8, co8, eo8⟩ := Kd.R_slice HO_4.out
    subst eo8
    go_wp2
    go_ret
    exact ⟨by first | rfl | (simp [errW_none, errW_some] <;> rfl) | (simp [*, errW_none, errW_some] <;> rfl), by repeat (first | (with_reducible first | exact HB.out | apply b1 | apply b2 | apply b3) | exact HB.out)⟩

/-! ### spec_Fitting: function 38 -/
def spec_Fitting.l0 : Nat → ByteArray → Int → Int → Int → Option (ByteArray)
 | 0, _, _, _, _ => none
 | k + 1, x0, x1, x5, x6 => if x5 < (x0.size : Int) then (if 0 ≤ x5 then (if x5 ≤ (x0.size : Int) then ((spec_Get.f k (x0.extract (x5 : Int).toNat x0.size)).bind fun bt589 => ((spec_Width.f k bt589.1).bind fun t591 => (if (wrap64 (x6 + t591)) > x1 then (some (x0.extract 0 (x5 : Int).toNat)) else (spec_Fitting.l0 k x0 x1 (wrap64 (x5 + bt589.2)) (wrap64 (x6 + t591)))))) else (none)) else (none)) else (if 0 ≤ x5 then (if x5 ≤ (x0.size : Int) then (some (x0.extract 0 (x5 : Int).toNat)) else (none)) else (none))
def spec_Fitting.f (k : Nat) (a0 : ByteArray) (a1 : Int) : Option (ByteArray) := (spec_l1In.f a1 0 1000).bind fun t588 => (if t588 = true then (spec_Fitting.l0 k a0 a1 0 0) else (some (⟨#[]⟩ : ByteArray)))
theorem spec_Fitting.mono_l : ∀ k, (∀ y0 y1 y2 y3, LeO (spec_Fitting.l0 k y0 y1 y2 y3) (spec_Fitting.l0 (k + 1) y0 y1 y2 y3))
 | 0 => fun _ _ _ _ r h => by simp [spec_Fitting.l0] at h
 | k + 1 => by
  have ih0 := spec_Fitting.mono_l k
  ·intro y0 y1 y2 y3
   unfold spec_Fitting.l0
   repeat' first
   | (with_reducible exact ih0 _ _ _ _)
   | (with_reducible exact spec_Get.mono _ _)
   | (with_reducible exact spec_Width.mono _ _)
   | (with_reducible exact LeO.refl _)
   | (with_reducible exact LeO.none _)
   | (with_reducible refine LeO.ite ?_ ?_)
   | (with_reducible refine LeO.bind ?_ (fun _ => ?_))
theorem spec_Fitting.mono : ∀ a0 a1 k, LeO (spec_Fitting.f k a0 a1) (spec_Fitting.f (k + 1) a0 a1) := by
 intro a0 a1 k
 have ih0 := spec_Fitting.mono_l k
 unfold spec_Fitting.f
 repeat' first
   | (with_reducible exact ih0 _ _ _ _)
   | (with_reducible exact spec_Get.mono _ _)
   | (with_reducible exact spec_Width.mono _ _)
   | (with_reducible exact LeO.refl _)
   | (with_reducible exact LeO.none _)
   | (with_reducible refine LeO.ite ?_ ?_)
   | (with_reducible refine LeO.bind ?_ (fun _ => ?_))
set_option maxHeartbeats 8000000 in
set_option maxRecDepth 100000 in
theorem spec_Fitting.calls (k : Nat) (a0 : ByteArray) (a1 : Int) (r : ByteArray) (w : World) (h : spec_Fitting.f k a0 a1 = some r) :
  Calls Tryd.prog 38 #[.string a0, .int .i64 a1] w fun e w' => e = .returned (.string r) ∧ Below w.heap.size w w' := by
 have HB := am (Below.refl w.heap.size w)
 have H := h
 unfold spec_Fitting.f at H
 clear h
 replace H := Option.bind_eq_some_iff.mp H
 obtain ⟨t588, A30, H⟩ := H
 (try dsimp only at H)
 have A3 := am A30
 clear A30
 by_cases c4 : t588 = true
 ·subst c4
  have H1 : (spec_Fitting.l0 k a0 a1 0 0) = some r := by rw [if_pos rfl] at H; exact H
  clear H
  have H := H1
  clear H1
  have H' := am H
  clear H
  go_enter Tryd.func38, Tryd.ntmps38
  go_wp2_with (first | ((with_reducible refine gate_callee (f := 59) rfl ?_); refine gl_ (some 10) Tryd.func59 #[.int .i64 a1, .int .i64 0, .int .i64 1000] ?_; (with_reducible refine (spec_l1In.calls a1 0 1000 true _ A3.out).mono ?_); rintro e w' ⟨rfl, ⟨nd, rfl⟩⟩; refine ⟨_, rfl, ?_⟩))
  go_loopg [5, 6] k (fun kq v5 v6 w' => ∃ (x5_1 : Int) (x6_1 : Int), v5 = .int .i64 x5_1 ∧ v6 = .int .i64 x6_1 ∧ Aside0 (spec_Fitting.l0 kq a0 a1 x5_1 x6_1 = some r) ∧ Aside0 (kq ≤ k) ∧ Aside0 (Below w.heap.size w w'))
  case atStart => exact ⟨(0), (0), (by first | rfl | (simp; done) | (simp [*]; done)), (by first | rfl | (simp; done) | (simp [*]; done)), H', ⟨Nat.le_refl _⟩, ⟨rb HB⟩⟩
  case round =>
   clear H'
   try clear p2
   try clear c3
   try clear c4
   obtain ⟨x5_1, x6_1, rfl, rfl, HA, HK1, HB⟩ := hrel
   cases gk with
   | zero => exact absurd HA.out (by simp [spec_Fitting.l0])
   | succ k1 =>
    have H := HA.out
    clear HA
    simp only [spec_Fitting.l0] at H
    by_cases c5 : x5_1 < (a0.size : Int)
    ·rw [if_pos c5] at H
     have c5b0 : decide (x5_1 < (a0.size : Int)) = true := decide_eq_true c5
     clear c5
     refine em_ (p := 0 ≤ x5_1) (fun c6 => ?g2p) (fun c6 => ?g2n)
     case' g2p =>
      rw [if_pos c6] at H
      have c6b0 := eq_true c6
      have c6b1 : decide (0 ≤ x5_1) = true := decide_eq_true c6
      clear c6
      refine em_ (p := x5_1 ≤ (a0.size : Int)) (fun c7 => ?g1p) (fun c7 => ?g1n)
      case' g1p =>
       rw [if_pos c7] at H
       have c7b0 := eq_true c7
       have c7b1 : decide (x5_1 ≤ (a0.size : Int)) = true := decide_eq_true c7
       clear c7
       replace H := Option.bind_eq_some_iff.mp H
       obtain ⟨⟨t589, t590⟩, A80, H⟩ := H
       (try dsimp only at H)
       have A8 := am A80
       clear A80
       replace H := Option.bind_eq_some_iff.mp H
       obtain ⟨t591, A90, H⟩ := H
       (try dsimp only at H)
       have A9 := am A90
       clear A90
       refine em_ (p := (wrap64 (x6_1 + t591)) > a1) (fun c10 => ?g0p) (fun c10 => ?g0n)
       case' g0p =>
        rw [if_pos c10] at H
        have c10b0 : decide (a1 < (wrap64 (x6_1 + t591))) = true := decide_eq_true c10
        clear c10
        have c11b0 := eq_true (dt_ : 0 ≤ x5_1)
        have c12b0 := eq_true (dt_ : x5_1 ≤ (a0.size : Int))
        obtain rfl := Option.some.inj H
        have lf3_ := trivial
       case' g0n =>
        rw [if_neg c10] at H
        have c10b0 : decide (a1 < (wrap64 (x6_1 + t591))) = false := decide_eq_false c10
        clear c10
        have H' := am H
        clear H
        have lf4_ := trivial
      case g1n =>
       rw [if_neg c7] at H
       exact absurd H (by simp)
     case g2n =>
      rw [if_neg c6] at H
      exact absurd H (by simp)
     all_goals
      go_wp2_with (first | ((with_reducible refine gate_callee (f := 16) rfl ?_); refine gl_ (some 20) Tryd.func16 #[.string (a0.extract (x5_1 : Int).toNat a0.size)] ?_; (with_reducible refine (spec_Get.calls k1 (a0.extract (x5_1 : Int).toNat a0.size) t589 t590 _ A8.out).mono ?_); rintro e w13 ⟨rfl, hb⟩; refine ⟨_, rfl, ?_⟩; have n0_ := am (below_step (rb HB) hb); clear HB; have HB := n0_; clear n0_; (try clear hb); (try clear hb2); (try clear hk); (try clear hi)) | ((with_reducible refine gate_callee (f := 35) rfl ?_); refine gl_ (some 25) Tryd.func35 #[.int .i64 t589] ?_; (with_reducible refine (spec_Width.calls k1 t589 t591 _ A9.out).mono ?_); rintro e w' ⟨rfl, ⟨nd, rfl⟩⟩; refine ⟨_, rfl, ?_⟩))
      first
      | (
        have q_ := lf4_
        go_roundg k1
        case measure => have := HK1.out; omega
        case rel => exact ⟨(wrap64 (x5_1 + t590)), (wrap64 (x6_1 + t591)), (by first | rfl | (simp; done) | (simp [*]; done)), (by first | rfl | (simp; done) | (simp [*]; done)), H', ⟨by have := HK1.out; omega⟩, ⟨rb HB⟩⟩
        )
      | (
        have q_ := lf3_
        go_ret
        exact ⟨by first | rfl | (simp [errW_none, errW_some] <;> rfl) | (simp [*, errW_none, errW_some] <;> rfl), by repeat (first | (with_reducible first | exact HB.out | apply b1 | apply b2 | apply b3) | exact HB.out)⟩
        )
    ·rw [if_neg c5] at H
     have c5b0 : decide (x5_1 < (a0.size : Int)) = false := decide_eq_false c5
     clear c5
     refine em_ (p := 0 ≤ x5_1) (fun c15 => ?g4p) (fun c15 => ?g4n)
     case' g4p =>
      rw [if_pos c15] at H
      have c15b0 := eq_true c15
      have c15b1 : decide (0 ≤ x5_1) = true := decide_eq_true c15
      clear c15
      refine em_ (p := x5_1 ≤ (a0.size : Int)) (fun c16 => ?g3p) (fun c16 => ?g3n)
      case' g3p =>
       rw [if_pos c16] at H
       have c16b0 := eq_true c16
       have c16b1 : decide (x5_1 ≤ (a0.size : Int)) = true := decide_eq_true c16
       clear c16
       obtain rfl := Option.some.inj H
       have lf5_ := trivial
      case g3n =>
       rw [if_neg c16] at H
       exact absurd H (by simp)
     case g4n =>
      rw [if_neg c15] at H
      exact absurd H (by simp)
     all_goals
      go_wp2
      go_ret
      exact ⟨by first | rfl | (simp [errW_none, errW_some] <;> rfl) | (simp [*, errW_none, errW_some] <;> rfl), by repeat (first | (with_reducible first | exact HB.out | apply b1 | apply b2 | apply b3) | exact HB.out)⟩
 ·replace c4 := Bool.eq_false_iff.mpr c4
  subst c4
  have H1 : (some (⟨#[]⟩ : ByteArray)) = some r := by rw [if_neg (show ¬ (false = true) by decide)] at H; exact H
  clear H
  have H := H1
  clear H1
  obtain rfl := Option.some.inj H
  go_enter Tryd.func38, Tryd.ntmps38
  go_wp2_with (first | ((with_reducible refine gate_callee (f := 59) rfl ?_); refine gl_ (some 10) Tryd.func59 #[.int .i64 a1, .int .i64 0, .int .i64 1000] ?_; (with_reducible refine (spec_l1In.calls a1 0 1000 false _ A3.out).mono ?_); rintro e w' ⟨rfl, ⟨nd, rfl⟩⟩; refine ⟨_, rfl, ?_⟩))
  go_ret
  exact ⟨by first | rfl | (simp [errW_none, errW_some] <;> rfl) | (simp [*, errW_none, errW_some] <;> rfl), by repeat (first | (with_reducible first | exact HB.out | apply b1 | apply b2 | apply b3) | exact HB.out)⟩

end Go.Proofs.YtfhkpneffmcdbaaDoor.QB
