/- Contracts of Go functions that laws of this seat reach: each Lean function answers as its Go function does. No condition. Written by wip/tools/inj.py, over the kit's print. -/
import Derived.Test.YtalopdcephohgaaRBx0
import Derived.Test.YtalopdcephohgaaRBx3
import Derived.Test.YtalopdcephohgaaRBx11
import Derived.Test.YtalopdcephohgaaRBx12
import Derived.Test.YtalopdcephohgaaRBx19
import Derived.Test.YtalopdcephohgaaRBx21
import Derived.Test.YtalopdcephohgaaRBx26
import Derived.Test.YtalopdcephohgaaRBx28
import Derived.Test.YtalopdcephohgaaRBx29
import Derived.Test.YtalopdcephohgaaRBx30
namespace Go.Proofs.Ytalopdcephohgaa.RB
open Go.RowKit Go.Proofs.YtalopdcephohgaaW.PrintWords Go.Proofs.YtalopdcephohgaaW.PrintLast Go.Proofs.YtalopdcephohgaaW.PrintMore
attribute [local go_sem] max2_int min2_int max_two min_two max_three min_three max_four min_four   -- for this text's walks alone
set_option linter.unusedVariables false
set_option linter.unusedSimpArgs false

/-! ### laws_FnExactDiff: function 5 -/
theorem rm2 {p q : Prop} (h : Aside0 p) (f : p → q := by (intro h; (with_reducible repeat (first | apply Kd.S_alloc | apply Kd.S_drewN | apply Kd.S_drew)); exact Kd.S_mono h (fun _ hk => by (repeat' apply And.intro); all_goals (first | exact hk | exact hk.2 | exact hk.1.2 | exact hk.1.1.2 | exact hk.1.1.1.2 | exact hk.1.1.1.1.2 | exact hk.1.1.1.1.1.2 | exact hk.1.1.1.1.1.1.2 | exact hk.1.1.1.1.1.1.1.2 | exact hk.1.1.1.1.1.1.1.1.2 | exact hk.1.1.1.1.1.1.1.1.1.2 | exact hk.1.1.1.1.1.1.1.1.1.1.2 | exact hk.1.1.1.1.1.1.1.1.1.1.1.2 | exact hk.1.1.1.1.1.1.1.1.1.1.1.1.2 | exact hk.1.1.1.1.1.1.1.1.1.1.1.1.1.2 | exact hk.1.1.1.1.1.1.1.1.1.1.1.1.1.1.2 | exact hk.1.1.1.1.1.1.1.1.1.1.1.1.1.1.1.2 | exact hk.1.1.1.1.1.1.1.1.1.1.1.1.1.1.1.1.2 | exact hk.1.1.1.1.1.1.1.1.1.1.1.1.1.1.1.1.1.2 | exact hk.1.1.1.1.1.1.1.1.1.1.1.1.1.1.1.1.1.1.2 | exact hk.1.1.1.1.1.1.1.1.1.1.1.1.1.1.1.1.1.1.1.2 | exact hk.1.1.1.1.1.1.1.1.1.1.1.1.1.1.1.1.1.1.1.1.2 | exact hk.1.1.1.1.1.1.1.1.1.1.1.1.1.1.1.1.1.1.1.1.1.2 | exact hk.1.1.1.1.1.1.1.1.1.1.1.1.1.1.1.1.1.1.1.1.1.1.2 | exact hk.1.1.1.1.1.1.1.1.1.1.1.1.1.1.1.1.1.1.1.1.1.1.1.2 | exact hk.1 | exact hk.1.1 | exact hk.1.1.1 | exact hk.1.1.1.1 | exact hk.1.1.1.1.1 | exact hk.1.1.1.1.1.1 | exact hk.1.1.1.1.1.1.1 | exact hk.1.1.1.1.1.1.1.1 | exact hk.1.1.1.1.1.1.1.1.1 | exact hk.1.1.1.1.1.1.1.1.1.1 | exact hk.1.1.1.1.1.1.1.1.1.1.1 | exact hk.1.1.1.1.1.1.1.1.1.1.1.1 | exact hk.1.1.1.1.1.1.1.1.1.1.1.1.1 | exact hk.1.1.1.1.1.1.1.1.1.1.1.1.1.1 | exact hk.1.1.1.1.1.1.1.1.1.1.1.1.1.1.1 | exact hk.1.1.1.1.1.1.1.1.1.1.1.1.1.1.1.1 | exact hk.1.1.1.1.1.1.1.1.1.1.1.1.1.1.1.1.1 | exact hk.1.1.1.1.1.1.1.1.1.1.1.1.1.1.1.1.1.1 | exact hk.1.1.1.1.1.1.1.1.1.1.1.1.1.1.1.1.1.1.1 | exact hk.1.1.1.1.1.1.1.1.1.1.1.1.1.1.1.1.1.1.1.1 | exact hk.1.1.1.1.1.1.1.1.1.1.1.1.1.1.1.1.1.1.1.1.1 | exact hk.1.1.1.1.1.1.1.1.1.1.1.1.1.1.1.1.1.1.1.1.1.1 | exact hk.1.1.1.1.1.1.1.1.1.1.1.1.1.1.1.1.1.1.1.1.1.1.1 | exact hk.1.1.1.1.1.1.1.1.1.1.1.1.1.1.1.1.1.1.1.1.1.1.1.1)))) : q := f h.out
def laws_FnExactDiff.f (k : Nat) (a0_0 : Int) (l0_1 : List (List (S151))) (a1_0 : Int) (l1_1 : List (List (S151))) : Option (Bool) := (laws_szGrid.f k a0_0 l0_1 1048576).bind fun t530 => (if t530 < 0 then (some true) else ((laws_szGrid.f k a1_0 l1_1 t530).bind fun t531 => (if t531 < 0 then (some true) else ((laws_toGrid.f k a0_0 l0_1).bind fun bt532 => ((laws_toGrid.f k a1_0 l1_1).bind fun bt536 => ((spec_Diff.f k bt532.1 bt532.2 bt536.1 bt536.2).bind fun bt540 => ((laws_toGrid.f k a0_0 l0_1).bind fun bt547 => ((laws_toGrid.f k a1_0 l1_1).bind fun bt552 => ((impl_Diff.f k bt547.1 bt547.2 bt552.1 bt552.2).bind fun bt557 => ((laws_eqPatch.f k bt557.1 bt557.2.1 bt557.2.2.1 bt540.1 bt540.2.1 bt540.2.2.1).bind fun t564 => (if t564 = true then (if (bt557.2.2.2 != bt540.2.2.2) = true then (some false) else ((laws_toGrid.f k a0_0 l0_1).bind fun bt565 => ((laws_eqGrid.f k bt547.1 bt547.2 bt565.1 bt565.2).bind fun t569 => (if t569 = true then ((laws_toGrid.f k a1_0 l1_1).bind fun bt570 => ((laws_eqGrid.f k bt552.1 bt552.2 bt570.1 bt570.2).bind fun t574 => (if t574 = true then ((laws_markGrid.f k bt547.1 bt547.2 1).bind fun bt575 => ((laws_markGrid.f k bt552.1 bt552.2 bt575.1).bind fun bt577 => (if bt577.1 < 0 then (some false) else ((laws_eqPatch.f k bt557.1 bt557.2.1 bt557.2.2.1 bt540.1 bt540.2.1 bt540.2.2.1).bind fun t579 => (if t579 = true then ((laws_markPatch.f k bt557.1 bt557.2.1 bt557.2.2.1 1).bind fun bt580 => ((laws_heldPatch.f k bt557.1 bt557.2.1 bt580.2 1).bind fun t582 => (if t582 < 0 then (some false) else (if t582 = bt580.1 then ((laws_toGrid.f k a0_0 l0_1).bind fun bt583 => ((laws_toGrid.f k a1_0 l1_1).bind fun bt587 => ((impl_Diff.f k bt583.1 bt583.2 bt587.1 bt587.2).bind fun bt591 => ((laws_eqPatch.f k bt591.1 bt591.2.1 bt591.2.2.1 bt540.1 bt540.2.1 bt540.2.2.1).bind fun t598 => (if t598 = true then (if (bt591.2.2.2 != bt540.2.2.2) = true then (some false) else ((laws_heldPatch.f k bt557.1 bt557.2.1 bt580.2 1).bind fun t599 => (if t599 < 0 then (some false) else (if t599 = bt580.1 then (some true) else (some false))))) else (some false)))))) else (some false))))) else (some false)))))) else (some false)))) else (some false))))) else (some false))))))))))))
theorem laws_FnExactDiff.mono : ∀ a0 a1 a2 a3 k, LeO (laws_FnExactDiff.f k a0 a1 a2 a3) (laws_FnExactDiff.f (k + 1) a0 a1 a2 a3) := by
 intro a0 a1 a2 a3 k
 unfold laws_FnExactDiff.f
 repeat' first
   | (with_reducible exact impl_Diff.mono _ _ _ _ _)
   | (with_reducible exact laws_eqGrid.mono _ _ _ _ _)
   | (with_reducible exact laws_eqPatch.mono _ _ _ _ _ _ _)
   | (with_reducible exact laws_heldPatch.mono _ _ _ _ _)
   | (with_reducible exact laws_markGrid.mono _ _ _ _)
   | (with_reducible exact laws_markPatch.mono _ _ _ _ _)
   | (with_reducible exact laws_szGrid.mono _ _ _ _)
   | (with_reducible exact laws_toGrid.mono _ _ _)
   | (with_reducible exact spec_Diff.mono _ _ _ _ _)
   | (with_reducible exact LeO.refl _)
   | (with_reducible exact LeO.none _)
   | (with_reducible refine LeO.ite ?_ ?_)
   | (with_reducible refine LeO.bind ?_ (fun _ => ?_))
def laws_FnExactDiff.T8 : Bool × List (List Nat × List Nat) := (true, [([], []), ([0], [0]), ([], []), ([2, 1], [2]), ([1, 3, 3], [1, 3]), ([4], [4]), ([5], [5]), ([5], [5]), ([], []), ([8, 6, 4, 0, 1, 2, 3, 4, 5, 6, 8], [6, 8]), ([7, 9, 0, 1, 2, 3, 4, 5, 6, 7, 8, 9], [7])])
def laws_FnExactDiff.B8 : List Nat := [0, 1, 0, 7, 15, 31, 63, 63, 0, 383, 1023]
theorem laws_FnExactDiff.tab8 : rtab .any (opsOf Try.f5 8) = laws_FnExactDiff.T8 := by kernel_rfl
theorem laws_FnExactDiff.bits8 : waitsOk laws_FnExactDiff.T8.2 laws_FnExactDiff.B8 = true := by kernel_rfl
def laws_FnExactDiff.T31 : Bool × List (List Nat × List Nat) := (true, [([], []), ([0], [0]), ([], []), ([2, 1], [2]), ([1, 3, 3], [1, 3]), ([4], [4]), ([5], [5]), ([5], [5]), ([], []), ([8, 6, 4, 0, 1, 2, 3, 4, 5, 6, 8], [6, 8]), ([7, 9, 0, 1, 2, 3, 4, 5, 6, 7, 8, 9], [7])])
def laws_FnExactDiff.B31 : List Nat := [0, 1, 0, 7, 15, 31, 63, 63, 0, 383, 1023]
theorem laws_FnExactDiff.tab31 : rtab .any (opsOf Try.f5 31) = laws_FnExactDiff.T31 := by kernel_rfl
theorem laws_FnExactDiff.bits31 : waitsOk laws_FnExactDiff.T31.2 laws_FnExactDiff.B31 = true := by kernel_rfl
set_option maxHeartbeats 8000000 in
set_option maxRecDepth 100000 in
theorem laws_FnExactDiff.calls (k : Nat) (a0_0 : Int) (A0_1 : Option Addr) (c0_1 : Nat) (l0_1 : List (List (S151))) (a1_0 : Int) (A1_1 : Option Addr) (c1_1 : Nat) (l1_1 : List (List (S151))) (r : Bool) (w : World) (hr0_1 : Kd.C (Kd.slice 151 k151) w A0_1 l0_1.length l0_1) (hc0_1 : l0_1.length ≤ c0_1) (hr1_1 : Kd.C (Kd.slice 151 k151) w A1_1 l1_1.length l1_1) (hc1_1 : l1_1.length ≤ c1_1) (h : laws_FnExactDiff.f k a0_0 l0_1 a1_0 l1_1 = some r) (hT_ : r = true) :
  Calls Try.prog 5 #[.agg #[.int .i64 a0_0, .slice A0_1 l0_1.length c0_1], .agg #[.int .i64 a1_0, .slice A1_1 l1_1.length c1_1]] w fun e w' => e = .returned (.bool r) ∧ Below w.heap.size w w' := by
 (
have hu49 := Try.underlying49
have hu53 := Try.underlying53
have hu58 := Try.underlying58
have HR0_1 := am hr0_1
have HC0_1 := am hc0_1
clear hr0_1 hc0_1
have HR1_1 := am hr1_1
have HC1_1 := am hc1_1
clear hr1_1 hc1_1
have HB := am (Below.refl w.heap.size w)
have H := h
unfold laws_FnExactDiff.f at H
clear h
replace H := Option.bind_eq_some_iff.mp H
obtain ⟨t530, A30, H⟩ := H
(try dsimp only at H)
have A3 := am A30
clear A30
refine em_ (p := t530 < 0) (fun c4 => ?g12p) (fun c4 => ?g12n)
case' g12p => (
rw [if_pos c4] at H
have c4b0 : decide (t530 < 0) = true := decide_eq_true c4
clear c4
obtain rfl := Option.some.inj H
have lf1_ := trivial
)
case g12n => (
rw [if_neg c4] at H
have c4b0 : decide (t530 < 0) = false := decide_eq_false c4
clear c4
replace H := Option.bind_eq_some_iff.mp H
obtain ⟨t531, A100, H⟩ := H
(try dsimp only at H)
have A10 := am A100
clear A100
refine em_ (p := t531 < 0) (fun c11 => ?g13p) (fun c11 => ?g13n)
case' g13p => (
rw [if_pos c11] at H
have c11b0 : decide (t531 < 0) = true := decide_eq_true c11
clear c11
obtain rfl := Option.some.inj H
have lf4_ := trivial
)
case g13n => (
rw [if_neg c11] at H
have c11b0 : decide (t531 < 0) = false := decide_eq_false c11
clear c11
replace H := Option.bind_eq_some_iff.mp H
obtain ⟨⟨t532, t533⟩, A190, H⟩ := H
(try dsimp only at H)
have A19 := am A190
clear A190
replace H := Option.bind_eq_some_iff.mp H
obtain ⟨⟨t536, t537⟩, A200, H⟩ := H
(try dsimp only at H)
have A20 := am A200
clear A200
replace H := Option.bind_eq_some_iff.mp H
obtain ⟨⟨t540, t541, t542, t545⟩, A210, H⟩ := H
(try dsimp only at H)
have A21 := am A210
clear A210
replace H := Option.bind_eq_some_iff.mp H
obtain ⟨⟨t547, t548⟩, A220, H⟩ := H
(try dsimp only at H)
have A22 := am A220
clear A220
replace H := Option.bind_eq_some_iff.mp H
obtain ⟨⟨t552, t553⟩, A230, H⟩ := H
(try dsimp only at H)
have A23 := am A230
clear A230
replace H := Option.bind_eq_some_iff.mp H
obtain ⟨⟨t557, t558, t559, t562⟩, A240, H⟩ := H
(try dsimp only at H)
have A24 := am A240
clear A240
replace H := Option.bind_eq_some_iff.mp H
obtain ⟨t564, A250, H⟩ := H
(try dsimp only at H)
have A25 := am A250
clear A250
refine em_ (p := t564 = true) (fun c26 => ?g11p) (fun c26 => ?g11n)
case' g11p => (
subst c26
rw [if_pos rfl] at H
refine em_ (p := (t562 != t545) = true) (fun c27 => ?g10p) (fun c27 => ?g10n)
case g10p => (
rw [if_pos c27] at H
have c27b0 : (t562 != t545) = true := c27
(try (have c27b1 : decide (t562 = t545) = false := by simpa using c27))
(try (have c27b2 : (t562 == t545) = false := by simpa using c27))
(try (have c27b3 : ¬ (t562 = t545) := by simpa using c27))
clear c27
with_reducible exact absurd (Option.some.inj (H.trans (congrArg some hT_))) Bool.false_ne_true
)
case' g10n => (
rw [if_neg c27] at H
have c27b0 : (t562 != t545) = false := by simpa using c27
(try (have c27b1 : decide (t562 = t545) = true := by simpa using c27))
(try (have c27b2 : (t562 == t545) = true := by simpa using c27))
clear c27
replace H := Option.bind_eq_some_iff.mp H
obtain ⟨⟨t565, t566⟩, A280, H⟩ := H
(try dsimp only at H)
have A28 := am A280
clear A280
replace H := Option.bind_eq_some_iff.mp H
obtain ⟨t569, A290, H⟩ := H
(try dsimp only at H)
have A29 := am A290
clear A290
refine em_ (p := t569 = true) (fun c30 => ?g9p) (fun c30 => ?g9n)
case' g9p => (
subst c30
rw [if_pos rfl] at H
replace H := Option.bind_eq_some_iff.mp H
obtain ⟨⟨t570, t571⟩, A310, H⟩ := H
(try dsimp only at H)
have A31 := am A310
clear A310
replace H := Option.bind_eq_some_iff.mp H
obtain ⟨t574, A320, H⟩ := H
(try dsimp only at H)
have A32 := am A320
clear A320
refine em_ (p := t574 = true) (fun c33 => ?g8p) (fun c33 => ?g8n)
case' g8p => (
subst c33
rw [if_pos rfl] at H
replace H := Option.bind_eq_some_iff.mp H
obtain ⟨⟨t575, t576⟩, A340, H⟩ := H
(try dsimp only at H)
have A34 := am A340
clear A340
replace H := Option.bind_eq_some_iff.mp H
obtain ⟨⟨t577, t578⟩, A350, H⟩ := H
(try dsimp only at H)
have A35 := am A350
clear A350
refine em_ (p := t577 < 0) (fun c36 => ?g7p) (fun c36 => ?g7n)
case g7p => (
rw [if_pos c36] at H
have c36b0 : decide (t577 < 0) = true := decide_eq_true c36
clear c36
with_reducible exact absurd (Option.some.inj (H.trans (congrArg some hT_))) Bool.false_ne_true
)
case' g7n => (
rw [if_neg c36] at H
have c36b0 : decide (t577 < 0) = false := decide_eq_false c36
clear c36
replace H := Option.bind_eq_some_iff.mp H
obtain ⟨t579, A370, H⟩ := H
(try dsimp only at H)
have A37 := am A370
clear A370
refine em_ (p := t579 = true) (fun c38 => ?g6p) (fun c38 => ?g6n)
case' g6p => (
subst c38
rw [if_pos rfl] at H
replace H := Option.bind_eq_some_iff.mp H
obtain ⟨⟨t580, t581⟩, A390, H⟩ := H
(try dsimp only at H)
have A39 := am A390
clear A390
replace H := Option.bind_eq_some_iff.mp H
obtain ⟨t582, A400, H⟩ := H
(try dsimp only at H)
have A40 := am A400
clear A400
refine em_ (p := t582 < 0) (fun c41 => ?g5p) (fun c41 => ?g5n)
case g5p => (
rw [if_pos c41] at H
have c41b0 : decide (t582 < 0) = true := decide_eq_true c41
clear c41
with_reducible exact absurd (Option.some.inj (H.trans (congrArg some hT_))) Bool.false_ne_true
)
case' g5n => (
rw [if_neg c41] at H
have c41b0 : decide (t582 < 0) = false := decide_eq_false c41
clear c41
refine em_ (p := t582 = t580) (fun c42 => ?g4p) (fun c42 => ?g4n)
case' g4p => (
rw [if_pos c42] at H
have c42b0 : (t582 == t580) = true := beq_iff_eq.mpr c42
have c42b1 : (t582 != t580) = false := bne_eq_false_iff_eq.mpr c42
clear c42
replace H := Option.bind_eq_some_iff.mp H
obtain ⟨⟨t583, t584⟩, A430, H⟩ := H
(try dsimp only at H)
have A43 := am A430
clear A430
replace H := Option.bind_eq_some_iff.mp H
obtain ⟨⟨t587, t588⟩, A440, H⟩ := H
(try dsimp only at H)
have A44 := am A440
clear A440
replace H := Option.bind_eq_some_iff.mp H
obtain ⟨⟨t591, t592, t593, t596⟩, A450, H⟩ := H
(try dsimp only at H)
have A45 := am A450
clear A450
replace H := Option.bind_eq_some_iff.mp H
obtain ⟨t598, A460, H⟩ := H
(try dsimp only at H)
have A46 := am A460
clear A460
refine em_ (p := t598 = true) (fun c47 => ?g3p) (fun c47 => ?g3n)
case' g3p => (
subst c47
rw [if_pos rfl] at H
refine em_ (p := (t596 != t545) = true) (fun c48 => ?g2p) (fun c48 => ?g2n)
case g2p => (
rw [if_pos c48] at H
have c48b0 : (t596 != t545) = true := c48
(try (have c48b1 : decide (t596 = t545) = false := by simpa using c48))
(try (have c48b2 : (t596 == t545) = false := by simpa using c48))
(try (have c48b3 : ¬ (t596 = t545) := by simpa using c48))
clear c48
with_reducible exact absurd (Option.some.inj (H.trans (congrArg some hT_))) Bool.false_ne_true
)
case' g2n => (
rw [if_neg c48] at H
have c48b0 : (t596 != t545) = false := by simpa using c48
(try (have c48b1 : decide (t596 = t545) = true := by simpa using c48))
(try (have c48b2 : (t596 == t545) = true := by simpa using c48))
clear c48
replace H := Option.bind_eq_some_iff.mp H
obtain ⟨t599, A490, H⟩ := H
(try dsimp only at H)
have A49 := am A490
clear A490
refine em_ (p := t599 < 0) (fun c50 => ?g1p) (fun c50 => ?g1n)
case g1p => (
rw [if_pos c50] at H
have c50b0 : decide (t599 < 0) = true := decide_eq_true c50
clear c50
with_reducible exact absurd (Option.some.inj (H.trans (congrArg some hT_))) Bool.false_ne_true
)
case' g1n => (
rw [if_neg c50] at H
have c50b0 : decide (t599 < 0) = false := decide_eq_false c50
clear c50
refine em_ (p := t599 = t580) (fun c51 => ?g0p) (fun c51 => ?g0n)
case' g0p => (
rw [if_pos c51] at H
have c51b0 : (t599 == t580) = true := beq_iff_eq.mpr c51
have c51b1 : (t599 != t580) = false := bne_eq_false_iff_eq.mpr c51
clear c51
obtain rfl := Option.some.inj H
have lf3_ := trivial
)
case g0n => (
rw [if_neg c51] at H
have c51b0 : (t599 == t580) = false := beq_eq_false_iff_ne.mpr c51
have c51b1 : (t599 != t580) = true := bne_iff_ne.mpr c51
with_reducible exact absurd (Option.some.inj (H.trans (congrArg some hT_))) Bool.false_ne_true
)
)
)
)
case g3n => (
replace c47 := Bool.eq_false_iff.mpr c47
subst c47
have H1 : (some false) = some r := by rw [if_neg (show ¬ (false = true) by decide)] at H; exact H
clear H
have H := H1
clear H1
with_reducible exact absurd (Option.some.inj (H.trans (congrArg some hT_))) Bool.false_ne_true
)
)
case g4n => (
rw [if_neg c42] at H
have c42b0 : (t582 == t580) = false := beq_eq_false_iff_ne.mpr c42
have c42b1 : (t582 != t580) = true := bne_iff_ne.mpr c42
with_reducible exact absurd (Option.some.inj (H.trans (congrArg some hT_))) Bool.false_ne_true
)
)
)
case g6n => (
replace c38 := Bool.eq_false_iff.mpr c38
subst c38
have H1 : (some false) = some r := by rw [if_neg (show ¬ (false = true) by decide)] at H; exact H
clear H
have H := H1
clear H1
with_reducible exact absurd (Option.some.inj (H.trans (congrArg some hT_))) Bool.false_ne_true
)
)
)
case g8n => (
replace c33 := Bool.eq_false_iff.mpr c33
subst c33
have H1 : (some false) = some r := by rw [if_neg (show ¬ (false = true) by decide)] at H; exact H
clear H
have H := H1
clear H1
with_reducible exact absurd (Option.some.inj (H.trans (congrArg some hT_))) Bool.false_ne_true
)
)
case g9n => (
replace c30 := Bool.eq_false_iff.mpr c30
subst c30
have H1 : (some false) = some r := by rw [if_neg (show ¬ (false = true) by decide)] at H; exact H
clear H
have H := H1
clear H1
with_reducible exact absurd (Option.some.inj (H.trans (congrArg some hT_))) Bool.false_ne_true
)
)
)
case g11n => (
replace c26 := Bool.eq_false_iff.mpr c26
subst c26
have H1 : (some false) = some r := by rw [if_neg (show ¬ (false = true) by decide)] at H; exact H
clear H
have H := H1
clear H1
with_reducible exact absurd (Option.some.inj (H.trans (congrArg some hT_))) Bool.false_ne_true
)
all_goals (
go_enter Try.func5, Try.ntmps5
try go_wp2_with (first | ((with_reducible refine gate_dst (N := 2) rfl ?_); refine box_event ?hg (N := 2) ?hd (cs := #[.int .i64 a0_0, .slice A0_1 l0_1.length c0_1]) (t := 49) ?hr ?_; (case hd => rfl); (case hg => rfl); (case hr => first | (go_simp; done) | (go_simp; rfl)); intro gb528 hg w52 hbox hb; have BK528 := am (hbox); have GW528 := am (gw hg (rb HB)); have GE528 := GW528; replace HB := am (below_step (rb HB) hb); clear hb hbox hg) | ((with_reducible refine gate_dst (N := 3) rfl ?_); refine box_event ?hg (N := 3) ?hd (cs := #[.int .i64 a1_0, .slice A1_1 l1_1.length c1_1]) (t := 49) ?hr ?_; (case hd => rfl); (case hg => rfl); (case hr => first | (go_simp; done) | (go_simp; rfl)); intro gb529 hg w53 hbox hb; have BK529 := am (hbox); have GW529 := am (gw hg (rb1 HB GE528)); have GE529 := GW529; replace HB := am (below_step (rb1 HB GE528) hb); have NB528_529 := am (nl hg (rk BK528)); have NB529_528 := am (ng hg (rk BK528)); replace BK528 := am (blk_below (rk BK528) hb); clear hb hbox hg; have hnb54 := NB528_529.out; have hnc54 := NB529_528.out; have hcz55_0 : w53.cell? ⟨gb528, 0, none⟩ = some (.int .i64 a0_0) := (blk_cell BK528.out 0).trans rfl; have hcz55_1 : w53.cell? ⟨gb528, 1, none⟩ = some (.slice A0_1 l0_1.length c0_1) := (blk_cell BK528.out 1).trans rfl; have hfz55_0 := blk_frozen BK528.out 0; have hfz55_1 := blk_frozen BK528.out 1) | ((with_reducible refine gate_callee (f := 30) rfl ?_); refine gl_ (some 19) Try.func30 #[.agg #[.int .i64 a0_0, .slice A0_1 l0_1.length c0_1], .int .i64 1048576] ?_; (with_reducible refine (laws_szGrid.calls k a0_0 _ _ l0_1 1048576 t530 _ ?side1 ?side2 A3.out).mono ?_); (case side1 => exact rc ((Kd.C_below HR0_1.out HB.out))); (case side2 => exact HC0_1.out); rintro e w56 ⟨rfl, hb⟩; refine ⟨_, rfl, ?_⟩; replace BK528 := am (blk_below (rk BK528) hb); replace BK529 := am (blk_below (rk BK529) hb); replace HB := am (below_step (rb2 HB GE528 GE529) hb); (try clear hb); (try clear hb2); (try clear hk); (try clear hi); have hcz57_0 : w56.cell? ⟨gb529, 0, none⟩ = some (.int .i64 a1_0) := (blk_cell BK529.out 0).trans rfl; have hcz57_1 : w56.cell? ⟨gb529, 1, none⟩ = some (.slice A1_1 l1_1.length c1_1) := (blk_cell BK529.out 1).trans rfl; have hfz57_0 := blk_frozen BK529.out 0; have hfz57_1 := blk_frozen BK529.out 1) | ((with_reducible refine gate_callee (f := 30) rfl ?_); refine gl_ (some 24) Try.func30 #[.agg #[.int .i64 a1_0, .slice A1_1 l1_1.length c1_1], .int .i64 t530] ?_; (with_reducible refine (laws_szGrid.calls k a1_0 _ _ l1_1 t530 t531 _ ?side1 ?side2 A10.out).mono ?_); (case side1 => exact rc ((Kd.C_below HR1_1.out HB.out))); (case side2 => exact HC1_1.out); rintro e w58 ⟨rfl, hb⟩; refine ⟨_, rfl, ?_⟩; replace BK528 := am (blk_below (rk BK528) hb); replace BK529 := am (blk_below (rk BK529) hb); replace HB := am (below_step (rb2 HB GE528 GE529) hb); (try clear hb); (try clear hb2); (try clear hk); (try clear hi)))
replace BK528 := am (blk_drew BK528.out)
replace BK529 := am (blk_drew BK529.out)
replace HB := am (below_drew1 HB.out)
refine start_ (n := 11) (S := fun w' => w'.cell? ⟨gb528, 0, none⟩ = some (.int .i64 a0_0) ∧ w'.cell? ⟨gb528, 1, none⟩ = some (.slice A0_1 l0_1.length c0_1) ∧ w'.cell? ⟨gb529, 0, none⟩ = some (.int .i64 a1_0) ∧ w'.cell? ⟨gb529, 1, none⟩ = some (.slice A1_1 l1_1.length c1_1)) (ds := []) (bm 11 0) (by kernel_rfl) rfl rfl ⟨(blk_cell BK528.out 0).trans rfl, (blk_cell BK528.out 1).trans rfl, (blk_cell BK529.out 0).trans rfl, (blk_cell BK529.out 1).trans rfl⟩ (fun hHeld => ?_); refine with_tabW laws_FnExactDiff.tab8 laws_FnExactDiff.bits8 (fun HT_ HW_ => ?_)
generalize w58.drew = w59 at BK528 BK529 HB hHeld ⊢
refine take_ (i := 0) (N := some 28) (v := ?_) (a' := ?_) (bm 11 1) rfl rfl (take_ofW HT_.out HW_.out (by kernel_rfl)) (fun _ _ _ h => h) (Or.inl ⟨by rfl, ?_⟩) hHeld ?_ ?_
rotate_left
·(
rintro w' ⟨s0, s1, s2, s3⟩
go_simp
with_reducible rfl
)
rotate_left
·(
simp only [Act.put, List.setIfInBounds_toArray, List.set_cons_zero, List.set_cons_succ, i64_w, i32_w]
rfl
)
refine take_ (i := 2) (N := some 30) (v := ?_) (a' := ?_) (bm 11 5) rfl rfl (take_ofW HT_.out HW_.out (by kernel_rfl)) (fun _ _ _ h => h) (Or.inl ⟨by rfl, ?_⟩) hHeld ?_ ?_
rotate_left
·(
rintro w' ⟨s0, s1, s2, s3⟩
go_simp
with_reducible rfl
)
rotate_left
·(
simp only [Act.put, List.setIfInBounds_toArray, List.set_cons_zero, List.set_cons_succ, i64_w, i32_w]
rfl
)
refine join_ (σ := Value × Value × Value × Nat) 2 (bm 11 511) (fun s_ => [(29, .agg #[.int .i64 t532, s_.1]), (31, .agg #[.int .i64 t536, s_.2.1]), (32, .tuple #[.agg #[.int .i64 t540, .int .i64 t541, s_.2.2.1], .bool t545]), (6, .pointer (some ⟨s_.2.2.2, 0, none⟩)), (27, .tuple #[.agg #[.int .i64 t540, .int .i64 t541, s_.2.2.1], .bool t545]), (33, .agg #[.int .i64 t540, .int .i64 t541, s_.2.2.1]), (34, .bool t545)]) (fun s_ w' => (w'.cell? ⟨gb528, 0, none⟩ = some (.int .i64 a0_0) ∧ w'.cell? ⟨gb528, 1, none⟩ = some (.slice A0_1 l0_1.length c0_1) ∧ w'.cell? ⟨gb529, 0, none⟩ = some (.int .i64 a1_0) ∧ w'.cell? ⟨gb529, 1, none⟩ = some (.slice A1_1 l1_1.length c1_1)) ∧ (Kd.S (Kd.slice 98 k98) 99 w' w.heap.size (fun k_ => some k_ ≠ (s_.2.1 : Value).ownBlock) s_.1 t533) ∧ (Kd.S (Kd.slice 98 k98) 99 w' w.heap.size (fun k_ => some k_ ≠ (s_.1 : Value).ownBlock) s_.2.1 t537) ∧ (Kd.S k101 101 w' w.heap.size (fun _ => True) s_.2.2.1 t542) ∧ (w'.heap[gb528]? = some (.cells #[.int .i64 a0_0, .slice A0_1 l0_1.length c0_1] 49 (0, 0))) ∧ (w'.heap[gb529]? = some (.cells #[.int .i64 a1_0, .slice A1_1 l1_1.length c1_1] 49 (0, 0))) ∧ (w'.heap[s_.2.2.2]? = some (.cells #[.int .i64 0, .int .i64 0, .slice none 0 0] 53 (0, 0))) ∧ (w.heap.size ≤ s_.2.2.2) ∧ (w.heap.size ≤ s_.2.2.2) ∧ (gb528 ≠ s_.2.2.2) ∧ (s_.2.2.2 ≠ gb528) ∧ (gb529 ≠ s_.2.2.2) ∧ (s_.2.2.2 ≠ gb529) ∧ (Below w.heap.size w w')) ?_ ?_
rotate_left
·(
intro hCont
refine two_ (i := 1) (j := 8) (Ni := some 29) (Nj := some 6) (bm 11 7) (bm 11 261) rfl rfl rfl rfl (two_of HT_.out (by kernel_rfl)) (by decide) (by decide) (fun K hK => ?_) (fun K hK => ?_)
·(
skip
refine goes_ Try.func32 (by kernel_rfl) rfl #[.agg #[.int .i64 a0_0, .slice A0_1 l0_1.length c0_1]] (by rfl) rfl rfl mt ?_
with_reducible refine (laws_toGrid.calls k a0_0 _ _ l0_1 t532 t533 _ ?side1 ?side2 A19.out).mono ?_
(case side1 => exact rc ((Kd.C_below HR0_1.out HB.out)))
(case side2 => exact HC0_1.out)
rintro e w60 ⟨v534, rfl, ho0, hb⟩
refine ⟨_, rfl, ?_⟩
have HO535 := am (Kd.S_lower (Sx_floor ho0) (below_size (rb2 HB GE528 GE529)))
replace BK528 := am (blk_below (rk BK528) hb)
replace BK529 := am (blk_below (rk BK529) hb)
replace HB := am (below_step (rb2 HB GE528 GE529) hb)
(try clear hb)
(try clear ho0)
refine hK.out _ _ ⟨(blk_cell BK528.out 0).trans rfl, (blk_cell BK528.out 1).trans rfl, (blk_cell BK529.out 0).trans rfl, (blk_cell BK529.out 1).trans rfl⟩ (fun hHeld => ?_)
clear hK K
refine norm_ (a' := _) (show Act.put _ (some 29) _ = _ from na) ?_
refine two_ (i := 3) (j := 8) (Ni := some 31) (Nj := some 6) (bm 11 15) (bm 11 263) rfl rfl rfl rfl (two_of HT_.out (by kernel_rfl)) (by decide) (by decide) (fun K hK => ?_) (fun K hK => ?_)
·(
skip
refine goes_ Try.func32 (by kernel_rfl) rfl #[.agg #[.int .i64 a1_0, .slice A1_1 l1_1.length c1_1]] (by rfl) rfl rfl mt ?_
with_reducible refine (laws_toGrid.calls k a1_0 _ _ l1_1 t536 t537 _ ?side1 ?side2 A20.out).mono ?_
(case side1 => exact rc ((Kd.C_below HR1_1.out HB.out)))
(case side2 => exact HC1_1.out)
rintro e w62 ⟨v538, rfl, ho0, hb⟩
refine ⟨_, rfl, ?_⟩
have HO539 := am (Kd.S_lower (Kd.S_new' (Sx_floor ho0) (Kd.S_lt (rs HO535))) (below_size (rb2 HB GE528 GE529)))
replace HO535 := am (Kd.S_elder' (Sx_cap (rs HO535)) (Kd.S_base ho0) hb)
replace BK528 := am (blk_below (rk BK528) hb)
replace BK529 := am (blk_below (rk BK529) hb)
replace HB := am (below_step (rb2 HB GE528 GE529) hb)
(try clear hb)
(try clear ho0)
obtain ⟨Ao64, co64, eo64⟩ := Kd.S_slice HO535.out
(first | subst eo64 | (injection eo64 with f1_ f2_ f3_; have f4_ := f1_.symm; have f5_ := f3_.symm; clear f1_ f2_ f3_; subst f4_; subst f5_))
obtain ⟨Ao65, co65, eo65⟩ := Kd.S_slice HO539.out
(first | subst eo65 | (injection eo65 with f1_ f2_ f3_; have f4_ := f1_.symm; have f5_ := f3_.symm; clear f1_ f2_ f3_; subst f4_; subst f5_))
refine hK.out _ _ ⟨(blk_cell BK528.out 0).trans rfl, (blk_cell BK528.out 1).trans rfl, (blk_cell BK529.out 0).trans rfl, (blk_cell BK529.out 1).trans rfl⟩ (fun hHeld => ?_)
clear hK K
refine norm_ (a' := _) (show Act.put _ (some 31) _ = _ from na) ?_
refine two_ (i := 4) (j := 8) (Ni := some 32) (Nj := some 6) (bm 11 31) (bm 11 271) rfl rfl rfl rfl (two_of HT_.out (by kernel_rfl)) (by decide) (by decide) (fun K hK => ?_) (fun K hK => ?_)
·(
skip
refine goes_ Try.func31 (by kernel_rfl) rfl #[.agg #[.int .i64 t532, .slice Ao64 t533.length co64], .agg #[.int .i64 t536, .slice Ao65 t537.length co65]] (by rfl) rfl rfl mt ?_
with_reducible refine (spec_Diff.calls k t532 _ _ t533 t536 _ _ t537 t540 t541 t542 t545 _ ?side1 ?side2 ?side3 ?side4 A21.out).mono ?_
(case side1 => exact rcs HO535)
(case side2 => exact (Kd.S_reads' HO535.out).2.1)
(case side3 => exact rcs HO539)
(case side4 => exact (Kd.S_reads' HO539.out).2.1)
rintro e w66 ⟨v543, rfl, ho0, hb⟩
refine ⟨_, rfl, ?_⟩
replace HO535 := am (Kd.S_below (Sx_cap (rs HO535)) hb)
replace HO539 := am (Kd.S_below (Sx_cap (rs HO539)) hb)
have HO544 := am (Kd.S_lower (Sx_floor ho0) (below_size (rb2 HB GE528 GE529)))
replace BK528 := am (blk_below (rk BK528) hb)
replace BK529 := am (blk_below (rk BK529) hb)
replace HB := am (below_step (rb2 HB GE528 GE529) hb)
(try clear hb)
(try clear ho0)
refine hK.out _ _ ⟨(blk_cell BK528.out 0).trans rfl, (blk_cell BK528.out 1).trans rfl, (blk_cell BK529.out 0).trans rfl, (blk_cell BK529.out 1).trans rfl⟩ (fun hHeld => ?_)
clear hK K
refine norm_ (a' := _) (show Act.put _ (some 32) _ = _ from na) ?_
refine pu_ 5 27 (bm 11 63) HT_.out ?_
refine pu_ 6 33 (bm 11 127) HT_.out ?_
refine pu_ 7 34 (bm 11 255) HT_.out ?_
refine one_ (i := 8) (N := some 6) (bm 11 511) rfl rfl (one_of HT_.out (by kernel_rfl)) (by decide) (fun K hK => ?_)
refine box_step ?hg (N := 6) ?hd (cs := #[.int .i64 0, .int .i64 0, .slice none 0 0]) (t := 53) ?hr ?_; (case hd => rfl); (case hg => rfl); (case hr => first | (go_simp; done) | (go_simp; rfl))
intro gb546 hg w68 hbox hb
replace HO535 := am (Kd.S_below (rs HO535) hb)
replace HO539 := am (Kd.S_below (rs HO539) hb)
replace HO544 := am (Kd.S_below (rs HO544) hb)
have BK546 := am (hbox)
have GW546 := am (gw hg (rb2 HB GE528 GE529))
have GE546 := GW546
replace HB := am (below_step (rb2 HB GE528 GE529) hb)
have NB528_546 := am (nl hg (rk BK528))
have NB546_528 := am (ng hg (rk BK528))
replace BK528 := am (blk_below (rk BK528) hb)
have NB529_546 := am (nl hg (rk BK529))
have NB546_529 := am (ng hg (rk BK529))
replace BK529 := am (blk_below (rk BK529) hb)
clear hb hbox hg
refine hK.out _ _ ⟨(blk_cell BK528.out 0).trans rfl, (blk_cell BK528.out 1).trans rfl, (blk_cell BK529.out 0).trans rfl, (blk_cell BK529.out 1).trans rfl⟩ (fun hHeld => ?_)
clear hK K
refine norm_ (a' := _) (show Act.put _ (some 6) _ = _ from na) ?_
exact norm_ nz0 (hCont (.slice Ao64 t533.length co64, .slice Ao65 t537.length co65, v543, gb546) _ ⟨hHeld, (rm2 HO535), (rm2 HO539), (by (with_reducible repeat (first | apply Kd.S_alloc | apply Kd.S_drewN | apply Kd.S_drew)); exact Kd.S_mono HO544.out (fun _ hk => trivial)), (rk BK528), (rk BK529), (rk BK546), GW546.out, GE546.out, NB528_546.out, NB546_528.out, NB529_546.out, NB546_529.out, (rb3 HB GE528 GE529 GE546)⟩)
)
·(
skip
refine box_step ?hg (N := 6) ?hd (cs := #[.int .i64 0, .int .i64 0, .slice none 0 0]) (t := 53) ?hr ?_; (case hd => rfl); (case hg => rfl); (case hr => first | (go_simp; done) | (go_simp; rfl))
intro gb546 hg w64 hbox hb
replace HO535 := am (Kd.S_below (rs HO535) hb)
replace HO539 := am (Kd.S_below (rs HO539) hb)
have BK546 := am (hbox)
have GW546 := am (gw hg (rb2 HB GE528 GE529))
have GE546 := GW546
replace HB := am (below_step (rb2 HB GE528 GE529) hb)
have NB528_546 := am (nl hg (rk BK528))
have NB546_528 := am (ng hg (rk BK528))
replace BK528 := am (blk_below (rk BK528) hb)
have NB529_546 := am (nl hg (rk BK529))
have NB546_529 := am (ng hg (rk BK529))
replace BK529 := am (blk_below (rk BK529) hb)
clear hb hbox hg
obtain ⟨Ao65, co65, eo65⟩ := Kd.S_slice HO535.out
(first | subst eo65 | (injection eo65 with f1_ f2_ f3_; have f4_ := f1_.symm; have f5_ := f3_.symm; clear f1_ f2_ f3_; subst f4_; subst f5_))
obtain ⟨Ao66, co66, eo66⟩ := Kd.S_slice HO539.out
(first | subst eo66 | (injection eo66 with f1_ f2_ f3_; have f4_ := f1_.symm; have f5_ := f3_.symm; clear f1_ f2_ f3_; subst f4_; subst f5_))
refine hK.out _ _ ⟨(blk_cell BK528.out 0).trans rfl, (blk_cell BK528.out 1).trans rfl, (blk_cell BK529.out 0).trans rfl, (blk_cell BK529.out 1).trans rfl⟩ (fun hHeld => ?_)
clear hK K
refine norm_ (a' := _) (show Act.put _ (some 6) _ = _ from na) ?_
refine one_ (i := 4) (N := some 32) (bm 11 287) rfl rfl (one_of HT_.out (by kernel_rfl)) (by decide) (fun K hK => ?_)
refine goes_ Try.func31 (by kernel_rfl) rfl #[.agg #[.int .i64 t532, .slice Ao65 t533.length co65], .agg #[.int .i64 t536, .slice Ao66 t537.length co66]] (by rfl) rfl rfl mt ?_
with_reducible refine (spec_Diff.calls k t532 _ _ t533 t536 _ _ t537 t540 t541 t542 t545 _ ?side1 ?side2 ?side3 ?side4 A21.out).mono ?_
(case side1 => exact rcs HO535)
(case side2 => exact (Kd.S_reads' HO535.out).2.1)
(case side3 => exact rcs HO539)
(case side4 => exact (Kd.S_reads' HO539.out).2.1)
rintro e w67 ⟨v543, rfl, ho0, hb⟩
refine ⟨_, rfl, ?_⟩
replace HO535 := am (Kd.S_below (Sx_cap (rs HO535)) hb)
replace HO539 := am (Kd.S_below (Sx_cap (rs HO539)) hb)
have HO544 := am (Kd.S_lower (Sx_floor ho0) (below_size (rb3 HB GE528 GE529 GE546)))
replace BK528 := am (blk_below (rk BK528) hb)
replace BK529 := am (blk_below (rk BK529) hb)
replace BK546 := am (blk_below (rk BK546) hb)
replace HB := am (below_step (rb3 HB GE528 GE529 GE546) hb)
(try clear hb)
(try clear ho0)
refine hK.out _ _ ⟨(blk_cell BK528.out 0).trans rfl, (blk_cell BK528.out 1).trans rfl, (blk_cell BK529.out 0).trans rfl, (blk_cell BK529.out 1).trans rfl⟩ (fun hHeld => ?_)
clear hK K
refine norm_ (a' := _) (show Act.put _ (some 32) _ = _ from na) ?_
refine pu_ 5 27 (bm 11 319) HT_.out ?_
refine pu_ 6 33 (bm 11 383) HT_.out ?_
refine pu_ 7 34 (bm 11 511) HT_.out ?_
exact norm_ nz0 (hCont (.slice Ao65 t533.length co65, .slice Ao66 t537.length co66, v543, gb546) _ ⟨hHeld, (rm2 HO535), (rm2 HO539), (by (with_reducible repeat (first | apply Kd.S_alloc | apply Kd.S_drewN | apply Kd.S_drew)); exact Kd.S_mono HO544.out (fun _ hk => trivial)), (rk BK528), (rk BK529), (rk BK546), GW546.out, GE546.out, NB528_546.out, NB546_528.out, NB529_546.out, NB546_529.out, (rb3 HB GE528 GE529 GE546)⟩)
)
)
·(
skip
refine box_step ?hg (N := 6) ?hd (cs := #[.int .i64 0, .int .i64 0, .slice none 0 0]) (t := 53) ?hr ?_; (case hd => rfl); (case hg => rfl); (case hr => first | (go_simp; done) | (go_simp; rfl))
intro gb546 hg w62 hbox hb
replace HO535 := am (Kd.S_below (rs HO535) hb)
have BK546 := am (hbox)
have GW546 := am (gw hg (rb2 HB GE528 GE529))
have GE546 := GW546
replace HB := am (below_step (rb2 HB GE528 GE529) hb)
have NB528_546 := am (nl hg (rk BK528))
have NB546_528 := am (ng hg (rk BK528))
replace BK528 := am (blk_below (rk BK528) hb)
have NB529_546 := am (nl hg (rk BK529))
have NB546_529 := am (ng hg (rk BK529))
replace BK529 := am (blk_below (rk BK529) hb)
clear hb hbox hg
refine hK.out _ _ ⟨(blk_cell BK528.out 0).trans rfl, (blk_cell BK528.out 1).trans rfl, (blk_cell BK529.out 0).trans rfl, (blk_cell BK529.out 1).trans rfl⟩ (fun hHeld => ?_)
clear hK K
refine norm_ (a' := _) (show Act.put _ (some 6) _ = _ from na) ?_
refine one_ (i := 3) (N := some 31) (bm 11 271) rfl rfl (one_of HT_.out (by kernel_rfl)) (by decide) (fun K hK => ?_)
refine goes_ Try.func32 (by kernel_rfl) rfl #[.agg #[.int .i64 a1_0, .slice A1_1 l1_1.length c1_1]] (by rfl) rfl rfl mt ?_
with_reducible refine (laws_toGrid.calls k a1_0 _ _ l1_1 t536 t537 _ ?side1 ?side2 A20.out).mono ?_
(case side1 => exact rc ((Kd.C_below HR1_1.out HB.out)))
(case side2 => exact HC1_1.out)
rintro e w63 ⟨v538, rfl, ho0, hb⟩
refine ⟨_, rfl, ?_⟩
have HO539 := am (Kd.S_lower (Kd.S_new' (Sx_floor ho0) (Kd.S_lt (rs HO535))) (below_size (rb3 HB GE528 GE529 GE546)))
replace HO535 := am (Kd.S_elder' (Sx_cap (rs HO535)) (Kd.S_base ho0) hb)
replace BK528 := am (blk_below (rk BK528) hb)
replace BK529 := am (blk_below (rk BK529) hb)
replace BK546 := am (blk_below (rk BK546) hb)
replace HB := am (below_step (rb3 HB GE528 GE529 GE546) hb)
(try clear hb)
(try clear ho0)
obtain ⟨Ao65, co65, eo65⟩ := Kd.S_slice HO535.out
(first | subst eo65 | (injection eo65 with f1_ f2_ f3_; have f4_ := f1_.symm; have f5_ := f3_.symm; clear f1_ f2_ f3_; subst f4_; subst f5_))
obtain ⟨Ao66, co66, eo66⟩ := Kd.S_slice HO539.out
(first | subst eo66 | (injection eo66 with f1_ f2_ f3_; have f4_ := f1_.symm; have f5_ := f3_.symm; clear f1_ f2_ f3_; subst f4_; subst f5_))
refine hK.out _ _ ⟨(blk_cell BK528.out 0).trans rfl, (blk_cell BK528.out 1).trans rfl, (blk_cell BK529.out 0).trans rfl, (blk_cell BK529.out 1).trans rfl⟩ (fun hHeld => ?_)
clear hK K
refine norm_ (a' := _) (show Act.put _ (some 31) _ = _ from na) ?_
refine one_ (i := 4) (N := some 32) (bm 11 287) rfl rfl (one_of HT_.out (by kernel_rfl)) (by decide) (fun K hK => ?_)
refine goes_ Try.func31 (by kernel_rfl) rfl #[.agg #[.int .i64 t532, .slice Ao65 t533.length co65], .agg #[.int .i64 t536, .slice Ao66 t537.length co66]] (by rfl) rfl rfl mt ?_
with_reducible refine (spec_Diff.calls k t532 _ _ t533 t536 _ _ t537 t540 t541 t542 t545 _ ?side1 ?side2 ?side3 ?side4 A21.out).mono ?_
(case side1 => exact rcs HO535)
(case side2 => exact (Kd.S_reads' HO535.out).2.1)
(case side3 => exact rcs HO539)
(case side4 => exact (Kd.S_reads' HO539.out).2.1)
rintro e w67 ⟨v543, rfl, ho0, hb⟩
refine ⟨_, rfl, ?_⟩
replace HO535 := am (Kd.S_below (Sx_cap (rs HO535)) hb)
replace HO539 := am (Kd.S_below (Sx_cap (rs HO539)) hb)
have HO544 := am (Kd.S_lower (Sx_floor ho0) (below_size (rb3 HB GE528 GE529 GE546)))
replace BK528 := am (blk_below (rk BK528) hb)
replace BK529 := am (blk_below (rk BK529) hb)
replace BK546 := am (blk_below (rk BK546) hb)
replace HB := am (below_step (rb3 HB GE528 GE529 GE546) hb)
(try clear hb)
(try clear ho0)
refine hK.out _ _ ⟨(blk_cell BK528.out 0).trans rfl, (blk_cell BK528.out 1).trans rfl, (blk_cell BK529.out 0).trans rfl, (blk_cell BK529.out 1).trans rfl⟩ (fun hHeld => ?_)
clear hK K
refine norm_ (a' := _) (show Act.put _ (some 32) _ = _ from na) ?_
refine pu_ 5 27 (bm 11 319) HT_.out ?_
refine pu_ 6 33 (bm 11 383) HT_.out ?_
refine pu_ 7 34 (bm 11 511) HT_.out ?_
exact norm_ nz0 (hCont (.slice Ao65 t533.length co65, .slice Ao66 t537.length co66, v543, gb546) _ ⟨hHeld, (rm2 HO535), (rm2 HO539), (by (with_reducible repeat (first | apply Kd.S_alloc | apply Kd.S_drewN | apply Kd.S_drew)); exact Kd.S_mono HO544.out (fun _ hk => trivial)), (rk BK528), (rk BK529), (rk BK546), GW546.out, GE546.out, NB528_546.out, NB546_528.out, NB529_546.out, NB546_529.out, (rb3 HB GE528 GE529 GE546)⟩)
)
)
·(
skip
refine box_step ?hg (N := 6) ?hd (cs := #[.int .i64 0, .int .i64 0, .slice none 0 0]) (t := 53) ?hr ?_; (case hd => rfl); (case hg => rfl); (case hr => first | (go_simp; done) | (go_simp; rfl))
intro gb546 hg w60 hbox hb
have BK546 := am (hbox)
have GW546 := am (gw hg (rb2 HB GE528 GE529))
have GE546 := GW546
replace HB := am (below_step (rb2 HB GE528 GE529) hb)
have NB528_546 := am (nl hg (rk BK528))
have NB546_528 := am (ng hg (rk BK528))
replace BK528 := am (blk_below (rk BK528) hb)
have NB529_546 := am (nl hg (rk BK529))
have NB546_529 := am (ng hg (rk BK529))
replace BK529 := am (blk_below (rk BK529) hb)
clear hb hbox hg
refine hK.out _ _ ⟨(blk_cell BK528.out 0).trans rfl, (blk_cell BK528.out 1).trans rfl, (blk_cell BK529.out 0).trans rfl, (blk_cell BK529.out 1).trans rfl⟩ (fun hHeld => ?_)
clear hK K
refine norm_ (a' := _) (show Act.put _ (some 6) _ = _ from na) ?_
refine one_ (i := 1) (N := some 29) (bm 11 263) rfl rfl (one_of HT_.out (by kernel_rfl)) (by decide) (fun K hK => ?_)
refine goes_ Try.func32 (by kernel_rfl) rfl #[.agg #[.int .i64 a0_0, .slice A0_1 l0_1.length c0_1]] (by rfl) rfl rfl mt ?_
with_reducible refine (laws_toGrid.calls k a0_0 _ _ l0_1 t532 t533 _ ?side1 ?side2 A19.out).mono ?_
(case side1 => exact rc ((Kd.C_below HR0_1.out HB.out)))
(case side2 => exact HC0_1.out)
rintro e w61 ⟨v534, rfl, ho0, hb⟩
refine ⟨_, rfl, ?_⟩
have HO535 := am (Kd.S_lower (Sx_floor ho0) (below_size (rb3 HB GE528 GE529 GE546)))
replace BK528 := am (blk_below (rk BK528) hb)
replace BK529 := am (blk_below (rk BK529) hb)
replace BK546 := am (blk_below (rk BK546) hb)
replace HB := am (below_step (rb3 HB GE528 GE529 GE546) hb)
(try clear hb)
(try clear ho0)
refine hK.out _ _ ⟨(blk_cell BK528.out 0).trans rfl, (blk_cell BK528.out 1).trans rfl, (blk_cell BK529.out 0).trans rfl, (blk_cell BK529.out 1).trans rfl⟩ (fun hHeld => ?_)
clear hK K
refine norm_ (a' := _) (show Act.put _ (some 29) _ = _ from na) ?_
refine one_ (i := 3) (N := some 31) (bm 11 271) rfl rfl (one_of HT_.out (by kernel_rfl)) (by decide) (fun K hK => ?_)
refine goes_ Try.func32 (by kernel_rfl) rfl #[.agg #[.int .i64 a1_0, .slice A1_1 l1_1.length c1_1]] (by rfl) rfl rfl mt ?_
with_reducible refine (laws_toGrid.calls k a1_0 _ _ l1_1 t536 t537 _ ?side1 ?side2 A20.out).mono ?_
(case side1 => exact rc ((Kd.C_below HR1_1.out HB.out)))
(case side2 => exact HC1_1.out)
rintro e w63 ⟨v538, rfl, ho0, hb⟩
refine ⟨_, rfl, ?_⟩
have HO539 := am (Kd.S_lower (Kd.S_new' (Sx_floor ho0) (Kd.S_lt (rs HO535))) (below_size (rb3 HB GE528 GE529 GE546)))
replace HO535 := am (Kd.S_elder' (Sx_cap (rs HO535)) (Kd.S_base ho0) hb)
replace BK528 := am (blk_below (rk BK528) hb)
replace BK529 := am (blk_below (rk BK529) hb)
replace BK546 := am (blk_below (rk BK546) hb)
replace HB := am (below_step (rb3 HB GE528 GE529 GE546) hb)
(try clear hb)
(try clear ho0)
obtain ⟨Ao65, co65, eo65⟩ := Kd.S_slice HO535.out
(first | subst eo65 | (injection eo65 with f1_ f2_ f3_; have f4_ := f1_.symm; have f5_ := f3_.symm; clear f1_ f2_ f3_; subst f4_; subst f5_))
obtain ⟨Ao66, co66, eo66⟩ := Kd.S_slice HO539.out
(first | subst eo66 | (injection eo66 with f1_ f2_ f3_; have f4_ := f1_.symm; have f5_ := f3_.symm; clear f1_ f2_ f3_; subst f4_; subst f5_))
refine hK.out _ _ ⟨(blk_cell BK528.out 0).trans rfl, (blk_cell BK528.out 1).trans rfl, (blk_cell BK529.out 0).trans rfl, (blk_cell BK529.out 1).trans rfl⟩ (fun hHeld => ?_)
clear hK K
refine norm_ (a' := _) (show Act.put _ (some 31) _ = _ from na) ?_
refine one_ (i := 4) (N := some 32) (bm 11 287) rfl rfl (one_of HT_.out (by kernel_rfl)) (by decide) (fun K hK => ?_)
refine goes_ Try.func31 (by kernel_rfl) rfl #[.agg #[.int .i64 t532, .slice Ao65 t533.length co65], .agg #[.int .i64 t536, .slice Ao66 t537.length co66]] (by rfl) rfl rfl mt ?_
with_reducible refine (spec_Diff.calls k t532 _ _ t533 t536 _ _ t537 t540 t541 t542 t545 _ ?side1 ?side2 ?side3 ?side4 A21.out).mono ?_
(case side1 => exact rcs HO535)
(case side2 => exact (Kd.S_reads' HO535.out).2.1)
(case side3 => exact rcs HO539)
(case side4 => exact (Kd.S_reads' HO539.out).2.1)
rintro e w67 ⟨v543, rfl, ho0, hb⟩
refine ⟨_, rfl, ?_⟩
replace HO535 := am (Kd.S_below (Sx_cap (rs HO535)) hb)
replace HO539 := am (Kd.S_below (Sx_cap (rs HO539)) hb)
have HO544 := am (Kd.S_lower (Sx_floor ho0) (below_size (rb3 HB GE528 GE529 GE546)))
replace BK528 := am (blk_below (rk BK528) hb)
replace BK529 := am (blk_below (rk BK529) hb)
replace BK546 := am (blk_below (rk BK546) hb)
replace HB := am (below_step (rb3 HB GE528 GE529 GE546) hb)
(try clear hb)
(try clear ho0)
refine hK.out _ _ ⟨(blk_cell BK528.out 0).trans rfl, (blk_cell BK528.out 1).trans rfl, (blk_cell BK529.out 0).trans rfl, (blk_cell BK529.out 1).trans rfl⟩ (fun hHeld => ?_)
clear hK K
refine norm_ (a' := _) (show Act.put _ (some 32) _ = _ from na) ?_
refine pu_ 5 27 (bm 11 319) HT_.out ?_
refine pu_ 6 33 (bm 11 383) HT_.out ?_
refine pu_ 7 34 (bm 11 511) HT_.out ?_
exact norm_ nz0 (hCont (.slice Ao65 t533.length co65, .slice Ao66 t537.length co66, v543, gb546) _ ⟨hHeld, (rm2 HO535), (rm2 HO539), (by (with_reducible repeat (first | apply Kd.S_alloc | apply Kd.S_drewN | apply Kd.S_drew)); exact Kd.S_mono HO544.out (fun _ hk => trivial)), (rk BK528), (rk BK529), (rk BK546), GW546.out, GE546.out, NB528_546.out, NB546_528.out, NB529_546.out, NB546_529.out, (rb3 HB GE528 GE529 GE546)⟩)
)
)
rintro ⟨v534, v538, v543, gb546⟩ w69 ⟨hHeld, h0_, h1_, h2_, h3_, h4_, h5_, h6_, h7_, h8_, h9_, h10_, h11_, h12_⟩
(try dsimp only at hHeld h0_ h1_ h2_ h3_ h4_ h5_ h6_ h7_ h8_ h9_ h10_ h11_ h12_)
have HO535 := am h0_; have HO539 := am h1_; have HO544 := am h2_; replace BK528 := am h3_; replace BK529 := am h4_; have BK546 := am h5_; have GW546 := am h6_; have GE546 := am h7_; have NB528_546 := am h8_; have NB546_528 := am h9_; have NB529_546 := am h10_; have NB546_529 := am h11_; replace HB := am h12_
clear h0_ h1_ h2_ h3_ h4_ h5_ h6_ h7_ h8_ h9_ h10_ h11_ h12_
obtain ⟨Ao72, co72, eo72⟩ := Kd.S_slice HO544.out
(first | subst eo72 | (injection eo72 with f1_ f2_ f3_; have f4_ := f1_.symm; have f5_ := f3_.symm; clear f1_ f2_ f3_; subst f4_; subst f5_))
refine norm_ (a' := _) nr ?_
refine one_ (i := 9) (N := none) (bm 11 1023) rfl rfl (one_of HT_.out (by kernel_rfl)) (by decide) (fun K hK => ?_)
have hs70 : w69.cell? ⟨gb546, 0, none⟩ = some (.int .i64 0) := (blk_cell BK546.out 0).trans rfl
have hfs70 := blk_frozen BK546.out 0
have hns70_0 := NB528_546.out
have hns70_1 := NB529_546.out
have hms70_0 := NB546_528.out
have hms70_1 := NB546_529.out
have hs71 : w69.cell? ⟨gb546, 1, none⟩ = some (.int .i64 0) := (blk_cell BK546.out 1).trans rfl
have hfs71 := blk_frozen BK546.out 1
have hns71_0 := NB528_546.out
have hns71_1 := NB529_546.out
have hms71_0 := NB546_528.out
have hms71_1 := NB546_529.out
have hs73 : w69.cell? ⟨gb546, 2, none⟩ = some (.slice none 0 0) := (blk_cell BK546.out 2).trans rfl
have hfs73 := blk_frozen BK546.out 2
have hns73_0 := NB528_546.out
have hns73_1 := NB529_546.out
have hms73_0 := NB546_528.out
have hms73_1 := NB546_529.out
refine skip_ (w1 := ?_) (by rfl) rfl ?_ ?_
rotate_left
·(
go_simp
rfl
)
refine hK.out _ _ ⟨((cell_far (p := ⟨gb546, _, none⟩) NB528_546.out _).trans (((cell_far (p := ⟨gb546, _, none⟩) NB528_546.out _).trans (((cell_far (p := ⟨gb546, _, none⟩) NB528_546.out _).trans (hHeld.1)))))), ((cell_far (p := ⟨gb546, _, none⟩) NB528_546.out _).trans (((cell_far (p := ⟨gb546, _, none⟩) NB528_546.out _).trans (((cell_far (p := ⟨gb546, _, none⟩) NB528_546.out _).trans (hHeld.2.1)))))), ((cell_far (p := ⟨gb546, _, none⟩) NB529_546.out _).trans (((cell_far (p := ⟨gb546, _, none⟩) NB529_546.out _).trans (((cell_far (p := ⟨gb546, _, none⟩) NB529_546.out _).trans (hHeld.2.2.1)))))), ((cell_far (p := ⟨gb546, _, none⟩) NB529_546.out _).trans (((cell_far (p := ⟨gb546, _, none⟩) NB529_546.out _).trans (((cell_far (p := ⟨gb546, _, none⟩) NB529_546.out _).trans (hHeld.2.2.2))))))⟩ (fun hHeld => ?_)
clear hK K
refine pu_ 10 7 (bm 11 2047) HT_.out ?_
refine done_ (done_of HT_.out (by kernel_rfl)) ?_
have hnb74 := NB528_546.out
have hnc74 := NB546_528.out
have hcz75_0 : w69.cell? ⟨gb528, 0, none⟩ = some (.int .i64 a0_0) := (blk_cell BK528.out 0).trans rfl
have hcz75_1 : w69.cell? ⟨gb528, 1, none⟩ = some (.slice A0_1 l0_1.length c0_1) := (blk_cell BK528.out 1).trans rfl
have hfz75_0 := blk_frozen BK528.out 0
have hfz75_1 := blk_frozen BK528.out 1
try go_wp2_with (first | ((with_reducible refine gate_callee (f := 32) rfl ?_); refine gl_ (some 36) Try.func32 #[.agg #[.int .i64 a0_0, .slice A0_1 l0_1.length c0_1]] ?_; (with_reducible refine (laws_toGrid.calls k a0_0 _ _ l0_1 t547 t548 _ ?side1 ?side2 A22.out).mono ?_); (case side1 => exact Kd.C_below HR0_1.out (rb3 HB GE528 GE529 GE546)); (case side2 => exact HC0_1.out); rintro e w76 ⟨v549, rfl, ho0, hb⟩; refine ⟨_, rfl, ?_⟩; replace HO544 := am (Kd.S_below (Sx_cap (sf3 HO544 BK546)) hb); have HO550 := am (Kd.S_lower (Kd.S_new' (Kd.S_new' (Sx_floor ho0) (Kd.S_lt (sf3 HO535 BK546))) (Kd.S_lt (sf3 HO539 BK546))) (below_size (rb3 HB GE528 GE529 GE546))); replace HO535 := am (Kd.S_elder' (Sx_cap (sf3 HO535 BK546)) (Kd.S_base ho0) hb); replace HO539 := am (Kd.S_elder' (Sx_cap (sf3 HO539 BK546)) (Kd.S_base ho0) hb); replace BK528 := am (blk_below (g := gb528) (o := .cells #[.int .i64 a0_0, .slice A0_1 l0_1.length c0_1] 49 (0, 0)) (rf3 NB528_546 BK528) hb); replace BK529 := am (blk_below (g := gb529) (o := .cells #[.int .i64 a1_0, .slice A1_1 l1_1.length c1_1] 49 (0, 0)) (rf3 NB529_546 BK529) hb); replace BK546 := am (blk_below (g := gb546) (o := .cells #[.int .i64 t540, .int .i64 t541, .slice Ao72 t542.length co72] 53 (0, 0)) (rp_0_1_2 BK546) hb); replace HB := am (below_step (rb3 HB GE528 GE529 GE546) hb); (try clear hb); (try clear hb2); (try clear hk); (try clear hi); (try clear ho0)) | ((with_reducible refine gate_dst (N := 8) rfl ?_); refine box_event ?hg (N := 8) ?hd (cs := #[.int .i64 0, .slice none 0 0]) (t := 58) ?hr ?_; (case hd => rfl); (case hg => rfl); (case hr => first | (go_simp; done) | (go_simp; rfl)); intro gb551 hg w78 hbox hb; replace HO535 := am (Kd.S_below (rs HO535) hb); replace HO539 := am (Kd.S_below (rs HO539) hb); replace HO544 := am (Kd.S_below (rs HO544) hb); replace HO550 := am (Kd.S_below (rs HO550) hb); have BK551 := am (hbox); have GW551 := am (gw hg (rb3 HB GE528 GE529 GE546)); have GE551 := GW551; replace HB := am (below_step (rb3 HB GE528 GE529 GE546) hb); have NB528_551 := am (nl hg (rk BK528)); have NB551_528 := am (ng hg (rk BK528)); replace BK528 := am (blk_below (rk BK528) hb); have NB529_551 := am (nl hg (rk BK529)); have NB551_529 := am (ng hg (rk BK529)); replace BK529 := am (blk_below (rk BK529) hb); have NB546_551 := am (nl hg (rk BK546)); have NB551_546 := am (ng hg (rk BK546)); replace BK546 := am (blk_below (rk BK546) hb); clear hb hbox hg; have hnb79 := NB551_528.out; have hnc79 := NB528_551.out; have hnb80 := NB551_529.out; have hnc80 := NB529_551.out; have hnb81 := NB551_546.out; have hnc81 := NB546_551.out; have hcz82_0 : w78.cell? ⟨gb551, 0, none⟩ = some (.int .i64 0) := (blk_cell BK551.out 0).trans rfl; have hcz82_1 : w78.cell? ⟨gb551, 1, none⟩ = some (.slice none 0 0) := (blk_cell BK551.out 1).trans rfl; have hfz82_0 := blk_frozen BK551.out 0; have hfz82_1 := blk_frozen BK551.out 1; obtain ⟨Ao83, co83, eo83⟩ := Kd.S_slice HO550.out; subst eo83; have hnb84 := NB529_546.out; have hnc84 := NB546_529.out; have hcz85_0 : w78.cell? ⟨gb529, 0, none⟩ = some (.int .i64 a1_0) := (blk_cell BK529.out 0).trans rfl; have hcz85_1 : w78.cell? ⟨gb529, 1, none⟩ = some (.slice A1_1 l1_1.length c1_1) := (blk_cell BK529.out 1).trans rfl; have hfz85_0 := blk_frozen BK529.out 0; have hfz85_1 := blk_frozen BK529.out 1) | ((with_reducible refine gate_callee (f := 32) rfl ?_); refine gl_ (some 38) Try.func32 #[.agg #[.int .i64 a1_0, .slice A1_1 l1_1.length c1_1]] ?_; (with_reducible refine (laws_toGrid.calls k a1_0 _ _ l1_1 t552 t553 _ ?side1 ?side2 A23.out).mono ?_); (case side1 => exact Kd.C_below HR1_1.out (rb4 HB GE528 GE529 GE546 GE551)); (case side2 => exact HC1_1.out); rintro e w86 ⟨v554, rfl, ho0, hb⟩; refine ⟨_, rfl, ?_⟩; replace HO544 := am (Kd.S_below (Sx_cap (sf2 HO544 BK551)) hb); have HO555 := am (Kd.S_lower (Kd.S_new' (Kd.S_new' (Kd.S_new' (Sx_floor ho0) (Kd.S_lt (sf2 HO535 BK551))) (Kd.S_lt (sf2 HO539 BK551))) (Kd.S_lt (sf2 HO550 BK551))) (below_size (rb4 HB GE528 GE529 GE546 GE551))); replace HO535 := am (Kd.S_elder' (Sx_cap (sf2 HO535 BK551)) (Kd.S_base ho0) hb); replace HO539 := am (Kd.S_elder' (Sx_cap (sf2 HO539 BK551)) (Kd.S_base ho0) hb); replace HO550 := am (Kd.S_elder' (Sx_cap (sf2 HO550 BK551)) (Kd.S_base ho0) hb); replace BK528 := am (blk_below (g := gb528) (o := .cells #[.int .i64 a0_0, .slice A0_1 l0_1.length c0_1] 49 (0, 0)) (rf2 NB528_551 BK528) hb); replace BK529 := am (blk_below (g := gb529) (o := .cells #[.int .i64 a1_0, .slice A1_1 l1_1.length c1_1] 49 (0, 0)) (rf2 NB529_551 BK529) hb); replace BK546 := am (blk_below (g := gb546) (o := .cells #[.int .i64 t540, .int .i64 t541, .slice Ao72 t542.length co72] 53 (0, 0)) (rf2 NB546_551 BK546) hb); replace BK551 := am (blk_below (g := gb551) (o := .cells #[.int .i64 t547, .slice Ao83 t548.length co83] 58 (0, 0)) (rp_0_1 BK551) hb); replace HB := am (below_step (rb4 HB GE528 GE529 GE546 GE551) hb); (try clear hb); (try clear hb2); (try clear hk); (try clear hi); (try clear ho0)) | ((with_reducible refine gate_dst (N := 9) rfl ?_); refine box_event ?hg (N := 9) ?hd (cs := #[.int .i64 0, .slice none 0 0]) (t := 58) ?hr ?_; (case hd => rfl); (case hg => rfl); (case hr => first | (go_simp; done) | (go_simp; rfl)); intro gb556 hg w88 hbox hb; replace HO535 := am (Kd.S_below (rs HO535) hb); replace HO539 := am (Kd.S_below (rs HO539) hb); replace HO544 := am (Kd.S_below (rs HO544) hb); replace HO550 := am (Kd.S_below (rs HO550) hb); replace HO555 := am (Kd.S_below (rs HO555) hb); have BK556 := am (hbox); have GW556 := am (gw hg (rb4 HB GE528 GE529 GE546 GE551)); have GE556 := GW556; replace HB := am (below_step (rb4 HB GE528 GE529 GE546 GE551) hb); have NB528_556 := am (nl hg (rk BK528)); have NB556_528 := am (ng hg (rk BK528)); replace BK528 := am (blk_below (rk BK528) hb); have NB529_556 := am (nl hg (rk BK529)); have NB556_529 := am (ng hg (rk BK529)); replace BK529 := am (blk_below (rk BK529) hb); have NB546_556 := am (nl hg (rk BK546)); have NB556_546 := am (ng hg (rk BK546)); replace BK546 := am (blk_below (rk BK546) hb); have NB551_556 := am (nl hg (rk BK551)); have NB556_551 := am (ng hg (rk BK551)); replace BK551 := am (blk_below (rk BK551) hb); clear hb hbox hg; have hnb89 := NB556_528.out; have hnc89 := NB528_556.out; have hnb90 := NB556_529.out; have hnc90 := NB529_556.out; have hnb91 := NB556_546.out; have hnc91 := NB546_556.out; have hnb92 := NB556_551.out; have hnc92 := NB551_556.out; have hcz93_0 : w88.cell? ⟨gb556, 0, none⟩ = some (.int .i64 0) := (blk_cell BK556.out 0).trans rfl; have hcz93_1 : w88.cell? ⟨gb556, 1, none⟩ = some (.slice none 0 0) := (blk_cell BK556.out 1).trans rfl; have hfz93_0 := blk_frozen BK556.out 0; have hfz93_1 := blk_frozen BK556.out 1; obtain ⟨Ao94, co94, eo94⟩ := Kd.S_slice HO555.out; subst eo94; have hcz95_0 : w88.cell? ⟨gb551, 0, none⟩ = some (.int .i64 t547) := (blk_cell BK551.out 0).trans rfl; have hcz95_1 : w88.cell? ⟨gb551, 1, none⟩ = some (.slice Ao83 t548.length co83) := (blk_cell BK551.out 1).trans rfl; have hfz95_0 := blk_frozen BK551.out 0; have hfz95_1 := blk_frozen BK551.out 1) | ((with_reducible refine gate_callee (f := 33) rfl ?_); refine gl_ (some 42) Try.func33 #[.agg #[.int .i64 t547, .slice Ao83 t548.length co83], .agg #[.int .i64 t552, .slice Ao94 t553.length co94]] ?_; (with_reducible refine (impl_Diff.calls k t547 _ _ t548 t552 _ _ t553 t557 t558 t559 t562 _ ?side1 ?side2 ?side3 ?side4 A24.out).mono ?_); (case side1 => refine (Kd.S_reads' (e := 99) (base := w.heap.size) (ok := fun _ => True) (n := t548.length) (c := co83) ?_).2.2; exact (by (with_reducible repeat (first | apply Kd.S_alloc | apply Kd.S_drewN | apply Kd.S_drew)); exact Kd.S_mono (Kd.S_far (p := ⟨gb556, 1, none⟩) (Kd.S_far (p := ⟨gb556, 0, none⟩) (Kd.S_types HO550.out BK556.out (by decide)) (fun _ hk => hk.2) (.int .i64 t552)) (fun _ hk => hk.2) (.slice Ao94 t553.length co94)) (fun _ hk => trivial))); (case side2 => exact (Kd.S_reads' HO550.out).2.1); (case side3 => refine (Kd.S_reads' (e := 99) (base := w.heap.size) (ok := fun _ => True) (n := t553.length) (c := co94) ?_).2.2; exact (by (with_reducible repeat (first | apply Kd.S_alloc | apply Kd.S_drewN | apply Kd.S_drew)); exact Kd.S_mono (Kd.S_far (p := ⟨gb556, 1, none⟩) (Kd.S_far (p := ⟨gb556, 0, none⟩) (Kd.S_types HO555.out BK556.out (by decide)) (fun _ hk => hk.2) (.int .i64 t552)) (fun _ hk => hk.2) (.slice Ao94 t553.length co94)) (fun _ hk => trivial))); (case side4 => exact (Kd.S_reads' HO555.out).2.1); rintro e w96 ⟨v560, rfl, ho0, hb⟩; refine ⟨_, rfl, ?_⟩; replace HO535 := am (Kd.S_below (Sx_cap (sf2 HO535 BK556)) hb); replace HO539 := am (Kd.S_below (Sx_cap (sf2 HO539 BK556)) hb); replace HO550 := am (Kd.S_below (Sx_cap (sf2 HO550 BK556)) hb); replace HO555 := am (Kd.S_below (Sx_cap (sf2 HO555 BK556)) hb); have HO561 := am (Kd.S_lower (Kd.S_new' (Sx_floor ho0) (Kd.S_lt (sf2 HO544 BK556))) (below_size (rb5 HB GE528 GE529 GE546 GE551 GE556))); replace HO544 := am (Kd.S_elder' (Sx_cap (sf2 HO544 BK556)) (Kd.S_base ho0) hb); replace BK528 := am (blk_below (g := gb528) (o := .cells #[.int .i64 a0_0, .slice A0_1 l0_1.length c0_1] 49 (0, 0)) (rf2 NB528_556 BK528) hb); replace BK529 := am (blk_below (g := gb529) (o := .cells #[.int .i64 a1_0, .slice A1_1 l1_1.length c1_1] 49 (0, 0)) (rf2 NB529_556 BK529) hb); replace BK546 := am (blk_below (g := gb546) (o := .cells #[.int .i64 t540, .int .i64 t541, .slice Ao72 t542.length co72] 53 (0, 0)) (rf2 NB546_556 BK546) hb); replace BK551 := am (blk_below (g := gb551) (o := .cells #[.int .i64 t547, .slice Ao83 t548.length co83] 58 (0, 0)) (rf2 NB551_556 BK551) hb); replace BK556 := am (blk_below (g := gb556) (o := .cells #[.int .i64 t552, .slice Ao94 t553.length co94] 58 (0, 0)) (rp_0_1 BK556) hb); replace HB := am (below_step (rb5 HB GE528 GE529 GE546 GE551 GE556) hb); (try clear hb); (try clear hb2); (try clear hk); (try clear hi); (try clear ho0)) | ((with_reducible refine gate_dst (N := 10) rfl ?_); refine box_event ?hg (N := 10) ?hd (cs := #[.int .i64 0, .int .i64 0, .slice none 0 0]) (t := 53) ?hr ?_; (case hd => rfl); (case hg => rfl); (case hr => first | (go_simp; done) | (go_simp; rfl)); intro gb563 hg w98 hbox hb; replace HO535 := am (Kd.S_below (rs HO535) hb); replace HO539 := am (Kd.S_below (rs HO539) hb); replace HO544 := am (Kd.S_below (rs HO544) hb); replace HO550 := am (Kd.S_below (rs HO550) hb); replace HO555 := am (Kd.S_below (rs HO555) hb); replace HO561 := am (Kd.S_below (rs HO561) hb); have BK563 := am (hbox); have GW563 := am (gw hg (rb5 HB GE528 GE529 GE546 GE551 GE556)); have GE563 := GW563; replace HB := am (below_step (rb5 HB GE528 GE529 GE546 GE551 GE556) hb); have NB528_563 := am (nl hg (rk BK528)); have NB563_528 := am (ng hg (rk BK528)); replace BK528 := am (blk_below (rk BK528) hb); have NB529_563 := am (nl hg (rk BK529)); have NB563_529 := am (ng hg (rk BK529)); replace BK529 := am (blk_below (rk BK529) hb); have NB546_563 := am (nl hg (rk BK546)); have NB563_546 := am (ng hg (rk BK546)); replace BK546 := am (blk_below (rk BK546) hb); have NB551_563 := am (nl hg (rk BK551)); have NB563_551 := am (ng hg (rk BK551)); replace BK551 := am (blk_below (rk BK551) hb); have NB556_563 := am (nl hg (rk BK556)); have NB563_556 := am (ng hg (rk BK556)); replace BK556 := am (blk_below (rk BK556) hb); clear hb hbox hg; have hnb99 := NB563_528.out; have hnc99 := NB528_563.out; have hnb100 := NB563_529.out; have hnc100 := NB529_563.out; have hnb101 := NB563_546.out; have hnc101 := NB546_563.out; have hnb102 := NB563_551.out; have hnc102 := NB551_563.out; have hnb103 := NB563_556.out; have hnc103 := NB556_563.out; have hcz104_0 : w98.cell? ⟨gb563, 0, none⟩ = some (.int .i64 0) := (blk_cell BK563.out 0).trans rfl; have hcz104_1 : w98.cell? ⟨gb563, 1, none⟩ = some (.int .i64 0) := (blk_cell BK563.out 1).trans rfl; have hcz104_2 : w98.cell? ⟨gb563, 2, none⟩ = some (.slice none 0 0) := (blk_cell BK563.out 2).trans rfl; have hfz104_0 := blk_frozen BK563.out 0; have hfz104_1 := blk_frozen BK563.out 1; have hfz104_2 := blk_frozen BK563.out 2; obtain ⟨Ao105, co105, eo105⟩ := Kd.S_slice HO561.out; subst eo105; have hcz106_0 : w98.cell? ⟨gb546, 0, none⟩ = some (.int .i64 t540) := (blk_cell BK546.out 0).trans rfl; have hcz106_1 : w98.cell? ⟨gb546, 1, none⟩ = some (.int .i64 t541) := (blk_cell BK546.out 1).trans rfl; have hcz106_2 : w98.cell? ⟨gb546, 2, none⟩ = some (.slice Ao72 t542.length co72) := (blk_cell BK546.out 2).trans rfl; have hfz106_0 := blk_frozen BK546.out 0; have hfz106_1 := blk_frozen BK546.out 1; have hfz106_2 := blk_frozen BK546.out 2) | ((with_reducible refine gate_callee (f := 34) rfl ?_); refine gl_ (some 47) Try.func34 #[.agg #[.int .i64 t557, .int .i64 t558, .slice Ao105 t559.length co105], .agg #[.int .i64 t540, .int .i64 t541, .slice Ao72 t542.length co72]] ?_; (with_reducible refine (laws_eqPatch.calls k t557 t558 _ _ t559 t540 t541 _ _ t542 true _ ?side1 ?side2 ?side3 ?side4 A25.out).mono ?_); (case side1 => refine (Kd.S_reads' (e := 101) (base := w.heap.size) (ok := fun _ => True) (n := t559.length) (c := co105) ?_).2.2; exact (by (with_reducible repeat (first | apply Kd.S_alloc | apply Kd.S_drewN | apply Kd.S_drew)); exact Kd.S_mono (Kd.S_far (p := ⟨gb563, 2, none⟩) (Kd.S_far (p := ⟨gb563, 1, none⟩) (Kd.S_far (p := ⟨gb563, 0, none⟩) (Kd.S_types HO561.out BK563.out (by decide)) (fun _ hk => hk.2) (.int .i64 t557)) (fun _ hk => hk.2) (.int .i64 t558)) (fun _ hk => hk.2) (.slice Ao105 t559.length co105)) (fun _ hk => trivial))); (case side2 => exact (Kd.S_reads' HO561.out).2.1); (case side3 => refine (Kd.S_reads' (e := 101) (base := w.heap.size) (ok := fun _ => True) (n := t542.length) (c := co72) ?_).2.2; exact (by (with_reducible repeat (first | apply Kd.S_alloc | apply Kd.S_drewN | apply Kd.S_drew)); exact Kd.S_mono (Kd.S_far (p := ⟨gb563, 2, none⟩) (Kd.S_far (p := ⟨gb563, 1, none⟩) (Kd.S_far (p := ⟨gb563, 0, none⟩) (Kd.S_types HO544.out BK563.out (by decide)) (fun _ hk => hk.2) (.int .i64 t557)) (fun _ hk => hk.2) (.int .i64 t558)) (fun _ hk => hk.2) (.slice Ao105 t559.length co105)) (fun _ hk => trivial))); (case side4 => exact (Kd.S_reads' HO544.out).2.1); rintro e w107 ⟨rfl, hb⟩; refine ⟨_, rfl, ?_⟩; replace HO535 := am (Kd.S_below (sf3 HO535 BK563) hb); replace HO539 := am (Kd.S_below (sf3 HO539 BK563) hb); replace HO544 := am (Kd.S_below (sf3 HO544 BK563) hb); replace HO550 := am (Kd.S_below (sf3 HO550 BK563) hb); replace HO555 := am (Kd.S_below (sf3 HO555 BK563) hb); replace HO561 := am (Kd.S_below (sf3 HO561 BK563) hb); replace BK528 := am (blk_below (g := gb528) (o := .cells #[.int .i64 a0_0, .slice A0_1 l0_1.length c0_1] 49 (0, 0)) (rf3 NB528_563 BK528) hb); replace BK529 := am (blk_below (g := gb529) (o := .cells #[.int .i64 a1_0, .slice A1_1 l1_1.length c1_1] 49 (0, 0)) (rf3 NB529_563 BK529) hb); replace BK546 := am (blk_below (g := gb546) (o := .cells #[.int .i64 t540, .int .i64 t541, .slice Ao72 t542.length co72] 53 (0, 0)) (rf3 NB546_563 BK546) hb); replace BK551 := am (blk_below (g := gb551) (o := .cells #[.int .i64 t547, .slice Ao83 t548.length co83] 58 (0, 0)) (rf3 NB551_563 BK551) hb); replace BK556 := am (blk_below (g := gb556) (o := .cells #[.int .i64 t552, .slice Ao94 t553.length co94] 58 (0, 0)) (rf3 NB556_563 BK556) hb); replace BK563 := am (blk_below (g := gb563) (o := .cells #[.int .i64 t557, .int .i64 t558, .slice Ao105 t559.length co105] 53 (0, 0)) (rp_0_1_2 BK563) hb); replace HB := am (below_step (rb6 HB GE528 GE529 GE546 GE551 GE556 GE563) hb); (try clear hb); (try clear hb2); (try clear hk); (try clear hi)))
replace HO535 := am (Kd.S_drew HO535.out)
replace HO539 := am (Kd.S_drew HO539.out)
replace HO544 := am (Kd.S_drew HO544.out)
replace HO550 := am (Kd.S_drew HO550.out)
replace HO555 := am (Kd.S_drew HO555.out)
replace HO561 := am (Kd.S_drew HO561.out)
replace BK528 := am (blk_drew BK528.out)
replace BK529 := am (blk_drew BK529.out)
replace BK546 := am (blk_drew BK546.out)
replace BK551 := am (blk_drew BK551.out)
replace BK556 := am (blk_drew BK556.out)
replace BK563 := am (blk_drew BK563.out)
replace HB := am (below_drew1 HB.out)
refine start_ (n := 5) (S := fun w' => w'.cell? ⟨gb551, 0, none⟩ = some (.int .i64 t547) ∧ w'.cell? ⟨gb551, 1, none⟩ = some (.slice Ao83 t548.length co83) ∧ w'.cell? ⟨gb528, 0, none⟩ = some (.int .i64 a0_0) ∧ w'.cell? ⟨gb528, 1, none⟩ = some (.slice A0_1 l0_1.length c0_1)) (ds := []) (bm 5 0) (by kernel_rfl) rfl rfl ⟨(blk_cell BK551.out 0).trans rfl, (blk_cell BK551.out 1).trans rfl, (blk_cell BK528.out 0).trans rfl, (blk_cell BK528.out 1).trans rfl⟩ (fun hHeld => ?_)
generalize w107.drew = w108 at HO535 HO539 HO544 HO550 HO555 HO561 BK528 BK529 BK546 BK551 BK556 BK563 HB hHeld ⊢
refine take_ (i := 0) (N := some 54) (v := ?_) (a' := ?_) (bm 5 1) rfl rfl (by kernel_rfl) (fun _ _ _ h => h) (Or.inl ⟨by rfl, ?_⟩) hHeld ?_ ?_
rotate_left
·(
rintro w' ⟨s0, s1, s2, s3⟩
go_simp
with_reducible rfl
)
rotate_left
·(
simp only [Act.put, List.setIfInBounds_toArray, List.set_cons_zero, List.set_cons_succ, i64_w, i32_w]
rfl
)
refine take_ (i := 1) (N := some 55) (v := ?_) (a' := ?_) (bm 5 3) rfl rfl (by kernel_rfl) (fun _ _ _ h => h) (Or.inl ⟨by rfl, ?_⟩) hHeld ?_ ?_
rotate_left
·(
rintro w' ⟨s0, s1, s2, s3⟩
go_simp
with_reducible rfl
)
rotate_left
·(
simp only [Act.put, List.setIfInBounds_toArray, List.set_cons_zero, List.set_cons_succ, i64_w, i32_w]
rfl
)
refine one_ (i := 2) (N := some 56) (bm 5 7) rfl rfl (by kernel_rfl) (by decide) (fun K hK => ?_)
refine goes_ Try.func32 (by kernel_rfl) rfl #[.agg #[.int .i64 a0_0, .slice A0_1 l0_1.length c0_1]] (by rfl) rfl rfl mt ?_
with_reducible refine (laws_toGrid.calls k a0_0 _ _ l0_1 t565 t566 _ ?side1 ?side2 A28.out).mono ?_
(case side1 => exact rc ((Kd.C_below HR0_1.out HB.out)))
(case side2 => exact HC0_1.out)
rintro e w109 ⟨v567, rfl, ho0, hb⟩
refine ⟨_, rfl, ?_⟩
replace HO544 := am (Kd.S_below (Sx_cap (rs HO544)) hb)
replace HO561 := am (Kd.S_below (Sx_cap (rs HO561)) hb)
have HO568 := am (Kd.S_lower (Kd.S_new' (Kd.S_new' (Kd.S_new' (Kd.S_new' (Sx_floor ho0) (Kd.S_lt (rs HO535))) (Kd.S_lt (rs HO539))) (Kd.S_lt (rs HO550))) (Kd.S_lt (rs HO555))) (below_size (rb6 HB GE528 GE529 GE546 GE551 GE556 GE563)))
replace HO535 := am (Kd.S_elder' (Sx_cap (rs HO535)) (Kd.S_base ho0) hb)
replace HO539 := am (Kd.S_elder' (Sx_cap (rs HO539)) (Kd.S_base ho0) hb)
replace HO550 := am (Kd.S_elder' (Sx_cap (rs HO550)) (Kd.S_base ho0) hb)
replace HO555 := am (Kd.S_elder' (Sx_cap (rs HO555)) (Kd.S_base ho0) hb)
replace BK528 := am (blk_below (rk BK528) hb)
replace BK529 := am (blk_below (rk BK529) hb)
replace BK546 := am (blk_below (rk BK546) hb)
replace BK551 := am (blk_below (rk BK551) hb)
replace BK556 := am (blk_below (rk BK556) hb)
replace BK563 := am (blk_below (rk BK563) hb)
replace HB := am (below_step (rb6 HB GE528 GE529 GE546 GE551 GE556 GE563) hb)
(try clear hb)
(try clear ho0)
obtain ⟨Ao111, co111, eo111⟩ := Kd.S_slice HO568.out
(first | subst eo111 | (injection eo111 with f1_ f2_ f3_; have f4_ := f1_.symm; have f5_ := f3_.symm; clear f1_ f2_ f3_; subst f4_; subst f5_))
refine hK.out _ _ ⟨(blk_cell BK551.out 0).trans rfl, (blk_cell BK551.out 1).trans rfl, (blk_cell BK528.out 0).trans rfl, (blk_cell BK528.out 1).trans rfl⟩ (fun hHeld => ?_)
clear hK K
refine norm_ (a' := _) (show Act.put _ (some 56) _ = _ from na) ?_
refine one_ (i := 3) (N := some 57) (bm 5 15) rfl rfl (by kernel_rfl) (by decide) (fun K hK => ?_)
refine goes_ Try.func35 (by kernel_rfl) rfl #[.agg #[.int .i64 t547, .slice Ao83 t548.length co83], .agg #[.int .i64 t565, .slice Ao111 t566.length co111]] (by rfl) rfl rfl mt ?_
with_reducible refine (laws_eqGrid.calls k t547 _ _ t548 t565 _ _ t566 true _ ?side1 ?side2 ?side3 ?side4 A29.out).mono ?_
(case side1 => exact rcs HO550)
(case side2 => exact (Kd.S_reads' HO550.out).2.1)
(case side3 => exact rcs HO568)
(case side4 => exact (Kd.S_reads' HO568.out).2.1)
rintro e w112 ⟨rfl, hb⟩
refine ⟨_, rfl, ?_⟩
replace HO535 := am (Kd.S_below (rs HO535) hb)
replace HO539 := am (Kd.S_below (rs HO539) hb)
replace HO544 := am (Kd.S_below (rs HO544) hb)
replace HO550 := am (Kd.S_below (rs HO550) hb)
replace HO555 := am (Kd.S_below (rs HO555) hb)
replace HO561 := am (Kd.S_below (rs HO561) hb)
replace HO568 := am (Kd.S_below (rs HO568) hb)
replace BK528 := am (blk_below (rk BK528) hb)
replace BK529 := am (blk_below (rk BK529) hb)
replace BK546 := am (blk_below (rk BK546) hb)
replace BK551 := am (blk_below (rk BK551) hb)
replace BK556 := am (blk_below (rk BK556) hb)
replace BK563 := am (blk_below (rk BK563) hb)
replace HB := am (below_step (rb6 HB GE528 GE529 GE546 GE551 GE556 GE563) hb)
(try clear hb)
refine hK.out _ _ ⟨(blk_cell BK551.out 0).trans rfl, (blk_cell BK551.out 1).trans rfl, (blk_cell BK528.out 0).trans rfl, (blk_cell BK528.out 1).trans rfl⟩ (fun hHeld => ?_)
clear hK K
refine norm_ (a' := _) (show Act.put _ (some 57) _ = _ from na) ?_
refine pure_ (i := 4) (N := some 58) (v := ?_) (a' := ?_) (bm 5 31) rfl rfl (by kernel_rfl) (fun _ _ _ h => h) (Or.inl ⟨by rfl, ?_⟩) ?_ ?_
rotate_left
·(
intro w'
go_simp
with_reducible rfl
)
rotate_left
·(
simp only [Act.put, List.setIfInBounds_toArray, List.set_cons_zero, List.set_cons_succ, i64_w, i32_w]
rfl
)
refine done_ (by kernel_rfl) ?_
try go_wp2
replace HO535 := am (Kd.S_drew HO535.out)
replace HO539 := am (Kd.S_drew HO539.out)
replace HO544 := am (Kd.S_drew HO544.out)
replace HO550 := am (Kd.S_drew HO550.out)
replace HO555 := am (Kd.S_drew HO555.out)
replace HO561 := am (Kd.S_drew HO561.out)
replace HO568 := am (Kd.S_drew HO568.out)
replace BK528 := am (blk_drew BK528.out)
replace BK529 := am (blk_drew BK529.out)
replace BK546 := am (blk_drew BK546.out)
replace BK551 := am (blk_drew BK551.out)
replace BK556 := am (blk_drew BK556.out)
replace BK563 := am (blk_drew BK563.out)
replace HB := am (below_drew1 HB.out)
refine start_ (n := 5) (S := fun w' => w'.cell? ⟨gb556, 0, none⟩ = some (.int .i64 t552) ∧ w'.cell? ⟨gb556, 1, none⟩ = some (.slice Ao94 t553.length co94) ∧ w'.cell? ⟨gb529, 0, none⟩ = some (.int .i64 a1_0) ∧ w'.cell? ⟨gb529, 1, none⟩ = some (.slice A1_1 l1_1.length c1_1)) (ds := []) (bm 5 0) (by kernel_rfl) rfl rfl ⟨(blk_cell BK556.out 0).trans rfl, (blk_cell BK556.out 1).trans rfl, (blk_cell BK529.out 0).trans rfl, (blk_cell BK529.out 1).trans rfl⟩ (fun hHeld => ?_)
generalize w112.drew = w113 at HO535 HO539 HO544 HO550 HO555 HO561 HO568 BK528 BK529 BK546 BK551 BK556 BK563 HB hHeld ⊢
refine take_ (i := 0) (N := some 59) (v := ?_) (a' := ?_) (bm 5 1) rfl rfl (by kernel_rfl) (fun _ _ _ h => h) (Or.inl ⟨by rfl, ?_⟩) hHeld ?_ ?_
rotate_left
·(
rintro w' ⟨s0, s1, s2, s3⟩
go_simp
with_reducible rfl
)
rotate_left
·(
simp only [Act.put, List.setIfInBounds_toArray, List.set_cons_zero, List.set_cons_succ, i64_w, i32_w]
rfl
)
refine take_ (i := 1) (N := some 60) (v := ?_) (a' := ?_) (bm 5 3) rfl rfl (by kernel_rfl) (fun _ _ _ h => h) (Or.inl ⟨by rfl, ?_⟩) hHeld ?_ ?_
rotate_left
·(
rintro w' ⟨s0, s1, s2, s3⟩
go_simp
with_reducible rfl
)
rotate_left
·(
simp only [Act.put, List.setIfInBounds_toArray, List.set_cons_zero, List.set_cons_succ, i64_w, i32_w]
rfl
)
refine one_ (i := 2) (N := some 61) (bm 5 7) rfl rfl (by kernel_rfl) (by decide) (fun K hK => ?_)
refine goes_ Try.func32 (by kernel_rfl) rfl #[.agg #[.int .i64 a1_0, .slice A1_1 l1_1.length c1_1]] (by rfl) rfl rfl mt ?_
with_reducible refine (laws_toGrid.calls k a1_0 _ _ l1_1 t570 t571 _ ?side1 ?side2 A31.out).mono ?_
(case side1 => exact rc ((Kd.C_below HR1_1.out HB.out)))
(case side2 => exact HC1_1.out)
rintro e w114 ⟨v572, rfl, ho0, hb⟩
refine ⟨_, rfl, ?_⟩
replace HO544 := am (Kd.S_below (Sx_cap (rs HO544)) hb)
replace HO561 := am (Kd.S_below (Sx_cap (rs HO561)) hb)
have HO573 := am (Kd.S_lower (Kd.S_new' (Kd.S_new' (Kd.S_new' (Kd.S_new' (Kd.S_new' (Sx_floor ho0) (Kd.S_lt (rs HO535))) (Kd.S_lt (rs HO539))) (Kd.S_lt (rs HO550))) (Kd.S_lt (rs HO555))) (Kd.S_lt (rs HO568))) (below_size (rb6 HB GE528 GE529 GE546 GE551 GE556 GE563)))
replace HO535 := am (Kd.S_elder' (Sx_cap (rs HO535)) (Kd.S_base ho0) hb)
replace HO539 := am (Kd.S_elder' (Sx_cap (rs HO539)) (Kd.S_base ho0) hb)
replace HO550 := am (Kd.S_elder' (Sx_cap (rs HO550)) (Kd.S_base ho0) hb)
replace HO555 := am (Kd.S_elder' (Sx_cap (rs HO555)) (Kd.S_base ho0) hb)
replace HO568 := am (Kd.S_elder' (Sx_cap (rs HO568)) (Kd.S_base ho0) hb)
replace BK528 := am (blk_below (rk BK528) hb)
replace BK529 := am (blk_below (rk BK529) hb)
replace BK546 := am (blk_below (rk BK546) hb)
replace BK551 := am (blk_below (rk BK551) hb)
replace BK556 := am (blk_below (rk BK556) hb)
replace BK563 := am (blk_below (rk BK563) hb)
replace HB := am (below_step (rb6 HB GE528 GE529 GE546 GE551 GE556 GE563) hb)
(try clear hb)
(try clear ho0)
obtain ⟨Ao116, co116, eo116⟩ := Kd.S_slice HO573.out
(first | subst eo116 | (injection eo116 with f1_ f2_ f3_; have f4_ := f1_.symm; have f5_ := f3_.symm; clear f1_ f2_ f3_; subst f4_; subst f5_))
refine hK.out _ _ ⟨(blk_cell BK556.out 0).trans rfl, (blk_cell BK556.out 1).trans rfl, (blk_cell BK529.out 0).trans rfl, (blk_cell BK529.out 1).trans rfl⟩ (fun hHeld => ?_)
clear hK K
refine norm_ (a' := _) (show Act.put _ (some 61) _ = _ from na) ?_
refine one_ (i := 3) (N := some 62) (bm 5 15) rfl rfl (by kernel_rfl) (by decide) (fun K hK => ?_)
refine goes_ Try.func35 (by kernel_rfl) rfl #[.agg #[.int .i64 t552, .slice Ao94 t553.length co94], .agg #[.int .i64 t570, .slice Ao116 t571.length co116]] (by rfl) rfl rfl mt ?_
with_reducible refine (laws_eqGrid.calls k t552 _ _ t553 t570 _ _ t571 true _ ?side1 ?side2 ?side3 ?side4 A32.out).mono ?_
(case side1 => exact rcs HO555)
(case side2 => exact (Kd.S_reads' HO555.out).2.1)
(case side3 => exact rcs HO573)
(case side4 => exact (Kd.S_reads' HO573.out).2.1)
rintro e w117 ⟨rfl, hb⟩
refine ⟨_, rfl, ?_⟩
replace HO535 := am (Kd.S_below (rs HO535) hb)
replace HO539 := am (Kd.S_below (rs HO539) hb)
replace HO544 := am (Kd.S_below (rs HO544) hb)
replace HO550 := am (Kd.S_below (rs HO550) hb)
replace HO555 := am (Kd.S_below (rs HO555) hb)
replace HO561 := am (Kd.S_below (rs HO561) hb)
replace HO568 := am (Kd.S_below (rs HO568) hb)
replace HO573 := am (Kd.S_below (rs HO573) hb)
replace BK528 := am (blk_below (rk BK528) hb)
replace BK529 := am (blk_below (rk BK529) hb)
replace BK546 := am (blk_below (rk BK546) hb)
replace BK551 := am (blk_below (rk BK551) hb)
replace BK556 := am (blk_below (rk BK556) hb)
replace BK563 := am (blk_below (rk BK563) hb)
replace HB := am (below_step (rb6 HB GE528 GE529 GE546 GE551 GE556 GE563) hb)
(try clear hb)
refine hK.out _ _ ⟨(blk_cell BK556.out 0).trans rfl, (blk_cell BK556.out 1).trans rfl, (blk_cell BK529.out 0).trans rfl, (blk_cell BK529.out 1).trans rfl⟩ (fun hHeld => ?_)
clear hK K
refine norm_ (a' := _) (show Act.put _ (some 62) _ = _ from na) ?_
refine pure_ (i := 4) (N := some 63) (v := ?_) (a' := ?_) (bm 5 31) rfl rfl (by kernel_rfl) (fun _ _ _ h => h) (Or.inl ⟨by rfl, ?_⟩) ?_ ?_
rotate_left
·(
intro w'
go_simp
with_reducible rfl
)
rotate_left
·(
simp only [Act.put, List.setIfInBounds_toArray, List.set_cons_zero, List.set_cons_succ, i64_w, i32_w]
rfl
)
refine done_ (by kernel_rfl) ?_
have hcz118_0 : w117.cell? ⟨gb551, 0, none⟩ = some (.int .i64 t547) := (blk_cell BK551.out 0).trans rfl
have hcz118_1 : w117.cell? ⟨gb551, 1, none⟩ = some (.slice Ao83 t548.length co83) := (blk_cell BK551.out 1).trans rfl
have hfz118_0 := blk_frozen BK551.out 0
have hfz118_1 := blk_frozen BK551.out 1
obtain ⟨PX119, hPS119, hPX119⟩ := Sx_named (Kd.S_bound HO550.out)
try go_wp2_with (first | ((with_reducible refine gate_callee (f := 36) rfl ?_); refine gl_ (some 66) Try.func36 #[.agg #[.int .i64 t547, .slice Ao83 t548.length co83], .int .i64 1] ?_; (with_reducible refine (laws_markGrid.calls k t547 PX119 (.slice Ao83 t548.length co83) t548 1 t575 t576 w _ ?side1 ?side2 A34.out).mono ?_); (case side1 => repeat (first | (with_reducible first | exact HB.out | apply b1 | apply b2 | apply b3 | refine below_set ?_ GE528.out | refine below_set ?_ GE529.out | refine below_set ?_ GE546.out | refine below_set ?_ GE551.out | refine below_set ?_ GE556.out | refine below_set ?_ GE563.out) | exact HB.out)); (case side2 => exact hPS119); rintro e w120 ⟨rfl, hy0, hb, hkp⟩; refine ⟨_, rfl, ?_⟩; replace BK528 := am (blk_kept (rk BK528) hkp (fun hs_ => (fun e_ => Sx_box BK528.out (by decide) (hPX119 _ e_).2.2.2) hs_)); replace BK529 := am (blk_kept (rk BK529) hkp (fun hs_ => (fun e_ => Sx_box BK529.out (by decide) (hPX119 _ e_).2.2.2) hs_)); replace HO535 := am (Kd.S_kept (HO535.out) hkp (fun k_ hk_ hs_ => (fun e_ => Nat.not_lt.2 ((hPX119 k_ e_).1.1.1.1.1.1.1.1.1.1.2) (hk_.1.1.1.1.1.1.1.1.2)) hs_)); replace HO539 := am (Kd.S_kept (HO539.out) hkp (fun k_ hk_ hs_ => (fun e_ => Nat.not_lt.2 ((hPX119 k_ e_).1.1.1.1.1.1.1.1.1.1.2) (hk_.1.1.1.1.1.1.1.1.2)) hs_)); replace HO544 := am (Kd.S_kept (HO544.out) hkp (fun k_ hk_ hs_ => (fun e_ => Nat.not_lt.2 ((hPX119 k_ e_).1.1.1.1.1.1.1.1.1.1.2) (hk_.1.1.1.1.1.2)) hs_)); replace BK546 := am (blk_kept (rk BK546) hkp (fun hs_ => (fun e_ => Sx_box BK546.out (by decide) (hPX119 _ e_).2.2.2) hs_)); replace HO550 := am (Kd.S_mono hy0 (fun k_ h_ => (hPX119 k_ h_).1)); replace BK551 := am (blk_kept (rk BK551) hkp (fun hs_ => (fun e_ => Sx_box BK551.out (by decide) (hPX119 _ e_).2.2.2) hs_)); replace HO555 := am (Kd.S_kept (HO555.out) hkp (fun k_ hk_ hs_ => (fun e_ => Nat.not_lt.2 (hk_.1.1.1.1.1.1.1.1.2) ((hPX119 k_ e_).1.1.1.1.1.1.1.2)) hs_)); replace BK556 := am (blk_kept (rk BK556) hkp (fun hs_ => (fun e_ => Sx_box BK556.out (by decide) (hPX119 _ e_).2.2.2) hs_)); replace HO561 := am (Kd.S_kept (HO561.out) hkp (fun k_ hk_ hs_ => (fun e_ => Nat.not_lt.2 (hk_.1.1.1.2) ((hPX119 k_ e_).1.1.1.1.1.2)) hs_)); replace BK563 := am (blk_kept (rk BK563) hkp (fun hs_ => (fun e_ => Sx_box BK563.out (by decide) (hPX119 _ e_).2.2.2) hs_)); replace HO568 := am (Kd.S_kept (HO568.out) hkp (fun k_ hk_ hs_ => (fun e_ => Nat.not_lt.2 (hk_.1.1.1.1.1.1.2) ((hPX119 k_ e_).1.1.1.1.2)) hs_)); replace HO573 := am (Kd.S_kept (HO573.out) hkp (fun k_ hk_ hs_ => (fun e_ => Nat.not_lt.2 (hk_.1.1.1.1.1.2) ((hPX119 k_ e_).1.1.2)) hs_)); replace HB := am (hb); (try clear hPS119 hPX119); (try clear hb); (try clear hkp); (try clear hy0); have hcz121_0 : w120.cell? ⟨gb556, 0, none⟩ = some (.int .i64 t552) := (blk_cell BK556.out 0).trans rfl; have hcz121_1 : w120.cell? ⟨gb556, 1, none⟩ = some (.slice Ao94 t553.length co94) := (blk_cell BK556.out 1).trans rfl; have hfz121_0 := blk_frozen BK556.out 0; have hfz121_1 := blk_frozen BK556.out 1; obtain ⟨PX122, hPS122, hPX122⟩ := Sx_named (Kd.S_bound HO555.out)) | ((with_reducible refine gate_callee (f := 36) rfl ?_); refine gl_ (some 69) Try.func36 #[.agg #[.int .i64 t552, .slice Ao94 t553.length co94], .int .i64 t575] ?_; (with_reducible refine (laws_markGrid.calls k t552 PX122 (.slice Ao94 t553.length co94) t553 t575 t577 t578 w _ ?side1 ?side2 A35.out).mono ?_); (case side1 => repeat (first | (with_reducible first | exact HB.out | apply b1 | apply b2 | apply b3 | refine below_set ?_ GE528.out | refine below_set ?_ GE529.out | refine below_set ?_ GE546.out | refine below_set ?_ GE551.out | refine below_set ?_ GE556.out | refine below_set ?_ GE563.out) | exact HB.out)); (case side2 => exact hPS122); rintro e w123 ⟨rfl, hy0, hb, hkp⟩; refine ⟨_, rfl, ?_⟩; replace BK528 := am (blk_kept (rk BK528) hkp (fun hs_ => (fun e_ => Sx_box BK528.out (by decide) (hPX122 _ e_).2.2.2) hs_)); replace BK529 := am (blk_kept (rk BK529) hkp (fun hs_ => (fun e_ => Sx_box BK529.out (by decide) (hPX122 _ e_).2.2.2) hs_)); replace HO535 := am (Kd.S_kept (HO535.out) hkp (fun k_ hk_ hs_ => (fun e_ => Nat.not_lt.2 ((hPX122 k_ e_).1.1.1.1.1.1.1.1.1.2) (hk_.1.1.1.1.1.1.2)) hs_)); replace HO539 := am (Kd.S_kept (HO539.out) hkp (fun k_ hk_ hs_ => (fun e_ => Nat.not_lt.2 ((hPX122 k_ e_).1.1.1.1.1.1.1.1.1.2) (hk_.1.1.1.1.1.1.2)) hs_)); replace HO544 := am (Kd.S_kept (HO544.out) hkp (fun k_ hk_ hs_ => (fun e_ => Nat.not_lt.2 ((hPX122 k_ e_).1.1.1.1.1.1.1.1.1.2) (hk_.1.1.1.1.2)) hs_)); replace BK546 := am (blk_kept (rk BK546) hkp (fun hs_ => (fun e_ => Sx_box BK546.out (by decide) (hPX122 _ e_).2.2.2) hs_)); replace HO550 := am (Kd.S_kept (HO550.out) hkp (fun k_ hk_ hs_ => (fun e_ => Nat.not_lt.2 ((hPX122 k_ e_).1.1.1.1.1.1.1.1.1.2) (hk_.1.1.1.1.1.1.2)) hs_)); replace BK551 := am (blk_kept (rk BK551) hkp (fun hs_ => (fun e_ => Sx_box BK551.out (by decide) (hPX122 _ e_).2.2.2) hs_)); replace HO555 := am (Kd.S_mono hy0 (fun k_ h_ => (hPX122 k_ h_).1)); replace BK556 := am (blk_kept (rk BK556) hkp (fun hs_ => (fun e_ => Sx_box BK556.out (by decide) (hPX122 _ e_).2.2.2) hs_)); replace HO561 := am (Kd.S_kept (HO561.out) hkp (fun k_ hk_ hs_ => (fun e_ => Nat.not_lt.2 (hk_.1.1.1.2) ((hPX122 k_ e_).1.1.1.1.1.2)) hs_)); replace BK563 := am (blk_kept (rk BK563) hkp (fun hs_ => (fun e_ => Sx_box BK563.out (by decide) (hPX122 _ e_).2.2.2) hs_)); replace HO568 := am (Kd.S_kept (HO568.out) hkp (fun k_ hk_ hs_ => (fun e_ => Nat.not_lt.2 (hk_.1.1.1.1.1.1.2) ((hPX122 k_ e_).1.1.1.1.2)) hs_)); replace HO573 := am (Kd.S_kept (HO573.out) hkp (fun k_ hk_ hs_ => (fun e_ => Nat.not_lt.2 (hk_.1.1.1.1.1.2) ((hPX122 k_ e_).1.1.2)) hs_)); replace HB := am (hb); (try clear hPS122 hPX122); (try clear hb); (try clear hkp); (try clear hy0); have hcz124_0 : w123.cell? ⟨gb563, 0, none⟩ = some (.int .i64 t557) := (blk_cell BK563.out 0).trans rfl; have hcz124_1 : w123.cell? ⟨gb563, 1, none⟩ = some (.int .i64 t558) := (blk_cell BK563.out 1).trans rfl; have hcz124_2 : w123.cell? ⟨gb563, 2, none⟩ = some (.slice Ao105 t559.length co105) := (blk_cell BK563.out 2).trans rfl; have hfz124_0 := blk_frozen BK563.out 0; have hfz124_1 := blk_frozen BK563.out 1; have hfz124_2 := blk_frozen BK563.out 2; have hcz125_0 : w123.cell? ⟨gb546, 0, none⟩ = some (.int .i64 t540) := (blk_cell BK546.out 0).trans rfl; have hcz125_1 : w123.cell? ⟨gb546, 1, none⟩ = some (.int .i64 t541) := (blk_cell BK546.out 1).trans rfl; have hcz125_2 : w123.cell? ⟨gb546, 2, none⟩ = some (.slice Ao72 t542.length co72) := (blk_cell BK546.out 2).trans rfl; have hfz125_0 := blk_frozen BK546.out 0; have hfz125_1 := blk_frozen BK546.out 1; have hfz125_2 := blk_frozen BK546.out 2) | (go_at_call 34; (with_reducible refine (laws_eqPatch.calls k t557 t558 _ _ t559 t540 t541 _ _ t542 true _ ?side1 ?side2 ?side3 ?side4 A37.out).mono ?_); (case side1 => exact rcs HO561); (case side2 => exact (Kd.S_reads' HO561.out).2.1); (case side3 => exact rcs HO544); (case side4 => exact (Kd.S_reads' HO544.out).2.1); rintro e w126 ⟨rfl, hb⟩; replace HO535 := am (Kd.S_below (rs HO535) hb); replace HO539 := am (Kd.S_below (rs HO539) hb); replace HO544 := am (Kd.S_below (rs HO544) hb); replace HO550 := am (Kd.S_below (rs HO550) hb); replace HO555 := am (Kd.S_below (rs HO555) hb); replace HO561 := am (Kd.S_below (rs HO561) hb); replace HO568 := am (Kd.S_below (rs HO568) hb); replace HO573 := am (Kd.S_below (rs HO573) hb); replace BK528 := am (blk_below (rk BK528) hb); replace BK529 := am (blk_below (rk BK529) hb); replace BK546 := am (blk_below (rk BK546) hb); replace BK551 := am (blk_below (rk BK551) hb); replace BK556 := am (blk_below (rk BK556) hb); replace BK563 := am (blk_below (rk BK563) hb); replace HB := am (below_step (rb6 HB GE528 GE529 GE546 GE551 GE556 GE563) hb); (try clear hb); (try clear hb2); (try clear hk); (try clear hi); have hcz127_0 : w126.cell? ⟨gb563, 0, none⟩ = some (.int .i64 t557) := (blk_cell BK563.out 0).trans rfl; have hcz127_1 : w126.cell? ⟨gb563, 1, none⟩ = some (.int .i64 t558) := (blk_cell BK563.out 1).trans rfl; have hcz127_2 : w126.cell? ⟨gb563, 2, none⟩ = some (.slice Ao105 t559.length co105) := (blk_cell BK563.out 2).trans rfl; have hfz127_0 := blk_frozen BK563.out 0; have hfz127_1 := blk_frozen BK563.out 1; have hfz127_2 := blk_frozen BK563.out 2; obtain ⟨PX128, hPS128, hPX128⟩ := Sx_named (Kd.S_bound HO561.out)) | ((with_reducible refine gate_callee (f := 37) rfl ?_); refine gl_ (some 85) Try.func37 #[.agg #[.int .i64 t557, .int .i64 t558, .slice Ao105 t559.length co105], .int .i64 1] ?_; (with_reducible refine (laws_markPatch.calls k t557 t558 PX128 (.slice Ao105 t559.length co105) t559 1 t580 t581 w _ ?side1 ?side2 A39.out).mono ?_); (case side1 => repeat (first | (with_reducible first | exact HB.out | apply b1 | apply b2 | apply b3 | refine below_set ?_ GE528.out | refine below_set ?_ GE529.out | refine below_set ?_ GE546.out | refine below_set ?_ GE551.out | refine below_set ?_ GE556.out | refine below_set ?_ GE563.out) | exact HB.out)); (case side2 => exact hPS128); rintro e w129 ⟨rfl, hy0, hb, hkp⟩; refine ⟨_, rfl, ?_⟩; replace BK528 := am (blk_kept (rk BK528) hkp (fun hs_ => (fun e_ => Sx_box BK528.out (by decide) (hPX128 _ e_).2.2.2) hs_)); replace BK529 := am (blk_kept (rk BK529) hkp (fun hs_ => (fun e_ => Sx_box BK529.out (by decide) (hPX128 _ e_).2.2.2) hs_)); replace HO535 := am (Kd.S_kept (HO535.out) hkp (fun k_ hk_ hs_ => (fun e_ => Nat.not_lt.2 ((hPX128 k_ e_).1.1.1.1.2) (hk_.1.1.1.1.2)) hs_)); replace HO539 := am (Kd.S_kept (HO539.out) hkp (fun k_ hk_ hs_ => (fun e_ => Nat.not_lt.2 ((hPX128 k_ e_).1.1.1.1.2) (hk_.1.1.1.1.2)) hs_)); replace HO544 := am (Kd.S_kept (HO544.out) hkp (fun k_ hk_ hs_ => (fun e_ => Nat.not_lt.2 ((hPX128 k_ e_).1.1.1.1.2) (hk_.1.1.1.2)) hs_)); replace BK546 := am (blk_kept (rk BK546) hkp (fun hs_ => (fun e_ => Sx_box BK546.out (by decide) (hPX128 _ e_).2.2.2) hs_)); replace HO550 := am (Kd.S_kept (HO550.out) hkp (fun k_ hk_ hs_ => (fun e_ => Nat.not_lt.2 ((hPX128 k_ e_).1.1.1.1.2) (hk_.1.1.1.1.2)) hs_)); replace BK551 := am (blk_kept (rk BK551) hkp (fun hs_ => (fun e_ => Sx_box BK551.out (by decide) (hPX128 _ e_).2.2.2) hs_)); replace HO555 := am (Kd.S_kept (HO555.out) hkp (fun k_ hk_ hs_ => (fun e_ => Nat.not_lt.2 ((hPX128 k_ e_).1.1.1.1.2) (hk_.1.1.1.1.2)) hs_)); replace BK556 := am (blk_kept (rk BK556) hkp (fun hs_ => (fun e_ => Sx_box BK556.out (by decide) (hPX128 _ e_).2.2.2) hs_)); replace HO561 := am (Kd.S_mono hy0 (fun k_ h_ => (hPX128 k_ h_).1)); replace BK563 := am (blk_kept (rk BK563) hkp (fun hs_ => (fun e_ => Sx_box BK563.out (by decide) (hPX128 _ e_).2.2.2) hs_)); replace HO568 := am (Kd.S_kept (HO568.out) hkp (fun k_ hk_ hs_ => (fun e_ => Nat.not_lt.2 (hk_.1.1.1.1.1.1.2) ((hPX128 k_ e_).1.1.2)) hs_)); replace HO573 := am (Kd.S_kept (HO573.out) hkp (fun k_ hk_ hs_ => (fun e_ => Nat.not_lt.2 (hk_.1.1.1.1.1.2) ((hPX128 k_ e_).1.2)) hs_)); replace HB := am (hb); (try clear hPS128 hPX128); (try clear hb); (try clear hkp); (try clear hy0); have hcz130_0 : w129.cell? ⟨gb563, 0, none⟩ = some (.int .i64 t557) := (blk_cell BK563.out 0).trans rfl; have hcz130_1 : w129.cell? ⟨gb563, 1, none⟩ = some (.int .i64 t558) := (blk_cell BK563.out 1).trans rfl; have hcz130_2 : w129.cell? ⟨gb563, 2, none⟩ = some (.slice Ao105 t559.length co105) := (blk_cell BK563.out 2).trans rfl; have hfz130_0 := blk_frozen BK563.out 0; have hfz130_1 := blk_frozen BK563.out 1; have hfz130_2 := blk_frozen BK563.out 2) | ((with_reducible refine gate_callee (f := 38) rfl ?_); refine goesL_ (some 88) rfl rfl Try.func38 (by kernel_rfl) rfl #[.agg #[.int .i64 t557, .int .i64 t558, .slice Ao105 t581.length co105], .int .i64 1] rfl (by (try simp only [List.map_toArray, List.map_cons, List.map_nil]); first | done | (rw [show t581.length = t559.length from (Kd.S_reads' HO561.out).1.symm] <;> rfl) | rfl | (simp only [List.length_drop, List.length_take]; rfl)) ?_; (with_reducible refine (laws_heldPatch.calls k t557 t558 _ _ t581 1 t582 _ ?side1 ?side2 A40.out).mono ?_); (case side1 => exact rcs HO561); (case side2 => rw [show t581.length = t559.length from (Kd.S_reads' HO561.out).1.symm]; exact (Kd.S_reads' HO561.out).2.1); rintro e w131 ⟨rfl, hb⟩; refine ⟨_, rfl, ?_⟩; replace HO535 := am (Kd.S_below (rs HO535) hb); replace HO539 := am (Kd.S_below (rs HO539) hb); replace HO544 := am (Kd.S_below (rs HO544) hb); replace HO550 := am (Kd.S_below (rs HO550) hb); replace HO555 := am (Kd.S_below (rs HO555) hb); replace HO561 := am (Kd.S_below (rs HO561) hb); replace HO568 := am (Kd.S_below (rs HO568) hb); replace HO573 := am (Kd.S_below (rs HO573) hb); replace BK528 := am (blk_below (rk BK528) hb); replace BK529 := am (blk_below (rk BK529) hb); replace BK546 := am (blk_below (rk BK546) hb); replace BK551 := am (blk_below (rk BK551) hb); replace BK556 := am (blk_below (rk BK556) hb); replace BK563 := am (blk_below (rk BK563) hb); replace HB := am (below_step (rb6 HB GE528 GE529 GE546 GE551 GE556 GE563) hb); (try clear hb); (try clear hb2); (try clear hk); (try clear hi)))
replace HO535 := am (Kd.S_drew HO535.out)
replace HO539 := am (Kd.S_drew HO539.out)
replace HO544 := am (Kd.S_drew HO544.out)
replace HO550 := am (Kd.S_drew HO550.out)
replace HO555 := am (Kd.S_drew HO555.out)
replace HO561 := am (Kd.S_drew HO561.out)
replace HO568 := am (Kd.S_drew HO568.out)
replace HO573 := am (Kd.S_drew HO573.out)
replace BK528 := am (blk_drew BK528.out)
replace BK529 := am (blk_drew BK529.out)
replace BK546 := am (blk_drew BK546.out)
replace BK551 := am (blk_drew BK551.out)
replace BK556 := am (blk_drew BK556.out)
replace BK563 := am (blk_drew BK563.out)
replace HB := am (below_drew1 HB.out)
refine start_ (n := 11) (S := fun w' => w'.cell? ⟨gb528, 0, none⟩ = some (.int .i64 a0_0) ∧ w'.cell? ⟨gb528, 1, none⟩ = some (.slice A0_1 l0_1.length c0_1) ∧ w'.cell? ⟨gb529, 0, none⟩ = some (.int .i64 a1_0) ∧ w'.cell? ⟨gb529, 1, none⟩ = some (.slice A1_1 l1_1.length c1_1)) (ds := []) (bm 11 0) (by kernel_rfl) rfl rfl ⟨(blk_cell BK528.out 0).trans rfl, (blk_cell BK528.out 1).trans rfl, (blk_cell BK529.out 0).trans rfl, (blk_cell BK529.out 1).trans rfl⟩ (fun hHeld => ?_); refine with_tabW laws_FnExactDiff.tab31 laws_FnExactDiff.bits31 (fun HT_ HW_ => ?_)
generalize w131.drew = w132 at HO535 HO539 HO544 HO550 HO555 HO561 HO568 HO573 BK528 BK529 BK546 BK551 BK556 BK563 HB hHeld ⊢
refine take_ (i := 0) (N := some 95) (v := ?_) (a' := ?_) (bm 11 1) rfl rfl (take_ofW HT_.out HW_.out (by kernel_rfl)) (fun _ _ _ h => h) (Or.inl ⟨by rfl, ?_⟩) hHeld ?_ ?_
rotate_left
·(
rintro w' ⟨s0, s1, s2, s3⟩
go_simp
with_reducible rfl
)
rotate_left
·(
simp only [Act.put, List.setIfInBounds_toArray, List.set_cons_zero, List.set_cons_succ, i64_w, i32_w]
rfl
)
refine take_ (i := 2) (N := some 97) (v := ?_) (a' := ?_) (bm 11 5) rfl rfl (take_ofW HT_.out HW_.out (by kernel_rfl)) (fun _ _ _ h => h) (Or.inl ⟨by rfl, ?_⟩) hHeld ?_ ?_
rotate_left
·(
rintro w' ⟨s0, s1, s2, s3⟩
go_simp
with_reducible rfl
)
rotate_left
·(
simp only [Act.put, List.setIfInBounds_toArray, List.set_cons_zero, List.set_cons_succ, i64_w, i32_w]
rfl
)
refine join_ (σ := Value × Value × Value × Nat) 2 (bm 11 511) (fun s_ => [(96, .agg #[.int .i64 t583, s_.1]), (98, .agg #[.int .i64 t587, s_.2.1]), (99, .tuple #[.agg #[.int .i64 t591, .int .i64 t592, s_.2.2.1], .bool t596]), (15, .pointer (some ⟨s_.2.2.2, 0, none⟩)), (94, .tuple #[.agg #[.int .i64 t591, .int .i64 t592, s_.2.2.1], .bool t596]), (100, .agg #[.int .i64 t591, .int .i64 t592, s_.2.2.1]), (101, .bool t596)]) (fun s_ w' => (w'.cell? ⟨gb528, 0, none⟩ = some (.int .i64 a0_0) ∧ w'.cell? ⟨gb528, 1, none⟩ = some (.slice A0_1 l0_1.length c0_1) ∧ w'.cell? ⟨gb529, 0, none⟩ = some (.int .i64 a1_0) ∧ w'.cell? ⟨gb529, 1, none⟩ = some (.slice A1_1 l1_1.length c1_1)) ∧ (Kd.S (Kd.slice 98 k98) 99 w' w.heap.size (fun k_ => some k_ ≠ (v538 : Value).ownBlock ∧ some k_ ≠ (.slice Ao83 t548.length co83 : Value).ownBlock ∧ some k_ ≠ (.slice Ao94 t553.length co94 : Value).ownBlock ∧ some k_ ≠ (.slice Ao111 t566.length co111 : Value).ownBlock ∧ some k_ ≠ (.slice Ao116 t571.length co116 : Value).ownBlock ∧ some k_ ≠ (s_.1 : Value).ownBlock ∧ some k_ ≠ (s_.2.1 : Value).ownBlock) v534 t533) ∧ (Kd.S (Kd.slice 98 k98) 99 w' w.heap.size (fun k_ => some k_ ≠ (v534 : Value).ownBlock ∧ some k_ ≠ (.slice Ao83 t548.length co83 : Value).ownBlock ∧ some k_ ≠ (.slice Ao94 t553.length co94 : Value).ownBlock ∧ some k_ ≠ (.slice Ao111 t566.length co111 : Value).ownBlock ∧ some k_ ≠ (.slice Ao116 t571.length co116 : Value).ownBlock ∧ some k_ ≠ (s_.1 : Value).ownBlock ∧ some k_ ≠ (s_.2.1 : Value).ownBlock) v538 t537) ∧ (Kd.S k101 101 w' w.heap.size (fun k_ => some k_ ≠ (.slice Ao105 t559.length co105 : Value).ownBlock ∧ some k_ ≠ (s_.2.2.1 : Value).ownBlock) (.slice Ao72 t542.length co72) t542) ∧ (Kd.S (Kd.slice 98 k98) 99 w' w.heap.size (fun k_ => some k_ ≠ (v534 : Value).ownBlock ∧ some k_ ≠ (v538 : Value).ownBlock ∧ some k_ ≠ (.slice Ao94 t553.length co94 : Value).ownBlock ∧ some k_ ≠ (.slice Ao111 t566.length co111 : Value).ownBlock ∧ some k_ ≠ (.slice Ao116 t571.length co116 : Value).ownBlock ∧ some k_ ≠ (s_.1 : Value).ownBlock ∧ some k_ ≠ (s_.2.1 : Value).ownBlock) (.slice Ao83 t548.length co83) t576) ∧ (Kd.S (Kd.slice 98 k98) 99 w' w.heap.size (fun k_ => some k_ ≠ (v534 : Value).ownBlock ∧ some k_ ≠ (v538 : Value).ownBlock ∧ some k_ ≠ (.slice Ao83 t548.length co83 : Value).ownBlock ∧ some k_ ≠ (.slice Ao111 t566.length co111 : Value).ownBlock ∧ some k_ ≠ (.slice Ao116 t571.length co116 : Value).ownBlock ∧ some k_ ≠ (s_.1 : Value).ownBlock ∧ some k_ ≠ (s_.2.1 : Value).ownBlock) (.slice Ao94 t553.length co94) t578) ∧ (Kd.S k101 101 w' w.heap.size (fun k_ => some k_ ≠ (.slice Ao72 t542.length co72 : Value).ownBlock ∧ some k_ ≠ (s_.2.2.1 : Value).ownBlock) (.slice Ao105 t559.length co105) t581) ∧ (Kd.S (Kd.slice 98 k98) 99 w' w.heap.size (fun k_ => some k_ ≠ (v534 : Value).ownBlock ∧ some k_ ≠ (v538 : Value).ownBlock ∧ some k_ ≠ (.slice Ao83 t548.length co83 : Value).ownBlock ∧ some k_ ≠ (.slice Ao94 t553.length co94 : Value).ownBlock ∧ some k_ ≠ (.slice Ao116 t571.length co116 : Value).ownBlock ∧ some k_ ≠ (s_.1 : Value).ownBlock ∧ some k_ ≠ (s_.2.1 : Value).ownBlock) (.slice Ao111 t566.length co111) t566) ∧ (Kd.S (Kd.slice 98 k98) 99 w' w.heap.size (fun k_ => some k_ ≠ (v534 : Value).ownBlock ∧ some k_ ≠ (v538 : Value).ownBlock ∧ some k_ ≠ (.slice Ao83 t548.length co83 : Value).ownBlock ∧ some k_ ≠ (.slice Ao94 t553.length co94 : Value).ownBlock ∧ some k_ ≠ (.slice Ao111 t566.length co111 : Value).ownBlock ∧ some k_ ≠ (s_.1 : Value).ownBlock ∧ some k_ ≠ (s_.2.1 : Value).ownBlock) (.slice Ao116 t571.length co116) t571) ∧ (Kd.S (Kd.slice 98 k98) 99 w' w.heap.size (fun k_ => some k_ ≠ (v534 : Value).ownBlock ∧ some k_ ≠ (v538 : Value).ownBlock ∧ some k_ ≠ (.slice Ao83 t548.length co83 : Value).ownBlock ∧ some k_ ≠ (.slice Ao94 t553.length co94 : Value).ownBlock ∧ some k_ ≠ (.slice Ao111 t566.length co111 : Value).ownBlock ∧ some k_ ≠ (.slice Ao116 t571.length co116 : Value).ownBlock ∧ some k_ ≠ (s_.2.1 : Value).ownBlock) s_.1 t584) ∧ (Kd.S (Kd.slice 98 k98) 99 w' w.heap.size (fun k_ => some k_ ≠ (v534 : Value).ownBlock ∧ some k_ ≠ (v538 : Value).ownBlock ∧ some k_ ≠ (.slice Ao83 t548.length co83 : Value).ownBlock ∧ some k_ ≠ (.slice Ao94 t553.length co94 : Value).ownBlock ∧ some k_ ≠ (.slice Ao111 t566.length co111 : Value).ownBlock ∧ some k_ ≠ (.slice Ao116 t571.length co116 : Value).ownBlock ∧ some k_ ≠ (s_.1 : Value).ownBlock) s_.2.1 t588) ∧ (Kd.S k101 101 w' w.heap.size (fun k_ => some k_ ≠ (.slice Ao72 t542.length co72 : Value).ownBlock ∧ some k_ ≠ (.slice Ao105 t559.length co105 : Value).ownBlock) s_.2.2.1 t593) ∧ (w'.heap[gb528]? = some (.cells #[.int .i64 a0_0, .slice A0_1 l0_1.length c0_1] 49 (0, 0))) ∧ (w'.heap[gb529]? = some (.cells #[.int .i64 a1_0, .slice A1_1 l1_1.length c1_1] 49 (0, 0))) ∧ (w'.heap[gb546]? = some (.cells #[.int .i64 t540, .int .i64 t541, .slice Ao72 t542.length co72] 53 (0, 0))) ∧ (w'.heap[gb551]? = some (.cells #[.int .i64 t547, .slice Ao83 t548.length co83] 58 (0, 0))) ∧ (w'.heap[gb556]? = some (.cells #[.int .i64 t552, .slice Ao94 t553.length co94] 58 (0, 0))) ∧ (w'.heap[gb563]? = some (.cells #[.int .i64 t557, .int .i64 t558, .slice Ao105 t559.length co105] 53 (0, 0))) ∧ (w'.heap[s_.2.2.2]? = some (.cells #[.int .i64 0, .int .i64 0, .slice none 0 0] 53 (0, 0))) ∧ (w.heap.size ≤ s_.2.2.2) ∧ (w.heap.size ≤ s_.2.2.2) ∧ (gb528 ≠ s_.2.2.2) ∧ (s_.2.2.2 ≠ gb528) ∧ (gb529 ≠ s_.2.2.2) ∧ (s_.2.2.2 ≠ gb529) ∧ (gb546 ≠ s_.2.2.2) ∧ (s_.2.2.2 ≠ gb546) ∧ (gb551 ≠ s_.2.2.2) ∧ (s_.2.2.2 ≠ gb551) ∧ (gb556 ≠ s_.2.2.2) ∧ (s_.2.2.2 ≠ gb556) ∧ (gb563 ≠ s_.2.2.2) ∧ (s_.2.2.2 ≠ gb563) ∧ (Below w.heap.size w w')) ?_ ?_
rotate_left
·(
intro hCont
refine two_ (i := 1) (j := 8) (Ni := some 96) (Nj := some 15) (bm 11 7) (bm 11 261) rfl rfl rfl rfl (two_of HT_.out (by kernel_rfl)) (by decide) (by decide) (fun K hK => ?_) (fun K hK => ?_)
·(
skip
refine goes_ Try.func32 (by kernel_rfl) rfl #[.agg #[.int .i64 a0_0, .slice A0_1 l0_1.length c0_1]] (by rfl) rfl rfl mt ?_
with_reducible refine (laws_toGrid.calls k a0_0 _ _ l0_1 t583 t584 _ ?side1 ?side2 A43.out).mono ?_
(case side1 => exact rc ((Kd.C_below HR0_1.out HB.out)))
(case side2 => exact HC0_1.out)
rintro e w133 ⟨v585, rfl, ho0, hb⟩
refine ⟨_, rfl, ?_⟩
replace HO544 := am (Kd.S_below (Sx_cap (rs HO544)) hb)
replace HO561 := am (Kd.S_below (Sx_cap (rs HO561)) hb)
have HO586 := am (Kd.S_lower (Kd.S_new' (Kd.S_new' (Kd.S_new' (Kd.S_new' (Kd.S_new' (Kd.S_new' (Sx_floor ho0) (Kd.S_lt (rs HO535))) (Kd.S_lt (rs HO539))) (Kd.S_lt (rs HO550))) (Kd.S_lt (rs HO555))) (Kd.S_lt (rs HO568))) (Kd.S_lt (rs HO573))) (below_size (rb6 HB GE528 GE529 GE546 GE551 GE556 GE563)))
replace HO535 := am (Kd.S_elder' (Sx_cap (rs HO535)) (Kd.S_base ho0) hb)
replace HO539 := am (Kd.S_elder' (Sx_cap (rs HO539)) (Kd.S_base ho0) hb)
replace HO550 := am (Kd.S_elder' (Sx_cap (rs HO550)) (Kd.S_base ho0) hb)
replace HO555 := am (Kd.S_elder' (Sx_cap (rs HO555)) (Kd.S_base ho0) hb)
replace HO568 := am (Kd.S_elder' (Sx_cap (rs HO568)) (Kd.S_base ho0) hb)
replace HO573 := am (Kd.S_elder' (Sx_cap (rs HO573)) (Kd.S_base ho0) hb)
replace BK528 := am (blk_below (rk BK528) hb)
replace BK529 := am (blk_below (rk BK529) hb)
replace BK546 := am (blk_below (rk BK546) hb)
replace BK551 := am (blk_below (rk BK551) hb)
replace BK556 := am (blk_below (rk BK556) hb)
replace BK563 := am (blk_below (rk BK563) hb)
replace HB := am (below_step (rb6 HB GE528 GE529 GE546 GE551 GE556 GE563) hb)
(try clear hb)
(try clear ho0)
refine hK.out _ _ ⟨(blk_cell BK528.out 0).trans rfl, (blk_cell BK528.out 1).trans rfl, (blk_cell BK529.out 0).trans rfl, (blk_cell BK529.out 1).trans rfl⟩ (fun hHeld => ?_)
clear hK K
refine norm_ (a' := _) (show Act.put _ (some 96) _ = _ from na) ?_
refine two_ (i := 3) (j := 8) (Ni := some 98) (Nj := some 15) (bm 11 15) (bm 11 263) rfl rfl rfl rfl (two_of HT_.out (by kernel_rfl)) (by decide) (by decide) (fun K hK => ?_) (fun K hK => ?_)
·(
skip
refine goes_ Try.func32 (by kernel_rfl) rfl #[.agg #[.int .i64 a1_0, .slice A1_1 l1_1.length c1_1]] (by rfl) rfl rfl mt ?_
with_reducible refine (laws_toGrid.calls k a1_0 _ _ l1_1 t587 t588 _ ?side1 ?side2 A44.out).mono ?_
(case side1 => exact rc ((Kd.C_below HR1_1.out HB.out)))
(case side2 => exact HC1_1.out)
rintro e w135 ⟨v589, rfl, ho0, hb⟩
refine ⟨_, rfl, ?_⟩
replace HO544 := am (Kd.S_below (Sx_cap (rs HO544)) hb)
replace HO561 := am (Kd.S_below (Sx_cap (rs HO561)) hb)
have HO590 := am (Kd.S_lower (Kd.S_new' (Kd.S_new' (Kd.S_new' (Kd.S_new' (Kd.S_new' (Kd.S_new' (Kd.S_new' (Sx_floor ho0) (Kd.S_lt (rs HO535))) (Kd.S_lt (rs HO539))) (Kd.S_lt (rs HO550))) (Kd.S_lt (rs HO555))) (Kd.S_lt (rs HO568))) (Kd.S_lt (rs HO573))) (Kd.S_lt (rs HO586))) (below_size (rb6 HB GE528 GE529 GE546 GE551 GE556 GE563)))
replace HO535 := am (Kd.S_elder' (Sx_cap (rs HO535)) (Kd.S_base ho0) hb)
replace HO539 := am (Kd.S_elder' (Sx_cap (rs HO539)) (Kd.S_base ho0) hb)
replace HO550 := am (Kd.S_elder' (Sx_cap (rs HO550)) (Kd.S_base ho0) hb)
replace HO555 := am (Kd.S_elder' (Sx_cap (rs HO555)) (Kd.S_base ho0) hb)
replace HO568 := am (Kd.S_elder' (Sx_cap (rs HO568)) (Kd.S_base ho0) hb)
replace HO573 := am (Kd.S_elder' (Sx_cap (rs HO573)) (Kd.S_base ho0) hb)
replace HO586 := am (Kd.S_elder' (Sx_cap (rs HO586)) (Kd.S_base ho0) hb)
replace BK528 := am (blk_below (rk BK528) hb)
replace BK529 := am (blk_below (rk BK529) hb)
replace BK546 := am (blk_below (rk BK546) hb)
replace BK551 := am (blk_below (rk BK551) hb)
replace BK556 := am (blk_below (rk BK556) hb)
replace BK563 := am (blk_below (rk BK563) hb)
replace HB := am (below_step (rb6 HB GE528 GE529 GE546 GE551 GE556 GE563) hb)
(try clear hb)
(try clear ho0)
obtain ⟨Ao137, co137, eo137⟩ := Kd.S_slice HO586.out
(first | subst eo137 | (injection eo137 with f1_ f2_ f3_; have f4_ := f1_.symm; have f5_ := f3_.symm; clear f1_ f2_ f3_; subst f4_; subst f5_))
obtain ⟨Ao138, co138, eo138⟩ := Kd.S_slice HO590.out
(first | subst eo138 | (injection eo138 with f1_ f2_ f3_; have f4_ := f1_.symm; have f5_ := f3_.symm; clear f1_ f2_ f3_; subst f4_; subst f5_))
refine hK.out _ _ ⟨(blk_cell BK528.out 0).trans rfl, (blk_cell BK528.out 1).trans rfl, (blk_cell BK529.out 0).trans rfl, (blk_cell BK529.out 1).trans rfl⟩ (fun hHeld => ?_)
clear hK K
refine norm_ (a' := _) (show Act.put _ (some 98) _ = _ from na) ?_
refine two_ (i := 4) (j := 8) (Ni := some 99) (Nj := some 15) (bm 11 31) (bm 11 271) rfl rfl rfl rfl (two_of HT_.out (by kernel_rfl)) (by decide) (by decide) (fun K hK => ?_) (fun K hK => ?_)
·(
skip
refine goes_ Try.func33 (by kernel_rfl) rfl #[.agg #[.int .i64 t583, .slice Ao137 t584.length co137], .agg #[.int .i64 t587, .slice Ao138 t588.length co138]] (by rfl) rfl rfl mt ?_
with_reducible refine (impl_Diff.calls k t583 _ _ t584 t587 _ _ t588 t591 t592 t593 t596 _ ?side1 ?side2 ?side3 ?side4 A45.out).mono ?_
(case side1 => exact rcs HO586)
(case side2 => exact (Kd.S_reads' HO586.out).2.1)
(case side3 => exact rcs HO590)
(case side4 => exact (Kd.S_reads' HO590.out).2.1)
rintro e w139 ⟨v594, rfl, ho0, hb⟩
refine ⟨_, rfl, ?_⟩
replace HO535 := am (Kd.S_below (Sx_cap (rs HO535)) hb)
replace HO539 := am (Kd.S_below (Sx_cap (rs HO539)) hb)
replace HO550 := am (Kd.S_below (Sx_cap (rs HO550)) hb)
replace HO555 := am (Kd.S_below (Sx_cap (rs HO555)) hb)
replace HO568 := am (Kd.S_below (Sx_cap (rs HO568)) hb)
replace HO573 := am (Kd.S_below (Sx_cap (rs HO573)) hb)
replace HO586 := am (Kd.S_below (Sx_cap (rs HO586)) hb)
replace HO590 := am (Kd.S_below (Sx_cap (rs HO590)) hb)
have HO595 := am (Kd.S_lower (Kd.S_new' (Kd.S_new' (Sx_floor ho0) (Kd.S_lt (rs HO544))) (Kd.S_lt (rs HO561))) (below_size (rb6 HB GE528 GE529 GE546 GE551 GE556 GE563)))
replace HO544 := am (Kd.S_elder' (Sx_cap (rs HO544)) (Kd.S_base ho0) hb)
replace HO561 := am (Kd.S_elder' (Sx_cap (rs HO561)) (Kd.S_base ho0) hb)
replace BK528 := am (blk_below (rk BK528) hb)
replace BK529 := am (blk_below (rk BK529) hb)
replace BK546 := am (blk_below (rk BK546) hb)
replace BK551 := am (blk_below (rk BK551) hb)
replace BK556 := am (blk_below (rk BK556) hb)
replace BK563 := am (blk_below (rk BK563) hb)
replace HB := am (below_step (rb6 HB GE528 GE529 GE546 GE551 GE556 GE563) hb)
(try clear hb)
(try clear ho0)
refine hK.out _ _ ⟨(blk_cell BK528.out 0).trans rfl, (blk_cell BK528.out 1).trans rfl, (blk_cell BK529.out 0).trans rfl, (blk_cell BK529.out 1).trans rfl⟩ (fun hHeld => ?_)
clear hK K
refine norm_ (a' := _) (show Act.put _ (some 99) _ = _ from na) ?_
refine pu_ 5 94 (bm 11 63) HT_.out ?_
refine pu_ 6 100 (bm 11 127) HT_.out ?_
refine pu_ 7 101 (bm 11 255) HT_.out ?_
refine one_ (i := 8) (N := some 15) (bm 11 511) rfl rfl (one_of HT_.out (by kernel_rfl)) (by decide) (fun K hK => ?_)
refine box_step ?hg (N := 15) ?hd (cs := #[.int .i64 0, .int .i64 0, .slice none 0 0]) (t := 53) ?hr ?_; (case hd => rfl); (case hg => rfl); (case hr => first | (go_simp; done) | (go_simp; rfl))
intro gb597 hg w141 hbox hb
replace HO535 := am (Kd.S_below (rs HO535) hb)
replace HO539 := am (Kd.S_below (rs HO539) hb)
replace HO544 := am (Kd.S_below (rs HO544) hb)
replace HO550 := am (Kd.S_below (rs HO550) hb)
replace HO555 := am (Kd.S_below (rs HO555) hb)
replace HO561 := am (Kd.S_below (rs HO561) hb)
replace HO568 := am (Kd.S_below (rs HO568) hb)
replace HO573 := am (Kd.S_below (rs HO573) hb)
replace HO586 := am (Kd.S_below (rs HO586) hb)
replace HO590 := am (Kd.S_below (rs HO590) hb)
replace HO595 := am (Kd.S_below (rs HO595) hb)
have BK597 := am (hbox)
have GW597 := am (gw hg (rb6 HB GE528 GE529 GE546 GE551 GE556 GE563))
have GE597 := GW597
replace HB := am (below_step (rb6 HB GE528 GE529 GE546 GE551 GE556 GE563) hb)
have NB528_597 := am (nl hg (rk BK528))
have NB597_528 := am (ng hg (rk BK528))
replace BK528 := am (blk_below (rk BK528) hb)
have NB529_597 := am (nl hg (rk BK529))
have NB597_529 := am (ng hg (rk BK529))
replace BK529 := am (blk_below (rk BK529) hb)
have NB546_597 := am (nl hg (rk BK546))
have NB597_546 := am (ng hg (rk BK546))
replace BK546 := am (blk_below (rk BK546) hb)
have NB551_597 := am (nl hg (rk BK551))
have NB597_551 := am (ng hg (rk BK551))
replace BK551 := am (blk_below (rk BK551) hb)
have NB556_597 := am (nl hg (rk BK556))
have NB597_556 := am (ng hg (rk BK556))
replace BK556 := am (blk_below (rk BK556) hb)
have NB563_597 := am (nl hg (rk BK563))
have NB597_563 := am (ng hg (rk BK563))
replace BK563 := am (blk_below (rk BK563) hb)
clear hb hbox hg
refine hK.out _ _ ⟨(blk_cell BK528.out 0).trans rfl, (blk_cell BK528.out 1).trans rfl, (blk_cell BK529.out 0).trans rfl, (blk_cell BK529.out 1).trans rfl⟩ (fun hHeld => ?_)
clear hK K
refine norm_ (a' := _) (show Act.put _ (some 15) _ = _ from na) ?_
exact norm_ nz0 (hCont (.slice Ao137 t584.length co137, .slice Ao138 t588.length co138, v594, gb597) _ ⟨hHeld, (rm2 HO535), (rm2 HO539), (rm2 HO544), (rm2 HO550), (rm2 HO555), (rm2 HO561), (rm2 HO568), (rm2 HO573), (rm2 HO586), (rm2 HO590), (rm2 HO595), (rk BK528), (rk BK529), (rk BK546), (rk BK551), (rk BK556), (rk BK563), (rk BK597), GW597.out, GE597.out, NB528_597.out, NB597_528.out, NB529_597.out, NB597_529.out, NB546_597.out, NB597_546.out, NB551_597.out, NB597_551.out, NB556_597.out, NB597_556.out, NB563_597.out, NB597_563.out, (rb7 HB GE528 GE529 GE546 GE551 GE556 GE563 GE597)⟩)
)
·(
skip
refine box_step ?hg (N := 15) ?hd (cs := #[.int .i64 0, .int .i64 0, .slice none 0 0]) (t := 53) ?hr ?_; (case hd => rfl); (case hg => rfl); (case hr => first | (go_simp; done) | (go_simp; rfl))
intro gb597 hg w137 hbox hb
replace HO535 := am (Kd.S_below (rs HO535) hb)
replace HO539 := am (Kd.S_below (rs HO539) hb)
replace HO544 := am (Kd.S_below (rs HO544) hb)
replace HO550 := am (Kd.S_below (rs HO550) hb)
replace HO555 := am (Kd.S_below (rs HO555) hb)
replace HO561 := am (Kd.S_below (rs HO561) hb)
replace HO568 := am (Kd.S_below (rs HO568) hb)
replace HO573 := am (Kd.S_below (rs HO573) hb)
replace HO586 := am (Kd.S_below (rs HO586) hb)
replace HO590 := am (Kd.S_below (rs HO590) hb)
have BK597 := am (hbox)
have GW597 := am (gw hg (rb6 HB GE528 GE529 GE546 GE551 GE556 GE563))
have GE597 := GW597
replace HB := am (below_step (rb6 HB GE528 GE529 GE546 GE551 GE556 GE563) hb)
have NB528_597 := am (nl hg (rk BK528))
have NB597_528 := am (ng hg (rk BK528))
replace BK528 := am (blk_below (rk BK528) hb)
have NB529_597 := am (nl hg (rk BK529))
have NB597_529 := am (ng hg (rk BK529))
replace BK529 := am (blk_below (rk BK529) hb)
have NB546_597 := am (nl hg (rk BK546))
have NB597_546 := am (ng hg (rk BK546))
replace BK546 := am (blk_below (rk BK546) hb)
have NB551_597 := am (nl hg (rk BK551))
have NB597_551 := am (ng hg (rk BK551))
replace BK551 := am (blk_below (rk BK551) hb)
have NB556_597 := am (nl hg (rk BK556))
have NB597_556 := am (ng hg (rk BK556))
replace BK556 := am (blk_below (rk BK556) hb)
have NB563_597 := am (nl hg (rk BK563))
have NB597_563 := am (ng hg (rk BK563))
replace BK563 := am (blk_below (rk BK563) hb)
clear hb hbox hg
obtain ⟨Ao138, co138, eo138⟩ := Kd.S_slice HO586.out
(first | subst eo138 | (injection eo138 with f1_ f2_ f3_; have f4_ := f1_.symm; have f5_ := f3_.symm; clear f1_ f2_ f3_; subst f4_; subst f5_))
obtain ⟨Ao139, co139, eo139⟩ := Kd.S_slice HO590.out
(first | subst eo139 | (injection eo139 with f1_ f2_ f3_; have f4_ := f1_.symm; have f5_ := f3_.symm; clear f1_ f2_ f3_; subst f4_; subst f5_))
refine hK.out _ _ ⟨(blk_cell BK528.out 0).trans rfl, (blk_cell BK528.out 1).trans rfl, (blk_cell BK529.out 0).trans rfl, (blk_cell BK529.out 1).trans rfl⟩ (fun hHeld => ?_)
clear hK K
refine norm_ (a' := _) (show Act.put _ (some 15) _ = _ from na) ?_
refine one_ (i := 4) (N := some 99) (bm 11 287) rfl rfl (one_of HT_.out (by kernel_rfl)) (by decide) (fun K hK => ?_)
refine goes_ Try.func33 (by kernel_rfl) rfl #[.agg #[.int .i64 t583, .slice Ao138 t584.length co138], .agg #[.int .i64 t587, .slice Ao139 t588.length co139]] (by rfl) rfl rfl mt ?_
with_reducible refine (impl_Diff.calls k t583 _ _ t584 t587 _ _ t588 t591 t592 t593 t596 _ ?side1 ?side2 ?side3 ?side4 A45.out).mono ?_
(case side1 => exact rcs HO586)
(case side2 => exact (Kd.S_reads' HO586.out).2.1)
(case side3 => exact rcs HO590)
(case side4 => exact (Kd.S_reads' HO590.out).2.1)
rintro e w140 ⟨v594, rfl, ho0, hb⟩
refine ⟨_, rfl, ?_⟩
replace HO535 := am (Kd.S_below (Sx_cap (rs HO535)) hb)
replace HO539 := am (Kd.S_below (Sx_cap (rs HO539)) hb)
replace HO550 := am (Kd.S_below (Sx_cap (rs HO550)) hb)
replace HO555 := am (Kd.S_below (Sx_cap (rs HO555)) hb)
replace HO568 := am (Kd.S_below (Sx_cap (rs HO568)) hb)
replace HO573 := am (Kd.S_below (Sx_cap (rs HO573)) hb)
replace HO586 := am (Kd.S_below (Sx_cap (rs HO586)) hb)
replace HO590 := am (Kd.S_below (Sx_cap (rs HO590)) hb)
have HO595 := am (Kd.S_lower (Kd.S_new' (Kd.S_new' (Sx_floor ho0) (Kd.S_lt (rs HO544))) (Kd.S_lt (rs HO561))) (below_size (rb7 HB GE528 GE529 GE546 GE551 GE556 GE563 GE597)))
replace HO544 := am (Kd.S_elder' (Sx_cap (rs HO544)) (Kd.S_base ho0) hb)
replace HO561 := am (Kd.S_elder' (Sx_cap (rs HO561)) (Kd.S_base ho0) hb)
replace BK528 := am (blk_below (rk BK528) hb)
replace BK529 := am (blk_below (rk BK529) hb)
replace BK546 := am (blk_below (rk BK546) hb)
replace BK551 := am (blk_below (rk BK551) hb)
replace BK556 := am (blk_below (rk BK556) hb)
replace BK563 := am (blk_below (rk BK563) hb)
replace BK597 := am (blk_below (rk BK597) hb)
replace HB := am (below_step (rb7 HB GE528 GE529 GE546 GE551 GE556 GE563 GE597) hb)
(try clear hb)
(try clear ho0)
refine hK.out _ _ ⟨(blk_cell BK528.out 0).trans rfl, (blk_cell BK528.out 1).trans rfl, (blk_cell BK529.out 0).trans rfl, (blk_cell BK529.out 1).trans rfl⟩ (fun hHeld => ?_)
clear hK K
refine norm_ (a' := _) (show Act.put _ (some 99) _ = _ from na) ?_
refine pu_ 5 94 (bm 11 319) HT_.out ?_
refine pu_ 6 100 (bm 11 383) HT_.out ?_
refine pu_ 7 101 (bm 11 511) HT_.out ?_
exact norm_ nz0 (hCont (.slice Ao138 t584.length co138, .slice Ao139 t588.length co139, v594, gb597) _ ⟨hHeld, (rm2 HO535), (rm2 HO539), (rm2 HO544), (rm2 HO550), (rm2 HO555), (rm2 HO561), (rm2 HO568), (rm2 HO573), (rm2 HO586), (rm2 HO590), (rm2 HO595), (rk BK528), (rk BK529), (rk BK546), (rk BK551), (rk BK556), (rk BK563), (rk BK597), GW597.out, GE597.out, NB528_597.out, NB597_528.out, NB529_597.out, NB597_529.out, NB546_597.out, NB597_546.out, NB551_597.out, NB597_551.out, NB556_597.out, NB597_556.out, NB563_597.out, NB597_563.out, (rb7 HB GE528 GE529 GE546 GE551 GE556 GE563 GE597)⟩)
)
)
·(
skip
refine box_step ?hg (N := 15) ?hd (cs := #[.int .i64 0, .int .i64 0, .slice none 0 0]) (t := 53) ?hr ?_; (case hd => rfl); (case hg => rfl); (case hr => first | (go_simp; done) | (go_simp; rfl))
intro gb597 hg w135 hbox hb
replace HO535 := am (Kd.S_below (rs HO535) hb)
replace HO539 := am (Kd.S_below (rs HO539) hb)
replace HO544 := am (Kd.S_below (rs HO544) hb)
replace HO550 := am (Kd.S_below (rs HO550) hb)
replace HO555 := am (Kd.S_below (rs HO555) hb)
replace HO561 := am (Kd.S_below (rs HO561) hb)
replace HO568 := am (Kd.S_below (rs HO568) hb)
replace HO573 := am (Kd.S_below (rs HO573) hb)
replace HO586 := am (Kd.S_below (rs HO586) hb)
have BK597 := am (hbox)
have GW597 := am (gw hg (rb6 HB GE528 GE529 GE546 GE551 GE556 GE563))
have GE597 := GW597
replace HB := am (below_step (rb6 HB GE528 GE529 GE546 GE551 GE556 GE563) hb)
have NB528_597 := am (nl hg (rk BK528))
have NB597_528 := am (ng hg (rk BK528))
replace BK528 := am (blk_below (rk BK528) hb)
have NB529_597 := am (nl hg (rk BK529))
have NB597_529 := am (ng hg (rk BK529))
replace BK529 := am (blk_below (rk BK529) hb)
have NB546_597 := am (nl hg (rk BK546))
have NB597_546 := am (ng hg (rk BK546))
replace BK546 := am (blk_below (rk BK546) hb)
have NB551_597 := am (nl hg (rk BK551))
have NB597_551 := am (ng hg (rk BK551))
replace BK551 := am (blk_below (rk BK551) hb)
have NB556_597 := am (nl hg (rk BK556))
have NB597_556 := am (ng hg (rk BK556))
replace BK556 := am (blk_below (rk BK556) hb)
have NB563_597 := am (nl hg (rk BK563))
have NB597_563 := am (ng hg (rk BK563))
replace BK563 := am (blk_below (rk BK563) hb)
clear hb hbox hg
refine hK.out _ _ ⟨(blk_cell BK528.out 0).trans rfl, (blk_cell BK528.out 1).trans rfl, (blk_cell BK529.out 0).trans rfl, (blk_cell BK529.out 1).trans rfl⟩ (fun hHeld => ?_)
clear hK K
refine norm_ (a' := _) (show Act.put _ (some 15) _ = _ from na) ?_
refine one_ (i := 3) (N := some 98) (bm 11 271) rfl rfl (one_of HT_.out (by kernel_rfl)) (by decide) (fun K hK => ?_)
refine goes_ Try.func32 (by kernel_rfl) rfl #[.agg #[.int .i64 a1_0, .slice A1_1 l1_1.length c1_1]] (by rfl) rfl rfl mt ?_
with_reducible refine (laws_toGrid.calls k a1_0 _ _ l1_1 t587 t588 _ ?side1 ?side2 A44.out).mono ?_
(case side1 => exact rc ((Kd.C_below HR1_1.out HB.out)))
(case side2 => exact HC1_1.out)
rintro e w136 ⟨v589, rfl, ho0, hb⟩
refine ⟨_, rfl, ?_⟩
replace HO544 := am (Kd.S_below (Sx_cap (rs HO544)) hb)
replace HO561 := am (Kd.S_below (Sx_cap (rs HO561)) hb)
have HO590 := am (Kd.S_lower (Kd.S_new' (Kd.S_new' (Kd.S_new' (Kd.S_new' (Kd.S_new' (Kd.S_new' (Kd.S_new' (Sx_floor ho0) (Kd.S_lt (rs HO535))) (Kd.S_lt (rs HO539))) (Kd.S_lt (rs HO550))) (Kd.S_lt (rs HO555))) (Kd.S_lt (rs HO568))) (Kd.S_lt (rs HO573))) (Kd.S_lt (rs HO586))) (below_size (rb7 HB GE528 GE529 GE546 GE551 GE556 GE563 GE597)))
replace HO535 := am (Kd.S_elder' (Sx_cap (rs HO535)) (Kd.S_base ho0) hb)
replace HO539 := am (Kd.S_elder' (Sx_cap (rs HO539)) (Kd.S_base ho0) hb)
replace HO550 := am (Kd.S_elder' (Sx_cap (rs HO550)) (Kd.S_base ho0) hb)
replace HO555 := am (Kd.S_elder' (Sx_cap (rs HO555)) (Kd.S_base ho0) hb)
replace HO568 := am (Kd.S_elder' (Sx_cap (rs HO568)) (Kd.S_base ho0) hb)
replace HO573 := am (Kd.S_elder' (Sx_cap (rs HO573)) (Kd.S_base ho0) hb)
replace HO586 := am (Kd.S_elder' (Sx_cap (rs HO586)) (Kd.S_base ho0) hb)
replace BK528 := am (blk_below (rk BK528) hb)
replace BK529 := am (blk_below (rk BK529) hb)
replace BK546 := am (blk_below (rk BK546) hb)
replace BK551 := am (blk_below (rk BK551) hb)
replace BK556 := am (blk_below (rk BK556) hb)
replace BK563 := am (blk_below (rk BK563) hb)
replace BK597 := am (blk_below (rk BK597) hb)
replace HB := am (below_step (rb7 HB GE528 GE529 GE546 GE551 GE556 GE563 GE597) hb)
(try clear hb)
(try clear ho0)
obtain ⟨Ao138, co138, eo138⟩ := Kd.S_slice HO586.out
(first | subst eo138 | (injection eo138 with f1_ f2_ f3_; have f4_ := f1_.symm; have f5_ := f3_.symm; clear f1_ f2_ f3_; subst f4_; subst f5_))
obtain ⟨Ao139, co139, eo139⟩ := Kd.S_slice HO590.out
(first | subst eo139 | (injection eo139 with f1_ f2_ f3_; have f4_ := f1_.symm; have f5_ := f3_.symm; clear f1_ f2_ f3_; subst f4_; subst f5_))
refine hK.out _ _ ⟨(blk_cell BK528.out 0).trans rfl, (blk_cell BK528.out 1).trans rfl, (blk_cell BK529.out 0).trans rfl, (blk_cell BK529.out 1).trans rfl⟩ (fun hHeld => ?_)
clear hK K
refine norm_ (a' := _) (show Act.put _ (some 98) _ = _ from na) ?_
refine one_ (i := 4) (N := some 99) (bm 11 287) rfl rfl (one_of HT_.out (by kernel_rfl)) (by decide) (fun K hK => ?_)
refine goes_ Try.func33 (by kernel_rfl) rfl #[.agg #[.int .i64 t583, .slice Ao138 t584.length co138], .agg #[.int .i64 t587, .slice Ao139 t588.length co139]] (by rfl) rfl rfl mt ?_
with_reducible refine (impl_Diff.calls k t583 _ _ t584 t587 _ _ t588 t591 t592 t593 t596 _ ?side1 ?side2 ?side3 ?side4 A45.out).mono ?_
(case side1 => exact rcs HO586)
(case side2 => exact (Kd.S_reads' HO586.out).2.1)
(case side3 => exact rcs HO590)
(case side4 => exact (Kd.S_reads' HO590.out).2.1)
rintro e w140 ⟨v594, rfl, ho0, hb⟩
refine ⟨_, rfl, ?_⟩
replace HO535 := am (Kd.S_below (Sx_cap (rs HO535)) hb)
replace HO539 := am (Kd.S_below (Sx_cap (rs HO539)) hb)
replace HO550 := am (Kd.S_below (Sx_cap (rs HO550)) hb)
replace HO555 := am (Kd.S_below (Sx_cap (rs HO555)) hb)
replace HO568 := am (Kd.S_below (Sx_cap (rs HO568)) hb)
replace HO573 := am (Kd.S_below (Sx_cap (rs HO573)) hb)
replace HO586 := am (Kd.S_below (Sx_cap (rs HO586)) hb)
replace HO590 := am (Kd.S_below (Sx_cap (rs HO590)) hb)
have HO595 := am (Kd.S_lower (Kd.S_new' (Kd.S_new' (Sx_floor ho0) (Kd.S_lt (rs HO544))) (Kd.S_lt (rs HO561))) (below_size (rb7 HB GE528 GE529 GE546 GE551 GE556 GE563 GE597)))
replace HO544 := am (Kd.S_elder' (Sx_cap (rs HO544)) (Kd.S_base ho0) hb)
replace HO561 := am (Kd.S_elder' (Sx_cap (rs HO561)) (Kd.S_base ho0) hb)
replace BK528 := am (blk_below (rk BK528) hb)
replace BK529 := am (blk_below (rk BK529) hb)
replace BK546 := am (blk_below (rk BK546) hb)
replace BK551 := am (blk_below (rk BK551) hb)
replace BK556 := am (blk_below (rk BK556) hb)
replace BK563 := am (blk_below (rk BK563) hb)
replace BK597 := am (blk_below (rk BK597) hb)
replace HB := am (below_step (rb7 HB GE528 GE529 GE546 GE551 GE556 GE563 GE597) hb)
(try clear hb)
(try clear ho0)
refine hK.out _ _ ⟨(blk_cell BK528.out 0).trans rfl, (blk_cell BK528.out 1).trans rfl, (blk_cell BK529.out 0).trans rfl, (blk_cell BK529.out 1).trans rfl⟩ (fun hHeld => ?_)
clear hK K
refine norm_ (a' := _) (show Act.put _ (some 99) _ = _ from na) ?_
refine pu_ 5 94 (bm 11 319) HT_.out ?_
refine pu_ 6 100 (bm 11 383) HT_.out ?_
refine pu_ 7 101 (bm 11 511) HT_.out ?_
exact norm_ nz0 (hCont (.slice Ao138 t584.length co138, .slice Ao139 t588.length co139, v594, gb597) _ ⟨hHeld, (rm2 HO535), (rm2 HO539), (rm2 HO544), (rm2 HO550), (rm2 HO555), (rm2 HO561), (rm2 HO568), (rm2 HO573), (rm2 HO586), (rm2 HO590), (rm2 HO595), (rk BK528), (rk BK529), (rk BK546), (rk BK551), (rk BK556), (rk BK563), (rk BK597), GW597.out, GE597.out, NB528_597.out, NB597_528.out, NB529_597.out, NB597_529.out, NB546_597.out, NB597_546.out, NB551_597.out, NB597_551.out, NB556_597.out, NB597_556.out, NB563_597.out, NB597_563.out, (rb7 HB GE528 GE529 GE546 GE551 GE556 GE563 GE597)⟩)
)
)
·(
skip
refine box_step ?hg (N := 15) ?hd (cs := #[.int .i64 0, .int .i64 0, .slice none 0 0]) (t := 53) ?hr ?_; (case hd => rfl); (case hg => rfl); (case hr => first | (go_simp; done) | (go_simp; rfl))
intro gb597 hg w133 hbox hb
replace HO535 := am (Kd.S_below (rs HO535) hb)
replace HO539 := am (Kd.S_below (rs HO539) hb)
replace HO544 := am (Kd.S_below (rs HO544) hb)
replace HO550 := am (Kd.S_below (rs HO550) hb)
replace HO555 := am (Kd.S_below (rs HO555) hb)
replace HO561 := am (Kd.S_below (rs HO561) hb)
replace HO568 := am (Kd.S_below (rs HO568) hb)
replace HO573 := am (Kd.S_below (rs HO573) hb)
have BK597 := am (hbox)
have GW597 := am (gw hg (rb6 HB GE528 GE529 GE546 GE551 GE556 GE563))
have GE597 := GW597
replace HB := am (below_step (rb6 HB GE528 GE529 GE546 GE551 GE556 GE563) hb)
have NB528_597 := am (nl hg (rk BK528))
have NB597_528 := am (ng hg (rk BK528))
replace BK528 := am (blk_below (rk BK528) hb)
have NB529_597 := am (nl hg (rk BK529))
have NB597_529 := am (ng hg (rk BK529))
replace BK529 := am (blk_below (rk BK529) hb)
have NB546_597 := am (nl hg (rk BK546))
have NB597_546 := am (ng hg (rk BK546))
replace BK546 := am (blk_below (rk BK546) hb)
have NB551_597 := am (nl hg (rk BK551))
have NB597_551 := am (ng hg (rk BK551))
replace BK551 := am (blk_below (rk BK551) hb)
have NB556_597 := am (nl hg (rk BK556))
have NB597_556 := am (ng hg (rk BK556))
replace BK556 := am (blk_below (rk BK556) hb)
have NB563_597 := am (nl hg (rk BK563))
have NB597_563 := am (ng hg (rk BK563))
replace BK563 := am (blk_below (rk BK563) hb)
clear hb hbox hg
refine hK.out _ _ ⟨(blk_cell BK528.out 0).trans rfl, (blk_cell BK528.out 1).trans rfl, (blk_cell BK529.out 0).trans rfl, (blk_cell BK529.out 1).trans rfl⟩ (fun hHeld => ?_)
clear hK K
refine norm_ (a' := _) (show Act.put _ (some 15) _ = _ from na) ?_
refine one_ (i := 1) (N := some 96) (bm 11 263) rfl rfl (one_of HT_.out (by kernel_rfl)) (by decide) (fun K hK => ?_)
refine goes_ Try.func32 (by kernel_rfl) rfl #[.agg #[.int .i64 a0_0, .slice A0_1 l0_1.length c0_1]] (by rfl) rfl rfl mt ?_
with_reducible refine (laws_toGrid.calls k a0_0 _ _ l0_1 t583 t584 _ ?side1 ?side2 A43.out).mono ?_
(case side1 => exact rc ((Kd.C_below HR0_1.out HB.out)))
(case side2 => exact HC0_1.out)
rintro e w134 ⟨v585, rfl, ho0, hb⟩
refine ⟨_, rfl, ?_⟩
replace HO544 := am (Kd.S_below (Sx_cap (rs HO544)) hb)
replace HO561 := am (Kd.S_below (Sx_cap (rs HO561)) hb)
have HO586 := am (Kd.S_lower (Kd.S_new' (Kd.S_new' (Kd.S_new' (Kd.S_new' (Kd.S_new' (Kd.S_new' (Sx_floor ho0) (Kd.S_lt (rs HO535))) (Kd.S_lt (rs HO539))) (Kd.S_lt (rs HO550))) (Kd.S_lt (rs HO555))) (Kd.S_lt (rs HO568))) (Kd.S_lt (rs HO573))) (below_size (rb7 HB GE528 GE529 GE546 GE551 GE556 GE563 GE597)))
replace HO535 := am (Kd.S_elder' (Sx_cap (rs HO535)) (Kd.S_base ho0) hb)
replace HO539 := am (Kd.S_elder' (Sx_cap (rs HO539)) (Kd.S_base ho0) hb)
replace HO550 := am (Kd.S_elder' (Sx_cap (rs HO550)) (Kd.S_base ho0) hb)
replace HO555 := am (Kd.S_elder' (Sx_cap (rs HO555)) (Kd.S_base ho0) hb)
replace HO568 := am (Kd.S_elder' (Sx_cap (rs HO568)) (Kd.S_base ho0) hb)
replace HO573 := am (Kd.S_elder' (Sx_cap (rs HO573)) (Kd.S_base ho0) hb)
replace BK528 := am (blk_below (rk BK528) hb)
replace BK529 := am (blk_below (rk BK529) hb)
replace BK546 := am (blk_below (rk BK546) hb)
replace BK551 := am (blk_below (rk BK551) hb)
replace BK556 := am (blk_below (rk BK556) hb)
replace BK563 := am (blk_below (rk BK563) hb)
replace BK597 := am (blk_below (rk BK597) hb)
replace HB := am (below_step (rb7 HB GE528 GE529 GE546 GE551 GE556 GE563 GE597) hb)
(try clear hb)
(try clear ho0)
refine hK.out _ _ ⟨(blk_cell BK528.out 0).trans rfl, (blk_cell BK528.out 1).trans rfl, (blk_cell BK529.out 0).trans rfl, (blk_cell BK529.out 1).trans rfl⟩ (fun hHeld => ?_)
clear hK K
refine norm_ (a' := _) (show Act.put _ (some 96) _ = _ from na) ?_
refine one_ (i := 3) (N := some 98) (bm 11 271) rfl rfl (one_of HT_.out (by kernel_rfl)) (by decide) (fun K hK => ?_)
refine goes_ Try.func32 (by kernel_rfl) rfl #[.agg #[.int .i64 a1_0, .slice A1_1 l1_1.length c1_1]] (by rfl) rfl rfl mt ?_
with_reducible refine (laws_toGrid.calls k a1_0 _ _ l1_1 t587 t588 _ ?side1 ?side2 A44.out).mono ?_
(case side1 => exact rc ((Kd.C_below HR1_1.out HB.out)))
(case side2 => exact HC1_1.out)
rintro e w136 ⟨v589, rfl, ho0, hb⟩
refine ⟨_, rfl, ?_⟩
replace HO544 := am (Kd.S_below (Sx_cap (rs HO544)) hb)
replace HO561 := am (Kd.S_below (Sx_cap (rs HO561)) hb)
have HO590 := am (Kd.S_lower (Kd.S_new' (Kd.S_new' (Kd.S_new' (Kd.S_new' (Kd.S_new' (Kd.S_new' (Kd.S_new' (Sx_floor ho0) (Kd.S_lt (rs HO535))) (Kd.S_lt (rs HO539))) (Kd.S_lt (rs HO550))) (Kd.S_lt (rs HO555))) (Kd.S_lt (rs HO568))) (Kd.S_lt (rs HO573))) (Kd.S_lt (rs HO586))) (below_size (rb7 HB GE528 GE529 GE546 GE551 GE556 GE563 GE597)))
replace HO535 := am (Kd.S_elder' (Sx_cap (rs HO535)) (Kd.S_base ho0) hb)
replace HO539 := am (Kd.S_elder' (Sx_cap (rs HO539)) (Kd.S_base ho0) hb)
replace HO550 := am (Kd.S_elder' (Sx_cap (rs HO550)) (Kd.S_base ho0) hb)
replace HO555 := am (Kd.S_elder' (Sx_cap (rs HO555)) (Kd.S_base ho0) hb)
replace HO568 := am (Kd.S_elder' (Sx_cap (rs HO568)) (Kd.S_base ho0) hb)
replace HO573 := am (Kd.S_elder' (Sx_cap (rs HO573)) (Kd.S_base ho0) hb)
replace HO586 := am (Kd.S_elder' (Sx_cap (rs HO586)) (Kd.S_base ho0) hb)
replace BK528 := am (blk_below (rk BK528) hb)
replace BK529 := am (blk_below (rk BK529) hb)
replace BK546 := am (blk_below (rk BK546) hb)
replace BK551 := am (blk_below (rk BK551) hb)
replace BK556 := am (blk_below (rk BK556) hb)
replace BK563 := am (blk_below (rk BK563) hb)
replace BK597 := am (blk_below (rk BK597) hb)
replace HB := am (below_step (rb7 HB GE528 GE529 GE546 GE551 GE556 GE563 GE597) hb)
(try clear hb)
(try clear ho0)
obtain ⟨Ao138, co138, eo138⟩ := Kd.S_slice HO586.out
(first | subst eo138 | (injection eo138 with f1_ f2_ f3_; have f4_ := f1_.symm; have f5_ := f3_.symm; clear f1_ f2_ f3_; subst f4_; subst f5_))
obtain ⟨Ao139, co139, eo139⟩ := Kd.S_slice HO590.out
(first | subst eo139 | (injection eo139 with f1_ f2_ f3_; have f4_ := f1_.symm; have f5_ := f3_.symm; clear f1_ f2_ f3_; subst f4_; subst f5_))
refine hK.out _ _ ⟨(blk_cell BK528.out 0).trans rfl, (blk_cell BK528.out 1).trans rfl, (blk_cell BK529.out 0).trans rfl, (blk_cell BK529.out 1).trans rfl⟩ (fun hHeld => ?_)
clear hK K
refine norm_ (a' := _) (show Act.put _ (some 98) _ = _ from na) ?_
refine one_ (i := 4) (N := some 99) (bm 11 287) rfl rfl (one_of HT_.out (by kernel_rfl)) (by decide) (fun K hK => ?_)
refine goes_ Try.func33 (by kernel_rfl) rfl #[.agg #[.int .i64 t583, .slice Ao138 t584.length co138], .agg #[.int .i64 t587, .slice Ao139 t588.length co139]] (by rfl) rfl rfl mt ?_
with_reducible refine (impl_Diff.calls k t583 _ _ t584 t587 _ _ t588 t591 t592 t593 t596 _ ?side1 ?side2 ?side3 ?side4 A45.out).mono ?_
(case side1 => exact rcs HO586)
(case side2 => exact (Kd.S_reads' HO586.out).2.1)
(case side3 => exact rcs HO590)
(case side4 => exact (Kd.S_reads' HO590.out).2.1)
rintro e w140 ⟨v594, rfl, ho0, hb⟩
refine ⟨_, rfl, ?_⟩
replace HO535 := am (Kd.S_below (Sx_cap (rs HO535)) hb)
replace HO539 := am (Kd.S_below (Sx_cap (rs HO539)) hb)
replace HO550 := am (Kd.S_below (Sx_cap (rs HO550)) hb)
replace HO555 := am (Kd.S_below (Sx_cap (rs HO555)) hb)
replace HO568 := am (Kd.S_below (Sx_cap (rs HO568)) hb)
replace HO573 := am (Kd.S_below (Sx_cap (rs HO573)) hb)
replace HO586 := am (Kd.S_below (Sx_cap (rs HO586)) hb)
replace HO590 := am (Kd.S_below (Sx_cap (rs HO590)) hb)
have HO595 := am (Kd.S_lower (Kd.S_new' (Kd.S_new' (Sx_floor ho0) (Kd.S_lt (rs HO544))) (Kd.S_lt (rs HO561))) (below_size (rb7 HB GE528 GE529 GE546 GE551 GE556 GE563 GE597)))
replace HO544 := am (Kd.S_elder' (Sx_cap (rs HO544)) (Kd.S_base ho0) hb)
replace HO561 := am (Kd.S_elder' (Sx_cap (rs HO561)) (Kd.S_base ho0) hb)
replace BK528 := am (blk_below (rk BK528) hb)
replace BK529 := am (blk_below (rk BK529) hb)
replace BK546 := am (blk_below (rk BK546) hb)
replace BK551 := am (blk_below (rk BK551) hb)
replace BK556 := am (blk_below (rk BK556) hb)
replace BK563 := am (blk_below (rk BK563) hb)
replace BK597 := am (blk_below (rk BK597) hb)
replace HB := am (below_step (rb7 HB GE528 GE529 GE546 GE551 GE556 GE563 GE597) hb)
(try clear hb)
(try clear ho0)
refine hK.out _ _ ⟨(blk_cell BK528.out 0).trans rfl, (blk_cell BK528.out 1).trans rfl, (blk_cell BK529.out 0).trans rfl, (blk_cell BK529.out 1).trans rfl⟩ (fun hHeld => ?_)
clear hK K
refine norm_ (a' := _) (show Act.put _ (some 99) _ = _ from na) ?_
refine pu_ 5 94 (bm 11 319) HT_.out ?_
refine pu_ 6 100 (bm 11 383) HT_.out ?_
refine pu_ 7 101 (bm 11 511) HT_.out ?_
exact norm_ nz0 (hCont (.slice Ao138 t584.length co138, .slice Ao139 t588.length co139, v594, gb597) _ ⟨hHeld, (rm2 HO535), (rm2 HO539), (rm2 HO544), (rm2 HO550), (rm2 HO555), (rm2 HO561), (rm2 HO568), (rm2 HO573), (rm2 HO586), (rm2 HO590), (rm2 HO595), (rk BK528), (rk BK529), (rk BK546), (rk BK551), (rk BK556), (rk BK563), (rk BK597), GW597.out, GE597.out, NB528_597.out, NB597_528.out, NB529_597.out, NB597_529.out, NB546_597.out, NB597_546.out, NB551_597.out, NB597_551.out, NB556_597.out, NB597_556.out, NB563_597.out, NB597_563.out, (rb7 HB GE528 GE529 GE546 GE551 GE556 GE563 GE597)⟩)
)
)
rintro ⟨v585, v589, v594, gb597⟩ w142 ⟨hHeld, h0_, h1_, h2_, h3_, h4_, h5_, h6_, h7_, h8_, h9_, h10_, h11_, h12_, h13_, h14_, h15_, h16_, h17_, h18_, h19_, h20_, h21_, h22_, h23_, h24_, h25_, h26_, h27_, h28_, h29_, h30_, h31_, h32_⟩
(try dsimp only at hHeld h0_ h1_ h2_ h3_ h4_ h5_ h6_ h7_ h8_ h9_ h10_ h11_ h12_ h13_ h14_ h15_ h16_ h17_ h18_ h19_ h20_ h21_ h22_ h23_ h24_ h25_ h26_ h27_ h28_ h29_ h30_ h31_ h32_)
replace HO535 := am h0_; replace HO539 := am h1_; replace HO544 := am h2_; replace HO550 := am h3_; replace HO555 := am h4_; replace HO561 := am h5_; replace HO568 := am h6_; replace HO573 := am h7_; have HO586 := am h8_; have HO590 := am h9_; have HO595 := am h10_; replace BK528 := am h11_; replace BK529 := am h12_; replace BK546 := am h13_; replace BK551 := am h14_; replace BK556 := am h15_; replace BK563 := am h16_; have BK597 := am h17_; have GW597 := am h18_; have GE597 := am h19_; have NB528_597 := am h20_; have NB597_528 := am h21_; have NB529_597 := am h22_; have NB597_529 := am h23_; have NB546_597 := am h24_; have NB597_546 := am h25_; have NB551_597 := am h26_; have NB597_551 := am h27_; have NB556_597 := am h28_; have NB597_556 := am h29_; have NB563_597 := am h30_; have NB597_563 := am h31_; replace HB := am h32_
clear h0_ h1_ h2_ h3_ h4_ h5_ h6_ h7_ h8_ h9_ h10_ h11_ h12_ h13_ h14_ h15_ h16_ h17_ h18_ h19_ h20_ h21_ h22_ h23_ h24_ h25_ h26_ h27_ h28_ h29_ h30_ h31_ h32_
obtain ⟨Ao145, co145, eo145⟩ := Kd.S_slice HO595.out
(first | subst eo145 | (injection eo145 with f1_ f2_ f3_; have f4_ := f1_.symm; have f5_ := f3_.symm; clear f1_ f2_ f3_; subst f4_; subst f5_))
refine norm_ (a' := _) nr ?_
refine one_ (i := 9) (N := none) (bm 11 1023) rfl rfl (one_of HT_.out (by kernel_rfl)) (by decide) (fun K hK => ?_)
have hs143 : w142.cell? ⟨gb597, 0, none⟩ = some (.int .i64 0) := (blk_cell BK597.out 0).trans rfl
have hfs143 := blk_frozen BK597.out 0
have hns143_0 := NB528_597.out
have hns143_1 := NB529_597.out
have hns143_2 := NB546_597.out
have hns143_3 := NB551_597.out
have hns143_4 := NB556_597.out
have hns143_5 := NB563_597.out
have hms143_0 := NB597_528.out
have hms143_1 := NB597_529.out
have hms143_2 := NB597_546.out
have hms143_3 := NB597_551.out
have hms143_4 := NB597_556.out
have hms143_5 := NB597_563.out
have hs144 : w142.cell? ⟨gb597, 1, none⟩ = some (.int .i64 0) := (blk_cell BK597.out 1).trans rfl
have hfs144 := blk_frozen BK597.out 1
have hns144_0 := NB528_597.out
have hns144_1 := NB529_597.out
have hns144_2 := NB546_597.out
have hns144_3 := NB551_597.out
have hns144_4 := NB556_597.out
have hns144_5 := NB563_597.out
have hms144_0 := NB597_528.out
have hms144_1 := NB597_529.out
have hms144_2 := NB597_546.out
have hms144_3 := NB597_551.out
have hms144_4 := NB597_556.out
have hms144_5 := NB597_563.out
have hs146 : w142.cell? ⟨gb597, 2, none⟩ = some (.slice none 0 0) := (blk_cell BK597.out 2).trans rfl
have hfs146 := blk_frozen BK597.out 2
have hns146_0 := NB528_597.out
have hns146_1 := NB529_597.out
have hns146_2 := NB546_597.out
have hns146_3 := NB551_597.out
have hns146_4 := NB556_597.out
have hns146_5 := NB563_597.out
have hms146_0 := NB597_528.out
have hms146_1 := NB597_529.out
have hms146_2 := NB597_546.out
have hms146_3 := NB597_551.out
have hms146_4 := NB597_556.out
have hms146_5 := NB597_563.out
refine skip_ (w1 := ?_) (by rfl) rfl ?_ ?_
rotate_left
·(
go_simp
rfl
)
refine hK.out _ _ ⟨((cell_far (p := ⟨gb597, _, none⟩) NB528_597.out _).trans (((cell_far (p := ⟨gb597, _, none⟩) NB528_597.out _).trans (((cell_far (p := ⟨gb597, _, none⟩) NB528_597.out _).trans (hHeld.1)))))), ((cell_far (p := ⟨gb597, _, none⟩) NB528_597.out _).trans (((cell_far (p := ⟨gb597, _, none⟩) NB528_597.out _).trans (((cell_far (p := ⟨gb597, _, none⟩) NB528_597.out _).trans (hHeld.2.1)))))), ((cell_far (p := ⟨gb597, _, none⟩) NB529_597.out _).trans (((cell_far (p := ⟨gb597, _, none⟩) NB529_597.out _).trans (((cell_far (p := ⟨gb597, _, none⟩) NB529_597.out _).trans (hHeld.2.2.1)))))), ((cell_far (p := ⟨gb597, _, none⟩) NB529_597.out _).trans (((cell_far (p := ⟨gb597, _, none⟩) NB529_597.out _).trans (((cell_far (p := ⟨gb597, _, none⟩) NB529_597.out _).trans (hHeld.2.2.2))))))⟩ (fun hHeld => ?_)
clear hK K
refine pu_ 10 16 (bm 11 2047) HT_.out ?_
refine done_ (done_of HT_.out (by kernel_rfl)) ?_
have hnb147 := NB597_528.out
have hnc147 := NB528_597.out
have hnb148 := NB597_529.out
have hnc148 := NB529_597.out
have hnb149 := NB597_546.out
have hnc149 := NB546_597.out
have hnb150 := NB597_551.out
have hnc150 := NB551_597.out
have hnb151 := NB597_556.out
have hnc151 := NB556_597.out
have hnb152 := NB597_563.out
have hnc152 := NB563_597.out
have hcz153_0 : w142.cell? ⟨gb597, 0, none⟩ = some (.int .i64 0) := (blk_cell BK597.out 0).trans rfl
have hcz153_1 : w142.cell? ⟨gb597, 1, none⟩ = some (.int .i64 0) := (blk_cell BK597.out 1).trans rfl
have hcz153_2 : w142.cell? ⟨gb597, 2, none⟩ = some (.slice none 0 0) := (blk_cell BK597.out 2).trans rfl
have hfz153_0 := blk_frozen BK597.out 0
have hfz153_1 := blk_frozen BK597.out 1
have hfz153_2 := blk_frozen BK597.out 2
have hcz154_0 : w142.cell? ⟨gb546, 0, none⟩ = some (.int .i64 t540) := (blk_cell BK546.out 0).trans rfl
have hcz154_1 : w142.cell? ⟨gb546, 1, none⟩ = some (.int .i64 t541) := (blk_cell BK546.out 1).trans rfl
have hcz154_2 : w142.cell? ⟨gb546, 2, none⟩ = some (.slice Ao72 t542.length co72) := (blk_cell BK546.out 2).trans rfl
have hfz154_0 := blk_frozen BK546.out 0
have hfz154_1 := blk_frozen BK546.out 1
have hfz154_2 := blk_frozen BK546.out 2
try go_wp2_with (first | ((with_reducible refine gate_callee (f := 34) rfl ?_); refine gl_ (some 104) Try.func34 #[.agg #[.int .i64 t591, .int .i64 t592, .slice Ao145 t593.length co145], .agg #[.int .i64 t540, .int .i64 t541, .slice Ao72 t542.length co72]] ?_; (with_reducible refine (laws_eqPatch.calls k t591 t592 _ _ t593 t540 t541 _ _ t542 true _ ?side1 ?side2 ?side3 ?side4 A46.out).mono ?_); (case side1 => refine (Kd.S_reads' (e := 101) (base := w.heap.size) (ok := fun k_ => (some k_ ≠ (.slice Ao72 t542.length co72 : Value).ownBlock ∧ some k_ ≠ (.slice Ao105 t559.length co105 : Value).ownBlock)) (n := t593.length) (c := co145) ?_).2.2; exact (sf3 HO595 BK597)); (case side2 => exact (Kd.S_reads' HO595.out).2.1); (case side3 => refine (Kd.S_reads' (e := 101) (base := w.heap.size) (ok := fun k_ => (some k_ ≠ (.slice Ao105 t559.length co105 : Value).ownBlock ∧ some k_ ≠ (.slice Ao145 t593.length co145 : Value).ownBlock)) (n := t542.length) (c := co72) ?_).2.2; exact (sf3 HO544 BK597)); (case side4 => exact (Kd.S_reads' HO544.out).2.1); rintro e w155 ⟨rfl, hb⟩; refine ⟨_, rfl, ?_⟩; replace HO535 := am (Kd.S_below (sf3 HO535 BK597) hb); replace HO539 := am (Kd.S_below (sf3 HO539 BK597) hb); replace HO544 := am (Kd.S_below (sf3 HO544 BK597) hb); replace HO550 := am (Kd.S_below (sf3 HO550 BK597) hb); replace HO555 := am (Kd.S_below (sf3 HO555 BK597) hb); replace HO561 := am (Kd.S_below (sf3 HO561 BK597) hb); replace HO568 := am (Kd.S_below (sf3 HO568 BK597) hb); replace HO573 := am (Kd.S_below (sf3 HO573 BK597) hb); replace HO586 := am (Kd.S_below (sf3 HO586 BK597) hb); replace HO590 := am (Kd.S_below (sf3 HO590 BK597) hb); replace HO595 := am (Kd.S_below (sf3 HO595 BK597) hb); replace BK528 := am (blk_below (g := gb528) (o := .cells #[.int .i64 a0_0, .slice A0_1 l0_1.length c0_1] 49 (0, 0)) (rf3 NB528_597 BK528) hb); replace BK529 := am (blk_below (g := gb529) (o := .cells #[.int .i64 a1_0, .slice A1_1 l1_1.length c1_1] 49 (0, 0)) (rf3 NB529_597 BK529) hb); replace BK546 := am (blk_below (g := gb546) (o := .cells #[.int .i64 t540, .int .i64 t541, .slice Ao72 t542.length co72] 53 (0, 0)) (rf3 NB546_597 BK546) hb); replace BK551 := am (blk_below (g := gb551) (o := .cells #[.int .i64 t547, .slice Ao83 t548.length co83] 58 (0, 0)) (rf3 NB551_597 BK551) hb); replace BK556 := am (blk_below (g := gb556) (o := .cells #[.int .i64 t552, .slice Ao94 t553.length co94] 58 (0, 0)) (rf3 NB556_597 BK556) hb); replace BK563 := am (blk_below (g := gb563) (o := .cells #[.int .i64 t557, .int .i64 t558, .slice Ao105 t559.length co105] 53 (0, 0)) (rf3 NB563_597 BK563) hb); replace BK597 := am (blk_below (g := gb597) (o := .cells #[.int .i64 t591, .int .i64 t592, .slice Ao145 t593.length co145] 53 (0, 0)) (rp_0_1_2 BK597) hb); replace HB := am (below_step (rb7 HB GE528 GE529 GE546 GE551 GE556 GE563 GE597) hb); (try clear hb); (try clear hb2); (try clear hk); (try clear hi); have hcz156_0 : w155.cell? ⟨gb563, 0, none⟩ = some (.int .i64 t557) := (blk_cell BK563.out 0).trans rfl; have hcz156_1 : w155.cell? ⟨gb563, 1, none⟩ = some (.int .i64 t558) := (blk_cell BK563.out 1).trans rfl; have hcz156_2 : w155.cell? ⟨gb563, 2, none⟩ = some (.slice Ao105 t559.length co105) := (blk_cell BK563.out 2).trans rfl; have hfz156_0 := blk_frozen BK563.out 0; have hfz156_1 := blk_frozen BK563.out 1; have hfz156_2 := blk_frozen BK563.out 2) | ((with_reducible refine gate_callee (f := 38) rfl ?_); refine goesL_ (some 113) rfl rfl Try.func38 (by kernel_rfl) rfl #[.agg #[.int .i64 t557, .int .i64 t558, .slice Ao105 t581.length co105], .int .i64 1] rfl (by (try simp only [List.map_toArray, List.map_cons, List.map_nil]); first | done | (rw [show t581.length = t559.length from (Kd.S_reads' HO561.out).1.symm] <;> rfl) | rfl | (simp only [List.length_drop, List.length_take]; rfl)) ?_; (with_reducible refine (laws_heldPatch.calls k t557 t558 _ _ t581 1 t599 _ ?side1 ?side2 A49.out).mono ?_); (case side1 => exact rcs HO561); (case side2 => rw [show t581.length = t559.length from (Kd.S_reads' HO561.out).1.symm]; exact (Kd.S_reads' HO561.out).2.1); rintro e w157 ⟨rfl, hb⟩; refine ⟨_, rfl, ?_⟩; replace HO535 := am (Kd.S_below (rs HO535) hb); replace HO539 := am (Kd.S_below (rs HO539) hb); replace HO544 := am (Kd.S_below (rs HO544) hb); replace HO550 := am (Kd.S_below (rs HO550) hb); replace HO555 := am (Kd.S_below (rs HO555) hb); replace HO561 := am (Kd.S_below (rs HO561) hb); replace HO568 := am (Kd.S_below (rs HO568) hb); replace HO573 := am (Kd.S_below (rs HO573) hb); replace HO586 := am (Kd.S_below (rs HO586) hb); replace HO590 := am (Kd.S_below (rs HO590) hb); replace HO595 := am (Kd.S_below (rs HO595) hb); replace BK528 := am (blk_below (rk BK528) hb); replace BK529 := am (blk_below (rk BK529) hb); replace BK546 := am (blk_below (rk BK546) hb); replace BK551 := am (blk_below (rk BK551) hb); replace BK556 := am (blk_below (rk BK556) hb); replace BK563 := am (blk_below (rk BK563) hb); replace BK597 := am (blk_below (rk BK597) hb); replace HB := am (below_step (rb7 HB GE528 GE529 GE546 GE551 GE556 GE563 GE597) hb); (try clear hb); (try clear hb2); (try clear hk); (try clear hi)))
go_ret
exact ⟨by first | rfl | (simp [errW_none, errW_some] <;> rfl) | (simp [*, errW_none, errW_some] <;> rfl), rb7 HB GE528 GE529 GE546 GE551 GE556 GE563 GE597⟩
)
)
all_goals (
go_enter Try.func5, Try.ntmps5
go_wp2_with (first | ((with_reducible refine gate_dst (N := 2) rfl ?_); refine box_event ?hg (N := 2) ?hd (cs := #[.int .i64 a0_0, .slice A0_1 l0_1.length c0_1]) (t := 49) ?hr ?_; (case hd => rfl); (case hg => rfl); (case hr => first | (go_simp; done) | (go_simp; rfl)); intro gb528 hg w12 hbox hb; have BK528 := am (hbox); have GW528 := am (gw hg (rb HB)); have GE528 := GW528; replace HB := am (below_step (rb HB) hb); clear hb hbox hg) | ((with_reducible refine gate_dst (N := 3) rfl ?_); refine box_event ?hg (N := 3) ?hd (cs := #[.int .i64 a1_0, .slice A1_1 l1_1.length c1_1]) (t := 49) ?hr ?_; (case hd => rfl); (case hg => rfl); (case hr => first | (go_simp; done) | (go_simp; rfl)); intro gb529 hg w13 hbox hb; have BK529 := am (hbox); have GW529 := am (gw hg (rb1 HB GE528)); have GE529 := GW529; replace HB := am (below_step (rb1 HB GE528) hb); have NB528_529 := am (nl hg (rk BK528)); have NB529_528 := am (ng hg (rk BK528)); replace BK528 := am (blk_below (rk BK528) hb); clear hb hbox hg; have hnb14 := NB528_529.out; have hnc14 := NB529_528.out; have hcz15_0 : w13.cell? ⟨gb528, 0, none⟩ = some (.int .i64 a0_0) := (blk_cell BK528.out 0).trans rfl; have hcz15_1 : w13.cell? ⟨gb528, 1, none⟩ = some (.slice A0_1 l0_1.length c0_1) := (blk_cell BK528.out 1).trans rfl; have hfz15_0 := blk_frozen BK528.out 0; have hfz15_1 := blk_frozen BK528.out 1) | ((with_reducible refine gate_callee (f := 30) rfl ?_); refine gl_ (some 19) Try.func30 #[.agg #[.int .i64 a0_0, .slice A0_1 l0_1.length c0_1], .int .i64 1048576] ?_; (with_reducible refine (laws_szGrid.calls k a0_0 _ _ l0_1 1048576 t530 _ ?side1 ?side2 A3.out).mono ?_); (case side1 => exact rc ((Kd.C_below HR0_1.out HB.out))); (case side2 => exact HC0_1.out); rintro e w16 ⟨rfl, hb⟩; refine ⟨_, rfl, ?_⟩; replace BK528 := am (blk_below (rk BK528) hb); replace BK529 := am (blk_below (rk BK529) hb); replace HB := am (below_step (rb2 HB GE528 GE529) hb); (try clear hb); (try clear hb2); (try clear hk); (try clear hi); have hcz17_0 : w16.cell? ⟨gb529, 0, none⟩ = some (.int .i64 a1_0) := (blk_cell BK529.out 0).trans rfl; have hcz17_1 : w16.cell? ⟨gb529, 1, none⟩ = some (.slice A1_1 l1_1.length c1_1) := (blk_cell BK529.out 1).trans rfl; have hfz17_0 := blk_frozen BK529.out 0; have hfz17_1 := blk_frozen BK529.out 1) | ((with_reducible refine gate_callee (f := 30) rfl ?_); refine gl_ (some 24) Try.func30 #[.agg #[.int .i64 a1_0, .slice A1_1 l1_1.length c1_1], .int .i64 t530] ?_; (with_reducible refine (laws_szGrid.calls k a1_0 _ _ l1_1 t530 t531 _ ?side1 ?side2 A10.out).mono ?_); (case side1 => exact rc ((Kd.C_below HR1_1.out HB.out))); (case side2 => exact HC1_1.out); rintro e w18 ⟨rfl, hb⟩; refine ⟨_, rfl, ?_⟩; replace BK528 := am (blk_below (rk BK528) hb); replace BK529 := am (blk_below (rk BK529) hb); replace HB := am (below_step (rb2 HB GE528 GE529) hb); (try clear hb); (try clear hb2); (try clear hk); (try clear hi)))
go_ret
exact ⟨by first | rfl | (simp [errW_none, errW_some] <;> rfl) | (simp [*, errW_none, errW_some] <;> rfl), rb2 HB GE528 GE529⟩
)
)
all_goals (
go_enter Try.func5, Try.ntmps5
go_wp2_with (first | ((with_reducible refine gate_dst (N := 2) rfl ?_); refine box_event ?hg (N := 2) ?hd (cs := #[.int .i64 a0_0, .slice A0_1 l0_1.length c0_1]) (t := 49) ?hr ?_; (case hd => rfl); (case hg => rfl); (case hr => first | (go_simp; done) | (go_simp; rfl)); intro gb528 hg w5 hbox hb; have BK528 := am (hbox); have GW528 := am (gw hg (rb HB)); have GE528 := GW528; replace HB := am (below_step (rb HB) hb); clear hb hbox hg) | ((with_reducible refine gate_dst (N := 3) rfl ?_); refine box_event ?hg (N := 3) ?hd (cs := #[.int .i64 a1_0, .slice A1_1 l1_1.length c1_1]) (t := 49) ?hr ?_; (case hd => rfl); (case hg => rfl); (case hr => first | (go_simp; done) | (go_simp; rfl)); intro gb529 hg w6 hbox hb; have BK529 := am (hbox); have GW529 := am (gw hg (rb1 HB GE528)); have GE529 := GW529; replace HB := am (below_step (rb1 HB GE528) hb); have NB528_529 := am (nl hg (rk BK528)); have NB529_528 := am (ng hg (rk BK528)); replace BK528 := am (blk_below (rk BK528) hb); clear hb hbox hg; have hnb7 := NB528_529.out; have hnc7 := NB529_528.out; have hcz8_0 : w6.cell? ⟨gb528, 0, none⟩ = some (.int .i64 a0_0) := (blk_cell BK528.out 0).trans rfl; have hcz8_1 : w6.cell? ⟨gb528, 1, none⟩ = some (.slice A0_1 l0_1.length c0_1) := (blk_cell BK528.out 1).trans rfl; have hfz8_0 := blk_frozen BK528.out 0; have hfz8_1 := blk_frozen BK528.out 1) | ((with_reducible refine gate_callee (f := 30) rfl ?_); refine gl_ (some 19) Try.func30 #[.agg #[.int .i64 a0_0, .slice A0_1 l0_1.length c0_1], .int .i64 1048576] ?_; (with_reducible refine (laws_szGrid.calls k a0_0 _ _ l0_1 1048576 t530 _ ?side1 ?side2 A3.out).mono ?_); (case side1 => exact rc ((Kd.C_below HR0_1.out HB.out))); (case side2 => exact HC0_1.out); rintro e w9 ⟨rfl, hb⟩; refine ⟨_, rfl, ?_⟩; replace BK528 := am (blk_below (rk BK528) hb); replace BK529 := am (blk_below (rk BK529) hb); replace HB := am (below_step (rb2 HB GE528 GE529) hb); (try clear hb); (try clear hb2); (try clear hk); (try clear hi)))
go_ret
exact ⟨by first | rfl | (simp [errW_none, errW_some] <;> rfl) | (simp [*, errW_none, errW_some] <;> rfl), rb2 HB GE528 GE529⟩
)
)

end Go.Proofs.Ytalopdcephohgaa.RB
