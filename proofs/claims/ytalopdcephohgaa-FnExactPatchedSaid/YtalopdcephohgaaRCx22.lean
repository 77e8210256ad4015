/- Contracts of Go functions that laws of this seat reach: each Lean function answers as its Go function does. No condition. Written by wip/tools/inj.py, over the kit's print. -/
import Derived.Test.YtalopdcephohgaaRCx0
import Derived.Test.YtalopdcephohgaaRCx1
import Derived.Test.YtalopdcephohgaaRCx20
import Derived.Test.YtalopdcephohgaaRCx21
namespace Go.Proofs.Ytalopdcephohgaa.RC
open Go.RowKit Go.Proofs.YtalopdcephohgaaW.PrintWords Go.Proofs.YtalopdcephohgaaW.PrintLast Go.Proofs.YtalopdcephohgaaW.PrintMore
attribute [local go_sem] max2_int min2_int max_two min_two max_three min_three max_four min_four   -- for this text's walks alone
set_option linter.unusedVariables false
set_option linter.unusedSimpArgs false

attribute [local go_sem high] eqA96
/-! ### impl_RowOk: function 89 -/
def impl_RowOk.l0 : Nat → List (S98) → List (S98) → Int → Int → Option (Bool)
 | 0, _, _, _, _ => none
 | k + 1, x0, x6, x7, x8 => if x8 < x7 then (if 0 ≤ x8 then (if x8 < (x6.length : Int) then (if x8 > 0 then (if 0 ≤ (wrap64 (x8 - 1)) then (if (wrap64 (x8 - 1)) < (x0.length : Int) then ((impl_isCell.f k ((rd_T98 x6 x8).f0) ((rd_T98 x6 x8).f1.f0) ((rd_T98 x6 x8).f1.f1) ((rd_T98 x6 x8).f1.f2) ((rd_T98 x6 x8).f1.f3) ((rd_T98 x6 x8).f1.f4) ((rd_T98 x6 x8).f2)).bind fun t387 => (if t387 = true then (if ((((rd_T98 x0 (wrap64 (x8 - 1))).f2) == 1) != (((rd_T98 x6 x8).f2) == 2)) = true then (some false) else (if ((rd_T98 x0 (wrap64 (x8 - 1))).f2) = 1 then (if (!(((rd_T98 x0 (wrap64 (x8 - 1))).f1.f0) == ((rd_T98 x6 x8).f1.f0)) || (!(((rd_T98 x0 (wrap64 (x8 - 1))).f1.f1) == ((rd_T98 x6 x8).f1.f1)) || (!(((rd_T98 x0 (wrap64 (x8 - 1))).f1.f2) == ((rd_T98 x6 x8).f1.f2)) || (!(((rd_T98 x0 (wrap64 (x8 - 1))).f1.f3) == ((rd_T98 x6 x8).f1.f3)) || (!(((rd_T98 x0 (wrap64 (x8 - 1))).f1.f4) == ((rd_T98 x6 x8).f1.f4))))))) = true then (some false) else (impl_RowOk.l0 k x0 x6 x7 (wrap64 (x8 + 1)))) else (impl_RowOk.l0 k x0 x6 x7 (wrap64 (x8 + 1))))) else (some false))) else (none)) else (none)) else ((impl_isCell.f k ((rd_T98 x6 x8).f0) ((rd_T98 x6 x8).f1.f0) ((rd_T98 x6 x8).f1.f1) ((rd_T98 x6 x8).f1.f2) ((rd_T98 x6 x8).f1.f3) ((rd_T98 x6 x8).f1.f4) ((rd_T98 x6 x8).f2)).bind fun t389 => (if t389 = true then (if (false != (((rd_T98 x6 x8).f2) == 2)) = true then (some false) else (impl_RowOk.l0 k x0 x6 x7 (wrap64 (x8 + 1)))) else (some false)))) else (none)) else (none)) else ((impl_in.f (x0.length : Int) 1 60).bind fun t390 => (if t390 = true then (if 0 ≤ (wrap64 ((x0.length : Int) - 1)) then (if (wrap64 ((x0.length : Int) - 1)) < (x0.length : Int) then (some (((rd_T98 x0 (wrap64 ((x0.length : Int) - 1))).f2) != 1)) else (none)) else (none)) else (some false)))
def impl_RowOk.f (k : Nat) (l0 : List (S98)) : Option (Bool) := impl_RowOk.l0 k l0 l0 (l0.length : Int) 0
theorem impl_RowOk.mono_l : ∀ k, (∀ y0 y1 y2 y3, LeO (impl_RowOk.l0 k y0 y1 y2 y3) (impl_RowOk.l0 (k + 1) y0 y1 y2 y3))
 | 0 => fun _ _ _ _ r h => by simp [impl_RowOk.l0] at h
 | k + 1 => by
  have ih0 := impl_RowOk.mono_l k
  ·intro y0 y1 y2 y3
   unfold impl_RowOk.l0
   repeat' first
   | (with_reducible exact ih0 _ _ _ _)
   | (with_reducible exact impl_isCell.mono _ _ _ _ _ _ _ _)
   | (with_reducible exact LeO.refl _)
   | (with_reducible exact LeO.none _)
   | (with_reducible refine LeO.ite ?_ ?_)
   | (with_reducible refine LeO.bind ?_ (fun _ => ?_))
theorem impl_RowOk.mono : ∀ a0 k, LeO (impl_RowOk.f k a0) (impl_RowOk.f (k + 1) a0) := by
 intro a0 k
 have ih0 := impl_RowOk.mono_l k
 unfold impl_RowOk.f
 repeat' first
   | (with_reducible exact ih0 _ _ _ _)
   | (with_reducible exact impl_isCell.mono _ _ _ _ _ _ _ _)
   | (with_reducible exact LeO.refl _)
   | (with_reducible exact LeO.none _)
   | (with_reducible refine LeO.ite ?_ ?_)
   | (with_reducible refine LeO.bind ?_ (fun _ => ?_))
def impl_RowOk.T5 : Bool × List (List Nat × List Nat) := (true, [([], []), ([0], [0]), ([1], [1]), ([2, 1], [2]), ([3], [3]), ([3], [3]), ([5, 3], [3, 5]), ([6, 3], [3, 6]), ([4, 7, 3], [3, 4, 7]), ([3, 8], [3, 8]), ([9, 3], [9]), ([10], [10]), ([11, 10, 10], [10, 11]), ([12], [12]), ([12], [12]), ([14, 12], [12, 14]), ([13, 15, 12], [12, 13, 15]), ([16, 12], [12, 16]), ([17, 12], [12, 17]), ([12], [12]), ([19, 12], [12, 19]), ([18, 20, 12], [12, 18, 20]), ([12, 21, 10], [10, 12, 21]), ([10, 22], [10, 22])])
def impl_RowOk.B5 : List Nat := [0, 1, 3, 7, 15, 15, 47, 111, 255, 511, 1023, 2047, 4095, 8191, 8191, 24575, 65535, 131071, 262143, 8191, 532479, 2097151, 4194303, 8388607]
theorem impl_RowOk.tab5 : rtab .any (opsOf Try.f89 5) = impl_RowOk.T5 := by kernel_rfl
theorem impl_RowOk.bits5 : waitsOk impl_RowOk.T5.2 impl_RowOk.B5 = true := by kernel_rfl
set_option maxHeartbeats 8000000 in
set_option maxRecDepth 100000 in
theorem impl_RowOk.calls (k : Nat) (A0 : Option Addr) (c0 : Nat) (l0 : List (S98)) (r : Bool) (w : World) (hr0 : Kd.C k98 w A0 l0.length l0) (hc0 : l0.length ≤ c0) (h : impl_RowOk.f k l0 = some r) :
  Calls Try.prog 89 #[.slice A0 l0.length c0] w fun e w' => e = .returned (.bool r) ∧ Below w.heap.size w w' := by
 (
have hu98 := Try.underlying98
have hu96 := Try.underlying96
have HR0 := am hr0
have HC0 := am hc0
clear hr0 hc0
have HB := am (Below.refl w.heap.size w)
have H : (impl_RowOk.l0 k l0 l0 (l0.length : Int) 0) = some r := h
clear h
have H' := am H
clear H
go_enter Try.func89, Try.ntmps89
go_wp2
go_loopg [8] k (fun kq v8 w' => ∃ (x8_1 : Int), v8 = .int .i64 x8_1 ∧ Aside0 (impl_RowOk.l0 kq l0 l0 (l0.length : Int) x8_1 = some r) ∧ Aside0 (kq ≤ k) ∧ Aside0 (Below w.heap.size w w'))
case atStart => exact ⟨(0), (by first | rfl | (simp; done) | (simp [*]; done)), H', ⟨Nat.le_refl _⟩, ⟨rb HB⟩⟩
case round => (
clear H'
obtain ⟨x8_1, rfl, HA, HK1, HB⟩ := hrel
cases gk with
| zero => exact absurd HA.out (by simp [impl_RowOk.l0])
| succ k1 => (
have H := HA.out
clear HA
simp only [impl_RowOk.l0] at H
refine em_ (p := x8_1 < (l0.length : Int)) (fun c2 => ?g13p) (fun c2 => ?g13n)
case' g13p => (
rw [if_pos c2] at H
have c2b0 : decide (x8_1 < (l0.length : Int)) = true := decide_eq_true c2
clear c2
refine em_ (p := 0 ≤ x8_1) (fun c3 => ?g10p) (fun c3 => ?g10n)
case' g10p => (
rw [if_pos c3] at H
have c3b0 : decide (0 ≤ x8_1) = true := decide_eq_true c3
clear c3
refine em_ (p := x8_1 < (l0.length : Int)) (fun c4 => ?g9p) (fun c4 => ?g9n)
case' g9p => (
rw [if_pos c4] at H
have c4b0 : decide (x8_1 < (l0.length : Int)) = true := decide_eq_true c4
clear c4
refine em_ (p := x8_1 > 0) (fun c5 => ?g8p) (fun c5 => ?g8n)
case' g8p => (
rw [if_pos c5] at H
have c5b0 : decide (0 < x8_1) = true := decide_eq_true c5
clear c5
obtain ⟨ji6, hji6⟩ : ∃ j_ : Int, (wrap64 (x8_1 - 1)) = j_ := ⟨_, rfl⟩
replace H : (if 0 ≤ (ji6) then (if (ji6) < (l0.length : Int) then ((impl_isCell.f k1 ((rd_T98 l0 x8_1).f0) ((rd_T98 l0 x8_1).f1.f0) ((rd_T98 l0 x8_1).f1.f1) ((rd_T98 l0 x8_1).f1.f2) ((rd_T98 l0 x8_1).f1.f3) ((rd_T98 l0 x8_1).f1.f4) ((rd_T98 l0 x8_1).f2)).bind fun t387 => (if t387 = true then (if ((((rd_T98 l0 (ji6)).f2) == 1) != (((rd_T98 l0 x8_1).f2) == 2)) = true then (some false) else (if ((rd_T98 l0 (ji6)).f2) = 1 then (if (!(((rd_T98 l0 (ji6)).f1.f0) == ((rd_T98 l0 x8_1).f1.f0)) || (!(((rd_T98 l0 (ji6)).f1.f1) == ((rd_T98 l0 x8_1).f1.f1)) || (!(((rd_T98 l0 (ji6)).f1.f2) == ((rd_T98 l0 x8_1).f1.f2)) || (!(((rd_T98 l0 (ji6)).f1.f3) == ((rd_T98 l0 x8_1).f1.f3)) || (!(((rd_T98 l0 (ji6)).f1.f4) == ((rd_T98 l0 x8_1).f1.f4))))))) = true then (some false) else (impl_RowOk.l0 k1 l0 l0 (l0.length : Int) (wrap64 (x8_1 + 1)))) else (impl_RowOk.l0 k1 l0 l0 (l0.length : Int) (wrap64 (x8_1 + 1))))) else (some false))) else (none)) else (none)) = some r := by first | (rw [hji6] at H; exact H) | (simp only [hji6] at H ⊢; exact H)
have hji6w : (IntKind.i64.wrap (x8_1 - 1)) = ji6 := (i64_w _).trans hji6
refine em_ (p := 0 ≤ (ji6)) (fun c7 => ?g5p) (fun c7 => ?g5n)
case' g5p => (
rw [if_pos c7] at H
have c7b0 : decide (0 ≤ (ji6)) = true := decide_eq_true c7
clear c7
refine em_ (p := (ji6) < (l0.length : Int)) (fun c8 => ?g4p) (fun c8 => ?g4n)
case' g4p => (
rw [if_pos c8] at H
have c8b0 : decide ((ji6) < (l0.length : Int)) = true := decide_eq_true c8
clear c8
replace H := Option.bind_eq_some_iff.mp H
obtain ⟨t387, A90, H⟩ := H
(try dsimp only at H)
have A9 := am A90
clear A90
refine em_ (p := t387 = true) (fun c10 => ?g3p) (fun c10 => ?g3n)
case' g3p => (
subst c10
rw [if_pos rfl] at H
refine em_ (p := ((((rd_T98 l0 (ji6)).f2) == 1) != (((rd_T98 l0 x8_1).f2) == 2)) = true) (fun c11 => ?g2p) (fun c11 => ?g2n)
case' g2p => (
rw [if_pos c11] at H
have c11b0 : ((((rd_T98 l0 (ji6)).f2) == 1) != (((rd_T98 l0 x8_1).f2) == 2)) = true := c11
(try (have c11b1 : decide ((((rd_T98 l0 (ji6)).f2) == 1) = (((rd_T98 l0 x8_1).f2) == 2)) = false := by simpa using c11))
(try (have c11b2 : ((((rd_T98 l0 (ji6)).f2) == 1) == (((rd_T98 l0 x8_1).f2) == 2)) = false := by simpa using c11))
(try (have c11b3 : ¬ ((((rd_T98 l0 (ji6)).f2) == 1) = (((rd_T98 l0 x8_1).f2) == 2)) := by simpa using c11))
clear c11
obtain rfl := Option.some.inj H
have lf1_ := trivial
)
case' g2n => (
rw [if_neg c11] at H
have c11b0 : ((((rd_T98 l0 (ji6)).f2) == 1) != (((rd_T98 l0 x8_1).f2) == 2)) = false := by simpa using c11
(try (have c11b1 : decide ((((rd_T98 l0 (ji6)).f2) == 1) = (((rd_T98 l0 x8_1).f2) == 2)) = true := by simpa using c11))
(try (have c11b2 : ((((rd_T98 l0 (ji6)).f2) == 1) == (((rd_T98 l0 x8_1).f2) == 2)) = true := by simpa using c11))
clear c11
refine em_ (p := ((rd_T98 l0 (ji6)).f2) = 1) (fun c17 => ?g1p) (fun c17 => ?g1n)
case' g1p => (
rw [if_pos c17] at H
have c17b0 : (((rd_T98 l0 (ji6)).f2) == 1) = true := beq_iff_eq.mpr c17
(try (have c17e : (((rd_T98 l0 x8_1).f2) == 2) = true := by have h_ := c11b0; rw [c17b0] at h_; revert h_; cases (((rd_T98 l0 x8_1).f2) == 2) <;> decide))
have c17b1 : (((rd_T98 l0 (ji6)).f2) != 1) = false := bne_eq_false_iff_eq.mpr c17
clear c17
refine em_ (p := (!(((rd_T98 l0 (ji6)).f1.f0) == ((rd_T98 l0 x8_1).f1.f0)) || (!(((rd_T98 l0 (ji6)).f1.f1) == ((rd_T98 l0 x8_1).f1.f1)) || (!(((rd_T98 l0 (ji6)).f1.f2) == ((rd_T98 l0 x8_1).f1.f2)) || (!(((rd_T98 l0 (ji6)).f1.f3) == ((rd_T98 l0 x8_1).f1.f3)) || (!(((rd_T98 l0 (ji6)).f1.f4) == ((rd_T98 l0 x8_1).f1.f4))))))) = true) (fun c18 => ?g0p) (fun c18 => ?g0n)
case' g0p => (
rw [if_pos c18] at H
have c18b0 : (!(((rd_T98 l0 (ji6)).f1.f0) == ((rd_T98 l0 x8_1).f1.f0)) || (!(((rd_T98 l0 (ji6)).f1.f1) == ((rd_T98 l0 x8_1).f1.f1)) || (!(((rd_T98 l0 (ji6)).f1.f2) == ((rd_T98 l0 x8_1).f1.f2)) || (!(((rd_T98 l0 (ji6)).f1.f3) == ((rd_T98 l0 x8_1).f1.f3)) || (!(((rd_T98 l0 (ji6)).f1.f4) == ((rd_T98 l0 x8_1).f1.f4))))))) = true := c18
clear c18
obtain rfl := Option.some.inj H
have lf2_ := trivial
)
case' g0n => (
rw [if_neg c18] at H
have c18b0 : (!(((rd_T98 l0 (ji6)).f1.f0) == ((rd_T98 l0 x8_1).f1.f0)) || (!(((rd_T98 l0 (ji6)).f1.f1) == ((rd_T98 l0 x8_1).f1.f1)) || (!(((rd_T98 l0 (ji6)).f1.f2) == ((rd_T98 l0 x8_1).f1.f2)) || (!(((rd_T98 l0 (ji6)).f1.f3) == ((rd_T98 l0 x8_1).f1.f3)) || (!(((rd_T98 l0 (ji6)).f1.f4) == ((rd_T98 l0 x8_1).f1.f4))))))) = false := by simpa using c18
clear c18
have H' := am H
clear H
have lf3_ := trivial
)
)
case' g1n => (
rw [if_neg c17] at H
have c17b0 : (((rd_T98 l0 (ji6)).f2) == 1) = false := beq_eq_false_iff_ne.mpr c17
(try (have c17e : (((rd_T98 l0 x8_1).f2) == 2) = false := by have h_ := c11b0; rw [c17b0] at h_; revert h_; cases (((rd_T98 l0 x8_1).f2) == 2) <;> decide))
have c17b1 : (((rd_T98 l0 (ji6)).f2) != 1) = true := bne_iff_ne.mpr c17
have H' := am H
clear H
have lf4_ := trivial
)
)
)
case' g3n => (
replace c10 := Bool.eq_false_iff.mpr c10
subst c10
have H1 : (some false) = some r := by rw [if_neg (show ¬ (false = true) by decide)] at H; exact H
clear H
have H := H1
clear H1
obtain rfl := Option.some.inj H
have lf5_ := trivial
)
)
case g4n => (
rw [if_neg c8] at H
exact absurd H (by simp)
)
)
case g5n => (
rw [if_neg c7] at H
exact absurd H (by simp)
)
)
case' g8n => (
rw [if_neg c5] at H
have c5b0 : decide (0 < x8_1) = false := decide_eq_false c5
clear c5
replace H := Option.bind_eq_some_iff.mp H
obtain ⟨t389, A390, H⟩ := H
(try dsimp only at H)
have A9 := am A390
clear A390
refine em_ (p := t389 = true) (fun c40 => ?g7p) (fun c40 => ?g7n)
case' g7p => (
subst c40
rw [if_pos rfl] at H
refine em_ (p := (false != (((rd_T98 l0 x8_1).f2) == 2)) = true) (fun c41 => ?g6p) (fun c41 => ?g6n)
case' g6p => (
rw [if_pos c41] at H
have c41b0 : (false != (((rd_T98 l0 x8_1).f2) == 2)) = true := c41
(try (have c41e : (((rd_T98 l0 x8_1).f2) == 2) = true := by have h_ := c41b0; revert h_; cases (((rd_T98 l0 x8_1).f2) == 2) <;> decide))
(try (have c41b1 : decide (false = (((rd_T98 l0 x8_1).f2) == 2)) = false := by simpa using c41))
(try (have c41b2 : (false == (((rd_T98 l0 x8_1).f2) == 2)) = false := by simpa using c41))
(try (have c41b3 : ¬ (false = (((rd_T98 l0 x8_1).f2) == 2)) := by simpa using c41))
clear c41
obtain rfl := Option.some.inj H
have lf6_ := trivial
)
case' g6n => (
rw [if_neg c41] at H
have c41b0 : (false != (((rd_T98 l0 x8_1).f2) == 2)) = false := by simpa using c41
(try (have c41e : (((rd_T98 l0 x8_1).f2) == 2) = false := by have h_ := c41b0; revert h_; cases (((rd_T98 l0 x8_1).f2) == 2) <;> decide))
(try (have c41b1 : decide (false = (((rd_T98 l0 x8_1).f2) == 2)) = true := by simpa using c41))
(try (have c41b2 : (false == (((rd_T98 l0 x8_1).f2) == 2)) = true := by simpa using c41))
clear c41
have H' := am H
clear H
have lf7_ := trivial
)
)
case' g7n => (
replace c40 := Bool.eq_false_iff.mpr c40
subst c40
have H1 : (some false) = some r := by rw [if_neg (show ¬ (false = true) by decide)] at H; exact H
clear H
have H := H1
clear H1
obtain rfl := Option.some.inj H
have lf8_ := trivial
)
)
)
case g9n => (
rw [if_neg c4] at H
exact absurd H (by simp)
)
)
case g10n => (
rw [if_neg c3] at H
exact absurd H (by simp)
)
)
case g13n => (
rw [if_neg c2] at H
have c2b0 : decide (x8_1 < (l0.length : Int)) = false := decide_eq_false c2
clear c2
replace H := Option.bind_eq_some_iff.mp H
obtain ⟨t390, A570, H⟩ := H
(try dsimp only at H)
have A57 := am A570
clear A570
refine em_ (p := t390 = true) (fun c58 => ?g14p) (fun c58 => ?g14n)
case g14p => (
subst c58
rw [if_pos rfl] at H
obtain ⟨ji59, hji59⟩ : ∃ j_ : Int, (wrap64 ((l0.length : Int) - 1)) = j_ := ⟨_, rfl⟩
replace H : (if 0 ≤ (ji59) then (if (ji59) < (l0.length : Int) then (some (((rd_T98 l0 (ji59)).f2) != 1)) else (none)) else (none)) = some r := by first | (rw [hji59] at H; exact H) | (simp only [hji59] at H ⊢; exact H)
(try rw [hji59] at A57)
have hji59w : (IntKind.i64.wrap ((l0.length : Int) - 1)) = ji59 := (i64_w _).trans hji59
refine em_ (p := 0 ≤ (ji59)) (fun c60 => ?g12p) (fun c60 => ?g12n)
case' g12p => (
rw [if_pos c60] at H
have c60b0 : decide (0 ≤ (ji59)) = true := decide_eq_true c60
clear c60
refine em_ (p := (ji59) < (l0.length : Int)) (fun c61 => ?g11p) (fun c61 => ?g11n)
case' g11p => (
rw [if_pos c61] at H
have c61b0 : decide ((ji59) < (l0.length : Int)) = true := decide_eq_true c61
clear c61
obtain rfl := Option.some.inj H
have lf9_ := trivial
)
case g11n => (
rw [if_neg c61] at H
exact absurd H (by simp)
)
)
case g12n => (
rw [if_neg c60] at H
exact absurd H (by simp)
)
all_goals (
go_wp2_with (first | ((with_reducible refine gate_callee (f := 56) rfl ?_); refine gl_ (some 51) Try.func56 #[.int .i64 (l0.length : Int), .int .i64 1, .int .i64 60] ?_; (with_reducible refine (impl_in.calls (l0.length : Int) 1 60 true _ A57.out).mono ?_); rintro e w' ⟨rfl, ⟨nd, rfl⟩⟩; refine ⟨_, rfl, ?_⟩; have p391 : 0 ≤ ((ji59) : Int) := dt_; have q391 : (ji59) < (l0.length : Int) := dt_; obtain ⟨ad391, e391, hx391_0, hx391_1, hx391_2, hx391_3, hx391_4, hx391_5, hx391_6⟩ := at_T98 HR0.out (ji59) p391 q391; cases e391; replace hx391_0 := (HB.out.cell (World.block_lt_of_cell? w _ hx391_0)).trans hx391_0; replace hx391_1 := (HB.out.cell (World.block_lt_of_cell? w _ hx391_1)).trans hx391_1; replace hx391_2 := (HB.out.cell (World.block_lt_of_cell? w _ hx391_2)).trans hx391_2; replace hx391_3 := (HB.out.cell (World.block_lt_of_cell? w _ hx391_3)).trans hx391_3; replace hx391_4 := (HB.out.cell (World.block_lt_of_cell? w _ hx391_4)).trans hx391_4; replace hx391_5 := (HB.out.cell (World.block_lt_of_cell? w _ hx391_5)).trans hx391_5; replace hx391_6 := (HB.out.cell (World.block_lt_of_cell? w _ hx391_6)).trans hx391_6; replace p391 := eq_true p391; replace q391 := eq_true q391))
go_ret
exact ⟨by first | rfl | (simp [errW_none, errW_some] <;> rfl) | (simp only [← hji59]; first | rfl | (simp [errW_none, errW_some] <;> rfl)) | (simp [*, errW_none, errW_some] <;> rfl), by repeat (first | (with_reducible first | exact HB.out | apply b1 | apply b2 | apply b3) | exact HB.out)⟩
)
)
case' g14n => (
replace c58 := Bool.eq_false_iff.mpr c58
subst c58
have H1 : (some false) = some r := by rw [if_neg (show ¬ (false = true) by decide)] at H; exact H
clear H
have H := H1
clear H1
obtain rfl := Option.some.inj H
have lf11_ := trivial
)
all_goals (
go_wp2_with (first | ((with_reducible refine gate_callee (f := 56) rfl ?_); refine gl_ (some 51) Try.func56 #[.int .i64 (l0.length : Int), .int .i64 1, .int .i64 60] ?_; (with_reducible refine (impl_in.calls (l0.length : Int) 1 60 false _ A57.out).mono ?_); rintro e w' ⟨rfl, ⟨nd, rfl⟩⟩; refine ⟨_, rfl, ?_⟩))
go_ret
exact ⟨by first | rfl | (simp [errW_none, errW_some] <;> rfl) | (simp [*, errW_none, errW_some] <;> rfl), by repeat (first | (with_reducible first | exact HB.out | apply b1 | apply b2 | apply b3) | exact HB.out)⟩
)
)
all_goals (
have p384 : 0 ≤ (x8_1 : Int) := dt_
have q384 : x8_1 < (l0.length : Int) := dt_
obtain ⟨ad384, e384, hx384_0, hx384_1, hx384_2, hx384_3, hx384_4, hx384_5, hx384_6⟩ := at_T98 HR0.out x8_1 p384 q384
cases e384
replace hx384_0 := mv HB.out hx384_0
replace hx384_1 := mv HB.out hx384_1
replace hx384_2 := mv HB.out hx384_2
replace hx384_3 := mv HB.out hx384_3
replace hx384_4 := mv HB.out hx384_4
replace hx384_5 := mv HB.out hx384_5
replace hx384_6 := mv HB.out hx384_6
replace p384 := eq_true p384
replace q384 := eq_true q384
try go_wp2_with (first | ((with_reducible refine gate_dst (N := 4) rfl ?_); (try (refine gate_guard (by rfl) ?_; dsimp only)); refine box_event ?hg (N := 4) ?hd (cs := #[.int .i64 0, .int .i64 0, .int .i64 0, .bool false, .bool false, .bool false, .int .i64 0]) (t := 98) ?hr ?_; (case hd => rfl); (case hg => rfl); (case hr => first | (go_simp; done) | (go_simp; rfl)); intro gb385 hg w12 hbox hb; have BK385 := am (hbox); have GW385 := am (gw hg (rb HB)); have GE385 := GW385; replace HB := am (below_step (rb HB) hb); clear hb hbox hg; have hcz13_0 : w12.cell? ⟨gb385, 0, none⟩ = some (.int .i64 0) := (blk_cell BK385.out 0).trans rfl; have hcz13_1 : w12.cell? ⟨gb385, 1, none⟩ = some (.int .i64 0) := (blk_cell BK385.out 1).trans rfl; have hcz13_2 : w12.cell? ⟨gb385, 2, none⟩ = some (.int .i64 0) := (blk_cell BK385.out 2).trans rfl; have hcz13_3 : w12.cell? ⟨gb385, 3, none⟩ = some (.bool false) := (blk_cell BK385.out 3).trans rfl; have hcz13_4 : w12.cell? ⟨gb385, 4, none⟩ = some (.bool false) := (blk_cell BK385.out 4).trans rfl; have hcz13_5 : w12.cell? ⟨gb385, 5, none⟩ = some (.bool false) := (blk_cell BK385.out 5).trans rfl; have hcz13_6 : w12.cell? ⟨gb385, 6, none⟩ = some (.int .i64 0) := (blk_cell BK385.out 6).trans rfl; have hfz13_0 := blk_frozen BK385.out 0; have hfz13_1 := blk_frozen BK385.out 1; have hfz13_2 := blk_frozen BK385.out 2; have hfz13_3 := blk_frozen BK385.out 3; have hfz13_4 := blk_frozen BK385.out 4; have hfz13_5 := blk_frozen BK385.out 5; have hfz13_6 := blk_frozen BK385.out 6; have p386 : 0 ≤ ((ji6) : Int) := dt_; have q386 : (ji6) < (l0.length : Int) := dt_; obtain ⟨ad386, e386, hx386_0, hx386_1, hx386_2, hx386_3, hx386_4, hx386_5, hx386_6⟩ := at_T98 HR0.out (ji6) p386 q386; obtain rfl : ad384 = ad386 := (by injection e386); have hn386_0 : ad384.block ≠ gb385 := Nat.ne_of_lt (Nat.lt_of_lt_of_le (by have := World.block_lt_of_cell? _ _ hx386_0; first | rwa [add_block] at this | exact this) GW385.out); have hn386_1 : ad384.block ≠ gb385 := Nat.ne_of_lt (Nat.lt_of_lt_of_le (by have := World.block_lt_of_cell? _ _ hx386_0; first | rwa [add_block] at this | exact this) GW385.out); have hn386_2 : ad384.block ≠ gb385 := Nat.ne_of_lt (Nat.lt_of_lt_of_le (by have := World.block_lt_of_cell? _ _ hx386_0; first | rwa [add_block] at this | exact this) GW385.out); have hn386_3 : ad384.block ≠ gb385 := Nat.ne_of_lt (Nat.lt_of_lt_of_le (by have := World.block_lt_of_cell? _ _ hx386_0; first | rwa [add_block] at this | exact this) GW385.out); have hn386_4 : ad384.block ≠ gb385 := Nat.ne_of_lt (Nat.lt_of_lt_of_le (by have := World.block_lt_of_cell? _ _ hx386_0; first | rwa [add_block] at this | exact this) GW385.out); have hn386_5 : ad384.block ≠ gb385 := Nat.ne_of_lt (Nat.lt_of_lt_of_le (by have := World.block_lt_of_cell? _ _ hx386_0; first | rwa [add_block] at this | exact this) GW385.out); have hn386_6 : ad384.block ≠ gb385 := Nat.ne_of_lt (Nat.lt_of_lt_of_le (by have := World.block_lt_of_cell? _ _ hx386_0; first | rwa [add_block] at this | exact this) GW385.out); replace hx386_0 := (HB.out.cell (World.block_lt_of_cell? w _ hx386_0)).trans hx386_0; replace hx386_1 := (HB.out.cell (World.block_lt_of_cell? w _ hx386_1)).trans hx386_1; replace hx386_2 := (HB.out.cell (World.block_lt_of_cell? w _ hx386_2)).trans hx386_2; replace hx386_3 := (HB.out.cell (World.block_lt_of_cell? w _ hx386_3)).trans hx386_3; replace hx386_4 := (HB.out.cell (World.block_lt_of_cell? w _ hx386_4)).trans hx386_4; replace hx386_5 := (HB.out.cell (World.block_lt_of_cell? w _ hx386_5)).trans hx386_5; replace hx386_6 := (HB.out.cell (World.block_lt_of_cell? w _ hx386_6)).trans hx386_6; replace hx386_0 := (cell_far (p := ⟨gb385, 0, none⟩) (ab hn386_0) (.int .i64 ((rd_T98 l0 x8_1).f0))).trans hx386_0; replace hx386_1 := (cell_far (p := ⟨gb385, 0, none⟩) (ab hn386_0) (.int .i64 ((rd_T98 l0 x8_1).f0))).trans hx386_1; replace hx386_2 := (cell_far (p := ⟨gb385, 0, none⟩) (ab hn386_0) (.int .i64 ((rd_T98 l0 x8_1).f0))).trans hx386_2; replace hx386_3 := (cell_far (p := ⟨gb385, 0, none⟩) (ab hn386_0) (.int .i64 ((rd_T98 l0 x8_1).f0))).trans hx386_3; replace hx386_4 := (cell_far (p := ⟨gb385, 0, none⟩) (ab hn386_0) (.int .i64 ((rd_T98 l0 x8_1).f0))).trans hx386_4; replace hx386_5 := (cell_far (p := ⟨gb385, 0, none⟩) (ab hn386_0) (.int .i64 ((rd_T98 l0 x8_1).f0))).trans hx386_5; replace hx386_6 := (cell_far (p := ⟨gb385, 0, none⟩) (ab hn386_0) (.int .i64 ((rd_T98 l0 x8_1).f0))).trans hx386_6; replace hx386_0 := (cell_far (p := ⟨gb385, 1, none⟩) (ab hn386_1) (.int .i64 ((rd_T98 l0 x8_1).f1.f0))).trans hx386_0; replace hx386_1 := (cell_far (p := ⟨gb385, 1, none⟩) (ab hn386_1) (.int .i64 ((rd_T98 l0 x8_1).f1.f0))).trans hx386_1; replace hx386_2 := (cell_far (p := ⟨gb385, 1, none⟩) (ab hn386_1) (.int .i64 ((rd_T98 l0 x8_1).f1.f0))).trans hx386_2; replace hx386_3 := (cell_far (p := ⟨gb385, 1, none⟩) (ab hn386_1) (.int .i64 ((rd_T98 l0 x8_1).f1.f0))).trans hx386_3; replace hx386_4 := (cell_far (p := ⟨gb385, 1, none⟩) (ab hn386_1) (.int .i64 ((rd_T98 l0 x8_1).f1.f0))).trans hx386_4; replace hx386_5 := (cell_far (p := ⟨gb385, 1, none⟩) (ab hn386_1) (.int .i64 ((rd_T98 l0 x8_1).f1.f0))).trans hx386_5; replace hx386_6 := (cell_far (p := ⟨gb385, 1, none⟩) (ab hn386_1) (.int .i64 ((rd_T98 l0 x8_1).f1.f0))).trans hx386_6; replace hx386_0 := (cell_far (p := ⟨gb385, 2, none⟩) (ab hn386_2) (.int .i64 ((rd_T98 l0 x8_1).f1.f1))).trans hx386_0; replace hx386_1 := (cell_far (p := ⟨gb385, 2, none⟩) (ab hn386_2) (.int .i64 ((rd_T98 l0 x8_1).f1.f1))).trans hx386_1; replace hx386_2 := (cell_far (p := ⟨gb385, 2, none⟩) (ab hn386_2) (.int .i64 ((rd_T98 l0 x8_1).f1.f1))).trans hx386_2; replace hx386_3 := (cell_far (p := ⟨gb385, 2, none⟩) (ab hn386_2) (.int .i64 ((rd_T98 l0 x8_1).f1.f1))).trans hx386_3; replace hx386_4 := (cell_far (p := ⟨gb385, 2, none⟩) (ab hn386_2) (.int .i64 ((rd_T98 l0 x8_1).f1.f1))).trans hx386_4; replace hx386_5 := (cell_far (p := ⟨gb385, 2, none⟩) (ab hn386_2) (.int .i64 ((rd_T98 l0 x8_1).f1.f1))).trans hx386_5; replace hx386_6 := (cell_far (p := ⟨gb385, 2, none⟩) (ab hn386_2) (.int .i64 ((rd_T98 l0 x8_1).f1.f1))).trans hx386_6; replace hx386_0 := (cell_far (p := ⟨gb385, 3, none⟩) (ab hn386_3) (.bool ((rd_T98 l0 x8_1).f1.f2))).trans hx386_0; replace hx386_1 := (cell_far (p := ⟨gb385, 3, none⟩) (ab hn386_3) (.bool ((rd_T98 l0 x8_1).f1.f2))).trans hx386_1; replace hx386_2 := (cell_far (p := ⟨gb385, 3, none⟩) (ab hn386_3) (.bool ((rd_T98 l0 x8_1).f1.f2))).trans hx386_2; replace hx386_3 := (cell_far (p := ⟨gb385, 3, none⟩) (ab hn386_3) (.bool ((rd_T98 l0 x8_1).f1.f2))).trans hx386_3; replace hx386_4 := (cell_far (p := ⟨gb385, 3, none⟩) (ab hn386_3) (.bool ((rd_T98 l0 x8_1).f1.f2))).trans hx386_4; replace hx386_5 := (cell_far (p := ⟨gb385, 3, none⟩) (ab hn386_3) (.bool ((rd_T98 l0 x8_1).f1.f2))).trans hx386_5; replace hx386_6 := (cell_far (p := ⟨gb385, 3, none⟩) (ab hn386_3) (.bool ((rd_T98 l0 x8_1).f1.f2))).trans hx386_6; replace hx386_0 := (cell_far (p := ⟨gb385, 4, none⟩) (ab hn386_4) (.bool ((rd_T98 l0 x8_1).f1.f3))).trans hx386_0; replace hx386_1 := (cell_far (p := ⟨gb385, 4, none⟩) (ab hn386_4) (.bool ((rd_T98 l0 x8_1).f1.f3))).trans hx386_1; replace hx386_2 := (cell_far (p := ⟨gb385, 4, none⟩) (ab hn386_4) (.bool ((rd_T98 l0 x8_1).f1.f3))).trans hx386_2; replace hx386_3 := (cell_far (p := ⟨gb385, 4, none⟩) (ab hn386_4) (.bool ((rd_T98 l0 x8_1).f1.f3))).trans hx386_3; replace hx386_4 := (cell_far (p := ⟨gb385, 4, none⟩) (ab hn386_4) (.bool ((rd_T98 l0 x8_1).f1.f3))).trans hx386_4; replace hx386_5 := (cell_far (p := ⟨gb385, 4, none⟩) (ab hn386_4) (.bool ((rd_T98 l0 x8_1).f1.f3))).trans hx386_5; replace hx386_6 := (cell_far (p := ⟨gb385, 4, none⟩) (ab hn386_4) (.bool ((rd_T98 l0 x8_1).f1.f3))).trans hx386_6; replace hx386_0 := (cell_far (p := ⟨gb385, 5, none⟩) (ab hn386_5) (.bool ((rd_T98 l0 x8_1).f1.f4))).trans hx386_0; replace hx386_1 := (cell_far (p := ⟨gb385, 5, none⟩) (ab hn386_5) (.bool ((rd_T98 l0 x8_1).f1.f4))).trans hx386_1; replace hx386_2 := (cell_far (p := ⟨gb385, 5, none⟩) (ab hn386_5) (.bool ((rd_T98 l0 x8_1).f1.f4))).trans hx386_2; replace hx386_3 := (cell_far (p := ⟨gb385, 5, none⟩) (ab hn386_5) (.bool ((rd_T98 l0 x8_1).f1.f4))).trans hx386_3; replace hx386_4 := (cell_far (p := ⟨gb385, 5, none⟩) (ab hn386_5) (.bool ((rd_T98 l0 x8_1).f1.f4))).trans hx386_4; replace hx386_5 := (cell_far (p := ⟨gb385, 5, none⟩) (ab hn386_5) (.bool ((rd_T98 l0 x8_1).f1.f4))).trans hx386_5; replace hx386_6 := (cell_far (p := ⟨gb385, 5, none⟩) (ab hn386_5) (.bool ((rd_T98 l0 x8_1).f1.f4))).trans hx386_6; replace hx386_0 := (cell_far (p := ⟨gb385, 6, none⟩) (ab hn386_6) (.int .i64 ((rd_T98 l0 x8_1).f2))).trans hx386_0; replace hx386_1 := (cell_far (p := ⟨gb385, 6, none⟩) (ab hn386_6) (.int .i64 ((rd_T98 l0 x8_1).f2))).trans hx386_1; replace hx386_2 := (cell_far (p := ⟨gb385, 6, none⟩) (ab hn386_6) (.int .i64 ((rd_T98 l0 x8_1).f2))).trans hx386_2; replace hx386_3 := (cell_far (p := ⟨gb385, 6, none⟩) (ab hn386_6) (.int .i64 ((rd_T98 l0 x8_1).f2))).trans hx386_3; replace hx386_4 := (cell_far (p := ⟨gb385, 6, none⟩) (ab hn386_6) (.int .i64 ((rd_T98 l0 x8_1).f2))).trans hx386_4; replace hx386_5 := (cell_far (p := ⟨gb385, 6, none⟩) (ab hn386_6) (.int .i64 ((rd_T98 l0 x8_1).f2))).trans hx386_5; replace hx386_6 := (cell_far (p := ⟨gb385, 6, none⟩) (ab hn386_6) (.int .i64 ((rd_T98 l0 x8_1).f2))).trans hx386_6; clear hn386_0; clear hn386_1; clear hn386_2; clear hn386_3; clear hn386_4; clear hn386_5; clear hn386_6; replace p386 := eq_true p386; replace q386 := eq_true q386) | ((with_reducible refine gate_dst (N := 4) rfl ?_); (try (refine gate_guard (by rfl) ?_; dsimp only)); refine box_event ?hg (N := 4) ?hd (cs := #[.int .i64 0, .int .i64 0, .int .i64 0, .bool false, .bool false, .bool false, .int .i64 0]) (t := 98) ?hr ?_; (case hd => rfl); (case hg => rfl); (case hr => first | (go_simp; done) | (go_simp; rfl)); intro gb385 hg w12 hbox hb; have BK385 := am (hbox); have GW385 := am (gw hg (rb HB)); have GE385 := GW385; replace HB := am (below_step (rb HB) hb); clear hb hbox hg; have hcz43_0 : w12.cell? ⟨gb385, 0, none⟩ = some (.int .i64 0) := (blk_cell BK385.out 0).trans rfl; have hcz43_1 : w12.cell? ⟨gb385, 1, none⟩ = some (.int .i64 0) := (blk_cell BK385.out 1).trans rfl; have hcz43_2 : w12.cell? ⟨gb385, 2, none⟩ = some (.int .i64 0) := (blk_cell BK385.out 2).trans rfl; have hcz43_3 : w12.cell? ⟨gb385, 3, none⟩ = some (.bool false) := (blk_cell BK385.out 3).trans rfl; have hcz43_4 : w12.cell? ⟨gb385, 4, none⟩ = some (.bool false) := (blk_cell BK385.out 4).trans rfl; have hcz43_5 : w12.cell? ⟨gb385, 5, none⟩ = some (.bool false) := (blk_cell BK385.out 5).trans rfl; have hcz43_6 : w12.cell? ⟨gb385, 6, none⟩ = some (.int .i64 0) := (blk_cell BK385.out 6).trans rfl; have hfz43_0 := blk_frozen BK385.out 0; have hfz43_1 := blk_frozen BK385.out 1; have hfz43_2 := blk_frozen BK385.out 2; have hfz43_3 := blk_frozen BK385.out 3; have hfz43_4 := blk_frozen BK385.out 4; have hfz43_5 := blk_frozen BK385.out 5; have hfz43_6 := blk_frozen BK385.out 6))
have n0_ : Aside0 ((((((((w12.setCell ⟨gb385, 0, none⟩ (.int .i64 ((rd_T98 l0 x8_1).f0))).setCell ⟨gb385, 1, none⟩ (.int .i64 ((rd_T98 l0 x8_1).f1.f0))).setCell ⟨gb385, 2, none⟩ (.int .i64 ((rd_T98 l0 x8_1).f1.f1))).setCell ⟨gb385, 3, none⟩ (.bool ((rd_T98 l0 x8_1).f1.f2))).setCell ⟨gb385, 4, none⟩ (.bool ((rd_T98 l0 x8_1).f1.f3))).setCell ⟨gb385, 5, none⟩ (.bool ((rd_T98 l0 x8_1).f1.f4))).setCell ⟨gb385, 6, none⟩ (.int .i64 ((rd_T98 l0 x8_1).f2))).heap[gb385]? = some (.cells #[.int .i64 ((rd_T98 l0 x8_1).f0), .int .i64 ((rd_T98 l0 x8_1).f1.f0), .int .i64 ((rd_T98 l0 x8_1).f1.f1), .bool ((rd_T98 l0 x8_1).f1.f2), .bool ((rd_T98 l0 x8_1).f1.f3), .bool ((rd_T98 l0 x8_1).f1.f4), .int .i64 ((rd_T98 l0 x8_1).f2)] 98 (0, 0))) := ⟨by (with_reducible repeat (first | apply k1 | apply k2 | apply k3)); refine blk_put (cs := #[.int .i64 ((rd_T98 l0 x8_1).f0), .int .i64 ((rd_T98 l0 x8_1).f1.f0), .int .i64 ((rd_T98 l0 x8_1).f1.f1), .bool ((rd_T98 l0 x8_1).f1.f2), .bool ((rd_T98 l0 x8_1).f1.f3), .bool ((rd_T98 l0 x8_1).f1.f4), .int .i64 0]) ?_ 6 _ rfl; (with_reducible repeat (first | apply k1 | apply k2 | apply k3)); refine blk_put (cs := #[.int .i64 ((rd_T98 l0 x8_1).f0), .int .i64 ((rd_T98 l0 x8_1).f1.f0), .int .i64 ((rd_T98 l0 x8_1).f1.f1), .bool ((rd_T98 l0 x8_1).f1.f2), .bool ((rd_T98 l0 x8_1).f1.f3), .bool false, .int .i64 0]) ?_ 5 _ rfl; (with_reducible repeat (first | apply k1 | apply k2 | apply k3)); refine blk_put (cs := #[.int .i64 ((rd_T98 l0 x8_1).f0), .int .i64 ((rd_T98 l0 x8_1).f1.f0), .int .i64 ((rd_T98 l0 x8_1).f1.f1), .bool ((rd_T98 l0 x8_1).f1.f2), .bool false, .bool false, .int .i64 0]) ?_ 4 _ rfl; (with_reducible repeat (first | apply k1 | apply k2 | apply k3)); refine blk_put (cs := #[.int .i64 ((rd_T98 l0 x8_1).f0), .int .i64 ((rd_T98 l0 x8_1).f1.f0), .int .i64 ((rd_T98 l0 x8_1).f1.f1), .bool false, .bool false, .bool false, .int .i64 0]) ?_ 3 _ rfl; (with_reducible repeat (first | apply k1 | apply k2 | apply k3)); refine blk_put (cs := #[.int .i64 ((rd_T98 l0 x8_1).f0), .int .i64 ((rd_T98 l0 x8_1).f1.f0), .int .i64 0, .bool false, .bool false, .bool false, .int .i64 0]) ?_ 2 _ rfl; (with_reducible repeat (first | apply k1 | apply k2 | apply k3)); refine blk_put (cs := #[.int .i64 ((rd_T98 l0 x8_1).f0), .int .i64 0, .int .i64 0, .bool false, .bool false, .bool false, .int .i64 0]) ?_ 1 _ rfl; (with_reducible repeat (first | apply k1 | apply k2 | apply k3)); refine blk_put (cs := #[.int .i64 0, .int .i64 0, .int .i64 0, .bool false, .bool false, .bool false, .int .i64 0]) ?_ 0 _ rfl; (with_reducible repeat (first | apply k1 | apply k2 | apply k3)); exact BK385.out⟩
have n1_ : Aside0 (Below w.heap.size w (((((((w12.setCell ⟨gb385, 0, none⟩ (.int .i64 ((rd_T98 l0 x8_1).f0))).setCell ⟨gb385, 1, none⟩ (.int .i64 ((rd_T98 l0 x8_1).f1.f0))).setCell ⟨gb385, 2, none⟩ (.int .i64 ((rd_T98 l0 x8_1).f1.f1))).setCell ⟨gb385, 3, none⟩ (.bool ((rd_T98 l0 x8_1).f1.f2))).setCell ⟨gb385, 4, none⟩ (.bool ((rd_T98 l0 x8_1).f1.f3))).setCell ⟨gb385, 5, none⟩ (.bool ((rd_T98 l0 x8_1).f1.f4))).setCell ⟨gb385, 6, none⟩ (.int .i64 ((rd_T98 l0 x8_1).f2)))) := ⟨by repeat (first | (with_reducible first | exact HB.out | apply b1 | apply b2 | apply b3 | refine below_set ?_ GE385.out) | exact HB.out)⟩
(try clear BK385)
(try clear HB)
generalize (((((((w12.setCell ⟨gb385, 0, none⟩ (.int .i64 ((rd_T98 l0 x8_1).f0))).setCell ⟨gb385, 1, none⟩ (.int .i64 ((rd_T98 l0 x8_1).f1.f0))).setCell ⟨gb385, 2, none⟩ (.int .i64 ((rd_T98 l0 x8_1).f1.f1))).setCell ⟨gb385, 3, none⟩ (.bool ((rd_T98 l0 x8_1).f1.f2))).setCell ⟨gb385, 4, none⟩ (.bool ((rd_T98 l0 x8_1).f1.f3))).setCell ⟨gb385, 5, none⟩ (.bool ((rd_T98 l0 x8_1).f1.f4))).setCell ⟨gb385, 6, none⟩ (.int .i64 ((rd_T98 l0 x8_1).f2))) = w14 at n0_ n1_ ⊢
have BK385 := n0_
have HB := n1_
clear n0_ n1_
replace BK385 := am (blk_drew BK385.out)
replace HB := am (below_drew1 HB.out)
first
| (
have p388 : 0 ≤ ((ji6) : Int) := dt_
have q388 : (ji6) < (l0.length : Int) := dt_
obtain ⟨ad388, e388, hx388_0, hx388_1, hx388_2, hx388_3, hx388_4, hx388_5, hx388_6⟩ := at_T98 HR0.out (ji6) p388 q388
have hw388_6 := hx388_6
have hw388_5 := hx388_5
have hw388_4 := hx388_4
have hw388_3 := hx388_3
have hw388_2 := hx388_2
have hw388_1 := hx388_1
have hw388_0 := hx388_0
obtain rfl : ad384 = ad388 := (by injection e388)
replace hx388_0 := mv HB.out hx388_0
replace hx388_1 := mv HB.out hx388_1
replace hx388_2 := mv HB.out hx388_2
replace hx388_3 := mv HB.out hx388_3
replace hx388_4 := mv HB.out hx388_4
replace hx388_5 := mv HB.out hx388_5
replace hx388_6 := mv HB.out hx388_6
replace p388 := eq_true p388
replace q388 := eq_true q388
refine start_ (n := 24) (S := fun w' => w'.cell? ⟨gb385, 0, none⟩ = some (.int .i64 ((rd_T98 l0 x8_1).f0)) ∧ w'.cell? ⟨gb385, 1, none⟩ = some (.int .i64 ((rd_T98 l0 x8_1).f1.f0)) ∧ w'.cell? ⟨gb385, 2, none⟩ = some (.int .i64 ((rd_T98 l0 x8_1).f1.f1)) ∧ w'.cell? ⟨gb385, 3, none⟩ = some (.bool ((rd_T98 l0 x8_1).f1.f2)) ∧ w'.cell? ⟨gb385, 4, none⟩ = some (.bool ((rd_T98 l0 x8_1).f1.f3)) ∧ w'.cell? ⟨gb385, 5, none⟩ = some (.bool ((rd_T98 l0 x8_1).f1.f4)) ∧ w'.cell? ⟨gb385, 6, none⟩ = some (.int .i64 ((rd_T98 l0 x8_1).f2)) ∧ w'.cell? (ad384.add (((ji6)).toNat * 7)) = some (.int .i64 ((rd_T98 l0 (ji6)).f0)) ∧ w'.cell? ⟨(ad384.add (((ji6)).toNat * 7)).block, (ad384.add (((ji6)).toNat * 7)).off + 1, none⟩ = some (.int .i64 ((rd_T98 l0 (ji6)).f1.f0)) ∧ w'.cell? ⟨(ad384.add (((ji6)).toNat * 7)).block, (ad384.add (((ji6)).toNat * 7)).off + 2, none⟩ = some (.int .i64 ((rd_T98 l0 (ji6)).f1.f1)) ∧ w'.cell? ⟨(ad384.add (((ji6)).toNat * 7)).block, (ad384.add (((ji6)).toNat * 7)).off + 3, none⟩ = some (.bool ((rd_T98 l0 (ji6)).f1.f2)) ∧ w'.cell? ⟨(ad384.add (((ji6)).toNat * 7)).block, (ad384.add (((ji6)).toNat * 7)).off + 4, none⟩ = some (.bool ((rd_T98 l0 (ji6)).f1.f3)) ∧ w'.cell? ⟨(ad384.add (((ji6)).toNat * 7)).block, (ad384.add (((ji6)).toNat * 7)).off + 5, none⟩ = some (.bool ((rd_T98 l0 (ji6)).f1.f4)) ∧ w'.cell? ⟨(ad384.add (((ji6)).toNat * 7)).block, (ad384.add (((ji6)).toNat * 7)).off + 6, none⟩ = some (.int .i64 ((rd_T98 l0 (ji6)).f2))) (ds := []) (bm 24 0) (by kernel_rfl) rfl rfl ⟨(blk_cell BK385.out 0).trans rfl, (blk_cell BK385.out 1).trans rfl, (blk_cell BK385.out 2).trans rfl, (blk_cell BK385.out 3).trans rfl, (blk_cell BK385.out 4).trans rfl, (blk_cell BK385.out 5).trans rfl, (blk_cell BK385.out 6).trans rfl, ((HB.out.cell (World.block_lt_of_cell? w _ hw388_0)).trans hw388_0), ((HB.out.cell (World.block_lt_of_cell? w _ hw388_1)).trans hw388_1), ((HB.out.cell (World.block_lt_of_cell? w _ hw388_2)).trans hw388_2), ((HB.out.cell (World.block_lt_of_cell? w _ hw388_3)).trans hw388_3), ((HB.out.cell (World.block_lt_of_cell? w _ hw388_4)).trans hw388_4), ((HB.out.cell (World.block_lt_of_cell? w _ hw388_5)).trans hw388_5), ((HB.out.cell (World.block_lt_of_cell? w _ hw388_6)).trans hw388_6)⟩ (fun hHeld => ?_); refine with_tabW impl_RowOk.tab5 impl_RowOk.bits5 (fun HT_ HW_ => ?_)
generalize w14.drew = w22 at BK385 HB hx388_0 hx388_1 hx388_2 hx388_3 hx388_4 hx388_5 hx388_6 hHeld ⊢
refine take_ (i := 0) (N := some 24) (v := ?_) (a' := ?_) (bm 24 1) rfl rfl (take_ofW HT_.out HW_.out (by kernel_rfl)) (fun _ _ _ h => h) (Or.inl ⟨by rfl, ?_⟩) hHeld ?_ ?_
rotate_left
·(
rintro w' ⟨s0, s1, s2, s3, s4, s5, s6, s7, s8, s9, s10, s11, s12, s13⟩
go_simp
with_reducible rfl
)
)
| (
refine start_ (n := 24) (S := fun w' => w'.cell? ⟨gb385, 0, none⟩ = some (.int .i64 ((rd_T98 l0 x8_1).f0)) ∧ w'.cell? ⟨gb385, 1, none⟩ = some (.int .i64 ((rd_T98 l0 x8_1).f1.f0)) ∧ w'.cell? ⟨gb385, 2, none⟩ = some (.int .i64 ((rd_T98 l0 x8_1).f1.f1)) ∧ w'.cell? ⟨gb385, 3, none⟩ = some (.bool ((rd_T98 l0 x8_1).f1.f2)) ∧ w'.cell? ⟨gb385, 4, none⟩ = some (.bool ((rd_T98 l0 x8_1).f1.f3)) ∧ w'.cell? ⟨gb385, 5, none⟩ = some (.bool ((rd_T98 l0 x8_1).f1.f4)) ∧ w'.cell? ⟨gb385, 6, none⟩ = some (.int .i64 ((rd_T98 l0 x8_1).f2))) (ds := []) (bm 24 0) (by kernel_rfl) rfl rfl (bc7 BK385) (fun hHeld => ?_); refine with_tabW impl_RowOk.tab5 impl_RowOk.bits5 (fun HT_ HW_ => ?_)
generalize w14.drew = w15 at BK385 HB hHeld ⊢
refine take_ (i := 0) (N := some 24) (v := ?_) (a' := ?_) (bm 24 1) rfl rfl (take_ofW HT_.out HW_.out (by kernel_rfl)) (fun _ _ _ h => h) (Or.inl ⟨by rfl, ?_⟩) hHeld ?_ ?_
rotate_left
·(
rintro w' ⟨s0, s1, s2, s3, s4, s5, s6⟩
go_simp
with_reducible rfl
)
)
rotate_left
·(
simp only [Act.put, List.setIfInBounds_toArray, List.set_cons_zero, List.set_cons_succ, i64_w, i32_w]
rfl
)
refine one_ (i := 1) (N := some 25) (bm 24 3) rfl rfl (one_of HT_.out (by kernel_rfl)) (by decide) (fun K hK => ?_)
refine goes_ Try.func117 (by kernel_rfl) rfl #[.agg #[.int .i64 ((rd_T98 l0 x8_1).f0), .int .i64 ((rd_T98 l0 x8_1).f1.f0), .int .i64 ((rd_T98 l0 x8_1).f1.f1), .bool ((rd_T98 l0 x8_1).f1.f2), .bool ((rd_T98 l0 x8_1).f1.f3), .bool ((rd_T98 l0 x8_1).f1.f4), .int .i64 ((rd_T98 l0 x8_1).f2)]] (by rfl) rfl rfl mt ?_
first
| with_reducible refine (impl_isCell.calls k1 ((rd_T98 l0 x8_1).f0) ((rd_T98 l0 x8_1).f1.f0) ((rd_T98 l0 x8_1).f1.f1) ((rd_T98 l0 x8_1).f1.f2) ((rd_T98 l0 x8_1).f1.f3) ((rd_T98 l0 x8_1).f1.f4) ((rd_T98 l0 x8_1).f2) false _ A9.out).mono ?_
| with_reducible refine (impl_isCell.calls k1 ((rd_T98 l0 x8_1).f0) ((rd_T98 l0 x8_1).f1.f0) ((rd_T98 l0 x8_1).f1.f1) ((rd_T98 l0 x8_1).f1.f2) ((rd_T98 l0 x8_1).f1.f3) ((rd_T98 l0 x8_1).f1.f4) ((rd_T98 l0 x8_1).f2) true _ A9.out).mono ?_
rintro e w16 ⟨rfl, hb⟩
refine ⟨_, rfl, ?_⟩
replace BK385 := am (blk_below (rk BK385) hb)
replace HB := am (below_step (rb1 HB GE385) hb)
(try clear hb)
first
| refine hK.out _ _ ⟨(blk_cell BK385.out 0).trans rfl, (blk_cell BK385.out 1).trans rfl, (blk_cell BK385.out 2).trans rfl, (blk_cell BK385.out 3).trans rfl, (blk_cell BK385.out 4).trans rfl, (blk_cell BK385.out 5).trans rfl, (blk_cell BK385.out 6).trans rfl, ((HB.out.cell (World.block_lt_of_cell? w _ hw388_0)).trans hw388_0), ((HB.out.cell (World.block_lt_of_cell? w _ hw388_1)).trans hw388_1), ((HB.out.cell (World.block_lt_of_cell? w _ hw388_2)).trans hw388_2), ((HB.out.cell (World.block_lt_of_cell? w _ hw388_3)).trans hw388_3), ((HB.out.cell (World.block_lt_of_cell? w _ hw388_4)).trans hw388_4), ((HB.out.cell (World.block_lt_of_cell? w _ hw388_5)).trans hw388_5), ((HB.out.cell (World.block_lt_of_cell? w _ hw388_6)).trans hw388_6)⟩ (fun hHeld => ?_)
| refine hK.out _ _ (bc7 BK385) (fun hHeld => ?_)
clear hK K
refine norm_ (a' := _) (show Act.put _ (some 25) _ = _ from na) ?_
refine pu_ 2 26 (bm 24 7) HT_.out ?_
refine pu_ 3 27 (bm 24 15) HT_.out ?_
first | refine pu_ 4 28 (bm 24 31) HT_.out ?_ | refine un_ 4 28 (bm 24 31) HT_.out ?_
first | refine pu_ 5 29 (bm 24 63) HT_.out ?_ | refine un_ 5 29 (bm 24 63) HT_.out ?_
first
| (
refine take_ (i := 6) (N := some 30) (v := ?_) (a' := ?_) (bm 24 127) rfl rfl (take_ofW HT_.out HW_.out (by kernel_rfl)) (fun _ _ _ h => h) (Or.inl ⟨by rfl, ?_⟩) hHeld ?_ ?_
rotate_left
first
| (
·(
rintro w' ⟨s0, s1, s2, s3, s4, s5, s6, s7, s8, s9, s10, s11, s12, s13⟩
go_simp
with_reducible rfl
)
)
| (
·(
rintro w' ⟨s0, s1, s2, s3, s4, s5, s6⟩
go_simp
with_reducible rfl
)
)
rotate_left
·(
simp only [Act.put, List.setIfInBounds_toArray, List.set_cons_zero, List.set_cons_succ, i64_w, i32_w]
rfl
)
)
| (
refine take_ (i := 6) (N := some 30) (v := ?_) (a' := ?_) (bm 24 127) rfl rfl (take_ofW HT_.out HW_.out (by kernel_rfl)) (fun _ _ _ h => h) (Or.inl ⟨by rfl, ?_⟩) hHeld ?_ ?_
rotate_left
·(
rintro w' ⟨s0, s1, s2, s3, s4, s5, s6⟩
go_simp
with_reducible rfl
)
rotate_left
·(
simp only [Act.put, List.setIfInBounds_toArray, List.set_cons_zero, List.set_cons_succ, i64_w, i32_w]
rfl
)
)
| refine un_ 6 30 (bm 24 127) HT_.out ?_
first | refine pu_ 7 31 (bm 24 255) HT_.out ?_ | refine un_ 7 31 (bm 24 255) HT_.out ?_
first | refine pu_ 8 32 (bm 24 511) HT_.out ?_ | refine un_ 8 32 (bm 24 511) HT_.out ?_
refine pu_ 9 33 (bm 24 1023) HT_.out ?_
refine pu_ 10 34 (bm 24 2047) HT_.out ?_
first | refine un_ 11 35 (bm 24 4095) HT_.out ?_ | refine pu_ 11 35 (bm 24 4095) HT_.out ?_
first | refine un_ 12 36 (bm 24 8191) HT_.out ?_ | refine pu_ 12 36 (bm 24 8191) HT_.out ?_
first | refine un_ 13 37 (bm 24 16383) HT_.out ?_ | refine pu_ 13 37 (bm 24 16383) HT_.out ?_
first | refine un_ 14 38 (bm 24 32767) HT_.out ?_ | refine pu_ 14 38 (bm 24 32767) HT_.out ?_
first | refine un_ 15 39 (bm 24 65535) HT_.out ?_ | refine pu_ 15 39 (bm 24 65535) HT_.out ?_
first | refine un_ 16 40 (bm 24 131071) HT_.out ?_ | refine pu_ 16 40 (bm 24 131071) HT_.out ?_
first | refine un_ 17 41 (bm 24 262143) HT_.out ?_ | refine pu_ 17 41 (bm 24 262143) HT_.out ?_
first
| (
refine pu_ 19 43 (bm 24 786431) HT_.out ?_
refine take_ (i := 18) (N := some 42) (v := ?_) (a' := ?_) (bm 24 1048575) rfl rfl (take_ofW HT_.out HW_.out (by kernel_rfl)) (fun _ _ _ h => h) (Or.inl ⟨by rfl, ?_⟩) hHeld ?_ ?_
rotate_left
·(
rintro w' ⟨s0, s1, s2, s3, s4, s5, s6, s7, s8, s9, s10, s11, s12, s13⟩
go_simp
with_reducible rfl
)
rotate_left
·(
simp only [Act.put, List.setIfInBounds_toArray, List.set_cons_zero, List.set_cons_succ, i64_w, i32_w]
rfl
)
refine take_ (i := 20) (N := some 44) (v := ?_) (a' := ?_) (bm 24 2097151) rfl rfl (take_ofW HT_.out HW_.out (by kernel_rfl)) (fun _ _ _ h => h) (Or.inl ⟨by rfl, ?_⟩) hHeld ?_ ?_
rotate_left
·(
rintro w' ⟨s0, s1, s2, s3, s4, s5, s6, s7, s8, s9, s10, s11, s12, s13⟩
go_simp
with_reducible rfl
)
rotate_left
·(
simp only [Act.put, List.setIfInBounds_toArray, List.set_cons_zero, List.set_cons_succ, i64_w, i32_w]
rfl
)
)
| (
refine un_ 18 42 (bm 24 524287) HT_.out ?_
refine un_ 19 43 (bm 24 1048575) HT_.out ?_
refine un_ 20 44 (bm 24 2097151) HT_.out ?_
)
first | refine un_ 21 45 (bm 24 4194303) HT_.out ?_ | refine pu_ 21 45 (bm 24 4194303) HT_.out ?_
first | refine un_ 22 46 (bm 24 8388607) HT_.out ?_ | refine pu_ 22 46 (bm 24 8388607) HT_.out ?_
refine pu_ 23 47 (bm 24 16777215) HT_.out ?_
refine done_ (done_of HT_.out (by kernel_rfl)) ?_
try go_wp2
first
| (
first | have q_ := lf1_ | have q_ := lf2_ | have q_ := lf5_
go_ret
exact ⟨by first | rfl | (simp [errW_none, errW_some] <;> rfl) | (simp only [← hji6]; first | rfl | (simp [errW_none, errW_some] <;> rfl)) | (simp [*, errW_none, errW_some] <;> rfl), by repeat (first | (with_reducible first | exact HB.out | apply b1 | apply b2 | apply b3 | refine below_set ?_ GE385.out) | exact HB.out)⟩
)
| (
first | have q_ := lf3_ | have q_ := lf4_ | have q_ := lf7_
go_roundg k1
case measure => have := HK1.out; omega
case rel => exact ⟨(wrap64 (x8_1 + 1)), (by first | rfl | (simp; done) | (simp [*]; done)), H', ⟨by have := HK1.out; omega⟩, ⟨by repeat (first | (with_reducible first | exact HB.out | apply b1 | apply b2 | apply b3 | refine below_set ?_ GE385.out) | exact HB.out)⟩⟩
)
| (
first | have q_ := lf6_ | have q_ := lf8_
go_ret
exact ⟨by first | rfl | (simp [errW_none, errW_some] <;> rfl) | (simp [*, errW_none, errW_some] <;> rfl), by repeat (first | (with_reducible first | exact HB.out | apply b1 | apply b2 | apply b3 | refine below_set ?_ GE385.out) | exact HB.out)⟩
)
)
)
)
)

end Go.Proofs.Ytalopdcephohgaa.RC
