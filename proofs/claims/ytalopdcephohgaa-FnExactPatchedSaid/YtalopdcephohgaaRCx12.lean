/- Contracts of Go functions that laws of this seat reach: each Lean function answers as its Go function does. No condition. Written by wip/tools/inj.py, over the kit's print. -/
import Derived.Test.YtalopdcephohgaaRCx0
import Derived.Test.YtalopdcephohgaaRCx1
import Derived.Test.YtalopdcephohgaaRCx10
import Derived.Test.YtalopdcephohgaaRCx11
namespace Go.Proofs.Ytalopdcephohgaa.RC
open Go.RowKit Go.Proofs.YtalopdcephohgaaW.PrintWords Go.Proofs.YtalopdcephohgaaW.PrintLast Go.Proofs.YtalopdcephohgaaW.PrintMore
attribute [local go_sem] max2_int min2_int max_two min_two max_three min_three max_four min_four   -- for this text's walks alone
set_option linter.unusedVariables false
set_option linter.unusedSimpArgs false

attribute [local go_sem high] eqA96
/-! ### spec_RowOk: function 96 -/
mutual
def spec_RowOk.j0 : Nat → List (S98) → Int → Bool → Option (Bool)
 | 0, _, _, _ => none
 | k + 1, x0, x3, x13 => if x13 = true then (some false) else (spec_RowOk.l0 k x0 x3 0)
def spec_RowOk.l0 : Nat → List (S98) → Int → Int → Option (Bool)
 | 0, _, _, _ => none
 | k + 1, x0, x3, x4 => if x4 < x3 then (if 0 ≤ x4 then (if x4 < (x0.length : Int) then ((spec_StyleOk.f ((rd_T98 x0 x4).f1.f0) ((rd_T98 x0 x4).f1.f1) ((rd_T98 x0 x4).f1.f2) ((rd_T98 x0 x4).f1.f3) ((rd_T98 x0 x4).f1.f4)).bind fun t191 => (if t191 = true then (if ((rd_T98 x0 x4).f2) = 0 then ((spec_Width.f k ((rd_T98 x0 x4).f0)).bind fun t192 => (if t192 = 1 then (spec_RowOk.l0 k x0 x3 (wrap64 (x4 + 1))) else (some false))) else (if ((rd_T98 x0 x4).f2) = 1 then ((spec_Width.f k ((rd_T98 x0 x4).f0)).bind fun t193 => (if t193 = 2 then (if (wrap64 (x4 + 1)) = x3 then (some false) else (if 0 ≤ (wrap64 (x4 + 1)) then (if (wrap64 (x4 + 1)) < (x0.length : Int) then (if ((rd_T98 x0 (wrap64 (x4 + 1))).f2) = 2 then (if (!(((rd_T98 x0 (wrap64 (x4 + 1))).f1.f0) == ((rd_T98 x0 x4).f1.f0)) || (!(((rd_T98 x0 (wrap64 (x4 + 1))).f1.f1) == ((rd_T98 x0 x4).f1.f1)) || (!(((rd_T98 x0 (wrap64 (x4 + 1))).f1.f2) == ((rd_T98 x0 x4).f1.f2)) || (!(((rd_T98 x0 (wrap64 (x4 + 1))).f1.f3) == ((rd_T98 x0 x4).f1.f3)) || (!(((rd_T98 x0 (wrap64 (x4 + 1))).f1.f4) == ((rd_T98 x0 x4).f1.f4))))))) = true then (some false) else (spec_RowOk.l0 k x0 x3 (wrap64 (x4 + 1)))) else (some false)) else (none)) else (none))) else (some false))) else (if ((rd_T98 x0 x4).f2) = 2 then (if ((rd_T98 x0 x4).f0) = 0 then (if x4 = 0 then (some false) else (if 0 ≤ (wrap64 (x4 - 1)) then (if (wrap64 (x4 - 1)) < (x0.length : Int) then (if ((rd_T98 x0 (wrap64 (x4 - 1))).f2) = 1 then (spec_RowOk.l0 k x0 x3 (wrap64 (x4 + 1))) else (some false)) else (none)) else (none))) else (some false)) else (some false)))) else (some false))) else (none)) else (none)) else (some true)
end
def spec_RowOk.f (k : Nat) (l0 : List (S98)) : Option (Bool) := if (l0.length : Int) < 1 then (spec_RowOk.j0 k l0 (l0.length : Int) true) else (spec_RowOk.j0 k l0 (l0.length : Int) (decide ((l0.length : Int) > 60)))
theorem spec_RowOk.mono_l : ∀ k, (∀ y0 y1 y2, LeO (spec_RowOk.j0 k y0 y1 y2) (spec_RowOk.j0 (k + 1) y0 y1 y2)) ∧ (∀ y0 y1 y2, LeO (spec_RowOk.l0 k y0 y1 y2) (spec_RowOk.l0 (k + 1) y0 y1 y2))
 | 0 => ⟨fun _ _ _ r h => by simp [spec_RowOk.j0] at h, fun _ _ _ r h => by simp [spec_RowOk.l0] at h⟩
 | k + 1 => by
  obtain ⟨ih0, ih1⟩ := spec_RowOk.mono_l k
  refine ⟨?_, ?_⟩
  ·intro y0 y1 y2
   unfold spec_RowOk.j0
   repeat' first
   | (with_reducible exact ih0 _ _ _)
   | (with_reducible exact ih1 _ _ _)
   | (with_reducible exact spec_Width.mono _ _)
   | (with_reducible exact LeO.refl _)
   | (with_reducible exact LeO.none _)
   | (with_reducible refine LeO.ite ?_ ?_)
   | (with_reducible refine LeO.bind ?_ (fun _ => ?_))
  ·intro y0 y1 y2
   unfold spec_RowOk.l0
   repeat' first
   | (with_reducible exact ih0 _ _ _)
   | (with_reducible exact ih1 _ _ _)
   | (with_reducible exact spec_Width.mono _ _)
   | (with_reducible exact LeO.refl _)
   | (with_reducible exact LeO.none _)
   | (with_reducible refine LeO.ite ?_ ?_)
   | (with_reducible refine LeO.bind ?_ (fun _ => ?_))
theorem spec_RowOk.mono : ∀ a0 k, LeO (spec_RowOk.f k a0) (spec_RowOk.f (k + 1) a0) := by
 intro a0 k
 obtain ⟨ih0, ih1⟩ := spec_RowOk.mono_l k
 unfold spec_RowOk.f
 repeat' first
   | (with_reducible exact ih0 _ _ _)
   | (with_reducible exact ih1 _ _ _)
   | (with_reducible exact spec_Width.mono _ _)
   | (with_reducible exact LeO.refl _)
   | (with_reducible exact LeO.none _)
   | (with_reducible refine LeO.ite ?_ ?_)
   | (with_reducible refine LeO.bind ?_ (fun _ => ?_))
def spec_RowOk.T16 : Bool × List (List Nat × List Nat) := (true, [([], []), ([0], [0]), ([1], [1]), ([2], [2]), ([3, 2], [3]), ([4], [4]), ([5, 4], [4, 5]), ([4], [4]), ([6, 7, 4], [4, 6, 7]), ([4, 8], [4, 8]), ([9, 4], [9]), ([10], [10]), ([10], [10]), ([12, 10], [10, 12]), ([11, 13, 10], [10, 11, 13]), ([14, 10], [10, 14]), ([15, 10], [10, 15]), ([16, 10], [10, 16]), ([10, 17], [10, 17]), ([18, 10], [18]), ([19], [19]), ([19], [19]), ([21, 19], [19, 21]), ([20, 22, 19], [19, 20, 22]), ([23, 19], [19, 23]), ([24, 19], [19, 24]), ([19], [19]), ([26, 19], [19, 26]), ([25, 27, 19], [19, 25, 27]), ([19, 28], [19, 28])])
def spec_RowOk.B16 : List Nat := [0, 1, 3, 7, 15, 31, 63, 31, 255, 511, 1023, 2047, 2047, 6143, 16383, 32767, 65535, 131071, 262143, 524287, 1048575, 1048575, 3145727, 8388607, 16777215, 33554431, 1048575, 68157439, 268435455, 536870911]
theorem spec_RowOk.tab16 : rtab .any (opsOf Try.f96 16) = spec_RowOk.T16 := by kernel_rfl
theorem spec_RowOk.bits16 : waitsOk spec_RowOk.T16.2 spec_RowOk.B16 = true := by kernel_rfl
set_option maxHeartbeats 8000000 in
set_option maxRecDepth 100000 in
theorem spec_RowOk.calls (k : Nat) (A0 : Option Addr) (c0 : Nat) (l0 : List (S98)) (r : Bool) (w : World) (hr0 : Kd.C k98 w A0 l0.length l0) (hc0 : l0.length ≤ c0) (h : spec_RowOk.f k l0 = some r) :
  Calls Try.prog 96 #[.slice A0 l0.length c0] w fun e w' => e = .returned (.bool r) ∧ Below w.heap.size w w' := by
 (
have hu98 := Try.underlying98
have hu96 := Try.underlying96
have HR0 := am hr0
have HC0 := am hc0
clear hr0 hc0
have HB := am (Below.refl w.heap.size w)
have H := h
unfold spec_RowOk.f at H
clear h
have HC2 := am H
clear H
go_enter Try.func96, Try.ntmps96
go_upto_region 2 with (fail)
go_cut [13] (fun v13 wc => ∃ (kq : Nat) (x13_1 : Bool), v13 = .bool x13_1 ∧ Aside0 (spec_RowOk.j0 kq l0 (l0.length : Int) x13_1 = some r) ∧ Aside0 (kq ≤ k) ∧ Aside0 (Below w.heap.size w wc))
case first => (
have H := HC2.out
clear HC2
by_cases c3 : (l0.length : Int) < 1
·(
rw [if_pos c3] at H
have c3b0 : decide ((l0.length : Int) < 1) = true := decide_eq_true c3
have c3b1 : decide (l0.length < 1) = true := decide_eq_true (by omega)
clear c3
(first | rw [c3b0] | (simp only [i64_w, i32_w]; rw [c3b0]) | skip)
have H' := am H
clear H
go_wp2
go_meet
case rel => exact ⟨_, (true), (by first | rfl | (simp; done) | (simp [*]; done)), H', ⟨by first | omega | exact Nat.le_refl _⟩, ⟨rb HB⟩⟩
)
·(
rw [if_neg c3] at H
have c3b0 : decide ((l0.length : Int) < 1) = false := decide_eq_false c3
have c3b1 : decide (l0.length < 1) = false := decide_eq_false (by omega)
clear c3
(first | rw [c3b0] | (simp only [i64_w, i32_w]; rw [c3b0]) | skip)
have H' := am H
clear H
go_wp2
go_meet
case rel => exact ⟨_, (decide ((l0.length : Int) > 60)), (by first | rfl | (simp; done) | (simp [*]; done)), H', ⟨by first | omega | exact Nat.le_refl _⟩, ⟨rb HB⟩⟩
)
)
case rest => (
clear HC2
try clear p2
try clear c3
try clear c3b0
try clear c3b1
obtain ⟨kq, x13_1, rfl, HA, HJ1, HB⟩ := hcut
cases kq with
| zero => exact absurd HA.out (by simp [spec_RowOk.j0])
| succ kj1 => (
have H := HA.out
clear HA
simp only [spec_RowOk.j0] at H
by_cases c4 : x13_1 = true
·(
subst c4
have H1 : (some false) = some r := by rw [if_pos rfl] at H; exact H
clear H
have H := H1
clear H1
obtain rfl := Option.some.inj H
go_wp2
go_ret
exact ⟨by first | rfl | (simp [errW_none, errW_some] <;> rfl) | (simp [*, errW_none, errW_some] <;> rfl), by repeat (first | (with_reducible first | exact HB.out | apply b1 | apply b2 | apply b3) | exact HB.out)⟩
)
·(
replace c4 := Bool.eq_false_iff.mpr c4
subst c4
rw [if_neg (show ¬ (false = true) by decide)] at H
have H' := am H
clear H
go_wp2
go_loopg [4] kj1 (fun kq v4 w' => ∃ (x4_2 : Int), v4 = .int .i64 x4_2 ∧ Aside0 (spec_RowOk.l0 kq l0 (l0.length : Int) x4_2 = some r) ∧ Aside0 (kq ≤ kj1) ∧ Aside0 (Below w.heap.size w w'))
case atStart => exact ⟨(0), (by first | rfl | (simp; done) | (simp [*]; done)), H', ⟨Nat.le_refl _⟩, ⟨rb HB⟩⟩
case round => (
clear H'
try clear p2
try clear c3
try clear c3b0
try clear c3b1
try clear c4
try clear p2
obtain ⟨x4_2, rfl, HA, HK2, HB⟩ := hrel
cases gk with
| zero => exact absurd HA.out (by simp [spec_RowOk.l0])
| succ k2 => (
have H := HA.out
clear HA
simp only [spec_RowOk.l0] at H
by_cases c5 : x4_2 < (l0.length : Int)
·(
rw [if_pos c5] at H
have c5b0 : decide (x4_2 < (l0.length : Int)) = true := decide_eq_true c5
clear c5
refine em_ (p := 0 ≤ x4_2) (fun c6 => ?g16p) (fun c6 => ?g16n)
case' g16p => (
rw [if_pos c6] at H
have c6b0 : decide (0 ≤ x4_2) = true := decide_eq_true c6
clear c6
refine em_ (p := x4_2 < (l0.length : Int)) (fun c7 => ?g15p) (fun c7 => ?g15n)
case' g15p => (
rw [if_pos c7] at H
have c7b0 : decide (x4_2 < (l0.length : Int)) = true := decide_eq_true c7
clear c7
replace H := Option.bind_eq_some_iff.mp H
obtain ⟨t191, A80, H⟩ := H
(try dsimp only at H)
have A8 := am A80
clear A80
refine em_ (p := t191 = true) (fun c9 => ?g14p) (fun c9 => ?g14n)
case' g14p => (
subst c9
rw [if_pos rfl] at H
refine em_ (p := ((rd_T98 l0 x4_2).f2) = 0) (fun c10 => ?g13p) (fun c10 => ?g13n)
case' g13p => (
rw [if_pos c10] at H
have c10b0 : (((rd_T98 l0 x4_2).f2) == 0) = true := beq_iff_eq.mpr c10
have c10b1 : (((rd_T98 l0 x4_2).f2) != 0) = false := bne_eq_false_iff_eq.mpr c10
clear c10
replace H := Option.bind_eq_some_iff.mp H
obtain ⟨t192, A110, H⟩ := H
(try dsimp only at H)
have A11 := am A110
clear A110
refine em_ (p := t192 = 1) (fun c12 => ?g0p) (fun c12 => ?g0n)
case' g0p => (
rw [if_pos c12] at H
have c12b0 : (t192 == 1) = true := beq_iff_eq.mpr c12
have c12b1 : (t192 != 1) = false := bne_eq_false_iff_eq.mpr c12
clear c12
have H' := am H
clear H
have lf5_ := trivial
)
case' g0n => (
rw [if_neg c12] at H
have c12b0 : (t192 == 1) = false := beq_eq_false_iff_ne.mpr c12
have c12b1 : (t192 != 1) = true := bne_iff_ne.mpr c12
obtain rfl := Option.some.inj H
have lf6_ := trivial
)
)
case g13n => (
rw [if_neg c10] at H
have c10b0 : (((rd_T98 l0 x4_2).f2) == 0) = false := beq_eq_false_iff_ne.mpr c10
have c10b1 : (((rd_T98 l0 x4_2).f2) != 0) = true := bne_iff_ne.mpr c10
by_cases c21 : ((rd_T98 l0 x4_2).f2) = 1
·(
rw [if_pos c21] at H
have c21b0 : (((rd_T98 l0 x4_2).f2) == 1) = true := beq_iff_eq.mpr c21
have c21b1 : (((rd_T98 l0 x4_2).f2) != 1) = false := bne_eq_false_iff_eq.mpr c21
clear c21
replace H := Option.bind_eq_some_iff.mp H
obtain ⟨t193, A220, H⟩ := H
(try dsimp only at H)
have A22 := am A220
clear A220
refine em_ (p := t193 = 2) (fun c23 => ?g6p) (fun c23 => ?g6n)
case' g6p => (
rw [if_pos c23] at H
have c23b0 : (t193 == 2) = true := beq_iff_eq.mpr c23
have c23b1 : (t193 != 2) = false := bne_eq_false_iff_eq.mpr c23
clear c23
refine em_ (p := (wrap64 (x4_2 + 1)) = (l0.length : Int)) (fun c24 => ?g5p) (fun c24 => ?g5n)
case' g5p => (
rw [if_pos c24] at H
have c24b0 : ((wrap64 (x4_2 + 1)) == (l0.length : Int)) = true := beq_iff_eq.mpr c24
have c24b1 : ((wrap64 (x4_2 + 1)) != (l0.length : Int)) = false := bne_eq_false_iff_eq.mpr c24
clear c24
obtain rfl := Option.some.inj H
have lf7_ := trivial
)
case' g5n => (
rw [if_neg c24] at H
have c24b0 : ((wrap64 (x4_2 + 1)) == (l0.length : Int)) = false := beq_eq_false_iff_ne.mpr c24
have c24b1 : ((wrap64 (x4_2 + 1)) != (l0.length : Int)) = true := bne_iff_ne.mpr c24
obtain ⟨ji30, hji30⟩ : ∃ j_ : Int, (wrap64 (x4_2 + 1)) = j_ := ⟨_, rfl⟩
replace H : (if 0 ≤ (ji30) then (if (ji30) < (l0.length : Int) then (if ((rd_T98 l0 (ji30)).f2) = 2 then (if (!(((rd_T98 l0 (ji30)).f1.f0) == ((rd_T98 l0 x4_2).f1.f0)) || (!(((rd_T98 l0 (ji30)).f1.f1) == ((rd_T98 l0 x4_2).f1.f1)) || (!(((rd_T98 l0 (ji30)).f1.f2) == ((rd_T98 l0 x4_2).f1.f2)) || (!(((rd_T98 l0 (ji30)).f1.f3) == ((rd_T98 l0 x4_2).f1.f3)) || (!(((rd_T98 l0 (ji30)).f1.f4) == ((rd_T98 l0 x4_2).f1.f4))))))) = true then (some false) else (spec_RowOk.l0 k2 l0 (l0.length : Int) ji30)) else (some false)) else (none)) else (none)) = some r := by first | (rw [hji30] at H; exact H) | (simp only [hji30] at H ⊢; exact H)
(try rw [hji30] at c24b0)
(try rw [hji30] at c24b1)
(try rw [hji30] at A8)
(try rw [hji30] at A22)
have hji30w : (IntKind.i64.wrap (x4_2 + 1)) = ji30 := (i64_w _).trans hji30
refine em_ (p := 0 ≤ (ji30)) (fun c31 => ?g4p) (fun c31 => ?g4n)
case' g4p => (
rw [if_pos c31] at H
have c31b0 : decide (0 ≤ (ji30)) = true := decide_eq_true c31
clear c31
refine em_ (p := (ji30) < (l0.length : Int)) (fun c32 => ?g3p) (fun c32 => ?g3n)
case' g3p => (
rw [if_pos c32] at H
have c32b0 : decide ((ji30) < (l0.length : Int)) = true := decide_eq_true c32
clear c32
refine em_ (p := ((rd_T98 l0 (ji30)).f2) = 2) (fun c33 => ?g2p) (fun c33 => ?g2n)
case' g2p => (
rw [if_pos c33] at H
have c33b0 : (((rd_T98 l0 (ji30)).f2) == 2) = true := beq_iff_eq.mpr c33
have c33b1 : (((rd_T98 l0 (ji30)).f2) != 2) = false := bne_eq_false_iff_eq.mpr c33
clear c33
refine em_ (p := (!(((rd_T98 l0 (ji30)).f1.f0) == ((rd_T98 l0 x4_2).f1.f0)) || (!(((rd_T98 l0 (ji30)).f1.f1) == ((rd_T98 l0 x4_2).f1.f1)) || (!(((rd_T98 l0 (ji30)).f1.f2) == ((rd_T98 l0 x4_2).f1.f2)) || (!(((rd_T98 l0 (ji30)).f1.f3) == ((rd_T98 l0 x4_2).f1.f3)) || (!(((rd_T98 l0 (ji30)).f1.f4) == ((rd_T98 l0 x4_2).f1.f4))))))) = true) (fun c34 => ?g1p) (fun c34 => ?g1n)
case' g1p => (
rw [if_pos c34] at H
have c34b0 : (!(((rd_T98 l0 (ji30)).f1.f0) == ((rd_T98 l0 x4_2).f1.f0)) || (!(((rd_T98 l0 (ji30)).f1.f1) == ((rd_T98 l0 x4_2).f1.f1)) || (!(((rd_T98 l0 (ji30)).f1.f2) == ((rd_T98 l0 x4_2).f1.f2)) || (!(((rd_T98 l0 (ji30)).f1.f3) == ((rd_T98 l0 x4_2).f1.f3)) || (!(((rd_T98 l0 (ji30)).f1.f4) == ((rd_T98 l0 x4_2).f1.f4))))))) = true := c34
clear c34
obtain rfl := Option.some.inj H
have lf8_ := trivial
)
case' g1n => (
rw [if_neg c34] at H
have c34b0 : (!(((rd_T98 l0 (ji30)).f1.f0) == ((rd_T98 l0 x4_2).f1.f0)) || (!(((rd_T98 l0 (ji30)).f1.f1) == ((rd_T98 l0 x4_2).f1.f1)) || (!(((rd_T98 l0 (ji30)).f1.f2) == ((rd_T98 l0 x4_2).f1.f2)) || (!(((rd_T98 l0 (ji30)).f1.f3) == ((rd_T98 l0 x4_2).f1.f3)) || (!(((rd_T98 l0 (ji30)).f1.f4) == ((rd_T98 l0 x4_2).f1.f4))))))) = false := by simpa using c34
clear c34
have H' := am H
clear H
have lf9_ := trivial
)
)
case' g2n => (
rw [if_neg c33] at H
have c33b0 : (((rd_T98 l0 (ji30)).f2) == 2) = false := beq_eq_false_iff_ne.mpr c33
have c33b1 : (((rd_T98 l0 (ji30)).f2) != 2) = true := bne_iff_ne.mpr c33
obtain rfl := Option.some.inj H
have lf10_ := trivial
)
)
case g3n => (
rw [if_neg c32] at H
exact absurd H (by simp)
)
)
case g4n => (
rw [if_neg c31] at H
exact absurd H (by simp)
)
)
)
case' g6n => (
rw [if_neg c23] at H
have c23b0 : (t193 == 2) = false := beq_eq_false_iff_ne.mpr c23
have c23b1 : (t193 != 2) = true := bne_iff_ne.mpr c23
obtain rfl := Option.some.inj H
have lf11_ := trivial
)
all_goals (
have p189 : 0 ≤ (x4_2 : Int) := dt_
have q189 : x4_2 < (l0.length : Int) := dt_
obtain ⟨ad189, e189, hx189_0, hx189_1, hx189_2, hx189_3, hx189_4, hx189_5, hx189_6⟩ := at_T98 HR0.out x4_2 p189 q189
cases e189
replace hx189_0 := mv HB.out hx189_0
replace hx189_1 := mv HB.out hx189_1
replace hx189_2 := mv HB.out hx189_2
replace hx189_3 := mv HB.out hx189_3
replace hx189_4 := mv HB.out hx189_4
replace hx189_5 := mv HB.out hx189_5
replace hx189_6 := mv HB.out hx189_6
replace p189 := eq_true p189
replace q189 := eq_true q189
try go_wp2_with (first | ((with_reducible refine gate_dst (N := 5) rfl ?_); refine box_event ?hg (N := 5) ?hd (cs := #[.int .i64 0, .int .i64 0, .int .i64 0, .bool false, .bool false, .bool false, .int .i64 0]) (t := 98) ?hr ?_; (case hd => rfl); (case hg => rfl); (case hr => first | (go_simp; done) | (go_simp; rfl)); intro gb190 hg w25 hbox hb; have BK190 := am (hbox); have GW190 := am (gw hg (rb HB)); have GE190 := GW190; replace HB := am (below_step (rb HB) hb); clear hb hbox hg; have hcz26_0 : w25.cell? ⟨gb190, 0, none⟩ = some (.int .i64 0) := (blk_cell BK190.out 0).trans rfl; have hcz26_1 : w25.cell? ⟨gb190, 1, none⟩ = some (.int .i64 0) := (blk_cell BK190.out 1).trans rfl; have hcz26_2 : w25.cell? ⟨gb190, 2, none⟩ = some (.int .i64 0) := (blk_cell BK190.out 2).trans rfl; have hcz26_3 : w25.cell? ⟨gb190, 3, none⟩ = some (.bool false) := (blk_cell BK190.out 3).trans rfl; have hcz26_4 : w25.cell? ⟨gb190, 4, none⟩ = some (.bool false) := (blk_cell BK190.out 4).trans rfl; have hcz26_5 : w25.cell? ⟨gb190, 5, none⟩ = some (.bool false) := (blk_cell BK190.out 5).trans rfl; have hcz26_6 : w25.cell? ⟨gb190, 6, none⟩ = some (.int .i64 0) := (blk_cell BK190.out 6).trans rfl; have hfz26_0 := blk_frozen BK190.out 0; have hfz26_1 := blk_frozen BK190.out 1; have hfz26_2 := blk_frozen BK190.out 2; have hfz26_3 := blk_frozen BK190.out 3; have hfz26_4 := blk_frozen BK190.out 4; have hfz26_5 := blk_frozen BK190.out 5; have hfz26_6 := blk_frozen BK190.out 6) | ((with_reducible refine gate_callee (f := 119) rfl ?_); refine gl_ (some 25) Try.func119 #[.agg #[.int .i64 ((rd_T98 l0 x4_2).f1.f0), .int .i64 ((rd_T98 l0 x4_2).f1.f1), .bool ((rd_T98 l0 x4_2).f1.f2), .bool ((rd_T98 l0 x4_2).f1.f3), .bool ((rd_T98 l0 x4_2).f1.f4)]] ?_; (with_reducible refine (spec_StyleOk.calls ((rd_T98 l0 x4_2).f1.f0) ((rd_T98 l0 x4_2).f1.f1) ((rd_T98 l0 x4_2).f1.f2) ((rd_T98 l0 x4_2).f1.f3) ((rd_T98 l0 x4_2).f1.f4) true _ A8.out).mono ?_); rintro e w27 ⟨rfl, hb⟩; refine ⟨_, rfl, ?_⟩; replace BK190 := am (blk_below (g := gb190) (o := .cells #[.int .i64 ((rd_T98 l0 x4_2).f0), .int .i64 ((rd_T98 l0 x4_2).f1.f0), .int .i64 ((rd_T98 l0 x4_2).f1.f1), .bool ((rd_T98 l0 x4_2).f1.f2), .bool ((rd_T98 l0 x4_2).f1.f3), .bool ((rd_T98 l0 x4_2).f1.f4), .int .i64 ((rd_T98 l0 x4_2).f2)] 98 (0, 0)) (rp_0_1_2_3_4_5_6 BK190) hb); replace HB := am (below_step (rb1 HB GE190) hb); (try clear hb); (try clear hb2); (try clear hk); (try clear hi); have hcz28_0 : w27.cell? ⟨gb190, 0, none⟩ = some (.int .i64 ((rd_T98 l0 x4_2).f0)) := (blk_cell BK190.out 0).trans rfl; have hcz28_1 : w27.cell? ⟨gb190, 1, none⟩ = some (.int .i64 ((rd_T98 l0 x4_2).f1.f0)) := (blk_cell BK190.out 1).trans rfl; have hcz28_2 : w27.cell? ⟨gb190, 2, none⟩ = some (.int .i64 ((rd_T98 l0 x4_2).f1.f1)) := (blk_cell BK190.out 2).trans rfl; have hcz28_3 : w27.cell? ⟨gb190, 3, none⟩ = some (.bool ((rd_T98 l0 x4_2).f1.f2)) := (blk_cell BK190.out 3).trans rfl; have hcz28_4 : w27.cell? ⟨gb190, 4, none⟩ = some (.bool ((rd_T98 l0 x4_2).f1.f3)) := (blk_cell BK190.out 4).trans rfl; have hcz28_5 : w27.cell? ⟨gb190, 5, none⟩ = some (.bool ((rd_T98 l0 x4_2).f1.f4)) := (blk_cell BK190.out 5).trans rfl; have hcz28_6 : w27.cell? ⟨gb190, 6, none⟩ = some (.int .i64 ((rd_T98 l0 x4_2).f2)) := (blk_cell BK190.out 6).trans rfl; have hfz28_0 := blk_frozen BK190.out 0; have hfz28_1 := blk_frozen BK190.out 1; have hfz28_2 := blk_frozen BK190.out 2; have hfz28_3 := blk_frozen BK190.out 3; have hfz28_4 := blk_frozen BK190.out 4; have hfz28_5 := blk_frozen BK190.out 5; have hfz28_6 := blk_frozen BK190.out 6))
replace BK190 := am (blk_drew BK190.out)
replace HB := am (below_drew1 HB.out)
first
| (
have p194 : 0 ≤ ((ji30) : Int) := dt_
have q194 : (ji30) < (l0.length : Int) := dt_
obtain ⟨ad194, e194, hx194_0, hx194_1, hx194_2, hx194_3, hx194_4, hx194_5, hx194_6⟩ := at_T98 HR0.out (ji30) p194 q194
have hw194_6 := hx194_6
have hw194_5 := hx194_5
have hw194_4 := hx194_4
have hw194_3 := hx194_3
have hw194_2 := hx194_2
have hw194_1 := hx194_1
have hw194_0 := hx194_0
obtain rfl : ad189 = ad194 := (by injection e194)
replace hx194_0 := mv HB.out hx194_0
replace hx194_1 := mv HB.out hx194_1
replace hx194_2 := mv HB.out hx194_2
replace hx194_3 := mv HB.out hx194_3
replace hx194_4 := mv HB.out hx194_4
replace hx194_5 := mv HB.out hx194_5
replace hx194_6 := mv HB.out hx194_6
replace p194 := eq_true p194
replace q194 := eq_true q194
first
| (
have p195 : 0 ≤ ((ji30) : Int) := dt_
have q195 : (ji30) < (l0.length : Int) := dt_
obtain ⟨ad195, e195, hx195_0, hx195_1, hx195_2, hx195_3, hx195_4, hx195_5, hx195_6⟩ := at_T98 HR0.out (ji30) p195 q195
have hw195_6 := hx195_6
have hw195_5 := hx195_5
have hw195_4 := hx195_4
have hw195_3 := hx195_3
have hw195_2 := hx195_2
have hw195_1 := hx195_1
have hw195_0 := hx195_0
obtain rfl : ad189 = ad195 := (by injection e195)
replace hx195_0 := mv HB.out hx195_0
replace hx195_1 := mv HB.out hx195_1
replace hx195_2 := mv HB.out hx195_2
replace hx195_3 := mv HB.out hx195_3
replace hx195_4 := mv HB.out hx195_4
replace hx195_5 := mv HB.out hx195_5
replace hx195_6 := mv HB.out hx195_6
replace p195 := eq_true p195
replace q195 := eq_true q195
refine start_ (n := 30) (S := fun w' => w'.cell? ⟨gb190, 0, none⟩ = some (.int .i64 ((rd_T98 l0 x4_2).f0)) ∧ w'.cell? ⟨gb190, 1, none⟩ = some (.int .i64 ((rd_T98 l0 x4_2).f1.f0)) ∧ w'.cell? ⟨gb190, 2, none⟩ = some (.int .i64 ((rd_T98 l0 x4_2).f1.f1)) ∧ w'.cell? ⟨gb190, 3, none⟩ = some (.bool ((rd_T98 l0 x4_2).f1.f2)) ∧ w'.cell? ⟨gb190, 4, none⟩ = some (.bool ((rd_T98 l0 x4_2).f1.f3)) ∧ w'.cell? ⟨gb190, 5, none⟩ = some (.bool ((rd_T98 l0 x4_2).f1.f4)) ∧ w'.cell? ⟨gb190, 6, none⟩ = some (.int .i64 ((rd_T98 l0 x4_2).f2)) ∧ w'.cell? (ad189.add (((ji30)).toNat * 7)) = some (.int .i64 ((rd_T98 l0 (ji30)).f0)) ∧ w'.cell? ⟨(ad189.add (((ji30)).toNat * 7)).block, (ad189.add (((ji30)).toNat * 7)).off + 1, none⟩ = some (.int .i64 ((rd_T98 l0 (ji30)).f1.f0)) ∧ w'.cell? ⟨(ad189.add (((ji30)).toNat * 7)).block, (ad189.add (((ji30)).toNat * 7)).off + 2, none⟩ = some (.int .i64 ((rd_T98 l0 (ji30)).f1.f1)) ∧ w'.cell? ⟨(ad189.add (((ji30)).toNat * 7)).block, (ad189.add (((ji30)).toNat * 7)).off + 3, none⟩ = some (.bool ((rd_T98 l0 (ji30)).f1.f2)) ∧ w'.cell? ⟨(ad189.add (((ji30)).toNat * 7)).block, (ad189.add (((ji30)).toNat * 7)).off + 4, none⟩ = some (.bool ((rd_T98 l0 (ji30)).f1.f3)) ∧ w'.cell? ⟨(ad189.add (((ji30)).toNat * 7)).block, (ad189.add (((ji30)).toNat * 7)).off + 5, none⟩ = some (.bool ((rd_T98 l0 (ji30)).f1.f4)) ∧ w'.cell? ⟨(ad189.add (((ji30)).toNat * 7)).block, (ad189.add (((ji30)).toNat * 7)).off + 6, none⟩ = some (.int .i64 ((rd_T98 l0 (ji30)).f2)) ∧ w'.cell? (ad189.add (((ji30)).toNat * 7)) = some (.int .i64 ((rd_T98 l0 (ji30)).f0)) ∧ w'.cell? ⟨(ad189.add (((ji30)).toNat * 7)).block, (ad189.add (((ji30)).toNat * 7)).off + 1, none⟩ = some (.int .i64 ((rd_T98 l0 (ji30)).f1.f0)) ∧ w'.cell? ⟨(ad189.add (((ji30)).toNat * 7)).block, (ad189.add (((ji30)).toNat * 7)).off + 2, none⟩ = some (.int .i64 ((rd_T98 l0 (ji30)).f1.f1)) ∧ w'.cell? ⟨(ad189.add (((ji30)).toNat * 7)).block, (ad189.add (((ji30)).toNat * 7)).off + 3, none⟩ = some (.bool ((rd_T98 l0 (ji30)).f1.f2)) ∧ w'.cell? ⟨(ad189.add (((ji30)).toNat * 7)).block, (ad189.add (((ji30)).toNat * 7)).off + 4, none⟩ = some (.bool ((rd_T98 l0 (ji30)).f1.f3)) ∧ w'.cell? ⟨(ad189.add (((ji30)).toNat * 7)).block, (ad189.add (((ji30)).toNat * 7)).off + 5, none⟩ = some (.bool ((rd_T98 l0 (ji30)).f1.f4)) ∧ w'.cell? ⟨(ad189.add (((ji30)).toNat * 7)).block, (ad189.add (((ji30)).toNat * 7)).off + 6, none⟩ = some (.int .i64 ((rd_T98 l0 (ji30)).f2))) (ds := []) (bm 30 0) (by kernel_rfl) rfl rfl ⟨(blk_cell BK190.out 0).trans rfl, (blk_cell BK190.out 1).trans rfl, (blk_cell BK190.out 2).trans rfl, (blk_cell BK190.out 3).trans rfl, (blk_cell BK190.out 4).trans rfl, (blk_cell BK190.out 5).trans rfl, (blk_cell BK190.out 6).trans rfl, ((HB.out.cell (World.block_lt_of_cell? w _ hw194_0)).trans hw194_0), ((HB.out.cell (World.block_lt_of_cell? w _ hw194_1)).trans hw194_1), ((HB.out.cell (World.block_lt_of_cell? w _ hw194_2)).trans hw194_2), ((HB.out.cell (World.block_lt_of_cell? w _ hw194_3)).trans hw194_3), ((HB.out.cell (World.block_lt_of_cell? w _ hw194_4)).trans hw194_4), ((HB.out.cell (World.block_lt_of_cell? w _ hw194_5)).trans hw194_5), ((HB.out.cell (World.block_lt_of_cell? w _ hw194_6)).trans hw194_6), ((HB.out.cell (World.block_lt_of_cell? w _ hw195_0)).trans hw195_0), ((HB.out.cell (World.block_lt_of_cell? w _ hw195_1)).trans hw195_1), ((HB.out.cell (World.block_lt_of_cell? w _ hw195_2)).trans hw195_2), ((HB.out.cell (World.block_lt_of_cell? w _ hw195_3)).trans hw195_3), ((HB.out.cell (World.block_lt_of_cell? w _ hw195_4)).trans hw195_4), ((HB.out.cell (World.block_lt_of_cell? w _ hw195_5)).trans hw195_5), ((HB.out.cell (World.block_lt_of_cell? w _ hw195_6)).trans hw195_6)⟩ (fun hHeld => ?_); refine with_tabW spec_RowOk.tab16 spec_RowOk.bits16 (fun HT_ HW_ => ?_)
generalize w27.drew = w39 at BK190 HB hx194_0 hx194_1 hx194_2 hx194_3 hx194_4 hx194_5 hx194_6 hx195_0 hx195_1 hx195_2 hx195_3 hx195_4 hx195_5 hx195_6 hHeld ⊢
)
| (
refine start_ (n := 30) (S := fun w' => w'.cell? ⟨gb190, 0, none⟩ = some (.int .i64 ((rd_T98 l0 x4_2).f0)) ∧ w'.cell? ⟨gb190, 1, none⟩ = some (.int .i64 ((rd_T98 l0 x4_2).f1.f0)) ∧ w'.cell? ⟨gb190, 2, none⟩ = some (.int .i64 ((rd_T98 l0 x4_2).f1.f1)) ∧ w'.cell? ⟨gb190, 3, none⟩ = some (.bool ((rd_T98 l0 x4_2).f1.f2)) ∧ w'.cell? ⟨gb190, 4, none⟩ = some (.bool ((rd_T98 l0 x4_2).f1.f3)) ∧ w'.cell? ⟨gb190, 5, none⟩ = some (.bool ((rd_T98 l0 x4_2).f1.f4)) ∧ w'.cell? ⟨gb190, 6, none⟩ = some (.int .i64 ((rd_T98 l0 x4_2).f2)) ∧ w'.cell? (ad189.add (((ji30)).toNat * 7)) = some (.int .i64 ((rd_T98 l0 (ji30)).f0)) ∧ w'.cell? ⟨(ad189.add (((ji30)).toNat * 7)).block, (ad189.add (((ji30)).toNat * 7)).off + 1, none⟩ = some (.int .i64 ((rd_T98 l0 (ji30)).f1.f0)) ∧ w'.cell? ⟨(ad189.add (((ji30)).toNat * 7)).block, (ad189.add (((ji30)).toNat * 7)).off + 2, none⟩ = some (.int .i64 ((rd_T98 l0 (ji30)).f1.f1)) ∧ w'.cell? ⟨(ad189.add (((ji30)).toNat * 7)).block, (ad189.add (((ji30)).toNat * 7)).off + 3, none⟩ = some (.bool ((rd_T98 l0 (ji30)).f1.f2)) ∧ w'.cell? ⟨(ad189.add (((ji30)).toNat * 7)).block, (ad189.add (((ji30)).toNat * 7)).off + 4, none⟩ = some (.bool ((rd_T98 l0 (ji30)).f1.f3)) ∧ w'.cell? ⟨(ad189.add (((ji30)).toNat * 7)).block, (ad189.add (((ji30)).toNat * 7)).off + 5, none⟩ = some (.bool ((rd_T98 l0 (ji30)).f1.f4)) ∧ w'.cell? ⟨(ad189.add (((ji30)).toNat * 7)).block, (ad189.add (((ji30)).toNat * 7)).off + 6, none⟩ = some (.int .i64 ((rd_T98 l0 (ji30)).f2))) (ds := []) (bm 30 0) (by kernel_rfl) rfl rfl ⟨(blk_cell BK190.out 0).trans rfl, (blk_cell BK190.out 1).trans rfl, (blk_cell BK190.out 2).trans rfl, (blk_cell BK190.out 3).trans rfl, (blk_cell BK190.out 4).trans rfl, (blk_cell BK190.out 5).trans rfl, (blk_cell BK190.out 6).trans rfl, ((HB.out.cell (World.block_lt_of_cell? w _ hw194_0)).trans hw194_0), ((HB.out.cell (World.block_lt_of_cell? w _ hw194_1)).trans hw194_1), ((HB.out.cell (World.block_lt_of_cell? w _ hw194_2)).trans hw194_2), ((HB.out.cell (World.block_lt_of_cell? w _ hw194_3)).trans hw194_3), ((HB.out.cell (World.block_lt_of_cell? w _ hw194_4)).trans hw194_4), ((HB.out.cell (World.block_lt_of_cell? w _ hw194_5)).trans hw194_5), ((HB.out.cell (World.block_lt_of_cell? w _ hw194_6)).trans hw194_6)⟩ (fun hHeld => ?_); refine with_tabW spec_RowOk.tab16 spec_RowOk.bits16 (fun HT_ HW_ => ?_)
generalize w27.drew = w49 at BK190 HB hx194_0 hx194_1 hx194_2 hx194_3 hx194_4 hx194_5 hx194_6 hHeld ⊢
)
)
| (
refine start_ (n := 30) (S := fun w' => w'.cell? ⟨gb190, 0, none⟩ = some (.int .i64 ((rd_T98 l0 x4_2).f0)) ∧ w'.cell? ⟨gb190, 1, none⟩ = some (.int .i64 ((rd_T98 l0 x4_2).f1.f0)) ∧ w'.cell? ⟨gb190, 2, none⟩ = some (.int .i64 ((rd_T98 l0 x4_2).f1.f1)) ∧ w'.cell? ⟨gb190, 3, none⟩ = some (.bool ((rd_T98 l0 x4_2).f1.f2)) ∧ w'.cell? ⟨gb190, 4, none⟩ = some (.bool ((rd_T98 l0 x4_2).f1.f3)) ∧ w'.cell? ⟨gb190, 5, none⟩ = some (.bool ((rd_T98 l0 x4_2).f1.f4)) ∧ w'.cell? ⟨gb190, 6, none⟩ = some (.int .i64 ((rd_T98 l0 x4_2).f2))) (ds := []) (bm 30 0) (by kernel_rfl) rfl rfl (bc7 BK190) (fun hHeld => ?_); refine with_tabW spec_RowOk.tab16 spec_RowOk.bits16 (fun HT_ HW_ => ?_)
generalize w27.drew = w29 at BK190 HB hHeld ⊢
)
refine pu_ 0 37 (bm 30 1) HT_.out ?_
refine take_ (i := 1) (N := some 38) (v := ?_) (a' := ?_) (bm 30 3) rfl rfl (take_ofW HT_.out HW_.out (by kernel_rfl)) (fun _ _ _ h => h) (Or.inl ⟨by rfl, ?_⟩) hHeld ?_ ?_
rotate_left
first
| (
·(
rintro w' ⟨s0, s1, s2, s3, s4, s5, s6, s7, s8, s9, s10, s11, s12, s13, s14, s15, s16, s17, s18, s19, s20⟩
go_simp
with_reducible rfl
)
)
| (
·(
rintro w' ⟨s0, s1, s2, s3, s4, s5, s6, s7, s8, s9, s10, s11, s12, s13⟩
go_simp
with_reducible rfl
)
)
| (
·(
rintro w' ⟨s0, s1, s2, s3, s4, s5, s6⟩
go_simp
with_reducible rfl
)
)
rotate_left
·(
simp only [Act.put, List.setIfInBounds_toArray, List.set_cons_zero, List.set_cons_succ, i64_w, i32_w]
rfl
)
refine one_ (i := 2) (N := some 39) (bm 30 7) rfl rfl (one_of HT_.out (by kernel_rfl)) (by decide) (fun K hK => ?_)
refine goes_ Try.func120 (by kernel_rfl) rfl #[.int .i64 ((rd_T98 l0 x4_2).f0)] (by rfl) rfl rfl mt ?_
with_reducible refine (spec_Width.calls k2 ((rd_T98 l0 x4_2).f0) t193 _ A22.out).mono ?_
rintro e w' ⟨rfl, ⟨nd, rfl⟩⟩
refine ⟨_, rfl, ?_⟩
first
| refine hK.out _ _ ⟨(blk_cell BK190.out 0).trans rfl, (blk_cell BK190.out 1).trans rfl, (blk_cell BK190.out 2).trans rfl, (blk_cell BK190.out 3).trans rfl, (blk_cell BK190.out 4).trans rfl, (blk_cell BK190.out 5).trans rfl, (blk_cell BK190.out 6).trans rfl, ((HB.out.cell (World.block_lt_of_cell? w _ hw194_0)).trans hw194_0), ((HB.out.cell (World.block_lt_of_cell? w _ hw194_1)).trans hw194_1), ((HB.out.cell (World.block_lt_of_cell? w _ hw194_2)).trans hw194_2), ((HB.out.cell (World.block_lt_of_cell? w _ hw194_3)).trans hw194_3), ((HB.out.cell (World.block_lt_of_cell? w _ hw194_4)).trans hw194_4), ((HB.out.cell (World.block_lt_of_cell? w _ hw194_5)).trans hw194_5), ((HB.out.cell (World.block_lt_of_cell? w _ hw194_6)).trans hw194_6), ((HB.out.cell (World.block_lt_of_cell? w _ hw195_0)).trans hw195_0), ((HB.out.cell (World.block_lt_of_cell? w _ hw195_1)).trans hw195_1), ((HB.out.cell (World.block_lt_of_cell? w _ hw195_2)).trans hw195_2), ((HB.out.cell (World.block_lt_of_cell? w _ hw195_3)).trans hw195_3), ((HB.out.cell (World.block_lt_of_cell? w _ hw195_4)).trans hw195_4), ((HB.out.cell (World.block_lt_of_cell? w _ hw195_5)).trans hw195_5), ((HB.out.cell (World.block_lt_of_cell? w _ hw195_6)).trans hw195_6)⟩ (fun hHeld => ?_)
| refine hK.out _ _ ⟨(blk_cell BK190.out 0).trans rfl, (blk_cell BK190.out 1).trans rfl, (blk_cell BK190.out 2).trans rfl, (blk_cell BK190.out 3).trans rfl, (blk_cell BK190.out 4).trans rfl, (blk_cell BK190.out 5).trans rfl, (blk_cell BK190.out 6).trans rfl, ((HB.out.cell (World.block_lt_of_cell? w _ hw194_0)).trans hw194_0), ((HB.out.cell (World.block_lt_of_cell? w _ hw194_1)).trans hw194_1), ((HB.out.cell (World.block_lt_of_cell? w _ hw194_2)).trans hw194_2), ((HB.out.cell (World.block_lt_of_cell? w _ hw194_3)).trans hw194_3), ((HB.out.cell (World.block_lt_of_cell? w _ hw194_4)).trans hw194_4), ((HB.out.cell (World.block_lt_of_cell? w _ hw194_5)).trans hw194_5), ((HB.out.cell (World.block_lt_of_cell? w _ hw194_6)).trans hw194_6)⟩ (fun hHeld => ?_)
| refine hK.out _ _ (bc7 BK190) (fun hHeld => ?_)
clear hK K
refine norm_ (a' := _) (show Act.put _ (some 39) _ = _ from na) ?_
refine pu_ 3 40 (bm 30 15) HT_.out ?_
refine pu_ 4 41 (bm 30 31) HT_.out ?_
first | refine pu_ 5 42 (bm 30 63) HT_.out ?_ | refine un_ 5 42 (bm 30 63) HT_.out ?_
first | refine pu_ 6 43 (bm 30 127) HT_.out ?_ | refine un_ 6 43 (bm 30 127) HT_.out ?_
first | refine pu_ 7 44 (bm 30 255) HT_.out ?_ | refine un_ 7 44 (bm 30 255) HT_.out ?_
first | refine pu_ 8 45 (bm 30 511) HT_.out ?_ | refine un_ 8 45 (bm 30 511) HT_.out ?_
refine pu_ 9 46 (bm 30 1023) HT_.out ?_
refine pu_ 10 47 (bm 30 2047) HT_.out ?_
first | refine un_ 11 48 (bm 30 4095) HT_.out ?_ | refine pu_ 11 48 (bm 30 4095) HT_.out ?_
first | refine un_ 12 49 (bm 30 8191) HT_.out ?_ | refine pu_ 12 49 (bm 30 8191) HT_.out ?_
first | refine un_ 13 50 (bm 30 16383) HT_.out ?_ | refine pu_ 13 50 (bm 30 16383) HT_.out ?_
first | refine un_ 14 51 (bm 30 32767) HT_.out ?_ | refine pu_ 14 51 (bm 30 32767) HT_.out ?_
first | refine un_ 15 52 (bm 30 65535) HT_.out ?_ | refine pu_ 15 52 (bm 30 65535) HT_.out ?_
first
| (
refine take_ (i := 16) (N := some 53) (v := ?_) (a' := ?_) (bm 30 131071) rfl rfl (take_ofW HT_.out HW_.out (by kernel_rfl)) (fun _ _ _ h => h) (Or.inl ⟨by rfl, ?_⟩) hHeld ?_ ?_
rotate_left
first
| (
·(
rintro w' ⟨s0, s1, s2, s3, s4, s5, s6, s7, s8, s9, s10, s11, s12, s13, s14, s15, s16, s17, s18, s19, s20⟩
go_simp
with_reducible rfl
)
)
| (
·(
rintro w' ⟨s0, s1, s2, s3, s4, s5, s6, s7, s8, s9, s10, s11, s12, s13⟩
go_simp
with_reducible rfl
)
)
rotate_left
·(
simp only [Act.put, List.setIfInBounds_toArray, List.set_cons_zero, List.set_cons_succ, i64_w, i32_w]
rfl
)
)
| refine un_ 16 53 (bm 30 131071) HT_.out ?_
first | refine un_ 17 54 (bm 30 262143) HT_.out ?_ | refine pu_ 17 54 (bm 30 262143) HT_.out ?_
refine pu_ 18 55 (bm 30 524287) HT_.out ?_
refine pu_ 19 56 (bm 30 1048575) HT_.out ?_
first | refine un_ 20 57 (bm 30 2097151) HT_.out ?_ | refine pu_ 20 57 (bm 30 2097151) HT_.out ?_
first | refine un_ 21 58 (bm 30 4194303) HT_.out ?_ | refine pu_ 21 58 (bm 30 4194303) HT_.out ?_
first | refine un_ 22 59 (bm 30 8388607) HT_.out ?_ | refine pu_ 22 59 (bm 30 8388607) HT_.out ?_
first | refine un_ 23 60 (bm 30 16777215) HT_.out ?_ | refine pu_ 23 60 (bm 30 16777215) HT_.out ?_
first | refine un_ 24 61 (bm 30 33554431) HT_.out ?_ | refine pu_ 24 61 (bm 30 33554431) HT_.out ?_
first
| (
refine pu_ 26 63 (bm 30 100663295) HT_.out ?_
refine take_ (i := 25) (N := some 62) (v := ?_) (a' := ?_) (bm 30 134217727) rfl rfl (take_ofW HT_.out HW_.out (by kernel_rfl)) (fun _ _ _ h => h) (Or.inl ⟨by rfl, ?_⟩) hHeld ?_ ?_
rotate_left
·(
rintro w' ⟨s0, s1, s2, s3, s4, s5, s6, s7, s8, s9, s10, s11, s12, s13, s14, s15, s16, s17, s18, s19, s20⟩
go_simp
with_reducible rfl
)
rotate_left
·(
simp only [Act.put, List.setIfInBounds_toArray, List.set_cons_zero, List.set_cons_succ, i64_w, i32_w]
rfl
)
refine take_ (i := 27) (N := some 64) (v := ?_) (a' := ?_) (bm 30 268435455) rfl rfl (take_ofW HT_.out HW_.out (by kernel_rfl)) (fun _ _ _ h => h) (Or.inl ⟨by rfl, ?_⟩) hHeld ?_ ?_
rotate_left
·(
rintro w' ⟨s0, s1, s2, s3, s4, s5, s6, s7, s8, s9, s10, s11, s12, s13, s14, s15, s16, s17, s18, s19, s20⟩
go_simp
with_reducible rfl
)
rotate_left
·(
simp only [Act.put, List.setIfInBounds_toArray, List.set_cons_zero, List.set_cons_succ, i64_w, i32_w]
rfl
)
)
| (
refine un_ 25 62 (bm 30 67108863) HT_.out ?_
refine un_ 26 63 (bm 30 134217727) HT_.out ?_
refine un_ 27 64 (bm 30 268435455) HT_.out ?_
)
first | refine un_ 28 65 (bm 30 536870911) HT_.out ?_ | refine pu_ 28 65 (bm 30 536870911) HT_.out ?_
refine pu_ 29 66 (bm 30 1073741823) HT_.out ?_
refine done_ (done_of HT_.out (by kernel_rfl)) ?_
try go_wp2
first
| (
have q_ := lf9_
go_roundg k2
case measure => have := HJ1.out; have := HK2.out; omega
case rel => exact ⟨(ji30), (by first | rfl | (simp; done) | (simp only [← hji30] <;> (first | rfl | simp)) | (simp [*]; done)), H', ⟨by have := HJ1.out; have := HK2.out; omega⟩, ⟨by repeat (first | (with_reducible first | exact HB.out | apply b1 | apply b2 | apply b3 | refine below_set ?_ GE190.out) | exact HB.out)⟩⟩
)
| (
first | have q_ := lf8_ | have q_ := lf10_
go_ret
exact ⟨by first | rfl | (simp [errW_none, errW_some] <;> rfl) | (simp only [← hji30]; first | rfl | (simp [errW_none, errW_some] <;> rfl)) | (simp [*, errW_none, errW_some] <;> rfl), by repeat (first | (with_reducible first | exact HB.out | apply b1 | apply b2 | apply b3 | refine below_set ?_ GE190.out) | exact HB.out)⟩
)
| (
first | have q_ := lf7_ | have q_ := lf11_
go_ret
exact ⟨by first | rfl | (simp [errW_none, errW_some] <;> rfl) | (simp [*, errW_none, errW_some] <;> rfl), by repeat (first | (with_reducible first | exact HB.out | apply b1 | apply b2 | apply b3 | refine below_set ?_ GE190.out) | exact HB.out)⟩
)
)
)
·(
rw [if_neg c21] at H
have c21b0 : (((rd_T98 l0 x4_2).f2) == 1) = false := beq_eq_false_iff_ne.mpr c21
have c21b1 : (((rd_T98 l0 x4_2).f2) != 1) = true := bne_iff_ne.mpr c21
refine em_ (p := ((rd_T98 l0 x4_2).f2) = 2) (fun c55 => ?g12p) (fun c55 => ?g12n)
case' g12p => (
rw [if_pos c55] at H
have c55b0 : (((rd_T98 l0 x4_2).f2) == 2) = true := beq_iff_eq.mpr c55
have c55b1 : (((rd_T98 l0 x4_2).f2) != 2) = false := bne_eq_false_iff_eq.mpr c55
clear c55
refine em_ (p := ((rd_T98 l0 x4_2).f0) = 0) (fun c56 => ?g11p) (fun c56 => ?g11n)
case' g11p => (
rw [if_pos c56] at H
have c56b0 : (((rd_T98 l0 x4_2).f0) == 0) = true := beq_iff_eq.mpr c56
have c56b1 : (((rd_T98 l0 x4_2).f0) != 0) = false := bne_eq_false_iff_eq.mpr c56
clear c56
refine em_ (p := x4_2 = 0) (fun c57 => ?g10p) (fun c57 => ?g10n)
case' g10p => (
rw [if_pos c57] at H
have c57b0 : (x4_2 == 0) = true := beq_iff_eq.mpr c57
have c57b1 : (x4_2 != 0) = false := bne_eq_false_iff_eq.mpr c57
clear c57
obtain rfl := Option.some.inj H
have lf12_ := trivial
)
case' g10n => (
rw [if_neg c57] at H
have c57b0 : (x4_2 == 0) = false := beq_eq_false_iff_ne.mpr c57
have c57b1 : (x4_2 != 0) = true := bne_iff_ne.mpr c57
obtain ⟨ji62, hji62⟩ : ∃ j_ : Int, (wrap64 (x4_2 - 1)) = j_ := ⟨_, rfl⟩
replace H : (if 0 ≤ (ji62) then (if (ji62) < (l0.length : Int) then (if ((rd_T98 l0 (ji62)).f2) = 1 then (spec_RowOk.l0 k2 l0 (l0.length : Int) (wrap64 (x4_2 + 1))) else (some false)) else (none)) else (none)) = some r := by first | (rw [hji62] at H; exact H) | (simp only [hji62] at H ⊢; exact H)
(try rw [hji62] at A8)
have hji62w : (IntKind.i64.wrap (x4_2 - 1)) = ji62 := (i64_w _).trans hji62
refine em_ (p := 0 ≤ (ji62)) (fun c63 => ?g9p) (fun c63 => ?g9n)
case' g9p => (
rw [if_pos c63] at H
have c63b0 : decide (0 ≤ (ji62)) = true := decide_eq_true c63
clear c63
refine em_ (p := (ji62) < (l0.length : Int)) (fun c64 => ?g8p) (fun c64 => ?g8n)
case' g8p => (
rw [if_pos c64] at H
have c64b0 : decide ((ji62) < (l0.length : Int)) = true := decide_eq_true c64
clear c64
refine em_ (p := ((rd_T98 l0 (ji62)).f2) = 1) (fun c65 => ?g7p) (fun c65 => ?g7n)
case' g7p => (
rw [if_pos c65] at H
have c65b0 : (((rd_T98 l0 (ji62)).f2) == 1) = true := beq_iff_eq.mpr c65
have c65b1 : (((rd_T98 l0 (ji62)).f2) != 1) = false := bne_eq_false_iff_eq.mpr c65
clear c65
have H' := am H
clear H
have lf13_ := trivial
)
case' g7n => (
rw [if_neg c65] at H
have c65b0 : (((rd_T98 l0 (ji62)).f2) == 1) = false := beq_eq_false_iff_ne.mpr c65
have c65b1 : (((rd_T98 l0 (ji62)).f2) != 1) = true := bne_iff_ne.mpr c65
obtain rfl := Option.some.inj H
have lf14_ := trivial
)
)
case g8n => (
rw [if_neg c64] at H
exact absurd H (by simp)
)
)
case g9n => (
rw [if_neg c63] at H
exact absurd H (by simp)
)
)
)
case' g11n => (
rw [if_neg c56] at H
have c56b0 : (((rd_T98 l0 x4_2).f0) == 0) = false := beq_eq_false_iff_ne.mpr c56
have c56b1 : (((rd_T98 l0 x4_2).f0) != 0) = true := bne_iff_ne.mpr c56
obtain rfl := Option.some.inj H
have lf15_ := trivial
)
)
case' g12n => (
rw [if_neg c55] at H
have c55b0 : (((rd_T98 l0 x4_2).f2) == 2) = false := beq_eq_false_iff_ne.mpr c55
have c55b1 : (((rd_T98 l0 x4_2).f2) != 2) = true := bne_iff_ne.mpr c55
obtain rfl := Option.some.inj H
have lf16_ := trivial
)
all_goals (
have p189 : 0 ≤ (x4_2 : Int) := dt_
have q189 : x4_2 < (l0.length : Int) := dt_
obtain ⟨ad189, e189, hx189_0, hx189_1, hx189_2, hx189_3, hx189_4, hx189_5, hx189_6⟩ := at_T98 HR0.out x4_2 p189 q189
cases e189
replace hx189_0 := mv HB.out hx189_0
replace hx189_1 := mv HB.out hx189_1
replace hx189_2 := mv HB.out hx189_2
replace hx189_3 := mv HB.out hx189_3
replace hx189_4 := mv HB.out hx189_4
replace hx189_5 := mv HB.out hx189_5
replace hx189_6 := mv HB.out hx189_6
replace p189 := eq_true p189
replace q189 := eq_true q189
go_wp2_with (first | ((with_reducible refine gate_callee (f := 119) rfl ?_); refine gl_ (some 25) Try.func119 #[.agg #[.int .i64 ((rd_T98 l0 x4_2).f1.f0), .int .i64 ((rd_T98 l0 x4_2).f1.f1), .bool ((rd_T98 l0 x4_2).f1.f2), .bool ((rd_T98 l0 x4_2).f1.f3), .bool ((rd_T98 l0 x4_2).f1.f4)]] ?_; (with_reducible refine (spec_StyleOk.calls ((rd_T98 l0 x4_2).f1.f0) ((rd_T98 l0 x4_2).f1.f1) ((rd_T98 l0 x4_2).f1.f2) ((rd_T98 l0 x4_2).f1.f3) ((rd_T98 l0 x4_2).f1.f4) true _ A8.out).mono ?_); rintro e w68 ⟨rfl, hb⟩; refine ⟨_, rfl, ?_⟩; replace BK190 := am (blk_below (g := gb190) (o := .cells #[.int .i64 ((rd_T98 l0 x4_2).f0), .int .i64 ((rd_T98 l0 x4_2).f1.f0), .int .i64 ((rd_T98 l0 x4_2).f1.f1), .bool ((rd_T98 l0 x4_2).f1.f2), .bool ((rd_T98 l0 x4_2).f1.f3), .bool ((rd_T98 l0 x4_2).f1.f4), .int .i64 ((rd_T98 l0 x4_2).f2)] 98 (0, 0)) (rp_0_1_2_3_4_5_6 BK190) hb); replace HB := am (below_step (rb1 HB GE190) hb); (try clear hb); (try clear hb2); (try clear hk); (try clear hi); have hcz69_0 : w68.cell? ⟨gb190, 0, none⟩ = some (.int .i64 ((rd_T98 l0 x4_2).f0)) := (blk_cell BK190.out 0).trans rfl; have hcz69_1 : w68.cell? ⟨gb190, 1, none⟩ = some (.int .i64 ((rd_T98 l0 x4_2).f1.f0)) := (blk_cell BK190.out 1).trans rfl; have hcz69_2 : w68.cell? ⟨gb190, 2, none⟩ = some (.int .i64 ((rd_T98 l0 x4_2).f1.f1)) := (blk_cell BK190.out 2).trans rfl; have hcz69_3 : w68.cell? ⟨gb190, 3, none⟩ = some (.bool ((rd_T98 l0 x4_2).f1.f2)) := (blk_cell BK190.out 3).trans rfl; have hcz69_4 : w68.cell? ⟨gb190, 4, none⟩ = some (.bool ((rd_T98 l0 x4_2).f1.f3)) := (blk_cell BK190.out 4).trans rfl; have hcz69_5 : w68.cell? ⟨gb190, 5, none⟩ = some (.bool ((rd_T98 l0 x4_2).f1.f4)) := (blk_cell BK190.out 5).trans rfl; have hcz69_6 : w68.cell? ⟨gb190, 6, none⟩ = some (.int .i64 ((rd_T98 l0 x4_2).f2)) := (blk_cell BK190.out 6).trans rfl; have hfz69_0 := blk_frozen BK190.out 0; have hfz69_1 := blk_frozen BK190.out 1; have hfz69_2 := blk_frozen BK190.out 2; have hfz69_3 := blk_frozen BK190.out 3; have hfz69_4 := blk_frozen BK190.out 4; have hfz69_5 := blk_frozen BK190.out 5; have hfz69_6 := blk_frozen BK190.out 6; have p196 : 0 ≤ ((ji62) : Int) := dt_; have q196 : (ji62) < (l0.length : Int) := dt_; obtain ⟨ad196, e196, hx196_0, hx196_1, hx196_2, hx196_3, hx196_4, hx196_5, hx196_6⟩ := at_T98 HR0.out (ji62) p196 q196; obtain rfl : ad189 = ad196 := (by injection e196); replace hx196_0 := (HB.out.cell (World.block_lt_of_cell? w _ hx196_0)).trans hx196_0; replace hx196_1 := (HB.out.cell (World.block_lt_of_cell? w _ hx196_1)).trans hx196_1; replace hx196_2 := (HB.out.cell (World.block_lt_of_cell? w _ hx196_2)).trans hx196_2; replace hx196_3 := (HB.out.cell (World.block_lt_of_cell? w _ hx196_3)).trans hx196_3; replace hx196_4 := (HB.out.cell (World.block_lt_of_cell? w _ hx196_4)).trans hx196_4; replace hx196_5 := (HB.out.cell (World.block_lt_of_cell? w _ hx196_5)).trans hx196_5; replace hx196_6 := (HB.out.cell (World.block_lt_of_cell? w _ hx196_6)).trans hx196_6; replace p196 := eq_true p196; replace q196 := eq_true q196) | ((with_reducible refine gate_callee (f := 119) rfl ?_); refine gl_ (some 25) Try.func119 #[.agg #[.int .i64 ((rd_T98 l0 x4_2).f1.f0), .int .i64 ((rd_T98 l0 x4_2).f1.f1), .bool ((rd_T98 l0 x4_2).f1.f2), .bool ((rd_T98 l0 x4_2).f1.f3), .bool ((rd_T98 l0 x4_2).f1.f4)]] ?_; (with_reducible refine (spec_StyleOk.calls ((rd_T98 l0 x4_2).f1.f0) ((rd_T98 l0 x4_2).f1.f1) ((rd_T98 l0 x4_2).f1.f2) ((rd_T98 l0 x4_2).f1.f3) ((rd_T98 l0 x4_2).f1.f4) true _ A8.out).mono ?_); rintro e w60 ⟨rfl, hb⟩; refine ⟨_, rfl, ?_⟩; replace BK190 := am (blk_below (g := gb190) (o := .cells #[.int .i64 ((rd_T98 l0 x4_2).f0), .int .i64 ((rd_T98 l0 x4_2).f1.f0), .int .i64 ((rd_T98 l0 x4_2).f1.f1), .bool ((rd_T98 l0 x4_2).f1.f2), .bool ((rd_T98 l0 x4_2).f1.f3), .bool ((rd_T98 l0 x4_2).f1.f4), .int .i64 ((rd_T98 l0 x4_2).f2)] 98 (0, 0)) (rp_0_1_2_3_4_5_6 BK190) hb); replace HB := am (below_step (rb1 HB GE190) hb); (try clear hb); (try clear hb2); (try clear hk); (try clear hi); have hcz61_0 : w60.cell? ⟨gb190, 0, none⟩ = some (.int .i64 ((rd_T98 l0 x4_2).f0)) := (blk_cell BK190.out 0).trans rfl; have hcz61_1 : w60.cell? ⟨gb190, 1, none⟩ = some (.int .i64 ((rd_T98 l0 x4_2).f1.f0)) := (blk_cell BK190.out 1).trans rfl; have hcz61_2 : w60.cell? ⟨gb190, 2, none⟩ = some (.int .i64 ((rd_T98 l0 x4_2).f1.f1)) := (blk_cell BK190.out 2).trans rfl; have hcz61_3 : w60.cell? ⟨gb190, 3, none⟩ = some (.bool ((rd_T98 l0 x4_2).f1.f2)) := (blk_cell BK190.out 3).trans rfl; have hcz61_4 : w60.cell? ⟨gb190, 4, none⟩ = some (.bool ((rd_T98 l0 x4_2).f1.f3)) := (blk_cell BK190.out 4).trans rfl; have hcz61_5 : w60.cell? ⟨gb190, 5, none⟩ = some (.bool ((rd_T98 l0 x4_2).f1.f4)) := (blk_cell BK190.out 5).trans rfl; have hcz61_6 : w60.cell? ⟨gb190, 6, none⟩ = some (.int .i64 ((rd_T98 l0 x4_2).f2)) := (blk_cell BK190.out 6).trans rfl; have hfz61_0 := blk_frozen BK190.out 0; have hfz61_1 := blk_frozen BK190.out 1; have hfz61_2 := blk_frozen BK190.out 2; have hfz61_3 := blk_frozen BK190.out 3; have hfz61_4 := blk_frozen BK190.out 4; have hfz61_5 := blk_frozen BK190.out 5; have hfz61_6 := blk_frozen BK190.out 6) | ((with_reducible refine gate_dst (N := 5) rfl ?_); refine box_event ?hg (N := 5) ?hd (cs := #[.int .i64 0, .int .i64 0, .int .i64 0, .bool false, .bool false, .bool false, .int .i64 0]) (t := 98) ?hr ?_; (case hd => rfl); (case hg => rfl); (case hr => first | (go_simp; done) | (go_simp; rfl)); intro gb190 hg w58 hbox hb; have BK190 := am (hbox); have GW190 := am (gw hg (rb HB)); have GE190 := GW190; replace HB := am (below_step (rb HB) hb); clear hb hbox hg; have hcz59_0 : w58.cell? ⟨gb190, 0, none⟩ = some (.int .i64 0) := (blk_cell BK190.out 0).trans rfl; have hcz59_1 : w58.cell? ⟨gb190, 1, none⟩ = some (.int .i64 0) := (blk_cell BK190.out 1).trans rfl; have hcz59_2 : w58.cell? ⟨gb190, 2, none⟩ = some (.int .i64 0) := (blk_cell BK190.out 2).trans rfl; have hcz59_3 : w58.cell? ⟨gb190, 3, none⟩ = some (.bool false) := (blk_cell BK190.out 3).trans rfl; have hcz59_4 : w58.cell? ⟨gb190, 4, none⟩ = some (.bool false) := (blk_cell BK190.out 4).trans rfl; have hcz59_5 : w58.cell? ⟨gb190, 5, none⟩ = some (.bool false) := (blk_cell BK190.out 5).trans rfl; have hcz59_6 : w58.cell? ⟨gb190, 6, none⟩ = some (.int .i64 0) := (blk_cell BK190.out 6).trans rfl; have hfz59_0 := blk_frozen BK190.out 0; have hfz59_1 := blk_frozen BK190.out 1; have hfz59_2 := blk_frozen BK190.out 2; have hfz59_3 := blk_frozen BK190.out 3; have hfz59_4 := blk_frozen BK190.out 4; have hfz59_5 := blk_frozen BK190.out 5; have hfz59_6 := blk_frozen BK190.out 6))
first
| (
have q_ := lf13_
go_roundg k2
case measure => have := HJ1.out; have := HK2.out; omega
case rel => exact ⟨(wrap64 (x4_2 + 1)), (by first | rfl | (simp; done) | (simp [*]; done)), H', ⟨by have := HJ1.out; have := HK2.out; omega⟩, ⟨by repeat (first | (with_reducible first | exact HB.out | apply b1 | apply b2 | apply b3 | refine below_set ?_ GE190.out) | exact HB.out)⟩⟩
)
| (
have q_ := lf14_
go_ret
exact ⟨by first | rfl | (simp [errW_none, errW_some] <;> rfl) | (simp only [← hji62]; first | rfl | (simp [errW_none, errW_some] <;> rfl)) | (simp [*, errW_none, errW_some] <;> rfl), by repeat (first | (with_reducible first | exact HB.out | apply b1 | apply b2 | apply b3 | refine below_set ?_ GE190.out) | exact HB.out)⟩
)
| (
first | have q_ := lf12_ | have q_ := lf15_ | have q_ := lf16_
go_ret
exact ⟨by first | rfl | (simp [errW_none, errW_some] <;> rfl) | (simp [*, errW_none, errW_some] <;> rfl), by repeat (first | (with_reducible first | exact HB.out | apply b1 | apply b2 | apply b3 | refine below_set ?_ GE190.out) | exact HB.out)⟩
)
)
)
)
)
case' g14n => (
replace c9 := Bool.eq_false_iff.mpr c9
subst c9
have H1 : (some false) = some r := by rw [if_neg (show ¬ (false = true) by decide)] at H; exact H
clear H
have H := H1
clear H1
obtain rfl := Option.some.inj H
have lf17_ := trivial
)
)
case g15n => (
rw [if_neg c7] at H
exact absurd H (by simp)
)
)
case g16n => (
rw [if_neg c6] at H
exact absurd H (by simp)
)
all_goals (
have p189 : 0 ≤ (x4_2 : Int) := dt_
have q189 : x4_2 < (l0.length : Int) := dt_
obtain ⟨ad189, e189, hx189_0, hx189_1, hx189_2, hx189_3, hx189_4, hx189_5, hx189_6⟩ := at_T98 HR0.out x4_2 p189 q189
cases e189
replace hx189_0 := mv HB.out hx189_0
replace hx189_1 := mv HB.out hx189_1
replace hx189_2 := mv HB.out hx189_2
replace hx189_3 := mv HB.out hx189_3
replace hx189_4 := mv HB.out hx189_4
replace hx189_5 := mv HB.out hx189_5
replace hx189_6 := mv HB.out hx189_6
replace p189 := eq_true p189
replace q189 := eq_true q189
go_wp2_with (first | ((with_reducible refine gate_callee (f := 119) rfl ?_); refine gl_ (some 25) Try.func119 #[.agg #[.int .i64 ((rd_T98 l0 x4_2).f1.f0), .int .i64 ((rd_T98 l0 x4_2).f1.f1), .bool ((rd_T98 l0 x4_2).f1.f2), .bool ((rd_T98 l0 x4_2).f1.f3), .bool ((rd_T98 l0 x4_2).f1.f4)]] ?_; (with_reducible refine (spec_StyleOk.calls ((rd_T98 l0 x4_2).f1.f0) ((rd_T98 l0 x4_2).f1.f1) ((rd_T98 l0 x4_2).f1.f2) ((rd_T98 l0 x4_2).f1.f3) ((rd_T98 l0 x4_2).f1.f4) true _ A8.out).mono ?_); rintro e w15 ⟨rfl, hb⟩; refine ⟨_, rfl, ?_⟩; replace BK190 := am (blk_below (g := gb190) (o := .cells #[.int .i64 ((rd_T98 l0 x4_2).f0), .int .i64 ((rd_T98 l0 x4_2).f1.f0), .int .i64 ((rd_T98 l0 x4_2).f1.f1), .bool ((rd_T98 l0 x4_2).f1.f2), .bool ((rd_T98 l0 x4_2).f1.f3), .bool ((rd_T98 l0 x4_2).f1.f4), .int .i64 ((rd_T98 l0 x4_2).f2)] 98 (0, 0)) (rp_0_1_2_3_4_5_6 BK190) hb); replace HB := am (below_step (rb1 HB GE190) hb); (try clear hb); (try clear hb2); (try clear hk); (try clear hi); have hcz16_0 : w15.cell? ⟨gb190, 0, none⟩ = some (.int .i64 ((rd_T98 l0 x4_2).f0)) := (blk_cell BK190.out 0).trans rfl; have hcz16_1 : w15.cell? ⟨gb190, 1, none⟩ = some (.int .i64 ((rd_T98 l0 x4_2).f1.f0)) := (blk_cell BK190.out 1).trans rfl; have hcz16_2 : w15.cell? ⟨gb190, 2, none⟩ = some (.int .i64 ((rd_T98 l0 x4_2).f1.f1)) := (blk_cell BK190.out 2).trans rfl; have hcz16_3 : w15.cell? ⟨gb190, 3, none⟩ = some (.bool ((rd_T98 l0 x4_2).f1.f2)) := (blk_cell BK190.out 3).trans rfl; have hcz16_4 : w15.cell? ⟨gb190, 4, none⟩ = some (.bool ((rd_T98 l0 x4_2).f1.f3)) := (blk_cell BK190.out 4).trans rfl; have hcz16_5 : w15.cell? ⟨gb190, 5, none⟩ = some (.bool ((rd_T98 l0 x4_2).f1.f4)) := (blk_cell BK190.out 5).trans rfl; have hcz16_6 : w15.cell? ⟨gb190, 6, none⟩ = some (.int .i64 ((rd_T98 l0 x4_2).f2)) := (blk_cell BK190.out 6).trans rfl; have hfz16_0 := blk_frozen BK190.out 0; have hfz16_1 := blk_frozen BK190.out 1; have hfz16_2 := blk_frozen BK190.out 2; have hfz16_3 := blk_frozen BK190.out 3; have hfz16_4 := blk_frozen BK190.out 4; have hfz16_5 := blk_frozen BK190.out 5; have hfz16_6 := blk_frozen BK190.out 6) | ((with_reducible refine gate_callee (f := 119) rfl ?_); refine gl_ (some 25) Try.func119 #[.agg #[.int .i64 ((rd_T98 l0 x4_2).f1.f0), .int .i64 ((rd_T98 l0 x4_2).f1.f1), .bool ((rd_T98 l0 x4_2).f1.f2), .bool ((rd_T98 l0 x4_2).f1.f3), .bool ((rd_T98 l0 x4_2).f1.f4)]] ?_; (with_reducible refine (spec_StyleOk.calls ((rd_T98 l0 x4_2).f1.f0) ((rd_T98 l0 x4_2).f1.f1) ((rd_T98 l0 x4_2).f1.f2) ((rd_T98 l0 x4_2).f1.f3) ((rd_T98 l0 x4_2).f1.f4) false _ A8.out).mono ?_); rintro e w84 ⟨rfl, hb⟩; refine ⟨_, rfl, ?_⟩; replace BK190 := am (blk_below (g := gb190) (o := .cells #[.int .i64 ((rd_T98 l0 x4_2).f0), .int .i64 ((rd_T98 l0 x4_2).f1.f0), .int .i64 ((rd_T98 l0 x4_2).f1.f1), .bool ((rd_T98 l0 x4_2).f1.f2), .bool ((rd_T98 l0 x4_2).f1.f3), .bool ((rd_T98 l0 x4_2).f1.f4), .int .i64 ((rd_T98 l0 x4_2).f2)] 98 (0, 0)) (rp_0_1_2_3_4_5_6 BK190) hb); replace HB := am (below_step (rb1 HB GE190) hb); (try clear hb); (try clear hb2); (try clear hk); (try clear hi)) | ((with_reducible refine gate_dst (N := 5) rfl ?_); refine box_event ?hg (N := 5) ?hd (cs := #[.int .i64 0, .int .i64 0, .int .i64 0, .bool false, .bool false, .bool false, .int .i64 0]) (t := 98) ?hr ?_; (case hd => rfl); (case hg => rfl); (case hr => first | (go_simp; done) | (go_simp; rfl)); intro gb190 hg w13 hbox hb; have BK190 := am (hbox); have GW190 := am (gw hg (rb HB)); have GE190 := GW190; replace HB := am (below_step (rb HB) hb); clear hb hbox hg; have hcz14_0 : w13.cell? ⟨gb190, 0, none⟩ = some (.int .i64 0) := (blk_cell BK190.out 0).trans rfl; have hcz14_1 : w13.cell? ⟨gb190, 1, none⟩ = some (.int .i64 0) := (blk_cell BK190.out 1).trans rfl; have hcz14_2 : w13.cell? ⟨gb190, 2, none⟩ = some (.int .i64 0) := (blk_cell BK190.out 2).trans rfl; have hcz14_3 : w13.cell? ⟨gb190, 3, none⟩ = some (.bool false) := (blk_cell BK190.out 3).trans rfl; have hcz14_4 : w13.cell? ⟨gb190, 4, none⟩ = some (.bool false) := (blk_cell BK190.out 4).trans rfl; have hcz14_5 : w13.cell? ⟨gb190, 5, none⟩ = some (.bool false) := (blk_cell BK190.out 5).trans rfl; have hcz14_6 : w13.cell? ⟨gb190, 6, none⟩ = some (.int .i64 0) := (blk_cell BK190.out 6).trans rfl; have hfz14_0 := blk_frozen BK190.out 0; have hfz14_1 := blk_frozen BK190.out 1; have hfz14_2 := blk_frozen BK190.out 2; have hfz14_3 := blk_frozen BK190.out 3; have hfz14_4 := blk_frozen BK190.out 4; have hfz14_5 := blk_frozen BK190.out 5; have hfz14_6 := blk_frozen BK190.out 6) | ((with_reducible refine gate_callee (f := 120) rfl ?_); refine gl_ (some 33) Try.func120 #[.int .i64 ((rd_T98 l0 x4_2).f0)] ?_; (with_reducible refine (spec_Width.calls k2 ((rd_T98 l0 x4_2).f0) t192 _ A11.out).mono ?_); rintro e w' ⟨rfl, ⟨nd, rfl⟩⟩; refine ⟨_, rfl, ?_⟩))
first
| (
have q_ := lf5_
go_roundg k2
case measure => have := HJ1.out; have := HK2.out; omega
case rel => exact ⟨(wrap64 (x4_2 + 1)), (by first | rfl | (simp; done) | (simp [*]; done)), H', ⟨by have := HJ1.out; have := HK2.out; omega⟩, ⟨by repeat (first | (with_reducible first | exact HB.out | apply b1 | apply b2 | apply b3 | refine below_set ?_ GE190.out) | exact HB.out)⟩⟩
)
| (
first | have q_ := lf6_ | have q_ := lf17_
go_ret
exact ⟨by first | rfl | (simp [errW_none, errW_some] <;> rfl) | (simp [*, errW_none, errW_some] <;> rfl), by repeat (first | (with_reducible first | exact HB.out | apply b1 | apply b2 | apply b3 | refine below_set ?_ GE190.out) | exact HB.out)⟩
)
)
)
·(
rw [if_neg c5] at H
have c5b0 : decide (x4_2 < (l0.length : Int)) = false := decide_eq_false c5
clear c5
obtain rfl := Option.some.inj H
go_wp2
go_ret
exact ⟨by first | rfl | (simp [errW_none, errW_some] <;> rfl) | (simp [*, errW_none, errW_some] <;> rfl), by repeat (first | (with_reducible first | exact HB.out | apply b1 | apply b2 | apply b3) | exact HB.out)⟩
)
)
)
)
)
)
)

end Go.Proofs.Ytalopdcephohgaa.RC
