/- Contracts of Go functions that laws of this seat reach: each Lean function answers as its Go function does. No condition. Written by wip/tools/inj.py, over the kit's print. -/
import Derived.Test.YtalopdcephohgaaRCx0
namespace Go.Proofs.Ytalopdcephohgaa.RC
open Go.RowKit Go.Proofs.YtalopdcephohgaaW.PrintWords Go.Proofs.YtalopdcephohgaaW.PrintLast Go.Proofs.YtalopdcephohgaaW.PrintMore
attribute [local go_sem] max2_int min2_int max_two min_two max_three min_three max_four min_four   -- for this text's walks alone
set_option linter.unusedVariables false
set_option linter.unusedSimpArgs false

/-! ### laws_heldCellS: function 109 -/
def laws_heldCellS.l0 : Nat → List (S98) → Int → Int → Option (Int)
 | 0, _, _, _ => none
 | k + 1, x0, x1, x5 => if x5 < (x0.length : Int) then (if 0 ≤ x5 then (if ((rd_T98 x0 x5).f0) = x1 then (if ((rd_T98 x0 x5).f1.f0) = (wrap64 (x1 + 1)) then (if ((rd_T98 x0 x5).f1.f1) = (wrap64 ((wrap64 (x1 + 1)) + 1)) then (if (((rd_T98 x0 x5).f1.f2) != ((Int.tmod (wrap64 ((wrap64 ((wrap64 (x1 + 1)) + 1)) + 1)) 3) == 0)) = true then (some (-1)) else (if (((rd_T98 x0 x5).f1.f3) != ((Int.tmod (wrap64 ((wrap64 ((wrap64 ((wrap64 (x1 + 1)) + 1)) + 1)) + 1)) 3) == 0)) = true then (some (-1)) else (if (((rd_T98 x0 x5).f1.f4) != ((Int.tmod (wrap64 ((wrap64 ((wrap64 ((wrap64 ((wrap64 (x1 + 1)) + 1)) + 1)) + 1)) + 1)) 3) == 0)) = true then (some (-1)) else (if ((rd_T98 x0 x5).f2) = (wrap64 ((wrap64 ((wrap64 ((wrap64 ((wrap64 ((wrap64 (x1 + 1)) + 1)) + 1)) + 1)) + 1)) + 1)) then (laws_heldCellS.l0 k x0 (wrap64 ((wrap64 ((wrap64 ((wrap64 ((wrap64 ((wrap64 ((wrap64 (x1 + 1)) + 1)) + 1)) + 1)) + 1)) + 1)) + 1)) (wrap64 (x5 + 1))) else (some (-1)))))) else (some (-1))) else (some (-1))) else (some (-1))) else (none)) else (some x1)
def laws_heldCellS.f (k : Nat) (l0 : List (S98)) (a1 : Int) : Option (Int) := laws_heldCellS.l0 k l0 a1 0
theorem laws_heldCellS.mono_l : ∀ k, (∀ y0 y1 y2, LeO (laws_heldCellS.l0 k y0 y1 y2) (laws_heldCellS.l0 (k + 1) y0 y1 y2))
 | 0 => fun _ _ _ r h => by simp [laws_heldCellS.l0] at h
 | k + 1 => by
  have ih0 := laws_heldCellS.mono_l k
  ·intro y0 y1 y2
   unfold laws_heldCellS.l0
   repeat' first
   | (with_reducible exact ih0 _ _ _)
   | (with_reducible exact LeO.refl _)
   | (with_reducible exact LeO.none _)
   | (with_reducible refine LeO.ite ?_ ?_)
   | (with_reducible refine LeO.bind ?_ (fun _ => ?_))
theorem laws_heldCellS.mono : ∀ a0 a1 k, LeO (laws_heldCellS.f k a0 a1) (laws_heldCellS.f (k + 1) a0 a1) := by
 intro a0 a1 k
 have ih0 := laws_heldCellS.mono_l k
 unfold laws_heldCellS.f
 repeat' first
   | (with_reducible exact ih0 _ _ _)
   | (with_reducible exact LeO.refl _)
   | (with_reducible exact LeO.none _)
   | (with_reducible refine LeO.ite ?_ ?_)
   | (with_reducible refine LeO.bind ?_ (fun _ => ?_))
set_option maxHeartbeats 8000000 in
set_option maxRecDepth 100000 in
theorem laws_heldCellS.calls (k : Nat) (A0 : Option Addr) (c0 : Nat) (l0 : List (S98)) (a1 : Int) (r : Int) (w : World) (hr0 : Kd.C k98 w A0 l0.length l0) (hc0 : l0.length ≤ c0) (h : laws_heldCellS.f k l0 a1 = some r) :
  Calls Try.prog 109 #[.slice A0 l0.length c0, .int .i64 a1] w fun e w' => e = .returned (.int .i64 r) ∧ Drawn0 w w' := by
 (
have HR0 := am hr0
have HC0 := am hc0
clear hr0 hc0
have H : (laws_heldCellS.l0 k l0 a1 0) = some r := h
clear h
have H' := am H
clear H
go_enter Try.func109, Try.ntmps109
go_wp2
go_loopg [1, 5] k (fun kq v1 v5 w' => ∃ (x1_1 : Int) (x5_1 : Int), v1 = .int .i64 x1_1 ∧ v5 = .int .i64 x5_1 ∧ Aside0 (laws_heldCellS.l0 kq l0 x1_1 x5_1 = some r) ∧ Aside0 (kq ≤ k) ∧ Drawn0 w w')
case atStart => exact ⟨(a1), (0), (by first | rfl | (simp; done) | (simp [*]; done)), (by first | rfl | (simp; done) | (simp [*]; done)), H', ⟨Nat.le_refl _⟩, by repeat (first | exact Drawn0.refl _ | apply Drawn0.step)⟩
case round => (
clear H'
try clear c1
try clear p2
obtain ⟨x1_1, x5_1, rfl, rfl, HA, HK1, ⟨m1, rfl⟩⟩ := hrel
cases gk with
| zero => exact absurd HA.out (by simp [laws_heldCellS.l0])
| succ k1 => (
have H := HA.out
clear HA
simp only [laws_heldCellS.l0] at H
by_cases c3 : x5_1 < (l0.length : Int)
·(
rw [if_pos c3] at H
have c3b0 : decide (x5_1 < (l0.length : Int)) = true := decide_eq_true c3
clear c3
refine em_ (p := 0 ≤ x5_1) (fun c4 => ?g6p) (fun c4 => ?g6n)
case' g6p => (
rw [if_pos c4] at H
have c4b0 : decide (0 ≤ x5_1) = true := decide_eq_true c4
clear c4
refine em_ (p := ((rd_T98 l0 x5_1).f0) = x1_1) (fun c5 => ?g5p) (fun c5 => ?g5n)
case g5p => (
rw [if_pos c5] at H
have c5b0 : (((rd_T98 l0 x5_1).f0) == x1_1) = true := beq_iff_eq.mpr c5
have c5b1 : (((rd_T98 l0 x5_1).f0) != x1_1) = false := bne_eq_false_iff_eq.mpr c5
clear c5
refine em_ (p := ((rd_T98 l0 x5_1).f1.f0) = (wrap64 (x1_1 + 1))) (fun c6 => ?g7p) (fun c6 => ?g7n)
case g7p => (
rw [if_pos c6] at H
have c6b0 : (((rd_T98 l0 x5_1).f1.f0) == (wrap64 (x1_1 + 1))) = true := beq_iff_eq.mpr c6
have c6b1 : (((rd_T98 l0 x5_1).f1.f0) != (wrap64 (x1_1 + 1))) = false := bne_eq_false_iff_eq.mpr c6
clear c6
refine em_ (p := ((rd_T98 l0 x5_1).f1.f1) = (wrap64 ((wrap64 (x1_1 + 1)) + 1))) (fun c7 => ?g4p) (fun c7 => ?g4n)
case' g4p => (
rw [if_pos c7] at H
have c7b0 : (((rd_T98 l0 x5_1).f1.f1) == (wrap64 ((wrap64 (x1_1 + 1)) + 1))) = true := beq_iff_eq.mpr c7
have c7b1 : (((rd_T98 l0 x5_1).f1.f1) != (wrap64 ((wrap64 (x1_1 + 1)) + 1))) = false := bne_eq_false_iff_eq.mpr c7
clear c7
refine em_ (p := (((rd_T98 l0 x5_1).f1.f2) != ((Int.tmod (wrap64 ((wrap64 ((wrap64 (x1_1 + 1)) + 1)) + 1)) 3) == 0)) = true) (fun c8 => ?g3p) (fun c8 => ?g3n)
case' g3p => (
rw [if_pos c8] at H
have c8b0 : (((rd_T98 l0 x5_1).f1.f2) != ((Int.tmod (wrap64 ((wrap64 ((wrap64 (x1_1 + 1)) + 1)) + 1)) 3) == 0)) = true := c8
(try (have c8b1 : decide (((rd_T98 l0 x5_1).f1.f2) = ((Int.tmod (wrap64 ((wrap64 ((wrap64 (x1_1 + 1)) + 1)) + 1)) 3) == 0)) = false := by simpa using c8))
(try (have c8b2 : (((rd_T98 l0 x5_1).f1.f2) == ((Int.tmod (wrap64 ((wrap64 ((wrap64 (x1_1 + 1)) + 1)) + 1)) 3) == 0)) = false := by simpa using c8))
(try (have c8b3 : ¬ (((rd_T98 l0 x5_1).f1.f2) = ((Int.tmod (wrap64 ((wrap64 ((wrap64 (x1_1 + 1)) + 1)) + 1)) 3) == 0)) := by simpa using c8))
clear c8
obtain rfl := Option.some.inj H
have lf1_ := trivial
)
case' g3n => (
rw [if_neg c8] at H
have c8b0 : (((rd_T98 l0 x5_1).f1.f2) != ((Int.tmod (wrap64 ((wrap64 ((wrap64 (x1_1 + 1)) + 1)) + 1)) 3) == 0)) = false := by simpa using c8
(try (have c8b1 : decide (((rd_T98 l0 x5_1).f1.f2) = ((Int.tmod (wrap64 ((wrap64 ((wrap64 (x1_1 + 1)) + 1)) + 1)) 3) == 0)) = true := by simpa using c8))
(try (have c8b2 : (((rd_T98 l0 x5_1).f1.f2) == ((Int.tmod (wrap64 ((wrap64 ((wrap64 (x1_1 + 1)) + 1)) + 1)) 3) == 0)) = true := by simpa using c8))
clear c8
refine em_ (p := (((rd_T98 l0 x5_1).f1.f3) != ((Int.tmod (wrap64 ((wrap64 ((wrap64 ((wrap64 (x1_1 + 1)) + 1)) + 1)) + 1)) 3) == 0)) = true) (fun c9 => ?g2p) (fun c9 => ?g2n)
case' g2p => (
rw [if_pos c9] at H
have c9b0 : (((rd_T98 l0 x5_1).f1.f3) != ((Int.tmod (wrap64 ((wrap64 ((wrap64 ((wrap64 (x1_1 + 1)) + 1)) + 1)) + 1)) 3) == 0)) = true := c9
(try (have c9b1 : decide (((rd_T98 l0 x5_1).f1.f3) = ((Int.tmod (wrap64 ((wrap64 ((wrap64 ((wrap64 (x1_1 + 1)) + 1)) + 1)) + 1)) 3) == 0)) = false := by simpa using c9))
(try (have c9b2 : (((rd_T98 l0 x5_1).f1.f3) == ((Int.tmod (wrap64 ((wrap64 ((wrap64 ((wrap64 (x1_1 + 1)) + 1)) + 1)) + 1)) 3) == 0)) = false := by simpa using c9))
(try (have c9b3 : ¬ (((rd_T98 l0 x5_1).f1.f3) = ((Int.tmod (wrap64 ((wrap64 ((wrap64 ((wrap64 (x1_1 + 1)) + 1)) + 1)) + 1)) 3) == 0)) := by simpa using c9))
clear c9
obtain rfl := Option.some.inj H
have lf2_ := trivial
)
case' g2n => (
rw [if_neg c9] at H
have c9b0 : (((rd_T98 l0 x5_1).f1.f3) != ((Int.tmod (wrap64 ((wrap64 ((wrap64 ((wrap64 (x1_1 + 1)) + 1)) + 1)) + 1)) 3) == 0)) = false := by simpa using c9
(try (have c9b1 : decide (((rd_T98 l0 x5_1).f1.f3) = ((Int.tmod (wrap64 ((wrap64 ((wrap64 ((wrap64 (x1_1 + 1)) + 1)) + 1)) + 1)) 3) == 0)) = true := by simpa using c9))
(try (have c9b2 : (((rd_T98 l0 x5_1).f1.f3) == ((Int.tmod (wrap64 ((wrap64 ((wrap64 ((wrap64 (x1_1 + 1)) + 1)) + 1)) + 1)) 3) == 0)) = true := by simpa using c9))
clear c9
refine em_ (p := (((rd_T98 l0 x5_1).f1.f4) != ((Int.tmod (wrap64 ((wrap64 ((wrap64 ((wrap64 ((wrap64 (x1_1 + 1)) + 1)) + 1)) + 1)) + 1)) 3) == 0)) = true) (fun c10 => ?g1p) (fun c10 => ?g1n)
case' g1p => (
rw [if_pos c10] at H
have c10b0 : (((rd_T98 l0 x5_1).f1.f4) != ((Int.tmod (wrap64 ((wrap64 ((wrap64 ((wrap64 ((wrap64 (x1_1 + 1)) + 1)) + 1)) + 1)) + 1)) 3) == 0)) = true := c10
(try (have c10b1 : decide (((rd_T98 l0 x5_1).f1.f4) = ((Int.tmod (wrap64 ((wrap64 ((wrap64 ((wrap64 ((wrap64 (x1_1 + 1)) + 1)) + 1)) + 1)) + 1)) 3) == 0)) = false := by simpa using c10))
(try (have c10b2 : (((rd_T98 l0 x5_1).f1.f4) == ((Int.tmod (wrap64 ((wrap64 ((wrap64 ((wrap64 ((wrap64 (x1_1 + 1)) + 1)) + 1)) + 1)) + 1)) 3) == 0)) = false := by simpa using c10))
(try (have c10b3 : ¬ (((rd_T98 l0 x5_1).f1.f4) = ((Int.tmod (wrap64 ((wrap64 ((wrap64 ((wrap64 ((wrap64 (x1_1 + 1)) + 1)) + 1)) + 1)) + 1)) 3) == 0)) := by simpa using c10))
clear c10
obtain rfl := Option.some.inj H
have lf3_ := trivial
)
case' g1n => (
rw [if_neg c10] at H
have c10b0 : (((rd_T98 l0 x5_1).f1.f4) != ((Int.tmod (wrap64 ((wrap64 ((wrap64 ((wrap64 ((wrap64 (x1_1 + 1)) + 1)) + 1)) + 1)) + 1)) 3) == 0)) = false := by simpa using c10
(try (have c10b1 : decide (((rd_T98 l0 x5_1).f1.f4) = ((Int.tmod (wrap64 ((wrap64 ((wrap64 ((wrap64 ((wrap64 (x1_1 + 1)) + 1)) + 1)) + 1)) + 1)) 3) == 0)) = true := by simpa using c10))
(try (have c10b2 : (((rd_T98 l0 x5_1).f1.f4) == ((Int.tmod (wrap64 ((wrap64 ((wrap64 ((wrap64 ((wrap64 (x1_1 + 1)) + 1)) + 1)) + 1)) + 1)) 3) == 0)) = true := by simpa using c10))
clear c10
refine em_ (p := ((rd_T98 l0 x5_1).f2) = (wrap64 ((wrap64 ((wrap64 ((wrap64 ((wrap64 ((wrap64 (x1_1 + 1)) + 1)) + 1)) + 1)) + 1)) + 1))) (fun c11 => ?g0p) (fun c11 => ?g0n)
case' g0p => (
rw [if_pos c11] at H
have c11b0 : (((rd_T98 l0 x5_1).f2) == (wrap64 ((wrap64 ((wrap64 ((wrap64 ((wrap64 ((wrap64 (x1_1 + 1)) + 1)) + 1)) + 1)) + 1)) + 1))) = true := beq_iff_eq.mpr c11
have c11b1 : (((rd_T98 l0 x5_1).f2) != (wrap64 ((wrap64 ((wrap64 ((wrap64 ((wrap64 ((wrap64 (x1_1 + 1)) + 1)) + 1)) + 1)) + 1)) + 1))) = false := bne_eq_false_iff_eq.mpr c11
clear c11
have H' := am H
clear H
have lf4_ := trivial
)
case' g0n => (
rw [if_neg c11] at H
have c11b0 : (((rd_T98 l0 x5_1).f2) == (wrap64 ((wrap64 ((wrap64 ((wrap64 ((wrap64 ((wrap64 (x1_1 + 1)) + 1)) + 1)) + 1)) + 1)) + 1))) = false := beq_eq_false_iff_ne.mpr c11
have c11b1 : (((rd_T98 l0 x5_1).f2) != (wrap64 ((wrap64 ((wrap64 ((wrap64 ((wrap64 ((wrap64 (x1_1 + 1)) + 1)) + 1)) + 1)) + 1)) + 1))) = true := bne_iff_ne.mpr c11
obtain rfl := Option.some.inj H
have lf5_ := trivial
)
)
)
)
)
case' g4n => (
rw [if_neg c7] at H
have c7b0 : (((rd_T98 l0 x5_1).f1.f1) == (wrap64 ((wrap64 (x1_1 + 1)) + 1))) = false := beq_eq_false_iff_ne.mpr c7
have c7b1 : (((rd_T98 l0 x5_1).f1.f1) != (wrap64 ((wrap64 (x1_1 + 1)) + 1))) = true := bne_iff_ne.mpr c7
obtain rfl := Option.some.inj H
have lf6_ := trivial
)
all_goals (
have p508 : 0 ≤ (x5_1 : Int) := dt_
have q508 : x5_1 < (l0.length : Int) := dt_
obtain ⟨ad508, e508, hx508_0, hx508_1, hx508_2, hx508_3, hx508_4, hx508_5, hx508_6⟩ := at_T98 HR0.out x5_1 p508 q508
cases e508
replace p508 := eq_true p508
replace q508 := eq_true q508
have p509 : 0 ≤ (x5_1 : Int) := dt_
have q509 : x5_1 < (l0.length : Int) := dt_
obtain ⟨ad509, e509, hx509_0, hx509_1, hx509_2, hx509_3, hx509_4, hx509_5, hx509_6⟩ := at_T98 HR0.out x5_1 p509 q509
obtain rfl : ad508 = ad509 := (by injection e509)
replace p509 := eq_true p509
replace q509 := eq_true q509
have p510 : 0 ≤ (x5_1 : Int) := dt_
have q510 : x5_1 < (l0.length : Int) := dt_
obtain ⟨ad510, e510, hx510_0, hx510_1, hx510_2, hx510_3, hx510_4, hx510_5, hx510_6⟩ := at_T98 HR0.out x5_1 p510 q510
obtain rfl : ad508 = ad510 := (by injection e510)
replace p510 := eq_true p510
replace q510 := eq_true q510
first
| (
first | have q_ := lf1_ | have q_ := lf2_ | have q_ := lf3_ | have q_ := lf4_ | have q_ := lf5_
have p511 : 0 ≤ (x5_1 : Int) := dt_
have q511 : x5_1 < (l0.length : Int) := dt_
obtain ⟨ad511, e511, hx511_0, hx511_1, hx511_2, hx511_3, hx511_4, hx511_5, hx511_6⟩ := at_T98 HR0.out x5_1 p511 q511
obtain rfl : ad508 = ad511 := (by injection e511)
replace p511 := eq_true p511
replace q511 := eq_true q511
first
| (
first | have q_ := lf2_ | have q_ := lf3_ | have q_ := lf4_ | have q_ := lf5_
have p512 : 0 ≤ (x5_1 : Int) := dt_
have q512 : x5_1 < (l0.length : Int) := dt_
obtain ⟨ad512, e512, hx512_0, hx512_1, hx512_2, hx512_3, hx512_4, hx512_5, hx512_6⟩ := at_T98 HR0.out x5_1 p512 q512
obtain rfl : ad508 = ad512 := (by injection e512)
replace p512 := eq_true p512
replace q512 := eq_true q512
first
| (
first | have q_ := lf3_ | have q_ := lf4_ | have q_ := lf5_
have p513 : 0 ≤ (x5_1 : Int) := dt_
have q513 : x5_1 < (l0.length : Int) := dt_
obtain ⟨ad513, e513, hx513_0, hx513_1, hx513_2, hx513_3, hx513_4, hx513_5, hx513_6⟩ := at_T98 HR0.out x5_1 p513 q513
obtain rfl : ad508 = ad513 := (by injection e513)
replace p513 := eq_true p513
replace q513 := eq_true q513
first
| (
first | have q_ := lf4_ | have q_ := lf5_
have p514 : 0 ≤ (x5_1 : Int) := dt_
have q514 : x5_1 < (l0.length : Int) := dt_
obtain ⟨ad514, e514, hx514_0, hx514_1, hx514_2, hx514_3, hx514_4, hx514_5, hx514_6⟩ := at_T98 HR0.out x5_1 p514 q514
obtain rfl : ad508 = ad514 := (by injection e514)
replace p514 := eq_true p514
replace q514 := eq_true q514
go_wp2
first
| (
have q_ := lf4_
go_roundg k1
case measure => have := HK1.out; omega
case rel => exact ⟨(wrap64 ((wrap64 ((wrap64 ((wrap64 ((wrap64 ((wrap64 ((wrap64 (x1_1 + 1)) + 1)) + 1)) + 1)) + 1)) + 1)) + 1)), (wrap64 (x5_1 + 1)), (by first | rfl | (simp; done) | (simp [*]; done)), (by first | rfl | (simp; done) | (simp [*]; done)), H', ⟨by have := HK1.out; omega⟩, by repeat (first | exact Drawn0.refl _ | apply Drawn0.step)⟩
)
| (
have q_ := lf5_
go_ret
exact ⟨by first | rfl | (simp; done) | (simp [*]; done), by repeat (first | exact Drawn0.refl _ | apply Drawn0.step)⟩
)
)
| (
have q_ := lf3_
go_wp2
go_ret
exact ⟨by first | rfl | (simp; done) | (simp [*]; done), by repeat (first | exact Drawn0.refl _ | apply Drawn0.step)⟩
)
)
| (
have q_ := lf2_
go_wp2
go_ret
exact ⟨by first | rfl | (simp; done) | (simp [*]; done), by repeat (first | exact Drawn0.refl _ | apply Drawn0.step)⟩
)
)
| (
have q_ := lf1_
go_wp2
go_ret
exact ⟨by first | rfl | (simp; done) | (simp [*]; done), by repeat (first | exact Drawn0.refl _ | apply Drawn0.step)⟩
)
)
| (
have q_ := lf6_
go_wp2
go_ret
exact ⟨by first | rfl | (simp; done) | (simp [*]; done), by repeat (first | exact Drawn0.refl _ | apply Drawn0.step)⟩
)
)
)
case' g7n => (
rw [if_neg c6] at H
have c6b0 : (((rd_T98 l0 x5_1).f1.f0) == (wrap64 (x1_1 + 1))) = false := beq_eq_false_iff_ne.mpr c6
have c6b1 : (((rd_T98 l0 x5_1).f1.f0) != (wrap64 (x1_1 + 1))) = true := bne_iff_ne.mpr c6
obtain rfl := Option.some.inj H
have lf10_ := trivial
)
all_goals (
have p508 : 0 ≤ (x5_1 : Int) := dt_
have q508 : x5_1 < (l0.length : Int) := dt_
obtain ⟨ad508, e508, hx508_0, hx508_1, hx508_2, hx508_3, hx508_4, hx508_5, hx508_6⟩ := at_T98 HR0.out x5_1 p508 q508
cases e508
replace p508 := eq_true p508
replace q508 := eq_true q508
have p509 : 0 ≤ (x5_1 : Int) := dt_
have q509 : x5_1 < (l0.length : Int) := dt_
obtain ⟨ad509, e509, hx509_0, hx509_1, hx509_2, hx509_3, hx509_4, hx509_5, hx509_6⟩ := at_T98 HR0.out x5_1 p509 q509
obtain rfl : ad508 = ad509 := (by injection e509)
replace p509 := eq_true p509
replace q509 := eq_true q509
go_wp2
go_ret
exact ⟨by first | rfl | (simp; done) | (simp [*]; done), by repeat (first | exact Drawn0.refl _ | apply Drawn0.step)⟩
)
)
case' g5n => (
rw [if_neg c5] at H
have c5b0 : (((rd_T98 l0 x5_1).f0) == x1_1) = false := beq_eq_false_iff_ne.mpr c5
have c5b1 : (((rd_T98 l0 x5_1).f0) != x1_1) = true := bne_iff_ne.mpr c5
obtain rfl := Option.some.inj H
have lf8_ := trivial
)
)
case g6n => (
rw [if_neg c4] at H
exact absurd H (by simp)
)
all_goals (
have p508 : 0 ≤ (x5_1 : Int) := dt_
have q508 : x5_1 < (l0.length : Int) := dt_
obtain ⟨ad508, e508, hx508_0, hx508_1, hx508_2, hx508_3, hx508_4, hx508_5, hx508_6⟩ := at_T98 HR0.out x5_1 p508 q508
cases e508
replace p508 := eq_true p508
replace q508 := eq_true q508
go_wp2
go_ret
exact ⟨by first | rfl | (simp; done) | (simp [*]; done), by repeat (first | exact Drawn0.refl _ | apply Drawn0.step)⟩
)
)
·(
rw [if_neg c3] at H
have c3b0 : decide (x5_1 < (l0.length : Int)) = false := decide_eq_false c3
clear c3
obtain rfl := Option.some.inj H
go_wp2
go_ret
exact ⟨by first | rfl | (simp; done) | (simp [*]; done), by repeat (first | exact Drawn0.refl _ | apply Drawn0.step)⟩
)
)
)
)

end Go.Proofs.Ytalopdcephohgaa.RC

namespace Go.Proofs.Ytalopdcephohgaa.RC
open Go.RowKit Go.Proofs.YtalopdcephohgaaW.PrintWords Go.Proofs.YtalopdcephohgaaW.PrintLast Go.Proofs.YtalopdcephohgaaW.PrintMore
attribute [local go_sem] max2_int min2_int max_two min_two max_three min_three max_four min_four   -- for this text's walks alone
set_option linter.unusedVariables false
set_option linter.unusedSimpArgs false

/-! ### laws_heldCellSS: function 82 -/
def laws_heldCellSS.l0 : Nat → List (List (S98)) → Int → Int → Option (Int)
 | 0, _, _, _ => none
 | k + 1, x0, x1, x5 => if x5 < (x0.length : Int) then (if 0 ≤ x5 then ((laws_heldCellS.f k (rd_L7 x0 x5) x1).bind fun t516 => (if t516 < 0 then (some (-1)) else (laws_heldCellSS.l0 k x0 t516 (wrap64 (x5 + 1))))) else (none)) else (some x1)
def laws_heldCellSS.f (k : Nat) (l0 : List (List (S98))) (a1 : Int) : Option (Int) := laws_heldCellSS.l0 k l0 a1 0
theorem laws_heldCellSS.mono_l : ∀ k, (∀ y0 y1 y2, LeO (laws_heldCellSS.l0 k y0 y1 y2) (laws_heldCellSS.l0 (k + 1) y0 y1 y2))
 | 0 => fun _ _ _ r h => by simp [laws_heldCellSS.l0] at h
 | k + 1 => by
  have ih0 := laws_heldCellSS.mono_l k
  ·intro y0 y1 y2
   unfold laws_heldCellSS.l0
   repeat' first
   | (with_reducible exact ih0 _ _ _)
   | (with_reducible exact laws_heldCellS.mono _ _ _)
   | (with_reducible exact LeO.refl _)
   | (with_reducible exact LeO.none _)
   | (with_reducible refine LeO.ite ?_ ?_)
   | (with_reducible refine LeO.bind ?_ (fun _ => ?_))
theorem laws_heldCellSS.mono : ∀ a0 a1 k, LeO (laws_heldCellSS.f k a0 a1) (laws_heldCellSS.f (k + 1) a0 a1) := by
 intro a0 a1 k
 have ih0 := laws_heldCellSS.mono_l k
 unfold laws_heldCellSS.f
 repeat' first
   | (with_reducible exact ih0 _ _ _)
   | (with_reducible exact laws_heldCellS.mono _ _ _)
   | (with_reducible exact LeO.refl _)
   | (with_reducible exact LeO.none _)
   | (with_reducible refine LeO.ite ?_ ?_)
   | (with_reducible refine LeO.bind ?_ (fun _ => ?_))
set_option maxHeartbeats 8000000 in
set_option maxRecDepth 100000 in
theorem laws_heldCellSS.calls (k : Nat) (A0 : Option Addr) (c0 : Nat) (l0 : List (List (S98))) (a1 : Int) (r : Int) (w : World) (hr0 : Kd.C (Kd.slice 98 k98) w A0 l0.length l0) (hc0 : l0.length ≤ c0) (h : laws_heldCellSS.f k l0 a1 = some r) :
  Calls Try.prog 82 #[.slice A0 l0.length c0, .int .i64 a1] w fun e w' => e = .returned (.int .i64 r) ∧ Drawn0 w w' := by
 (
have HR0 := am hr0
have HC0 := am hc0
clear hr0 hc0
have H : (laws_heldCellSS.l0 k l0 a1 0) = some r := h
clear h
have H' := am H
clear H
go_enter Try.func82, Try.ntmps82
go_wp2
go_loopg [1, 5] k (fun kq v1 v5 w' => ∃ (x1_1 : Int) (x5_1 : Int), v1 = .int .i64 x1_1 ∧ v5 = .int .i64 x5_1 ∧ Aside0 (laws_heldCellSS.l0 kq l0 x1_1 x5_1 = some r) ∧ Aside0 (kq ≤ k) ∧ Drawn0 w w')
case atStart => exact ⟨(a1), (0), (by first | rfl | (simp; done) | (simp [*]; done)), (by first | rfl | (simp; done) | (simp [*]; done)), H', ⟨Nat.le_refl _⟩, by repeat (first | exact Drawn0.refl _ | apply Drawn0.step)⟩
case round => (
clear H'
try clear p2
obtain ⟨x1_1, x5_1, rfl, rfl, HA, HK1, ⟨m1, rfl⟩⟩ := hrel
cases gk with
| zero => exact absurd HA.out (by simp [laws_heldCellSS.l0])
| succ k1 => (
have H := HA.out
clear HA
simp only [laws_heldCellSS.l0] at H
by_cases c3 : x5_1 < (l0.length : Int)
·(
rw [if_pos c3] at H
have c3b0 : decide (x5_1 < (l0.length : Int)) = true := decide_eq_true c3
clear c3
by_cases c4 : 0 ≤ x5_1
·(
rw [if_pos c4] at H
have c4b0 : decide (0 ≤ x5_1) = true := decide_eq_true c4
clear c4
replace H := Option.bind_eq_some_iff.mp H
obtain ⟨t516, A50, H⟩ := H
(try dsimp only at H)
have A5 := am A50
clear A50
by_cases c6 : t516 < 0
·(
rw [if_pos c6] at H
have c6b0 : decide (t516 < 0) = true := decide_eq_true c6
clear c6
obtain rfl := Option.some.inj H
have p515 : 0 ≤ (x5_1 : Int) := dt_
have q515 : x5_1 < (l0.length : Int) := dt_
obtain ⟨ad515, A515_0, c515_0, e515, hx515_0, hl515_0, hi515_0⟩ := at_L7 HR0.out x5_1 p515 q515
cases e515
have HR515_0 := am hi515_0
have HC515_0 := am hl515_0
clear hi515_0 hl515_0
replace p515 := eq_true p515
replace q515 := eq_true q515
go_wp2_with (first | ((with_reducible refine gate_callee (f := 109) rfl ?_); refine gl_ (some 17) Try.func109 #[.slice A515_0 (rd_L7 l0 x5_1).length c515_0, .int .i64 x1_1] ?_; (with_reducible refine (laws_heldCellS.calls k1 _ _ (rd_L7 l0 x5_1) x1_1 t516 _ ?side1 ?side2 A5.out).mono ?_); (case side1 => exact rc (HR515_0.out)); (case side2 => exact HC515_0.out); rintro e w' ⟨rfl, ⟨nd, rfl⟩⟩; refine ⟨_, rfl, ?_⟩))
go_ret
exact ⟨by first | rfl | (simp; done) | (simp [*]; done), by repeat (first | exact Drawn0.refl _ | apply Drawn0.step)⟩
)
·(
rw [if_neg c6] at H
have c6b0 : decide (t516 < 0) = false := decide_eq_false c6
clear c6
have H' := am H
clear H
have p515 : 0 ≤ (x5_1 : Int) := dt_
have q515 : x5_1 < (l0.length : Int) := dt_
obtain ⟨ad515, A515_0, c515_0, e515, hx515_0, hl515_0, hi515_0⟩ := at_L7 HR0.out x5_1 p515 q515
cases e515
have HR515_0 := am hi515_0
have HC515_0 := am hl515_0
clear hi515_0 hl515_0
replace p515 := eq_true p515
replace q515 := eq_true q515
go_wp2_with (first | ((with_reducible refine gate_callee (f := 109) rfl ?_); refine gl_ (some 17) Try.func109 #[.slice A515_0 (rd_L7 l0 x5_1).length c515_0, .int .i64 x1_1] ?_; (with_reducible refine (laws_heldCellS.calls k1 _ _ (rd_L7 l0 x5_1) x1_1 t516 _ ?side1 ?side2 A5.out).mono ?_); (case side1 => exact rc (HR515_0.out)); (case side2 => exact HC515_0.out); rintro e w' ⟨rfl, ⟨nd, rfl⟩⟩; refine ⟨_, rfl, ?_⟩))
go_roundg k1
case measure => have := HK1.out; omega
case rel => exact ⟨(t516), (wrap64 (x5_1 + 1)), (by first | rfl | (simp; done) | (simp [*]; done)), (by first | rfl | (simp; done) | (simp [*]; done)), H', ⟨by have := HK1.out; omega⟩, by repeat (first | exact Drawn0.refl _ | apply Drawn0.step)⟩
)
)
·(
rw [if_neg c4] at H
exact absurd H (by simp)
)
)
·(
rw [if_neg c3] at H
have c3b0 : decide (x5_1 < (l0.length : Int)) = false := decide_eq_false c3
clear c3
obtain rfl := Option.some.inj H
go_wp2
go_ret
exact ⟨by first | rfl | (simp; done) | (simp [*]; done), by repeat (first | exact Drawn0.refl _ | apply Drawn0.step)⟩
)
)
)
)

/-! ### laws_heldGrid: function 43 -/
def laws_heldGrid.f (k : Nat) (a0_0 : Int) (l0_1 : List (List (S98))) (a1 : Int) : Option (Int) := (laws_heldCellSS.f k l0_1 a1).bind fun t518 => (if t518 < 0 then (some (-1)) else (some t518))
theorem laws_heldGrid.mono : ∀ a0 a1 a2 k, LeO (laws_heldGrid.f k a0 a1 a2) (laws_heldGrid.f (k + 1) a0 a1 a2) := by
 intro a0 a1 a2 k
 unfold laws_heldGrid.f
 repeat' first
   | (with_reducible exact laws_heldCellSS.mono _ _ _)
   | (with_reducible exact LeO.refl _)
   | (with_reducible exact LeO.none _)
   | (with_reducible refine LeO.ite ?_ ?_)
   | (with_reducible refine LeO.bind ?_ (fun _ => ?_))
set_option maxHeartbeats 8000000 in
set_option maxRecDepth 100000 in
theorem laws_heldGrid.calls (k : Nat) (a0_0 : Int) (A0_1 : Option Addr) (c0_1 : Nat) (l0_1 : List (List (S98))) (a1 : Int) (r : Int) (w : World) (hr0_1 : Kd.C (Kd.slice 98 k98) w A0_1 l0_1.length l0_1) (hc0_1 : l0_1.length ≤ c0_1) (h : laws_heldGrid.f k a0_0 l0_1 a1 = some r) :
  Calls Try.prog 43 #[.agg #[.int .i64 a0_0, .slice A0_1 l0_1.length c0_1], .int .i64 a1] w fun e w' => e = .returned (.int .i64 r) ∧ Below w.heap.size w w' := by
 (
have hu58 := Try.underlying58
have HR0_1 := am hr0_1
have HC0_1 := am hc0_1
clear hr0_1 hc0_1
have HB := am (Below.refl w.heap.size w)
have H : ((laws_heldCellSS.f k l0_1 a1).bind fun t518 => (if t518 < 0 then (some (-1)) else (some t518))) = some r := h
clear h
replace H := Option.bind_eq_some_iff.mp H
obtain ⟨t518, A30, H⟩ := H
(try dsimp only at H)
have A3 := am A30
clear A30
by_cases c4 : t518 < 0
·(
rw [if_pos c4] at H
have c4b0 : decide (t518 < 0) = true := decide_eq_true c4
clear c4
obtain rfl := Option.some.inj H
go_enter Try.func43, Try.ntmps43
go_wp2_with (first | ((with_reducible refine gate_dst (N := 2) rfl ?_); refine box_event ?hg (N := 2) ?hd (cs := #[.int .i64 a0_0, .slice A0_1 l0_1.length c0_1]) (t := 58) ?hr ?_; (case hd => rfl); (case hg => rfl); (case hr => first | (go_simp; done) | (go_simp; rfl)); intro gb517 hg w5 hbox hb; have BK517 := am (hbox); have GW517 := am (gw hg (rb HB)); have GE517 := GW517; replace HB := am (below_step (rb HB) hb); clear hb hbox hg; have hcz6_0 : w5.cell? ⟨gb517, 0, none⟩ = some (.int .i64 a0_0) := (blk_cell BK517.out 0).trans rfl; have hcz6_1 : w5.cell? ⟨gb517, 1, none⟩ = some (.slice A0_1 l0_1.length c0_1) := (blk_cell BK517.out 1).trans rfl; have hfz6_0 := blk_frozen BK517.out 0; have hfz6_1 := blk_frozen BK517.out 1) | ((with_reducible refine gate_callee (f := 82) rfl ?_); refine gl_ (some 8) Try.func82 #[.slice A0_1 l0_1.length c0_1, .int .i64 a1] ?_; (with_reducible refine (laws_heldCellSS.calls k _ _ l0_1 a1 t518 _ ?side1 ?side2 A3.out).mono ?_); (case side1 => exact rc ((Kd.C_below HR0_1.out HB.out))); (case side2 => exact HC0_1.out); rintro e w' ⟨rfl, ⟨nd, rfl⟩⟩; refine ⟨_, rfl, ?_⟩))
go_ret
exact ⟨by first | rfl | (simp [errW_none, errW_some] <;> rfl) | (simp [*, errW_none, errW_some] <;> rfl), by repeat (first | (with_reducible first | exact HB.out | apply b1 | apply b2 | apply b3 | refine below_set ?_ GE517.out) | exact HB.out)⟩
)
·(
rw [if_neg c4] at H
have c4b0 : decide (t518 < 0) = false := decide_eq_false c4
clear c4
obtain rfl := Option.some.inj H
go_enter Try.func43, Try.ntmps43
go_wp2_with (first | ((with_reducible refine gate_dst (N := 2) rfl ?_); refine box_event ?hg (N := 2) ?hd (cs := #[.int .i64 a0_0, .slice A0_1 l0_1.length c0_1]) (t := 58) ?hr ?_; (case hd => rfl); (case hg => rfl); (case hr => first | (go_simp; done) | (go_simp; rfl)); intro gb517 hg w7 hbox hb; have BK517 := am (hbox); have GW517 := am (gw hg (rb HB)); have GE517 := GW517; replace HB := am (below_step (rb HB) hb); clear hb hbox hg; have hcz8_0 : w7.cell? ⟨gb517, 0, none⟩ = some (.int .i64 a0_0) := (blk_cell BK517.out 0).trans rfl; have hcz8_1 : w7.cell? ⟨gb517, 1, none⟩ = some (.slice A0_1 l0_1.length c0_1) := (blk_cell BK517.out 1).trans rfl; have hfz8_0 := blk_frozen BK517.out 0; have hfz8_1 := blk_frozen BK517.out 1) | ((with_reducible refine gate_callee (f := 82) rfl ?_); refine gl_ (some 8) Try.func82 #[.slice A0_1 l0_1.length c0_1, .int .i64 a1] ?_; (with_reducible refine (laws_heldCellSS.calls k _ _ l0_1 a1 t518 _ ?side1 ?side2 A3.out).mono ?_); (case side1 => exact rc ((Kd.C_below HR0_1.out HB.out))); (case side2 => exact HC0_1.out); rintro e w' ⟨rfl, ⟨nd, rfl⟩⟩; refine ⟨_, rfl, ?_⟩))
go_ret
exact ⟨by first | rfl | (simp [errW_none, errW_some] <;> rfl) | (simp [*, errW_none, errW_some] <;> rfl), by repeat (first | (with_reducible first | exact HB.out | apply b1 | apply b2 | apply b3 | refine below_set ?_ GE517.out) | exact HB.out)⟩
)
)

end Go.Proofs.Ytalopdcephohgaa.RC
