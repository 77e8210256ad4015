/- Contracts of Go functions that laws of this seat reach: each Lean function answers as its Go function does. No condition. Written by wip/tools/inj.py, over the kit's print. -/
import Derived.Test.YtalopdcephohgaaDoorSBx0
namespace Go.Proofs.YtalopdcephohgaaDoor.SB
open Go.RowKit Go.Proofs.YtalopdcephohgaaDoorW.PrintWords Go.Proofs.YtalopdcephohgaaDoorW.PrintLast Go.Proofs.YtalopdcephohgaaDoorW.PrintMore
attribute [local go_sem] max2_int min2_int max_two min_two max_three min_three max_four min_four   -- for this text's walks alone
set_option linter.unusedVariables false
set_option linter.unusedSimpArgs false

/-! ### laws_heldCellS: function 44 -/
def laws_heldCellS.l0 : Nat → List (S45) → Int → Int → Option (Int)
 | 0, _, _, _ => none
 | k + 1, x0, x1, x5 => if x5 < (x0.length : Int) then (if 0 ≤ x5 then (if ((rd_T45 x0 x5).f0) = x1 then (if ((rd_T45 x0 x5).f1.f0) = (wrap64 (x1 + 1)) then (if ((rd_T45 x0 x5).f1.f1) = (wrap64 ((wrap64 (x1 + 1)) + 1)) then (if (((rd_T45 x0 x5).f1.f2) != ((Int.tmod (wrap64 ((wrap64 ((wrap64 (x1 + 1)) + 1)) + 1)) 3) == 0)) = true then (some (-1)) else (if (((rd_T45 x0 x5).f1.f3) != ((Int.tmod (wrap64 ((wrap64 ((wrap64 ((wrap64 (x1 + 1)) + 1)) + 1)) + 1)) 3) == 0)) = true then (some (-1)) else (if (((rd_T45 x0 x5).f1.f4) != ((Int.tmod (wrap64 ((wrap64 ((wrap64 ((wrap64 ((wrap64 (x1 + 1)) + 1)) + 1)) + 1)) + 1)) 3) == 0)) = true then (some (-1)) else (if ((rd_T45 x0 x5).f2) = (wrap64 ((wrap64 ((wrap64 ((wrap64 ((wrap64 ((wrap64 (x1 + 1)) + 1)) + 1)) + 1)) + 1)) + 1)) then (laws_heldCellS.l0 k x0 (wrap64 ((wrap64 ((wrap64 ((wrap64 ((wrap64 ((wrap64 ((wrap64 (x1 + 1)) + 1)) + 1)) + 1)) + 1)) + 1)) + 1)) (wrap64 (x5 + 1))) else (some (-1)))))) else (some (-1))) else (some (-1))) else (some (-1))) else (none)) else (some x1)
def laws_heldCellS.f (k : Nat) (l0 : List (S45)) (a1 : Int) : Option (Int) := laws_heldCellS.l0 k l0 a1 0
theorem laws_heldCellS.mono_l : ∀ k, (∀ y0 y1 y2, LeO (laws_heldCellS.l0 k y0 y1 y2) (laws_heldCellS.l0 (k + 1) y0 y1 y2))
 | 0 => fun _ _ _ r h => by simp [laws_heldCellS.l0] at h
 | k + 1 => by
  have ih0 := laws_heldCellS.mono_l k
  ·intro y0 y1 y2
   unfold laws_heldCellS.l0
   repeat' first
   | (with_reducible exact ih0 _ _ _)
   | (with_reducible exact LeO.refl _)
   | (with_reducible exact LeO.none _)
   | (with_reducible refine LeO.ite ?_ ?_)
   | (with_reducible refine LeO.bind ?_ (fun _ => ?_))
   | exact ih0 _ _ _
   | exact LeO.none _
   | refine LeO.ite ?_ ?_
   | refine LeO.bind ?_ (fun _ => ?_)
theorem laws_heldCellS.mono : ∀ a0 a1 k, LeO (laws_heldCellS.f k a0 a1) (laws_heldCellS.f (k + 1) a0 a1) := by
 intro a0 a1 k
 have ih0 := laws_heldCellS.mono_l k
 unfold laws_heldCellS.f
 repeat' first
   | (with_reducible exact ih0 _ _ _)
   | (with_reducible exact LeO.refl _)
   | (with_reducible exact LeO.none _)
   | (with_reducible refine LeO.ite ?_ ?_)
   | (with_reducible refine LeO.bind ?_ (fun _ => ?_))
   | exact ih0 _ _ _
   | exact LeO.none _
   | refine LeO.ite ?_ ?_
   | refine LeO.bind ?_ (fun _ => ?_)
set_option maxHeartbeats 8000000 in
set_option maxRecDepth 100000 in
theorem laws_heldCellS.calls (k : Nat) (A0 : Option Addr) (c0 : Nat) (l0 : List (S45)) (a1 : Int) (r : Int) (w : World) (hr0 : Kd.C k45 w A0 l0.length l0) (hc0 : l0.length ≤ c0) (h : laws_heldCellS.f k l0 a1 = some r) :
  Calls Tryd.prog 44 #[.slice A0 l0.length c0, .int .i64 a1] w fun e w' => e = .returned (.int .i64 r) ∧ Drawn0 w w' := by
 have HR0 := am hr0
 have HC0 := am hc0
 clear hr0 hc0
 have H : (laws_heldCellS.l0 k l0 a1 0) = some r := h
 clear h
 have H' := am H
 clear H
 go_enter Tryd.func44, Tryd.ntmps44
 go_wp2
 go_loopg [1, 5] k (fun kq v1 v5 w' => ∃ (x1_1 : Int) (x5_1 : Int), v1 = .int .i64 x1_1 ∧ v5 = .int .i64 x5_1 ∧ Aside0 (laws_heldCellS.l0 kq l0 x1_1 x5_1 = some r) ∧ Aside0 (kq ≤ k) ∧ Drawn0 w w')
 case atStart => exact ⟨(a1), (0), (by first | rfl | (simp; done) | (simp [*]; done)), (by first | rfl | (simp; done) | (simp [*]; done)), H', ⟨Nat.le_refl _⟩, by repeat (first | exact Drawn0.refl _ | apply Drawn0.step)⟩
 case round =>
  clear H'
  try clear p2
  obtain ⟨x1_1, x5_1, rfl, rfl, HA, HK1, ⟨m1, rfl⟩⟩ := hrel
  cases gk with
  | zero => exact absurd HA.out (by simp [laws_heldCellS.l0])
  | succ k1 =>
   have H := HA.out
   clear HA
   simp only [laws_heldCellS.l0] at H
   by_cases c3 : x5_1 < (l0.length : Int)
   ·rw [if_pos c3] at H
    have c3b0 : decide (x5_1 < (l0.length : Int)) = true := decide_eq_true c3
    clear c3
    by_cases c4 : 0 ≤ x5_1
    ·rw [if_pos c4] at H
     have c4b0 : decide (0 ≤ x5_1) = true := decide_eq_true c4
     clear c4
     by_cases c5 : ((rd_T45 l0 x5_1).f0) = x1_1
     ·rw [if_pos c5] at H
      have c5b0 : (((rd_T45 l0 x5_1).f0) == x1_1) = true := beq_iff_eq.mpr c5
      have c5b1 : (((rd_T45 l0 x5_1).f0) != x1_1) = false := bne_eq_false_iff_eq.mpr c5
      clear c5
      by_cases c6 : ((rd_T45 l0 x5_1).f1.f0) = (wrap64 (x1_1 + 1))
      ·rw [if_pos c6] at H
       have c6b0 : (((rd_T45 l0 x5_1).f1.f0) == (wrap64 (x1_1 + 1))) = true := beq_iff_eq.mpr c6
       have c6b1 : (((rd_T45 l0 x5_1).f1.f0) != (wrap64 (x1_1 + 1))) = false := bne_eq_false_iff_eq.mpr c6
       clear c6
       by_cases c7 : ((rd_T45 l0 x5_1).f1.f1) = (wrap64 ((wrap64 (x1_1 + 1)) + 1))
       ·rw [if_pos c7] at H
        have c7b0 : (((rd_T45 l0 x5_1).f1.f1) == (wrap64 ((wrap64 (x1_1 + 1)) + 1))) = true := beq_iff_eq.mpr c7
        have c7b1 : (((rd_T45 l0 x5_1).f1.f1) != (wrap64 ((wrap64 (x1_1 + 1)) + 1))) = false := bne_eq_false_iff_eq.mpr c7
        clear c7
        by_cases c8 : (((rd_T45 l0 x5_1).f1.f2) != ((Int.tmod (wrap64 ((wrap64 ((wrap64 (x1_1 + 1)) + 1)) + 1)) 3) == 0)) = true
        ·rw [if_pos c8] at H
         have c8b0 : (((rd_T45 l0 x5_1).f1.f2) != ((Int.tmod (wrap64 ((wrap64 ((wrap64 (x1_1 + 1)) + 1)) + 1)) 3) == 0)) = true := c8
         (try (have c8b1 : decide (((rd_T45 l0 x5_1).f1.f2) = ((Int.tmod (wrap64 ((wrap64 ((wrap64 (x1_1 + 1)) + 1)) + 1)) 3) == 0)) = false := by simpa using c8))
         (try (have c8b2 : (((rd_T45 l0 x5_1).f1.f2) == ((Int.tmod (wrap64 ((wrap64 ((wrap64 (x1_1 + 1)) + 1)) + 1)) 3) == 0)) = false := by simpa using c8))
         (try (have c8b3 : ¬ (((rd_T45 l0 x5_1).f1.f2) = ((Int.tmod (wrap64 ((wrap64 ((wrap64 (x1_1 + 1)) + 1)) + 1)) 3) == 0)) := by simpa using c8))
         clear c8
         obtain rfl := Option.some.inj H
         have p388 : 0 ≤ (x5_1 : Int) := dt_
         have q388 : x5_1 < (l0.length : Int) := dt_
         obtain ⟨ad388, e388, hx388_0, hx388_1, hx388_2, hx388_3, hx388_4, hx388_5, hx388_6⟩ := at_T45 HR0.out x5_1 p388 q388
         cases e388
         replace p388 := eq_true p388
         replace q388 := eq_true q388
         have p389 : 0 ≤ (x5_1 : Int) := dt_
         have q389 : x5_1 < (l0.length : Int) := dt_
         obtain ⟨ad389, e389, hx389_0, hx389_1, hx389_2, hx389_3, hx389_4, hx389_5, hx389_6⟩ := at_T45 HR0.out x5_1 p389 q389
         obtain rfl : ad388 = ad389 := (by injection e389)
         replace p389 := eq_true p389
         replace q389 := eq_true q389
         have p390 : 0 ≤ (x5_1 : Int) := dt_
         have q390 : x5_1 < (l0.length : Int) := dt_
         obtain ⟨ad390, e390, hx390_0, hx390_1, hx390_2, hx390_3, hx390_4, hx390_5, hx390_6⟩ := at_T45 HR0.out x5_1 p390 q390
         obtain rfl : ad388 = ad390 := (by injection e390)
         replace p390 := eq_true p390
         replace q390 := eq_true q390
         have p391 : 0 ≤ (x5_1 : Int) := dt_
         have q391 : x5_1 < (l0.length : Int) := dt_
         obtain ⟨ad391, e391, hx391_0, hx391_1, hx391_2, hx391_3, hx391_4, hx391_5, hx391_6⟩ := at_T45 HR0.out x5_1 p391 q391
         obtain rfl : ad388 = ad391 := (by injection e391)
         replace p391 := eq_true p391
         replace q391 := eq_true q391
         go_wp2
         go_ret
         exact ⟨by first | rfl | (simp; done) | (simp [*]; done), by repeat (first | exact Drawn0.refl _ | apply Drawn0.step)⟩
        ·rw [if_neg c8] at H
         have c8b0 : (((rd_T45 l0 x5_1).f1.f2) != ((Int.tmod (wrap64 ((wrap64 ((wrap64 (x1_1 + 1)) + 1)) + 1)) 3) == 0)) = false := by simpa using c8
         (try (have c8b1 : decide (((rd_T45 l0 x5_1).f1.f2) = ((Int.tmod (wrap64 ((wrap64 ((wrap64 (x1_1 + 1)) + 1)) + 1)) 3) == 0)) = true := by simpa using c8))
         (try (have c8b2 : (((rd_T45 l0 x5_1).f1.f2) == ((Int.tmod (wrap64 ((wrap64 ((wrap64 (x1_1 + 1)) + 1)) + 1)) 3) == 0)) = true := by simpa using c8))
         clear c8
         by_cases c9 : (((rd_T45 l0 x5_1).f1.f3) != ((Int.tmod (wrap64 ((wrap64 ((wrap64 ((wrap64 (x1_1 + 1)) + 1)) + 1)) + 1)) 3) == 0)) = true
         ·rw [if_pos c9] at H
          have c9b0 : (((rd_T45 l0 x5_1).f1.f3) != ((Int.tmod (wrap64 ((wrap64 ((wrap64 ((wrap64 (x1_1 + 1)) + 1)) + 1)) + 1)) 3) == 0)) = true := c9
          (try (have c9b1 : decide (((rd_T45 l0 x5_1).f1.f3) = ((Int.tmod (wrap64 ((wrap64 ((wrap64 ((wrap64 (x1_1 + 1)) + 1)) + 1)) + 1)) 3) == 0)) = false := by simpa using c9))
          (try (have c9b2 : (((rd_T45 l0 x5_1).f1.f3) == ((Int.tmod (wrap64 ((wrap64 ((wrap64 ((wrap64 (x1_1 + 1)) + 1)) + 1)) + 1)) 3) == 0)) = false := by simpa using c9))
          (try (have c9b3 : ¬ (((rd_T45 l0 x5_1).f1.f3) = ((Int.tmod (wrap64 ((wrap64 ((wrap64 ((wrap64 (x1_1 + 1)) + 1)) + 1)) + 1)) 3) == 0)) := by simpa using c9))
          clear c9
          obtain rfl := Option.some.inj H
          have p388 : 0 ≤ (x5_1 : Int) := dt_
          have q388 : x5_1 < (l0.length : Int) := dt_
          obtain ⟨ad388, e388, hx388_0, hx388_1, hx388_2, hx388_3, hx388_4, hx388_5, hx388_6⟩ := at_T45 HR0.out x5_1 p388 q388
          cases e388
          replace p388 := eq_true p388
          replace q388 := eq_true q388
          have p389 : 0 ≤ (x5_1 : Int) := dt_
          have q389 : x5_1 < (l0.length : Int) := dt_
          obtain ⟨ad389, e389, hx389_0, hx389_1, hx389_2, hx389_3, hx389_4, hx389_5, hx389_6⟩ := at_T45 HR0.out x5_1 p389 q389
          obtain rfl : ad388 = ad389 := (by injection e389)
          replace p389 := eq_true p389
          replace q389 := eq_true q389
          have p390 : 0 ≤ (x5_1 : Int) := dt_
          have q390 : x5_1 < (l0.length : Int) := dt_
          obtain ⟨ad390, e390, hx390_0, hx390_1, hx390_2, hx390_3, hx390_4, hx390_5, hx390_6⟩ := at_T45 HR0.out x5_1 p390 q390
          obtain rfl : ad388 = ad390 := (by injection e390)
          replace p390 := eq_true p390
          replace q390 := eq_true q390
          have p391 : 0 ≤ (x5_1 : Int) := dt_
          have q391 : x5_1 < (l0.length : Int) := dt_
          obtain ⟨ad391, e391, hx391_0, hx391_1, hx391_2, hx391_3, hx391_4, hx391_5, hx391_6⟩ := at_T45 HR0.out x5_1 p391 q391
          obtain rfl : ad388 = ad391 := (by injection e391)
          replace p391 := eq_true p391
          replace q391 := eq_true q391
          have p392 : 0 ≤ (x5_1 : Int) := dt_
          have q392 : x5_1 < (l0.length : Int) := dt_
          obtain ⟨ad392, e392, hx392_0, hx392_1, hx392_2, hx392_3, hx392_4, hx392_5, hx392_6⟩ := at_T45 HR0.out x5_1 p392 q392
          obtain rfl : ad388 = ad392 := (by injection e392)
          replace p392 := eq_true p392
          replace q392 := eq_true q392
          go_wp2
          go_ret
          exact ⟨by first | rfl | (simp; done) | (simp [*]; done), by repeat (first | exact Drawn0.refl _ | apply Drawn0.step)⟩
         ·rw [if_neg c9] at H
          have c9b0 : (((rd_T45 l0 x5_1).f1.f3) != ((Int.tmod (wrap64 ((wrap64 ((wrap64 ((wrap64 (x1_1 + 1)) + 1)) + 1)) + 1)) 3) == 0)) = false := by simpa using c9
          (try (have c9b1 : decide (((rd_T45 l0 x5_1).f1.f3) = ((Int.tmod (wrap64 ((wrap64 ((wrap64 ((wrap64 (x1_1 + 1)) + 1)) + 1)) + 1)) 3) == 0)) = true := by simpa using c9))
          (try (have c9b2 : (((rd_T45 l0 x5_1).f1.f3) == ((Int.tmod (wrap64 ((wrap64 ((wrap64 ((wrap64 (x1_1 + 1)) + 1)) + 1)) + 1)) 3) == 0)) = true := by simpa using c9))
          clear c9
          by_cases c10 : (((rd_T45 l0 x5_1).f1.f4) != ((Int.tmod (wrap64 ((wrap64 ((wrap64 ((wrap64 ((wrap64 (x1_1 + 1)) + 1)) + 1)) + 1)) + 1)) 3) == 0)) = true
          ·rw [if_pos c10] at H
           have c10b0 : (((rd_T45 l0 x5_1).f1.f4) != ((Int.tmod (wrap64 ((wrap64 ((wrap64 ((wrap64 ((wrap64 (x1_1 + 1)) + 1)) + 1)) + 1)) + 1)) 3) == 0)) = true := c10
           (try (have c10b1 : decide (((rd_T45 l0 x5_1).f1.f4) = ((Int.tmod (wrap64 ((wrap64 ((wrap64 ((wrap64 ((wrap64 (x1_1 + 1)) + 1)) + 1)) + 1)) + 1)) 3) == 0)) = false := by simpa using c10))
           (try (have c10b2 : (((rd_T45 l0 x5_1).f1.f4) == ((Int.tmod (wrap64 ((wrap64 ((wrap64 ((wrap64 ((wrap64 (x1_1 + 1)) + 1)) + 1)) + 1)) + 1)) 3) == 0)) = false := by simpa using c10))
           (try (have c10b3 : ¬ (((rd_T45 l0 x5_1).f1.f4) = ((Int.tmod (wrap64 ((wrap64 ((wrap64 ((wrap64 ((wrap64 (x1_1 + 1)) + 1)) + 1)) + 1)) + 1)) 3) == 0)) := by simpa using c10))
           clear c10
           obtain rfl := Option.some.inj H
           have p388 : 0 ≤ (x5_1 : Int) := dt_
           have q388 : x5_1 < (l0.length : Int) := dt_
           obtain ⟨ad388, e388, hx388_0, hx388_1, hx388_2, hx388_3, hx388_4, hx388_5, hx388_6⟩ := at_T45 HR0.out x5_1 p388 q388
           cases e388
           replace p388 := eq_true p388
           replace q388 := eq_true q388
           have p389 : 0 ≤ (x5_1 : Int) := dt_
           have q389 : x5_1 < (l0.length : Int) := dt_
           obtain ⟨ad389, e389, hx389_0, hx389_1, hx389_2, hx389_3, hx389_4, hx389_5, hx389_6⟩ := at_T45 HR0.out x5_1 p389 q389
           obtain rfl : ad388 = ad389 := (by injection e389)
           replace p389 := eq_true p389
           replace q389 := eq_true q389
           have p390 : 0 ≤ (x5_1 : Int) := dt_
           have q390 : x5_1 < (l0.length : Int) := dt_
           obtain ⟨ad390, e390, hx390_0, hx390_1, hx390_2, hx390_3, hx390_4, hx390_5, hx390_6⟩ := at_T45 HR0.out x5_1 p390 q390
           obtain rfl : ad388 = ad390 := (by injection e390)
           replace p390 := eq_true p390
           replace q390 := eq_true q390
           have p391 : 0 ≤ (x5_1 : Int) := dt_
           have q391 : x5_1 < (l0.length : Int) := dt_
           obtain ⟨ad391, e391, hx391_0, hx391_1, hx391_2, hx391_3, hx391_4, hx391_5, hx391_6⟩ := at_T45 HR0.out x5_1 p391 q391
           obtain rfl : ad388 = ad391 := (by injection e391)
           replace p391 := eq_true p391
           replace q391 := eq_true q391
           have p392 : 0 ≤ (x5_1 : Int) := dt_
           have q392 : x5_1 < (l0.length : Int) := dt_
           obtain ⟨ad392, e392, hx392_0, hx392_1, hx392_2, hx392_3, hx392_4, hx392_5, hx392_6⟩ := at_T45 HR0.out x5_1 p392 q392
           obtain rfl : ad388 = ad392 := (by injection e392)
           replace p392 := eq_true p392
           replace q392 := eq_true q392
           have p393 : 0 ≤ (x5_1 : Int) := dt_
           have q393 : x5_1 < (l0.length : Int) := dt_
           obtain ⟨ad393, e393, hx393_0, hx393_1, hx393_2, hx393_3, hx393_4, hx393_5, hx393_6⟩ := at_T45 HR0.out x5_1 p393 q393
           obtain rfl : ad388 = ad393 := (by injection e393)
           replace p393 := eq_true p393
           replace q393 := eq_true q393
           go_wp2
           go_ret
           exact ⟨by first | rfl | (simp; done) | (simp [*]; done), by repeat (first | exact Drawn0.refl _ | apply Drawn0.step)⟩
          ·rw [if_neg c10] at H
           have c10b0 : (((rd_T45 l0 x5_1).f1.f4) != ((Int.tmod (wrap64 ((wrap64 ((wrap64 ((wrap64 ((wrap64 (x1_1 + 1)) + 1)) + 1)) + 1)) + 1)) 3) == 0)) = false := by simpa using c10
           (try (have c10b1 : decide (((rd_T45 l0 x5_1).f1.f4) = ((Int.tmod (wrap64 ((wrap64 ((wrap64 ((wrap64 ((wrap64 (x1_1 + 1)) + 1)) + 1)) + 1)) + 1)) 3) == 0)) = true := by simpa using c10))
           (try (have c10b2 : (((rd_T45 l0 x5_1).f1.f4) == ((Int.tmod (wrap64 ((wrap64 ((wrap64 ((wrap64 ((wrap64 (x1_1 + 1)) + 1)) + 1)) + 1)) + 1)) 3) == 0)) = true := by simpa using c10))
           clear c10
           by_cases c11 : ((rd_T45 l0 x5_1).f2) = (wrap64 ((wrap64 ((wrap64 ((wrap64 ((wrap64 ((wrap64 (x1_1 + 1)) + 1)) + 1)) + 1)) + 1)) + 1))
           ·rw [if_pos c11] at H
            have c11b0 : (((rd_T45 l0 x5_1).f2) == (wrap64 ((wrap64 ((wrap64 ((wrap64 ((wrap64 ((wrap64 (x1_1 + 1)) + 1)) + 1)) + 1)) + 1)) + 1))) = true := beq_iff_eq.mpr c11
            have c11b1 : (((rd_T45 l0 x5_1).f2) != (wrap64 ((wrap64 ((wrap64 ((wrap64 ((wrap64 ((wrap64 (x1_1 + 1)) + 1)) + 1)) + 1)) + 1)) + 1))) = false := bne_eq_false_iff_eq.mpr c11
            clear c11
            have H' := am H
            clear H
            have p388 : 0 ≤ (x5_1 : Int) := dt_
            have q388 : x5_1 < (l0.length : Int) := dt_
            obtain ⟨ad388, e388, hx388_0, hx388_1, hx388_2, hx388_3, hx388_4, hx388_5, hx388_6⟩ := at_T45 HR0.out x5_1 p388 q388
            cases e388
            replace p388 := eq_true p388
            replace q388 := eq_true q388
            have p389 : 0 ≤ (x5_1 : Int) := dt_
            have q389 : x5_1 < (l0.length : Int) := dt_
            obtain ⟨ad389, e389, hx389_0, hx389_1, hx389_2, hx389_3, hx389_4, hx389_5, hx389_6⟩ := at_T45 HR0.out x5_1 p389 q389
            obtain rfl : ad388 = ad389 := (by injection e389)
            replace p389 := eq_true p389
            replace q389 := eq_true q389
            have p390 : 0 ≤ (x5_1 : Int) := dt_
            have q390 : x5_1 < (l0.length : Int) := dt_
            obtain ⟨ad390, e390, hx390_0, hx390_1, hx390_2, hx390_3, hx390_4, hx390_5, hx390_6⟩ := at_T45 HR0.out x5_1 p390 q390
            obtain rfl : ad388 = ad390 := (by injection e390)
            replace p390 := eq_true p390
            replace q390 := eq_true q390
            have p391 : 0 ≤ (x5_1 : Int) := dt_
            have q391 : x5_1 < (l0.length : Int) := dt_
            obtain ⟨ad391, e391, hx391_0, hx391_1, hx391_2, hx391_3, hx391_4, hx391_5, hx391_6⟩ := at_T45 HR0.out x5_1 p391 q391
            obtain rfl : ad388 = ad391 := (by injection e391)
            replace p391 := eq_true p391
            replace q391 := eq_true q391
            have p392 : 0 ≤ (x5_1 : Int) := dt_
            have q392 : x5_1 < (l0.length : Int) := dt_
            obtain ⟨ad392, e392, hx392_0, hx392_1, hx392_2, hx392_3, hx392_4, hx392_5, hx392_6⟩ := at_T45 HR0.out x5_1 p392 q392
            obtain rfl : ad388 = ad392 := (by injection e392)
            replace p392 := eq_true p392
            replace q392 := eq_true q392
            have p393 : 0 ≤ (x5_1 : Int) := dt_
            have q393 : x5_1 < (l0.length : Int) := dt_
            obtain ⟨ad393, e393, hx393_0, hx393_1, hx393_2, hx393_3, hx393_4, hx393_5, hx393_6⟩ := at_T45 HR0.out x5_1 p393 q393
            obtain rfl : ad388 = ad393 := (by injection e393)
            replace p393 := eq_true p393
            replace q393 := eq_true q393
            have p394 : 0 ≤ (x5_1 : Int) := dt_
            have q394 : x5_1 < (l0.length : Int) := dt_
            obtain ⟨ad394, e394, hx394_0, hx394_1, hx394_2, hx394_3, hx394_4, hx394_5, hx394_6⟩ := at_T45 HR0.out x5_1 p394 q394
            obtain rfl : ad388 = ad394 := (by injection e394)
            replace p394 := eq_true p394
            replace q394 := eq_true q394
            go_wp2
            go_roundg k1
            case measure => have := HK1.out; omega
            case rel => exact ⟨(wrap64 ((wrap64 ((wrap64 ((wrap64 ((wrap64 ((wrap64 ((wrap64 (x1_1 + 1)) + 1)) + 1)) + 1)) + 1)) + 1)) + 1)), (wrap64 (x5_1 + 1)), (by first | rfl | (simp; done) | (simp [*]; done)), (by first | rfl | (simp; done) | (simp [*]; done)), H', ⟨by have := HK1.out; omega⟩, by repeat (first | exact Drawn0.refl _ | apply Drawn0.step)⟩
           ·rw [if_neg c11] at H
            have c11b0 : (((rd_T45 l0 x5_1).f2) == (wrap64 ((wrap64 ((wrap64 ((wrap64 ((wrap64 ((wrap64 (x1_1 + 1)) + 1)) + 1)) + 1)) + 1)) + 1))) = false := beq_eq_false_iff_ne.mpr c11
            have c11b1 : (((rd_T45 l0 x5_1).f2) != (wrap64 ((wrap64 ((wrap64 ((wrap64 ((wrap64 ((wrap64 (x1_1 + 1)) + 1)) + 1)) + 1)) + 1)) + 1))) = true := bne_iff_ne.mpr c11
            obtain rfl := Option.some.inj H
            have p388 : 0 ≤ (x5_1 : Int) := dt_
            have q388 : x5_1 < (l0.length : Int) := dt_
            obtain ⟨ad388, e388, hx388_0, hx388_1, hx388_2, hx388_3, hx388_4, hx388_5, hx388_6⟩ := at_T45 HR0.out x5_1 p388 q388
            cases e388
            replace p388 := eq_true p388
            replace q388 := eq_true q388
            have p389 : 0 ≤ (x5_1 : Int) := dt_
            have q389 : x5_1 < (l0.length : Int) := dt_
            obtain ⟨ad389, e389, hx389_0, hx389_1, hx389_2, hx389_3, hx389_4, hx389_5, hx389_6⟩ := at_T45 HR0.out x5_1 p389 q389
            obtain rfl : ad388 = ad389 := (by injection e389)
            replace p389 := eq_true p389
            replace q389 := eq_true q389
            have p390 : 0 ≤ (x5_1 : Int) := dt_
            have q390 : x5_1 < (l0.length : Int) := dt_
            obtain ⟨ad390, e390, hx390_0, hx390_1, hx390_2, hx390_3, hx390_4, hx390_5, hx390_6⟩ := at_T45 HR0.out x5_1 p390 q390
            obtain rfl : ad388 = ad390 := (by injection e390)
            replace p390 := eq_true p390
            replace q390 := eq_true q390
            have p391 : 0 ≤ (x5_1 : Int) := dt_
            have q391 : x5_1 < (l0.length : Int) := dt_
            obtain ⟨ad391, e391, hx391_0, hx391_1, hx391_2, hx391_3, hx391_4, hx391_5, hx391_6⟩ := at_T45 HR0.out x5_1 p391 q391
            obtain rfl : ad388 = ad391 := (by injection e391)
            replace p391 := eq_true p391
            replace q391 := eq_true q391
            have p392 : 0 ≤ (x5_1 : Int) := dt_
            have q392 : x5_1 < (l0.length : Int) := dt_
            obtain ⟨ad392, e392, hx392_0, hx392_1, hx392_2, hx392_3, hx392_4, hx392_5, hx392_6⟩ := at_T45 HR0.out x5_1 p392 q392
            obtain rfl : ad388 = ad392 := (by injection e392)
            replace p392 := eq_true p392
            replace q392 := eq_true q392
            have p393 : 0 ≤ (x5_1 : Int) := dt_
            have q393 : x5_1 < (l0.length : Int) := dt_
            obtain ⟨ad393, e393, hx393_0, hx393_1, hx393_2, hx393_3, hx393_4, hx393_5, hx393_6⟩ := at_T45 HR0.out x5_1 p393 q393
            obtain rfl : ad388 = ad393 := (by injection e393)
            replace p393 := eq_true p393
            replace q393 := eq_true q393
            have p394 : 0 ≤ (x5_1 : Int) := dt_
            have q394 : x5_1 < (l0.length : Int) := dt_
            obtain ⟨ad394, e394, hx394_0, hx394_1, hx394_2, hx394_3, hx394_4, hx394_5, hx394_6⟩ := at_T45 HR0.out x5_1 p394 q394
            obtain rfl : ad388 = ad394 := (by injection e394)
            replace p394 := eq_true p394
            replace q394 := eq_true q394
            go_wp2
            go_ret
            exact ⟨by first | rfl | (simp; done) | (simp [*]; done), by repeat (first | exact Drawn0.refl _ | apply Drawn0.step)⟩
       ·rw [if_neg c7] at H
        have c7b0 : (((rd_T45 l0 x5_1).f1.f1) == (wrap64 ((wrap64 (x1_1 + 1)) + 1))) = false := beq_eq_false_iff_ne.mpr c7
        have c7b1 : (((rd_T45 l0 x5_1).f1.f1) != (wrap64 ((wrap64 (x1_1 + 1)) + 1))) = true := bne_iff_ne.mpr c7
        obtain rfl := Option.some.inj H
        have p388 : 0 ≤ (x5_1 : Int) := dt_
        have q388 : x5_1 < (l0.length : Int) := dt_
        obtain ⟨ad388, e388, hx388_0, hx388_1, hx388_2, hx388_3, hx388_4, hx388_5, hx388_6⟩ := at_T45 HR0.out x5_1 p388 q388
        cases e388
        replace p388 := eq_true p388
        replace q388 := eq_true q388
        have p389 : 0 ≤ (x5_1 : Int) := dt_
        have q389 : x5_1 < (l0.length : Int) := dt_
        obtain ⟨ad389, e389, hx389_0, hx389_1, hx389_2, hx389_3, hx389_4, hx389_5, hx389_6⟩ := at_T45 HR0.out x5_1 p389 q389
        obtain rfl : ad388 = ad389 := (by injection e389)
        replace p389 := eq_true p389
        replace q389 := eq_true q389
        have p390 : 0 ≤ (x5_1 : Int) := dt_
        have q390 : x5_1 < (l0.length : Int) := dt_
        obtain ⟨ad390, e390, hx390_0, hx390_1, hx390_2, hx390_3, hx390_4, hx390_5, hx390_6⟩ := at_T45 HR0.out x5_1 p390 q390
        obtain rfl : ad388 = ad390 := (by injection e390)
        replace p390 := eq_true p390
        replace q390 := eq_true q390
        go_wp2
        go_ret
        exact ⟨by first | rfl | (simp; done) | (simp [*]; done), by repeat (first | exact Drawn0.refl _ | apply Drawn0.step)⟩
      ·rw [if_neg c6] at H
       have c6b0 : (((rd_T45 l0 x5_1).f1.f0) == (wrap64 (x1_1 + 1))) = false := beq_eq_false_iff_ne.mpr c6
       have c6b1 : (((rd_T45 l0 x5_1).f1.f0) != (wrap64 (x1_1 + 1))) = true := bne_iff_ne.mpr c6
       obtain rfl := Option.some.inj H
       have p388 : 0 ≤ (x5_1 : Int) := dt_
       have q388 : x5_1 < (l0.length : Int) := dt_
       obtain ⟨ad388, e388, hx388_0, hx388_1, hx388_2, hx388_3, hx388_4, hx388_5, hx388_6⟩ := at_T45 HR0.out x5_1 p388 q388
       cases e388
       replace p388 := eq_true p388
       replace q388 := eq_true q388
       have p389 : 0 ≤ (x5_1 : Int) := dt_
       have q389 : x5_1 < (l0.length : Int) := dt_
       obtain ⟨ad389, e389, hx389_0, hx389_1, hx389_2, hx389_3, hx389_4, hx389_5, hx389_6⟩ := at_T45 HR0.out x5_1 p389 q389
       obtain rfl : ad388 = ad389 := (by injection e389)
       replace p389 := eq_true p389
       replace q389 := eq_true q389
       go_wp2
       go_ret
       exact ⟨by first | rfl | (simp; done) | (simp [*]; done), by repeat (first | exact Drawn0.refl _ | apply Drawn0.step)⟩
     ·rw [if_neg c5] at H
      have c5b0 : (((rd_T45 l0 x5_1).f0) == x1_1) = false := beq_eq_false_iff_ne.mpr c5
      have c5b1 : (((rd_T45 l0 x5_1).f0) != x1_1) = true := bne_iff_ne.mpr c5
      obtain rfl := Option.some.inj H
      have p388 : 0 ≤ (x5_1 : Int) := dt_
      have q388 : x5_1 < (l0.length : Int) := dt_
      obtain ⟨ad388, e388, hx388_0, hx388_1, hx388_2, hx388_3, hx388_4, hx388_5, hx388_6⟩ := at_T45 HR0.out x5_1 p388 q388
      cases e388
      replace p388 := eq_true p388
      replace q388 := eq_true q388
      go_wp2
      go_ret
      exact ⟨by first | rfl | (simp; done) | (simp [*]; done), by repeat (first | exact Drawn0.refl _ | apply Drawn0.step)⟩
    ·rw [if_neg c4] at H
     exact absurd H (by simp)
   ·rw [if_neg c3] at H
    have c3b0 : decide (x5_1 < (l0.length : Int)) = false := decide_eq_false c3
    clear c3
    obtain rfl := Option.some.inj H
    go_wp2
    go_ret
    exact ⟨by first | rfl | (simp; done) | (simp [*]; done), by repeat (first | exact Drawn0.refl _ | apply Drawn0.step)⟩

end Go.Proofs.YtalopdcephohgaaDoor.SB
