/- Contracts of Go functions that laws of this seat reach: each Lean function answers as its Go function does. No condition. Written by wip/tools/inj.py, over the kit's print. -/
import Derived.Test.YtalopdcephohgaaDoorSBx0
import Derived.Test.YtalopdcephohgaaDoorSBx21
namespace Go.Proofs.YtalopdcephohgaaDoor.SB
open Go.RowKit Go.Proofs.YtalopdcephohgaaDoorW.PrintWords Go.Proofs.YtalopdcephohgaaDoorW.PrintLast Go.Proofs.YtalopdcephohgaaDoorW.PrintMore
attribute [local go_sem] max2_int min2_int max_two min_two max_three min_three max_four min_four   -- for this text's walks alone
set_option linter.unusedVariables false
set_option linter.unusedSimpArgs false

/-! ### laws_heldChangeS: function 29 -/
def laws_heldChangeS.l0 : Nat → List (S40) → Int → Int → Option (Int)
 | 0, _, _, _ => none
 | k + 1, x0, x1, x5 => if x5 < (x0.length : Int) then (if 0 ≤ x5 then (if ((rd_T40 x0 x5).f0) = x1 then (if ((rd_T40 x0 x5).f1) = (wrap64 (x1 + 1)) then ((laws_heldCellS.f k ((rd_T40 x0 x5).f2) (wrap64 ((wrap64 (x1 + 1)) + 1))).bind fun t398 => (if t398 < 0 then (some (-1)) else (laws_heldChangeS.l0 k x0 t398 (wrap64 (x5 + 1))))) else (some (-1))) else (some (-1))) else (none)) else (some x1)
def laws_heldChangeS.f (k : Nat) (l0 : List (S40)) (a1 : Int) : Option (Int) := laws_heldChangeS.l0 k l0 a1 0
theorem laws_heldChangeS.mono_l : ∀ k, (∀ y0 y1 y2, LeO (laws_heldChangeS.l0 k y0 y1 y2) (laws_heldChangeS.l0 (k + 1) y0 y1 y2))
 | 0 => fun _ _ _ r h => by simp [laws_heldChangeS.l0] at h
 | k + 1 => by
  have ih0 := laws_heldChangeS.mono_l k
  ·intro y0 y1 y2
   unfold laws_heldChangeS.l0
   repeat' first
   | (with_reducible exact ih0 _ _ _)
   | (with_reducible exact laws_heldCellS.mono _ _ _)
   | (with_reducible exact LeO.refl _)
   | (with_reducible exact LeO.none _)
   | (with_reducible refine LeO.ite ?_ ?_)
   | (with_reducible refine LeO.bind ?_ (fun _ => ?_))
   | exact ih0 _ _ _
   | exact laws_heldCellS.mono _ _ _
   | exact LeO.none _
   | refine LeO.ite ?_ ?_
   | refine LeO.bind ?_ (fun _ => ?_)
theorem laws_heldChangeS.mono : ∀ a0 a1 k, LeO (laws_heldChangeS.f k a0 a1) (laws_heldChangeS.f (k + 1) a0 a1) := by
 intro a0 a1 k
 have ih0 := laws_heldChangeS.mono_l k
 unfold laws_heldChangeS.f
 repeat' first
   | (with_reducible exact ih0 _ _ _)
   | (with_reducible exact laws_heldCellS.mono _ _ _)
   | (with_reducible exact LeO.refl _)
   | (with_reducible exact LeO.none _)
   | (with_reducible refine LeO.ite ?_ ?_)
   | (with_reducible refine LeO.bind ?_ (fun _ => ?_))
   | exact ih0 _ _ _
   | exact laws_heldCellS.mono _ _ _
   | exact LeO.none _
   | refine LeO.ite ?_ ?_
   | refine LeO.bind ?_ (fun _ => ?_)
set_option maxHeartbeats 8000000 in
set_option maxRecDepth 100000 in
theorem laws_heldChangeS.calls (k : Nat) (A0 : Option Addr) (c0 : Nat) (l0 : List (S40)) (a1 : Int) (r : Int) (w : World) (hr0 : Kd.C k40 w A0 l0.length l0) (hc0 : l0.length ≤ c0) (h : laws_heldChangeS.f k l0 a1 = some r) :
  Calls Tryd.prog 29 #[.slice A0 l0.length c0, .int .i64 a1] w fun e w' => e = .returned (.int .i64 r) ∧ Drawn0 w w' := by
 have HR0 := am hr0
 have HC0 := am hc0
 clear hr0 hc0
 have H : (laws_heldChangeS.l0 k l0 a1 0) = some r := h
 clear h
 have H' := am H
 clear H
 go_enter Tryd.func29, Tryd.ntmps29
 go_wp2
 go_loopg [1, 5] k (fun kq v1 v5 w' => ∃ (x1_1 : Int) (x5_1 : Int), v1 = .int .i64 x1_1 ∧ v5 = .int .i64 x5_1 ∧ Aside0 (laws_heldChangeS.l0 kq l0 x1_1 x5_1 = some r) ∧ Aside0 (kq ≤ k) ∧ Drawn0 w w')
 case atStart => exact ⟨(a1), (0), (by first | rfl | (simp; done) | (simp [*]; done)), (by first | rfl | (simp; done) | (simp [*]; done)), H', ⟨Nat.le_refl _⟩, by repeat (first | exact Drawn0.refl _ | apply Drawn0.step)⟩
 case round =>
  clear H'
  try clear c2
  try clear p2
  obtain ⟨x1_1, x5_1, rfl, rfl, HA, HK1, ⟨m1, rfl⟩⟩ := hrel
  cases gk with
  | zero => exact absurd HA.out (by simp [laws_heldChangeS.l0])
  | succ k1 =>
   have H := HA.out
   clear HA
   simp only [laws_heldChangeS.l0] at H
   by_cases c3 : x5_1 < (l0.length : Int)
   ·rw [if_pos c3] at H
    have c3b0 : decide (x5_1 < (l0.length : Int)) = true := decide_eq_true c3
    clear c3
    by_cases c4 : 0 ≤ x5_1
    ·rw [if_pos c4] at H
     have c4b0 : decide (0 ≤ x5_1) = true := decide_eq_true c4
     clear c4
     by_cases c5 : ((rd_T40 l0 x5_1).f0) = x1_1
     ·rw [if_pos c5] at H
      have c5b0 : (((rd_T40 l0 x5_1).f0) == x1_1) = true := beq_iff_eq.mpr c5
      have c5b1 : (((rd_T40 l0 x5_1).f0) != x1_1) = false := bne_eq_false_iff_eq.mpr c5
      clear c5
      by_cases c6 : ((rd_T40 l0 x5_1).f1) = (wrap64 (x1_1 + 1))
      ·rw [if_pos c6] at H
       have c6b0 : (((rd_T40 l0 x5_1).f1) == (wrap64 (x1_1 + 1))) = true := beq_iff_eq.mpr c6
       have c6b1 : (((rd_T40 l0 x5_1).f1) != (wrap64 (x1_1 + 1))) = false := bne_eq_false_iff_eq.mpr c6
       clear c6
       replace H := Option.bind_eq_some_iff.mp H
       obtain ⟨t398, A70, H⟩ := H
       replace H : (if t398 < 0 then (some (-1)) else (laws_heldChangeS.l0 k1 l0 t398 (wrap64 (x5_1 + 1)))) = some r := H
       have A7 := am A70
       clear A70
       by_cases c8 : t398 < 0
       ·rw [if_pos c8] at H
        have c8b0 : decide (t398 < 0) = true := decide_eq_true c8
        clear c8
        obtain rfl := Option.some.inj H
        have p395 : 0 ≤ (x5_1 : Int) := dt_
        have q395 : x5_1 < (l0.length : Int) := dt_
        obtain ⟨ad395, A395_2, c395_2, e395, hx395_0, hx395_1, hx395_2, hl395_2, hi395_2⟩ := at_T40 HR0.out x5_1 p395 q395
        cases e395
        have HR395_2 := am hi395_2
        have HC395_2 := am hl395_2
        clear hi395_2 hl395_2
        replace p395 := eq_true p395
        replace q395 := eq_true q395
        have p396 : 0 ≤ (x5_1 : Int) := dt_
        have q396 : x5_1 < (l0.length : Int) := dt_
        obtain ⟨ad396, A396_2, c396_2, e396, hx396_0, hx396_1, hx396_2, hl396_2, hi396_2⟩ := at_T40 HR0.out x5_1 p396 q396
        obtain rfl : ad395 = ad396 := (by injection e396)
        have HR396_2 := am hi396_2
        have HC396_2 := am hl396_2
        clear hi396_2 hl396_2
        replace p396 := eq_true p396
        replace q396 := eq_true q396
        have ea_ := Option.some.inj (hx395_2.symm.trans hx396_2)
        injection ea_ with ea_ en_ ec_
        subst ea_
        subst ec_
        clear en_
        have p397 : 0 ≤ (x5_1 : Int) := dt_
        have q397 : x5_1 < (l0.length : Int) := dt_
        obtain ⟨ad397, A397_2, c397_2, e397, hx397_0, hx397_1, hx397_2, hl397_2, hi397_2⟩ := at_T40 HR0.out x5_1 p397 q397
        obtain rfl : ad395 = ad397 := (by injection e397)
        have HR397_2 := am hi397_2
        have HC397_2 := am hl397_2
        clear hi397_2 hl397_2
        replace p397 := eq_true p397
        replace q397 := eq_true q397
        have ea_ := Option.some.inj (hx395_2.symm.trans hx397_2)
        injection ea_ with ea_ en_ ec_
        subst ea_
        subst ec_
        clear en_
        go_wp2_with (first | ((with_reducible refine gate_callee (f := 44) rfl ?_); refine gl_ (some 36) Tryd.func44 #[.slice A395_2 ((rd_T40 l0 x5_1).f2).length c395_2, .int .i64 (wrap64 ((wrap64 (x1_1 + 1)) + 1))] ?_; (with_reducible refine (laws_heldCellS.calls k1 _ _ ((rd_T40 l0 x5_1).f2) (wrap64 ((wrap64 (x1_1 + 1)) + 1)) t398 _ ?side1 ?side2 A7.out).mono ?_); (case side1 => exact rc (HR397_2.out)); (case side2 => exact HC397_2.out); rintro e w' ⟨rfl, ⟨nd, rfl⟩⟩; refine ⟨_, rfl, ?_⟩))
        go_ret
        exact ⟨by first | rfl | (simp; done) | (simp [*]; done), by repeat (first | exact Drawn0.refl _ | apply Drawn0.step)⟩
       ·rw [if_neg c8] at H
        have c8b0 : decide (t398 < 0) = false := decide_eq_false c8
        clear c8
        have H' := am H
        clear H
        have p395 : 0 ≤ (x5_1 : Int) := dt_
        have q395 : x5_1 < (l0.length : Int) := dt_
        obtain ⟨ad395, A395_2, c395_2, e395, hx395_0, hx395_1, hx395_2, hl395_2, hi395_2⟩ := at_T40 HR0.out x5_1 p395 q395
        cases e395
        have HR395_2 := am hi395_2
        have HC395_2 := am hl395_2
        clear hi395_2 hl395_2
        replace p395 := eq_true p395
        replace q395 := eq_true q395
        have p396 : 0 ≤ (x5_1 : Int) := dt_
        have q396 : x5_1 < (l0.length : Int) := dt_
        obtain ⟨ad396, A396_2, c396_2, e396, hx396_0, hx396_1, hx396_2, hl396_2, hi396_2⟩ := at_T40 HR0.out x5_1 p396 q396
        obtain rfl : ad395 = ad396 := (by injection e396)
        have HR396_2 := am hi396_2
        have HC396_2 := am hl396_2
        clear hi396_2 hl396_2
        replace p396 := eq_true p396
        replace q396 := eq_true q396
        have ea_ := Option.some.inj (hx395_2.symm.trans hx396_2)
        injection ea_ with ea_ en_ ec_
        subst ea_
        subst ec_
        clear en_
        have p397 : 0 ≤ (x5_1 : Int) := dt_
        have q397 : x5_1 < (l0.length : Int) := dt_
        obtain ⟨ad397, A397_2, c397_2, e397, hx397_0, hx397_1, hx397_2, hl397_2, hi397_2⟩ := at_T40 HR0.out x5_1 p397 q397
        obtain rfl : ad395 = ad397 := (by injection e397)
        have HR397_2 := am hi397_2
        have HC397_2 := am hl397_2
        clear hi397_2 hl397_2
        replace p397 := eq_true p397
        replace q397 := eq_true q397
        have ea_ := Option.some.inj (hx395_2.symm.trans hx397_2)
        injection ea_ with ea_ en_ ec_
        subst ea_
        subst ec_
        clear en_
        go_wp2_with (first | ((with_reducible refine gate_callee (f := 44) rfl ?_); refine gl_ (some 36) Tryd.func44 #[.slice A395_2 ((rd_T40 l0 x5_1).f2).length c395_2, .int .i64 (wrap64 ((wrap64 (x1_1 + 1)) + 1))] ?_; (with_reducible refine (laws_heldCellS.calls k1 _ _ ((rd_T40 l0 x5_1).f2) (wrap64 ((wrap64 (x1_1 + 1)) + 1)) t398 _ ?side1 ?side2 A7.out).mono ?_); (case side1 => exact rc (HR397_2.out)); (case side2 => exact HC397_2.out); rintro e w' ⟨rfl, ⟨nd, rfl⟩⟩; refine ⟨_, rfl, ?_⟩))
        go_roundg k1
        case measure => have := HK1.out; omega
        case rel => exact ⟨(t398), (wrap64 (x5_1 + 1)), (by first | rfl | (simp; done) | (simp [*]; done)), (by first | rfl | (simp; done) | (simp [*]; done)), H', ⟨by have := HK1.out; omega⟩, by repeat (first | exact Drawn0.refl _ | apply Drawn0.step)⟩
      ·rw [if_neg c6] at H
       have c6b0 : (((rd_T40 l0 x5_1).f1) == (wrap64 (x1_1 + 1))) = false := beq_eq_false_iff_ne.mpr c6
       have c6b1 : (((rd_T40 l0 x5_1).f1) != (wrap64 (x1_1 + 1))) = true := bne_iff_ne.mpr c6
       obtain rfl := Option.some.inj H
       have p395 : 0 ≤ (x5_1 : Int) := dt_
       have q395 : x5_1 < (l0.length : Int) := dt_
       obtain ⟨ad395, A395_2, c395_2, e395, hx395_0, hx395_1, hx395_2, hl395_2, hi395_2⟩ := at_T40 HR0.out x5_1 p395 q395
       cases e395
       have HR395_2 := am hi395_2
       have HC395_2 := am hl395_2
       clear hi395_2 hl395_2
       replace p395 := eq_true p395
       replace q395 := eq_true q395
       have p396 : 0 ≤ (x5_1 : Int) := dt_
       have q396 : x5_1 < (l0.length : Int) := dt_
       obtain ⟨ad396, A396_2, c396_2, e396, hx396_0, hx396_1, hx396_2, hl396_2, hi396_2⟩ := at_T40 HR0.out x5_1 p396 q396
       obtain rfl : ad395 = ad396 := (by injection e396)
       have HR396_2 := am hi396_2
       have HC396_2 := am hl396_2
       clear hi396_2 hl396_2
       replace p396 := eq_true p396
       replace q396 := eq_true q396
       have ea_ := Option.some.inj (hx395_2.symm.trans hx396_2)
       injection ea_ with ea_ en_ ec_
       subst ea_
       subst ec_
       clear en_
       go_wp2
       go_ret
       exact ⟨by first | rfl | (simp; done) | (simp [*]; done), by repeat (first | exact Drawn0.refl _ | apply Drawn0.step)⟩
     ·rw [if_neg c5] at H
      have c5b0 : (((rd_T40 l0 x5_1).f0) == x1_1) = false := beq_eq_false_iff_ne.mpr c5
      have c5b1 : (((rd_T40 l0 x5_1).f0) != x1_1) = true := bne_iff_ne.mpr c5
      obtain rfl := Option.some.inj H
      have p395 : 0 ≤ (x5_1 : Int) := dt_
      have q395 : x5_1 < (l0.length : Int) := dt_
      obtain ⟨ad395, A395_2, c395_2, e395, hx395_0, hx395_1, hx395_2, hl395_2, hi395_2⟩ := at_T40 HR0.out x5_1 p395 q395
      cases e395
      have HR395_2 := am hi395_2
      have HC395_2 := am hl395_2
      clear hi395_2 hl395_2
      replace p395 := eq_true p395
      replace q395 := eq_true q395
      go_wp2
      go_ret
      exact ⟨by first | rfl | (simp; done) | (simp [*]; done), by repeat (first | exact Drawn0.refl _ | apply Drawn0.step)⟩
    ·rw [if_neg c4] at H
     exact absurd H (by simp)
   ·rw [if_neg c3] at H
    have c3b0 : decide (x5_1 < (l0.length : Int)) = false := decide_eq_false c3
    clear c3
    obtain rfl := Option.some.inj H
    go_wp2
    go_ret
    exact ⟨by first | rfl | (simp; done) | (simp [*]; done), by repeat (first | exact Drawn0.refl _ | apply Drawn0.step)⟩

/-! ### laws_heldPatch: function 13 -/
def laws_heldPatch.f (k : Nat) (a0_0 : Int) (a0_1 : Int) (l0_2 : List (S40)) (a1 : Int) : Option (Int) := (laws_heldChangeS.f k l0_2 a1).bind fun t400 => (if t400 < 0 then (some (-1)) else (some t400))
theorem laws_heldPatch.mono : ∀ a0 a1 a2 a3 k, LeO (laws_heldPatch.f k a0 a1 a2 a3) (laws_heldPatch.f (k + 1) a0 a1 a2 a3) := by
 intro a0 a1 a2 a3 k
 unfold laws_heldPatch.f
 repeat' first
   | (with_reducible exact laws_heldChangeS.mono _ _ _)
   | (with_reducible exact LeO.refl _)
   | (with_reducible exact LeO.none _)
   | (with_reducible refine LeO.ite ?_ ?_)
   | (with_reducible refine LeO.bind ?_ (fun _ => ?_))
   | exact laws_heldChangeS.mono _ _ _
   | exact LeO.none _
   | refine LeO.ite ?_ ?_
   | refine LeO.bind ?_ (fun _ => ?_)
set_option maxHeartbeats 8000000 in
set_option maxRecDepth 100000 in
theorem laws_heldPatch.calls (k : Nat) (a0_0 : Int) (a0_1 : Int) (A0_2 : Option Addr) (c0_2 : Nat) (l0_2 : List (S40)) (a1 : Int) (r : Int) (w : World) (hr0_2 : Kd.C k40 w A0_2 l0_2.length l0_2) (hc0_2 : l0_2.length ≤ c0_2) (h : laws_heldPatch.f k a0_0 a0_1 l0_2 a1 = some r) :
  Calls Tryd.prog 13 #[.agg #[.int .i64 a0_0, .int .i64 a0_1, .slice A0_2 l0_2.length c0_2], .int .i64 a1] w fun e w' => e = .returned (.int .i64 r) ∧ Below w.heap.size w w' := by
 have hu29 := Tryd.underlying29
 have HR0_2 := am hr0_2
 have HC0_2 := am hc0_2
 clear hr0_2 hc0_2
 have HB := am (Below.refl w.heap.size w)
 have H : ((laws_heldChangeS.f k l0_2 a1).bind fun t400 => (if t400 < 0 then (some (-1)) else (some t400))) = some r := h
 clear h
 replace H := Option.bind_eq_some_iff.mp H
 obtain ⟨t400, A30, H⟩ := H
 replace H : (if t400 < 0 then (some (-1)) else (some t400)) = some r := H
 have A3 := am A30
 clear A30
 by_cases c4 : t400 < 0
 ·rw [if_pos c4] at H
  have c4b0 : decide (t400 < 0) = true := decide_eq_true c4
  clear c4
  obtain rfl := Option.some.inj H
  go_enter Tryd.func13, Tryd.ntmps13
  go_wp2_with (first | ((with_reducible refine gate_dst (N := 2) rfl ?_); refine box_event ?hg (N := 2) ?hd (cs := #[.int .i64 a0_0, .int .i64 a0_1, .slice A0_2 l0_2.length c0_2]) (t := 29) ?hr ?_; (case hd => rfl); (case hg => rfl); (case hr => first | (go_simp; done) | (go_simp; rfl)); intro gb399 hg w5 hbox hb; have n0_ := am (below_step (rb HB) hb); have n1_ := am (hbox); have n2_ := am ((by rw [hg]; exact (below_size (rb HB)) : w.heap.size ≤ gb399)); have n3_ := am ((by rw [hg]; exact (below_size (rb HB)) : w.heap.size ≤ gb399)); clear HB; have HB := n0_; have BK399 := n1_; have GW399 := n2_; have GE399 := n3_; clear n0_ n1_ n2_ n3_; clear hb hbox hg; have hcz6_0 : w5.cell? ⟨gb399, 0, none⟩ = some (.int .i64 a0_0) := (blk_cell BK399.out 0).trans rfl; have hcz6_1 : w5.cell? ⟨gb399, 1, none⟩ = some (.int .i64 a0_1) := (blk_cell BK399.out 1).trans rfl; have hcz6_2 : w5.cell? ⟨gb399, 2, none⟩ = some (.slice A0_2 l0_2.length c0_2) := (blk_cell BK399.out 2).trans rfl; have hfz6_0 := blk_frozen BK399.out 0; have hfz6_1 := blk_frozen BK399.out 1; have hfz6_2 := blk_frozen BK399.out 2) | ((with_reducible refine gate_callee (f := 29) rfl ?_); refine gl_ (some 8) Tryd.func29 #[.slice A0_2 l0_2.length c0_2, .int .i64 a1] ?_; (with_reducible refine (laws_heldChangeS.calls k _ _ l0_2 a1 t400 _ ?side1 ?side2 A3.out).mono ?_); (case side1 => exact rc ((Kd.C_below HR0_2.out HB.out))); (case side2 => exact HC0_2.out); rintro e w' ⟨rfl, ⟨nd, rfl⟩⟩; refine ⟨_, rfl, ?_⟩))
  go_ret
  exact ⟨by first | rfl | (simp [errW_none, errW_some] <;> rfl) | (simp [*, errW_none, errW_some] <;> rfl), by repeat (first | (with_reducible first | exact HB.out | apply b1 | apply b2 | apply b3 | refine below_set ?_ GE399.out) | exact HB.out)⟩
 ·rw [if_neg c4] at H
  have c4b0 : decide (t400 < 0) = false := decide_eq_false c4
  clear c4
  obtain rfl := Option.some.inj H
  go_enter Tryd.func13, Tryd.ntmps13
  go_wp2_with (first | ((with_reducible refine gate_dst (N := 2) rfl ?_); refine box_event ?hg (N := 2) ?hd (cs := #[.int .i64 a0_0, .int .i64 a0_1, .slice A0_2 l0_2.length c0_2]) (t := 29) ?hr ?_; (case hd => rfl); (case hg => rfl); (case hr => first | (go_simp; done) | (go_simp; rfl)); intro gb399 hg w7 hbox hb; have n0_ := am (below_step (rb HB) hb); have n1_ := am (hbox); have n2_ := am ((by rw [hg]; exact (below_size (rb HB)) : w.heap.size ≤ gb399)); have n3_ := am ((by rw [hg]; exact (below_size (rb HB)) : w.heap.size ≤ gb399)); clear HB; have HB := n0_; have BK399 := n1_; have GW399 := n2_; have GE399 := n3_; clear n0_ n1_ n2_ n3_; clear hb hbox hg; have hcz8_0 : w7.cell? ⟨gb399, 0, none⟩ = some (.int .i64 a0_0) := (blk_cell BK399.out 0).trans rfl; have hcz8_1 : w7.cell? ⟨gb399, 1, none⟩ = some (.int .i64 a0_1) := (blk_cell BK399.out 1).trans rfl; have hcz8_2 : w7.cell? ⟨gb399, 2, none⟩ = some (.slice A0_2 l0_2.length c0_2) := (blk_cell BK399.out 2).trans rfl; have hfz8_0 := blk_frozen BK399.out 0; have hfz8_1 := blk_frozen BK399.out 1; have hfz8_2 := blk_frozen BK399.out 2) | ((with_reducible refine gate_callee (f := 29) rfl ?_); refine gl_ (some 8) Tryd.func29 #[.slice A0_2 l0_2.length c0_2, .int .i64 a1] ?_; (with_reducible refine (laws_heldChangeS.calls k _ _ l0_2 a1 t400 _ ?side1 ?side2 A3.out).mono ?_); (case side1 => exact rc ((Kd.C_below HR0_2.out HB.out))); (case side2 => exact HC0_2.out); rintro e w' ⟨rfl, ⟨nd, rfl⟩⟩; refine ⟨_, rfl, ?_⟩))
  go_ret
  exact ⟨by first | rfl | (simp [errW_none, errW_some] <;> rfl) | (simp [*, errW_none, errW_some] <;> rfl), by repeat (first | (with_reducible first | exact HB.out | apply b1 | apply b2 | apply b3 | refine below_set ?_ GE399.out) | exact HB.out)⟩

end Go.Proofs.YtalopdcephohgaaDoor.SB
