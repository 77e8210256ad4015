/- Contracts of Go functions that laws of this seat reach: each Lean function answers as its Go function does. No condition. Written by wip/tools/inj.py, over the kit's print. -/
import Derived.Test.YtalopdcephohgaaRBx0
import Derived.Test.YtalopdcephohgaaRBx29
namespace Go.Proofs.Ytalopdcephohgaa.RB
open Go.RowKit Go.Proofs.YtalopdcephohgaaW.PrintWords Go.Proofs.YtalopdcephohgaaW.PrintLast Go.Proofs.YtalopdcephohgaaW.PrintMore
attribute [local go_sem] max2_int min2_int max_two min_two max_three min_three max_four min_four   -- for this text's walks alone
set_option linter.unusedVariables false
set_option linter.unusedSimpArgs false

/-! ### laws_heldChangeS: function 78 -/
def laws_heldChangeS.l0 : Nat → List (S101) → Int → Int → Option (Int)
 | 0, _, _, _ => none
 | k + 1, x0, x1, x5 => if x5 < (x0.length : Int) then (if 0 ≤ x5 then (if ((rd_T101 x0 x5).f0) = x1 then (if ((rd_T101 x0 x5).f1) = (wrap64 (x1 + 1)) then ((laws_heldCellS.f k ((rd_T101 x0 x5).f2) (wrap64 ((wrap64 (x1 + 1)) + 1))).bind fun t525 => (if t525 < 0 then (some (-1)) else (laws_heldChangeS.l0 k x0 t525 (wrap64 (x5 + 1))))) else (some (-1))) else (some (-1))) else (none)) else (some x1)
def laws_heldChangeS.f (k : Nat) (l0 : List (S101)) (a1 : Int) : Option (Int) := laws_heldChangeS.l0 k l0 a1 0
theorem laws_heldChangeS.mono_l : ∀ k, (∀ y0 y1 y2, LeO (laws_heldChangeS.l0 k y0 y1 y2) (laws_heldChangeS.l0 (k + 1) y0 y1 y2))
 | 0 => fun _ _ _ r h => by simp [laws_heldChangeS.l0] at h
 | k + 1 => by
  have ih0 := laws_heldChangeS.mono_l k
  ·intro y0 y1 y2
   unfold laws_heldChangeS.l0
   repeat' first
   | (with_reducible exact ih0 _ _ _)
   | (with_reducible exact laws_heldCellS.mono _ _ _)
   | (with_reducible exact LeO.refl _)
   | (with_reducible exact LeO.none _)
   | (with_reducible refine LeO.ite ?_ ?_)
   | (with_reducible refine LeO.bind ?_ (fun _ => ?_))
theorem laws_heldChangeS.mono : ∀ a0 a1 k, LeO (laws_heldChangeS.f k a0 a1) (laws_heldChangeS.f (k + 1) a0 a1) := by
 intro a0 a1 k
 have ih0 := laws_heldChangeS.mono_l k
 unfold laws_heldChangeS.f
 repeat' first
   | (with_reducible exact ih0 _ _ _)
   | (with_reducible exact laws_heldCellS.mono _ _ _)
   | (with_reducible exact LeO.refl _)
   | (with_reducible exact LeO.none _)
   | (with_reducible refine LeO.ite ?_ ?_)
   | (with_reducible refine LeO.bind ?_ (fun _ => ?_))
set_option maxHeartbeats 8000000 in
set_option maxRecDepth 100000 in
theorem laws_heldChangeS.calls (k : Nat) (A0 : Option Addr) (c0 : Nat) (l0 : List (S101)) (a1 : Int) (r : Int) (w : World) (hr0 : Kd.C k101 w A0 l0.length l0) (hc0 : l0.length ≤ c0) (h : laws_heldChangeS.f k l0 a1 = some r) :
  Calls Try.prog 78 #[.slice A0 l0.length c0, .int .i64 a1] w fun e w' => e = .returned (.int .i64 r) ∧ Drawn0 w w' := by
 (
have HR0 := am hr0
have HC0 := am hc0
clear hr0 hc0
have H : (laws_heldChangeS.l0 k l0 a1 0) = some r := h
clear h
have H' := am H
clear H
go_enter Try.func78, Try.ntmps78
go_wp2
go_loopg [1, 5] k (fun kq v1 v5 w' => ∃ (x1_1 : Int) (x5_1 : Int), v1 = .int .i64 x1_1 ∧ v5 = .int .i64 x5_1 ∧ Aside0 (laws_heldChangeS.l0 kq l0 x1_1 x5_1 = some r) ∧ Aside0 (kq ≤ k) ∧ Drawn0 w w')
case atStart => exact ⟨(a1), (0), (by first | rfl | (simp; done) | (simp [*]; done)), (by first | rfl | (simp; done) | (simp [*]; done)), H', ⟨Nat.le_refl _⟩, by repeat (first | exact Drawn0.refl _ | apply Drawn0.step)⟩
case round => (
clear H'
try clear p2
obtain ⟨x1_1, x5_1, rfl, rfl, HA, HK1, ⟨m1, rfl⟩⟩ := hrel
cases gk with
| zero => exact absurd HA.out (by simp [laws_heldChangeS.l0])
| succ k1 => (
have H := HA.out
clear HA
simp only [laws_heldChangeS.l0] at H
refine em_ (p := x5_1 < (l0.length : Int)) (fun c3 => ?g2p) (fun c3 => ?g2n)
case g2p => (
rw [if_pos c3] at H
have c3b0 : decide (x5_1 < (l0.length : Int)) = true := decide_eq_true c3
clear c3
refine em_ (p := 0 ≤ x5_1) (fun c4 => ?g4p) (fun c4 => ?g4n)
case' g4p => (
rw [if_pos c4] at H
have c4b0 : decide (0 ≤ x5_1) = true := decide_eq_true c4
clear c4
refine em_ (p := ((rd_T101 l0 x5_1).f0) = x1_1) (fun c5 => ?g3p) (fun c5 => ?g3n)
case g3p => (
rw [if_pos c5] at H
have c5b0 : (((rd_T101 l0 x5_1).f0) == x1_1) = true := beq_iff_eq.mpr c5
have c5b1 : (((rd_T101 l0 x5_1).f0) != x1_1) = false := bne_eq_false_iff_eq.mpr c5
clear c5
refine em_ (p := ((rd_T101 l0 x5_1).f1) = (wrap64 (x1_1 + 1))) (fun c6 => ?g1p) (fun c6 => ?g1n)
case' g1p => (
rw [if_pos c6] at H
have c6b0 : (((rd_T101 l0 x5_1).f1) == (wrap64 (x1_1 + 1))) = true := beq_iff_eq.mpr c6
have c6b1 : (((rd_T101 l0 x5_1).f1) != (wrap64 (x1_1 + 1))) = false := bne_eq_false_iff_eq.mpr c6
clear c6
replace H := Option.bind_eq_some_iff.mp H
obtain ⟨t525, A70, H⟩ := H
(try dsimp only at H)
have A7 := am A70
clear A70
refine em_ (p := t525 < 0) (fun c8 => ?g0p) (fun c8 => ?g0n)
case' g0p => (
rw [if_pos c8] at H
have c8b0 : decide (t525 < 0) = true := decide_eq_true c8
clear c8
obtain rfl := Option.some.inj H
have lf1_ := trivial
)
case' g0n => (
rw [if_neg c8] at H
have c8b0 : decide (t525 < 0) = false := decide_eq_false c8
clear c8
have H' := am H
clear H
have lf2_ := trivial
)
)
case' g1n => (
rw [if_neg c6] at H
have c6b0 : (((rd_T101 l0 x5_1).f1) == (wrap64 (x1_1 + 1))) = false := beq_eq_false_iff_ne.mpr c6
have c6b1 : (((rd_T101 l0 x5_1).f1) != (wrap64 (x1_1 + 1))) = true := bne_iff_ne.mpr c6
obtain rfl := Option.some.inj H
have lf3_ := trivial
)
all_goals (
have p522 : 0 ≤ (x5_1 : Int) := dt_
have q522 : x5_1 < (l0.length : Int) := dt_
obtain ⟨ad522, A522_2, c522_2, e522, hx522_0, hx522_1, hx522_2, hl522_2, hi522_2⟩ := at_T101 HR0.out x5_1 p522 q522
cases e522
have HR522_2 := am hi522_2
have HC522_2 := am hl522_2
clear hi522_2 hl522_2
replace p522 := eq_true p522
replace q522 := eq_true q522
have p523 : 0 ≤ (x5_1 : Int) := dt_
have q523 : x5_1 < (l0.length : Int) := dt_
obtain ⟨ad523, A523_2, c523_2, e523, hx523_0, hx523_1, hx523_2, hl523_2, hi523_2⟩ := at_T101 HR0.out x5_1 p523 q523
obtain rfl : ad522 = ad523 := (by injection e523)
have HR523_2 := am hi523_2
have HC523_2 := am hl523_2
clear hi523_2 hl523_2
replace p523 := eq_true p523
replace q523 := eq_true q523
have ea_ := Option.some.inj (hx522_2.symm.trans hx523_2)
injection ea_ with ea_ en_ ec_
subst ea_
subst ec_
clear en_
first
| (
first | have q_ := lf1_ | have q_ := lf2_
have p524 : 0 ≤ (x5_1 : Int) := dt_
have q524 : x5_1 < (l0.length : Int) := dt_
obtain ⟨ad524, A524_2, c524_2, e524, hx524_0, hx524_1, hx524_2, hl524_2, hi524_2⟩ := at_T101 HR0.out x5_1 p524 q524
obtain rfl : ad522 = ad524 := (by injection e524)
have HR524_2 := am hi524_2
have HC524_2 := am hl524_2
clear hi524_2 hl524_2
replace p524 := eq_true p524
replace q524 := eq_true q524
have ea_ := Option.some.inj (hx522_2.symm.trans hx524_2)
injection ea_ with ea_ en_ ec_
subst ea_
subst ec_
clear en_
go_wp2_with (first | ((with_reducible refine gate_callee (f := 109) rfl ?_); refine gl_ (some 36) Try.func109 #[.slice A522_2 ((rd_T101 l0 x5_1).f2).length c522_2, .int .i64 (wrap64 ((wrap64 (x1_1 + 1)) + 1))] ?_; (with_reducible refine (laws_heldCellS.calls k1 _ _ ((rd_T101 l0 x5_1).f2) (wrap64 ((wrap64 (x1_1 + 1)) + 1)) t525 _ ?side1 ?side2 A7.out).mono ?_); (case side1 => exact rc (HR524_2.out)); (case side2 => exact HC524_2.out); rintro e w' ⟨rfl, ⟨nd, rfl⟩⟩; refine ⟨_, rfl, ?_⟩))
first
| (
have q_ := lf2_
go_roundg k1
case measure => have := HK1.out; omega
case rel => exact ⟨(t525), (wrap64 (x5_1 + 1)), (by first | rfl | (simp; done) | (simp [*]; done)), (by first | rfl | (simp; done) | (simp [*]; done)), H', ⟨by have := HK1.out; omega⟩, by repeat (first | exact Drawn0.refl _ | apply Drawn0.step)⟩
)
| (
have q_ := lf1_
go_ret
exact ⟨by first | rfl | (simp; done) | (simp [*]; done), by repeat (first | exact Drawn0.refl _ | apply Drawn0.step)⟩
)
)
| (
have q_ := lf3_
go_wp2
go_ret
exact ⟨by first | rfl | (simp; done) | (simp [*]; done), by repeat (first | exact Drawn0.refl _ | apply Drawn0.step)⟩
)
)
)
case' g3n => (
rw [if_neg c5] at H
have c5b0 : (((rd_T101 l0 x5_1).f0) == x1_1) = false := beq_eq_false_iff_ne.mpr c5
have c5b1 : (((rd_T101 l0 x5_1).f0) != x1_1) = true := bne_iff_ne.mpr c5
obtain rfl := Option.some.inj H
have lf6_ := trivial
)
)
case g4n => (
rw [if_neg c4] at H
exact absurd H (by simp)
)
all_goals (
have p522 : 0 ≤ (x5_1 : Int) := dt_
have q522 : x5_1 < (l0.length : Int) := dt_
obtain ⟨ad522, A522_2, c522_2, e522, hx522_0, hx522_1, hx522_2, hl522_2, hi522_2⟩ := at_T101 HR0.out x5_1 p522 q522
cases e522
have HR522_2 := am hi522_2
have HC522_2 := am hl522_2
clear hi522_2 hl522_2
replace p522 := eq_true p522
replace q522 := eq_true q522
go_wp2
go_ret
exact ⟨by first | rfl | (simp; done) | (simp [*]; done), by repeat (first | exact Drawn0.refl _ | apply Drawn0.step)⟩
)
)
case' g2n => (
rw [if_neg c3] at H
have c3b0 : decide (x5_1 < (l0.length : Int)) = false := decide_eq_false c3
clear c3
obtain rfl := Option.some.inj H
have lf5_ := trivial
)
all_goals (
go_wp2
go_ret
exact ⟨by first | rfl | (simp; done) | (simp [*]; done), by repeat (first | exact Drawn0.refl _ | apply Drawn0.step)⟩
)
)
)
)

/-! ### laws_heldPatch: function 38 -/
def laws_heldPatch.f (k : Nat) (a0_0 : Int) (a0_1 : Int) (l0_2 : List (S101)) (a1 : Int) : Option (Int) := (laws_heldChangeS.f k l0_2 a1).bind fun t527 => (if t527 < 0 then (some (-1)) else (some t527))
theorem laws_heldPatch.mono : ∀ a0 a1 a2 a3 k, LeO (laws_heldPatch.f k a0 a1 a2 a3) (laws_heldPatch.f (k + 1) a0 a1 a2 a3) := by
 intro a0 a1 a2 a3 k
 unfold laws_heldPatch.f
 repeat' first
   | (with_reducible exact laws_heldChangeS.mono _ _ _)
   | (with_reducible exact LeO.refl _)
   | (with_reducible exact LeO.none _)
   | (with_reducible refine LeO.ite ?_ ?_)
   | (with_reducible refine LeO.bind ?_ (fun _ => ?_))
set_option maxHeartbeats 8000000 in
set_option maxRecDepth 100000 in
theorem laws_heldPatch.calls (k : Nat) (a0_0 : Int) (a0_1 : Int) (A0_2 : Option Addr) (c0_2 : Nat) (l0_2 : List (S101)) (a1 : Int) (r : Int) (w : World) (hr0_2 : Kd.C k101 w A0_2 l0_2.length l0_2) (hc0_2 : l0_2.length ≤ c0_2) (h : laws_heldPatch.f k a0_0 a0_1 l0_2 a1 = some r) :
  Calls Try.prog 38 #[.agg #[.int .i64 a0_0, .int .i64 a0_1, .slice A0_2 l0_2.length c0_2], .int .i64 a1] w fun e w' => e = .returned (.int .i64 r) ∧ Below w.heap.size w w' := by
 (
have hu53 := Try.underlying53
have HR0_2 := am hr0_2
have HC0_2 := am hc0_2
clear hr0_2 hc0_2
have HB := am (Below.refl w.heap.size w)
have H := h
unfold laws_heldPatch.f at H
clear h
replace H := Option.bind_eq_some_iff.mp H
obtain ⟨t527, A30, H⟩ := H
(try dsimp only at H)
have A3 := am A30
clear A30
by_cases c4 : t527 < 0
·(
rw [if_pos c4] at H
have c4b0 : decide (t527 < 0) = true := decide_eq_true c4
clear c4
obtain rfl := Option.some.inj H
go_enter Try.func38, Try.ntmps38
go_wp2_with (first | ((with_reducible refine gate_dst (N := 2) rfl ?_); refine box_event ?hg (N := 2) ?hd (cs := #[.int .i64 a0_0, .int .i64 a0_1, .slice A0_2 l0_2.length c0_2]) (t := 53) ?hr ?_; (case hd => rfl); (case hg => rfl); (case hr => first | (go_simp; done) | (go_simp; rfl)); intro gb526 hg w5 hbox hb; have BK526 := am (hbox); have GW526 := am (gw hg (rb HB)); have GE526 := GW526; replace HB := am (below_step (rb HB) hb); clear hb hbox hg; have hcz6_0 : w5.cell? ⟨gb526, 0, none⟩ = some (.int .i64 a0_0) := (blk_cell BK526.out 0).trans rfl; have hcz6_1 : w5.cell? ⟨gb526, 1, none⟩ = some (.int .i64 a0_1) := (blk_cell BK526.out 1).trans rfl; have hcz6_2 : w5.cell? ⟨gb526, 2, none⟩ = some (.slice A0_2 l0_2.length c0_2) := (blk_cell BK526.out 2).trans rfl; have hfz6_0 := blk_frozen BK526.out 0; have hfz6_1 := blk_frozen BK526.out 1; have hfz6_2 := blk_frozen BK526.out 2) | ((with_reducible refine gate_callee (f := 78) rfl ?_); refine gl_ (some 8) Try.func78 #[.slice A0_2 l0_2.length c0_2, .int .i64 a1] ?_; (with_reducible refine (laws_heldChangeS.calls k _ _ l0_2 a1 t527 _ ?side1 ?side2 A3.out).mono ?_); (case side1 => exact rc ((Kd.C_below HR0_2.out HB.out))); (case side2 => exact HC0_2.out); rintro e w' ⟨rfl, ⟨nd, rfl⟩⟩; refine ⟨_, rfl, ?_⟩))
go_ret
exact ⟨by first | rfl | (simp [errW_none, errW_some] <;> rfl) | (simp [*, errW_none, errW_some] <;> rfl), by repeat (first | (with_reducible first | exact HB.out | apply b1 | apply b2 | apply b3 | refine below_set ?_ GE526.out) | exact HB.out)⟩
)
·(
rw [if_neg c4] at H
have c4b0 : decide (t527 < 0) = false := decide_eq_false c4
clear c4
obtain rfl := Option.some.inj H
go_enter Try.func38, Try.ntmps38
go_wp2_with (first | ((with_reducible refine gate_dst (N := 2) rfl ?_); refine box_event ?hg (N := 2) ?hd (cs := #[.int .i64 a0_0, .int .i64 a0_1, .slice A0_2 l0_2.length c0_2]) (t := 53) ?hr ?_; (case hd => rfl); (case hg => rfl); (case hr => first | (go_simp; done) | (go_simp; rfl)); intro gb526 hg w7 hbox hb; have BK526 := am (hbox); have GW526 := am (gw hg (rb HB)); have GE526 := GW526; replace HB := am (below_step (rb HB) hb); clear hb hbox hg; have hcz8_0 : w7.cell? ⟨gb526, 0, none⟩ = some (.int .i64 a0_0) := (blk_cell BK526.out 0).trans rfl; have hcz8_1 : w7.cell? ⟨gb526, 1, none⟩ = some (.int .i64 a0_1) := (blk_cell BK526.out 1).trans rfl; have hcz8_2 : w7.cell? ⟨gb526, 2, none⟩ = some (.slice A0_2 l0_2.length c0_2) := (blk_cell BK526.out 2).trans rfl; have hfz8_0 := blk_frozen BK526.out 0; have hfz8_1 := blk_frozen BK526.out 1; have hfz8_2 := blk_frozen BK526.out 2) | ((with_reducible refine gate_callee (f := 78) rfl ?_); refine gl_ (some 8) Try.func78 #[.slice A0_2 l0_2.length c0_2, .int .i64 a1] ?_; (with_reducible refine (laws_heldChangeS.calls k _ _ l0_2 a1 t527 _ ?side1 ?side2 A3.out).mono ?_); (case side1 => exact rc ((Kd.C_below HR0_2.out HB.out))); (case side2 => exact HC0_2.out); rintro e w' ⟨rfl, ⟨nd, rfl⟩⟩; refine ⟨_, rfl, ?_⟩))
go_ret
exact ⟨by first | rfl | (simp [errW_none, errW_some] <;> rfl) | (simp [*, errW_none, errW_some] <;> rfl), by repeat (first | (with_reducible first | exact HB.out | apply b1 | apply b2 | apply b3 | refine below_set ?_ GE526.out) | exact HB.out)⟩
)
)

end Go.Proofs.Ytalopdcephohgaa.RB
