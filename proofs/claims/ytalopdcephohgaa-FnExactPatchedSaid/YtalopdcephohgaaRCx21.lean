/- Contracts of Go functions that laws of this seat reach: each Lean function answers as its Go function does. No condition. Written by wip/tools/inj.py, over the kit's print. -/
import Derived.Test.YtalopdcephohgaaRCx0
import Derived.Test.YtalopdcephohgaaRCx20
namespace Go.Proofs.Ytalopdcephohgaa.RC
open Go.RowKit Go.Proofs.YtalopdcephohgaaW.PrintWords Go.Proofs.YtalopdcephohgaaW.PrintLast Go.Proofs.YtalopdcephohgaaW.PrintMore
attribute [local go_sem] max2_int min2_int max_two min_two max_three min_three max_four min_four   -- for this text's walks alone
set_option linter.unusedVariables false
set_option linter.unusedSimpArgs false

/-! ### impl_Width: function 129 -/
def impl_Width.j0 : Nat → Int → Bool → Option (Int)
 | 0, _, _ => none
 | k + 1, x0, x3 => if x3 = true then (some 0) else ((impl_in.f x0 4352 4447).bind fun t372 => (if t372 = true then (some 2) else ((impl_in.f x0 12288 55295).bind fun t373 => (if t373 = true then (some 2) else ((impl_in.f x0 127744 131071).bind fun t374 => (if t374 = true then (some 2) else (some 1)))))))
def impl_Width.f (k : Nat) (a0 : Int) : Option (Int) := (impl_RuneOk.f a0).bind fun t369 => (if t369 = true then (if a0 < 32 then (impl_Width.j0 k a0 true) else ((impl_in.f a0 127 159).bind fun t370 => (if t370 = true then (impl_Width.j0 k a0 true) else ((impl_in.f a0 768 879).bind fun t371 => (impl_Width.j0 k a0 t371))))) else (impl_Width.j0 k a0 true))
theorem impl_Width.mono_l : ∀ k, (∀ y0 y1, LeO (impl_Width.j0 k y0 y1) (impl_Width.j0 (k + 1) y0 y1))
 | 0 => fun _ _ r h => by simp [impl_Width.j0] at h
 | k + 1 => by
  have ih0 := impl_Width.mono_l k
  ·intro y0 y1
   unfold impl_Width.j0
   repeat' first
   | (with_reducible exact ih0 _ _)
   | (with_reducible exact LeO.refl _)
   | (with_reducible exact LeO.none _)
   | (with_reducible refine LeO.ite ?_ ?_)
   | (with_reducible refine LeO.bind ?_ (fun _ => ?_))
theorem impl_Width.mono : ∀ a0 k, LeO (impl_Width.f k a0) (impl_Width.f (k + 1) a0) := by
 intro a0 k
 have ih0 := impl_Width.mono_l k
 unfold impl_Width.f
 repeat' first
   | (with_reducible exact ih0 _ _)
   | (with_reducible exact LeO.refl _)
   | (with_reducible exact LeO.none _)
   | (with_reducible refine LeO.ite ?_ ?_)
   | (with_reducible refine LeO.bind ?_ (fun _ => ?_))
set_option maxHeartbeats 8000000 in
set_option maxRecDepth 100000 in
theorem impl_Width.calls (k : Nat) (a0 : Int) (r : Int) (w : World) (h : impl_Width.f k a0 = some r) :
  Calls Try.prog 129 #[.int .i64 a0] w fun e w' => e = .returned (.int .i64 r) ∧ Drawn0 w w' := by
 (
have H := h
unfold impl_Width.f at H
clear h
have HC2 := am H
clear H
go_enter Try.func129, Try.ntmps129
go_upto_region 1 with (fail)
go_cut [3] (fun v3 wc => ∃ (kq : Nat) (x3_1 : Bool), v3 = .bool x3_1 ∧ Aside0 (impl_Width.j0 kq a0 x3_1 = some r) ∧ Aside0 (kq ≤ k) ∧ Drawn0 w wc)
case first => (
have H := HC2.out
clear HC2
replace H := Option.bind_eq_some_iff.mp H
obtain ⟨t369, A30, H⟩ := H
(try dsimp only at H)
have A3 := am A30
clear A30
by_cases c4 : t369 = true
·(
subst c4
rw [if_pos rfl] at H
refine em_ (p := a0 < 32) (fun c5 => ?g0p) (fun c5 => ?g0n)
case' g0p => (
rw [if_pos c5] at H
have c5b0 : decide (a0 < 32) = true := decide_eq_true c5
clear c5
(first | rw [c5b0] | (simp only [i64_w, i32_w]; rw [c5b0]) | skip)
have H' := am H
clear H
have lf1_ := trivial
)
case g0n => (
rw [if_neg c5] at H
have c5b0 : decide (a0 < 32) = false := decide_eq_false c5
clear c5
(first | rw [c5b0] | (simp only [i64_w, i32_w]; rw [c5b0]) | skip)
replace H := Option.bind_eq_some_iff.mp H
obtain ⟨t370, A60, H⟩ := H
(try dsimp only at H)
have A6 := am A60
clear A60
by_cases c7 : t370 = true
·(
subst c7
have H1 : (impl_Width.j0 k a0 true) = some r := by rw [if_pos rfl] at H; exact H
clear H
have H := H1
clear H1
have H' := am H
clear H
go_wp2_with (first | ((with_reducible refine gate_callee (f := 140) rfl ?_); refine gl_ (some 5) Try.func140 #[.int .i64 a0] ?_; (with_reducible refine (impl_RuneOk.calls a0 true _ A3.out).mono ?_); rintro e w' ⟨rfl, ⟨nd, rfl⟩⟩; refine ⟨_, rfl, ?_⟩) | (go_at_call 56; (with_reducible refine (impl_in.calls a0 127 159 true _ A6.out).mono ?_); rintro e w' ⟨rfl, ⟨nd, rfl⟩⟩))
go_meet
case rel => exact ⟨_, (true), (by first | rfl | (simp; done) | (simp [*]; done)), H', ⟨by first | omega | exact Nat.le_refl _⟩, by repeat (first | exact Drawn0.refl _ | apply Drawn0.step)⟩
)
·(
replace c7 := Bool.eq_false_iff.mpr c7
subst c7
rw [if_neg (show ¬ (false = true) by decide)] at H
replace H := Option.bind_eq_some_iff.mp H
obtain ⟨t371, A80, H⟩ := H
replace H : (impl_Width.j0 k a0 t371) = some r := H
have A8 := am A80
clear A80
have H' := am H
clear H
go_wp2_with (first | ((with_reducible refine gate_callee (f := 140) rfl ?_); refine gl_ (some 5) Try.func140 #[.int .i64 a0] ?_; (with_reducible refine (impl_RuneOk.calls a0 true _ A3.out).mono ?_); rintro e w' ⟨rfl, ⟨nd, rfl⟩⟩; refine ⟨_, rfl, ?_⟩) | (go_at_call 56; (with_reducible refine (impl_in.calls a0 127 159 false _ A6.out).mono ?_); rintro e w' ⟨rfl, ⟨nd, rfl⟩⟩) | (go_at_call 56; (with_reducible refine (impl_in.calls a0 768 879 t371 _ A8.out).mono ?_); rintro e w' ⟨rfl, ⟨nd, rfl⟩⟩))
go_meet
case rel => exact ⟨_, (t371), (by first | rfl | (simp; done) | (simp [*]; done)), H', ⟨by first | omega | exact Nat.le_refl _⟩, by repeat (first | exact Drawn0.refl _ | apply Drawn0.step)⟩
)
)
all_goals (
go_wp2_with (first | ((with_reducible refine gate_callee (f := 140) rfl ?_); refine gl_ (some 5) Try.func140 #[.int .i64 a0] ?_; (with_reducible refine (impl_RuneOk.calls a0 true _ A3.out).mono ?_); rintro e w' ⟨rfl, ⟨nd, rfl⟩⟩; refine ⟨_, rfl, ?_⟩))
go_meet
case rel => exact ⟨_, (true), (by first | rfl | (simp; done) | (simp [*]; done)), H', ⟨by first | omega | exact Nat.le_refl _⟩, by repeat (first | exact Drawn0.refl _ | apply Drawn0.step)⟩
)
)
·(
replace c4 := Bool.eq_false_iff.mpr c4
subst c4
have H1 : (impl_Width.j0 k a0 true) = some r := by rw [if_neg (show ¬ (false = true) by decide)] at H; exact H
clear H
have H := H1
clear H1
have H' := am H
clear H
go_wp2_with (first | ((with_reducible refine gate_callee (f := 140) rfl ?_); refine gl_ (some 5) Try.func140 #[.int .i64 a0] ?_; (with_reducible refine (impl_RuneOk.calls a0 false _ A3.out).mono ?_); rintro e w' ⟨rfl, ⟨nd, rfl⟩⟩; refine ⟨_, rfl, ?_⟩))
go_meet
case rel => exact ⟨_, (true), (by first | rfl | (simp; done) | (simp [*]; done)), H', ⟨by first | omega | exact Nat.le_refl _⟩, by repeat (first | exact Drawn0.refl _ | apply Drawn0.step)⟩
)
)
case rest => (
clear HC2
try clear c1
try clear p2
try clear c4
try clear c5
try clear c5b0
try clear c7
obtain ⟨kq, x3_1, rfl, HA, HJ1, ⟨mc1, rfl⟩⟩ := hcut
cases kq with
| zero => exact absurd HA.out (by simp [impl_Width.j0])
| succ kj1 => (
have H := HA.out
clear HA
simp only [impl_Width.j0] at H
refine em_ (p := x3_1 = true) (fun c9 => ?g2p) (fun c9 => ?g2n)
case' g2p => (
subst c9
have H1 : (some 0) = some r := by rw [if_pos rfl] at H; exact H
clear H
have H := H1
clear H1
obtain rfl := Option.some.inj H
have lf7_ := trivial
)
case g2n => (
replace c9 := Bool.eq_false_iff.mpr c9
subst c9
rw [if_neg (show ¬ (false = true) by decide)] at H
replace H := Option.bind_eq_some_iff.mp H
obtain ⟨t372, A100, H⟩ := H
(try dsimp only at H)
have A10 := am A100
clear A100
refine em_ (p := t372 = true) (fun c11 => ?g3p) (fun c11 => ?g3n)
case' g3p => (
subst c11
have H1 : (some 2) = some r := by rw [if_pos rfl] at H; exact H
clear H
have H := H1
clear H1
obtain rfl := Option.some.inj H
have lf12_ := trivial
)
case g3n => (
replace c11 := Bool.eq_false_iff.mpr c11
subst c11
rw [if_neg (show ¬ (false = true) by decide)] at H
replace H := Option.bind_eq_some_iff.mp H
obtain ⟨t373, A120, H⟩ := H
(try dsimp only at H)
have A12 := am A120
clear A120
refine em_ (p := t373 = true) (fun c13 => ?g1p) (fun c13 => ?g1n)
case' g1p => (
subst c13
have H1 : (some 2) = some r := by rw [if_pos rfl] at H; exact H
clear H
have H := H1
clear H1
obtain rfl := Option.some.inj H
have lf9_ := trivial
)
case g1n => (
replace c13 := Bool.eq_false_iff.mpr c13
subst c13
rw [if_neg (show ¬ (false = true) by decide)] at H
replace H := Option.bind_eq_some_iff.mp H
obtain ⟨t374, A140, H⟩ := H
(try dsimp only at H)
have A14 := am A140
clear A140
by_cases c15 : t374 = true
·(
subst c15
have H1 : (some 2) = some r := by rw [if_pos rfl] at H; exact H
clear H
have H := H1
clear H1
obtain rfl := Option.some.inj H
go_wp2_with (first | ((with_reducible refine gate_callee (f := 56) rfl ?_); refine gl_ (some 21) Try.func56 #[.int .i64 a0, .int .i64 4352, .int .i64 4447] ?_; (with_reducible refine (impl_in.calls a0 4352 4447 false _ A10.out).mono ?_); rintro e w' ⟨rfl, ⟨nd, rfl⟩⟩; refine ⟨_, rfl, ?_⟩) | (go_at_call 56; (with_reducible refine (impl_in.calls a0 12288 55295 false _ A12.out).mono ?_); rintro e w' ⟨rfl, ⟨nd, rfl⟩⟩) | (go_at_call 56; (with_reducible refine (impl_in.calls a0 127744 131071 true _ A14.out).mono ?_); rintro e w' ⟨rfl, ⟨nd, rfl⟩⟩))
go_ret
exact ⟨by first | rfl | (simp; done) | (simp [*]; done), by repeat (first | exact Drawn0.refl _ | apply Drawn0.step)⟩
)
·(
replace c15 := Bool.eq_false_iff.mpr c15
subst c15
have H1 : (some 1) = some r := by rw [if_neg (show ¬ (false = true) by decide)] at H; exact H
clear H
have H := H1
clear H1
obtain rfl := Option.some.inj H
go_wp2_with (first | ((with_reducible refine gate_callee (f := 56) rfl ?_); refine gl_ (some 21) Try.func56 #[.int .i64 a0, .int .i64 4352, .int .i64 4447] ?_; (with_reducible refine (impl_in.calls a0 4352 4447 false _ A10.out).mono ?_); rintro e w' ⟨rfl, ⟨nd, rfl⟩⟩; refine ⟨_, rfl, ?_⟩) | (go_at_call 56; (with_reducible refine (impl_in.calls a0 12288 55295 false _ A12.out).mono ?_); rintro e w' ⟨rfl, ⟨nd, rfl⟩⟩) | (go_at_call 56; (with_reducible refine (impl_in.calls a0 127744 131071 false _ A14.out).mono ?_); rintro e w' ⟨rfl, ⟨nd, rfl⟩⟩))
go_ret
exact ⟨by first | rfl | (simp; done) | (simp [*]; done), by repeat (first | exact Drawn0.refl _ | apply Drawn0.step)⟩
)
)
all_goals (
go_wp2_with (first | ((with_reducible refine gate_callee (f := 56) rfl ?_); refine gl_ (some 21) Try.func56 #[.int .i64 a0, .int .i64 4352, .int .i64 4447] ?_; (with_reducible refine (impl_in.calls a0 4352 4447 false _ A10.out).mono ?_); rintro e w' ⟨rfl, ⟨nd, rfl⟩⟩; refine ⟨_, rfl, ?_⟩) | (go_at_call 56; (with_reducible refine (impl_in.calls a0 12288 55295 true _ A12.out).mono ?_); rintro e w' ⟨rfl, ⟨nd, rfl⟩⟩))
go_ret
exact ⟨by first | rfl | (simp; done) | (simp [*]; done), by repeat (first | exact Drawn0.refl _ | apply Drawn0.step)⟩
)
)
all_goals (
go_wp2_with (first | ((with_reducible refine gate_callee (f := 56) rfl ?_); refine gl_ (some 21) Try.func56 #[.int .i64 a0, .int .i64 4352, .int .i64 4447] ?_; (with_reducible refine (impl_in.calls a0 4352 4447 true _ A10.out).mono ?_); rintro e w' ⟨rfl, ⟨nd, rfl⟩⟩; refine ⟨_, rfl, ?_⟩))
go_ret
exact ⟨by first | rfl | (simp; done) | (simp [*]; done), by repeat (first | exact Drawn0.refl _ | apply Drawn0.step)⟩
)
)
all_goals (
go_wp2
go_ret
exact ⟨by first | rfl | (simp; done) | (simp [*]; done), by repeat (first | exact Drawn0.refl _ | apply Drawn0.step)⟩
)
)
)
)

/-! ### impl_StyleOk: function 130 -/
def impl_StyleOk.f (a0_0 : Int) (a0_1 : Int) (a0_2 : Bool) (a0_3 : Bool) (a0_4 : Bool) : Option (Bool) := (impl_in.f a0_0 0 8).bind fun t376 => (if t376 = true then ((impl_in.f a0_1 0 8).bind fun t377 => (some t377)) else (some false))
set_option maxHeartbeats 8000000 in
set_option maxRecDepth 100000 in
theorem impl_StyleOk.calls (a0_0 : Int) (a0_1 : Int) (a0_2 : Bool) (a0_3 : Bool) (a0_4 : Bool) (r : Bool) (w : World) (h : impl_StyleOk.f a0_0 a0_1 a0_2 a0_3 a0_4 = some r) :
  Calls Try.prog 130 #[.agg #[.int .i64 a0_0, .int .i64 a0_1, .bool a0_2, .bool a0_3, .bool a0_4]] w fun e w' => e = .returned (.bool r) ∧ Below w.heap.size w w' := by
 (
have hu96 := Try.underlying96
have HB := am (Below.refl w.heap.size w)
have H := h
unfold impl_StyleOk.f at H
clear h
replace H := Option.bind_eq_some_iff.mp H
obtain ⟨t376, A20, H⟩ := H
(try dsimp only at H)
have A2 := am A20
clear A20
by_cases c3 : t376 = true
·(
subst c3
have H1 : ((impl_in.f a0_1 0 8).bind fun t377 => (some t377)) = some r := by rw [if_pos rfl] at H; exact H
clear H
have H := H1
clear H1
replace H := Option.bind_eq_some_iff.mp H
obtain ⟨t377, A40, H⟩ := H
replace H : (some t377) = some r := H
have A4 := am A40
clear A40
obtain rfl := Option.some.inj H
go_enter Try.func130, Try.ntmps130
go_wp2_with (first | ((with_reducible refine gate_dst (N := 1) rfl ?_); refine box_event ?hg (N := 1) ?hd (cs := #[.int .i64 a0_0, .int .i64 a0_1, .bool a0_2, .bool a0_3, .bool a0_4]) (t := 96) ?hr ?_; (case hd => rfl); (case hg => rfl); (case hr => first | (go_simp; done) | (go_simp; rfl)); intro gb375 hg w5 hbox hb; have BK375 := am (hbox); have GW375 := am (gw hg (rb HB)); have GE375 := GW375; replace HB := am (below_step (rb HB) hb); clear hb hbox hg; have hcz6_0 : w5.cell? ⟨gb375, 0, none⟩ = some (.int .i64 a0_0) := (blk_cell BK375.out 0).trans rfl; have hcz6_1 : w5.cell? ⟨gb375, 1, none⟩ = some (.int .i64 a0_1) := (blk_cell BK375.out 1).trans rfl; have hcz6_2 : w5.cell? ⟨gb375, 2, none⟩ = some (.bool a0_2) := (blk_cell BK375.out 2).trans rfl; have hcz6_3 : w5.cell? ⟨gb375, 3, none⟩ = some (.bool a0_3) := (blk_cell BK375.out 3).trans rfl; have hcz6_4 : w5.cell? ⟨gb375, 4, none⟩ = some (.bool a0_4) := (blk_cell BK375.out 4).trans rfl; have hfz6_0 := blk_frozen BK375.out 0; have hfz6_1 := blk_frozen BK375.out 1; have hfz6_2 := blk_frozen BK375.out 2; have hfz6_3 := blk_frozen BK375.out 3; have hfz6_4 := blk_frozen BK375.out 4) | ((with_reducible refine gate_callee (f := 56) rfl ?_); refine gl_ (some 5) Try.func56 #[.int .i64 a0_0, .int .i64 0, .int .i64 8] ?_; (with_reducible refine (impl_in.calls a0_0 0 8 true _ A2.out).mono ?_); rintro e w' ⟨rfl, ⟨nd, rfl⟩⟩; refine ⟨_, rfl, ?_⟩) | (go_at_call 56; (with_reducible refine (impl_in.calls a0_1 0 8 t377 _ A4.out).mono ?_); rintro e w' ⟨rfl, ⟨nd, rfl⟩⟩))
go_ret
exact ⟨by first | rfl | (simp [errW_none, errW_some] <;> rfl) | (simp [*, errW_none, errW_some] <;> rfl), by repeat (first | (with_reducible first | exact HB.out | apply b1 | apply b2 | apply b3 | refine below_set ?_ GE375.out) | exact HB.out)⟩
)
·(
replace c3 := Bool.eq_false_iff.mpr c3
subst c3
have H1 : (some false) = some r := by rw [if_neg (show ¬ (false = true) by decide)] at H; exact H
clear H
have H := H1
clear H1
obtain rfl := Option.some.inj H
go_enter Try.func130, Try.ntmps130
go_wp2_with (first | ((with_reducible refine gate_dst (N := 1) rfl ?_); refine box_event ?hg (N := 1) ?hd (cs := #[.int .i64 a0_0, .int .i64 a0_1, .bool a0_2, .bool a0_3, .bool a0_4]) (t := 96) ?hr ?_; (case hd => rfl); (case hg => rfl); (case hr => first | (go_simp; done) | (go_simp; rfl)); intro gb375 hg w7 hbox hb; have BK375 := am (hbox); have GW375 := am (gw hg (rb HB)); have GE375 := GW375; replace HB := am (below_step (rb HB) hb); clear hb hbox hg; have hcz8_0 : w7.cell? ⟨gb375, 0, none⟩ = some (.int .i64 a0_0) := (blk_cell BK375.out 0).trans rfl; have hcz8_1 : w7.cell? ⟨gb375, 1, none⟩ = some (.int .i64 a0_1) := (blk_cell BK375.out 1).trans rfl; have hcz8_2 : w7.cell? ⟨gb375, 2, none⟩ = some (.bool a0_2) := (blk_cell BK375.out 2).trans rfl; have hcz8_3 : w7.cell? ⟨gb375, 3, none⟩ = some (.bool a0_3) := (blk_cell BK375.out 3).trans rfl; have hcz8_4 : w7.cell? ⟨gb375, 4, none⟩ = some (.bool a0_4) := (blk_cell BK375.out 4).trans rfl; have hfz8_0 := blk_frozen BK375.out 0; have hfz8_1 := blk_frozen BK375.out 1; have hfz8_2 := blk_frozen BK375.out 2; have hfz8_3 := blk_frozen BK375.out 3; have hfz8_4 := blk_frozen BK375.out 4) | ((with_reducible refine gate_callee (f := 56) rfl ?_); refine gl_ (some 5) Try.func56 #[.int .i64 a0_0, .int .i64 0, .int .i64 8] ?_; (with_reducible refine (impl_in.calls a0_0 0 8 false _ A2.out).mono ?_); rintro e w' ⟨rfl, ⟨nd, rfl⟩⟩; refine ⟨_, rfl, ?_⟩))
go_ret
exact ⟨by first | rfl | (simp [errW_none, errW_some] <;> rfl) | (simp [*, errW_none, errW_some] <;> rfl), by repeat (first | (with_reducible first | exact HB.out | apply b1 | apply b2 | apply b3 | refine below_set ?_ GE375.out) | exact HB.out)⟩
)
)

/-! ### impl_isCell: function 117 -/
def impl_isCell.f (k : Nat) (a0_0 : Int) (a0_1 : Int) (a0_2 : Int) (a0_3 : Bool) (a0_4 : Bool) (a0_5 : Bool) (a0_6 : Int) : Option (Bool) := if a0_6 = 0 then ((impl_Width.f k a0_0).bind fun t379 => (if t379 = 1 then ((impl_StyleOk.f a0_1 a0_2 a0_3 a0_4 a0_5).bind fun t380 => (some t380)) else (some false))) else (if a0_6 = 1 then ((impl_Width.f k a0_0).bind fun t381 => (if t381 = 2 then ((impl_StyleOk.f a0_1 a0_2 a0_3 a0_4 a0_5).bind fun t382 => (some t382)) else (some false))) else (if a0_6 = 2 then (if a0_0 = 0 then ((impl_StyleOk.f a0_1 a0_2 a0_3 a0_4 a0_5).bind fun t383 => (some t383)) else (some false)) else (some false)))
theorem impl_isCell.mono : ∀ a0 a1 a2 a3 a4 a5 a6 k, LeO (impl_isCell.f k a0 a1 a2 a3 a4 a5 a6) (impl_isCell.f (k + 1) a0 a1 a2 a3 a4 a5 a6) := by
 intro a0 a1 a2 a3 a4 a5 a6 k
 unfold impl_isCell.f
 repeat' first
   | (with_reducible exact impl_Width.mono _ _)
   | (with_reducible exact LeO.refl _)
   | (with_reducible exact LeO.none _)
   | (with_reducible refine LeO.ite ?_ ?_)
   | (with_reducible refine LeO.bind ?_ (fun _ => ?_))
set_option maxHeartbeats 8000000 in
set_option maxRecDepth 100000 in
theorem impl_isCell.calls (k : Nat) (a0_0 : Int) (a0_1 : Int) (a0_2 : Int) (a0_3 : Bool) (a0_4 : Bool) (a0_5 : Bool) (a0_6 : Int) (r : Bool) (w : World) (h : impl_isCell.f k a0_0 a0_1 a0_2 a0_3 a0_4 a0_5 a0_6 = some r) :
  Calls Try.prog 117 #[.agg #[.int .i64 a0_0, .int .i64 a0_1, .int .i64 a0_2, .bool a0_3, .bool a0_4, .bool a0_5, .int .i64 a0_6]] w fun e w' => e = .returned (.bool r) ∧ Below w.heap.size w w' := by
 (
have hu98 := Try.underlying98
have hu96 := Try.underlying96
have HB := am (Below.refl w.heap.size w)
have H := h
unfold impl_isCell.f at H
clear h
refine em_ (p := a0_6 = 0) (fun c2 => ?g9p) (fun c2 => ?g9n)
case' g9p => (
rw [if_pos c2] at H
have c2b0 : (a0_6 == 0) = true := beq_iff_eq.mpr c2
have c2b1 : (a0_6 != 0) = false := bne_eq_false_iff_eq.mpr c2
clear c2
replace H := Option.bind_eq_some_iff.mp H
obtain ⟨t379, A30, H⟩ := H
(try dsimp only at H)
have A3 := am A30
clear A30
refine em_ (p := t379 = 1) (fun c4 => ?g4p) (fun c4 => ?g4n)
case' g4p => (
rw [if_pos c4] at H
have c4b0 : (t379 == 1) = true := beq_iff_eq.mpr c4
have c4b1 : (t379 != 1) = false := bne_eq_false_iff_eq.mpr c4
clear c4
replace H := Option.bind_eq_some_iff.mp H
obtain ⟨t380, A50, H⟩ := H
replace H : (some t380) = some r := H
have A5 := am A50
clear A50
obtain rfl := Option.some.inj H
have lf15_ := trivial
)
case' g4n => (
rw [if_neg c4] at H
have c4b0 : (t379 == 1) = false := beq_eq_false_iff_ne.mpr c4
have c4b1 : (t379 != 1) = true := bne_iff_ne.mpr c4
obtain rfl := Option.some.inj H
have lf16_ := trivial
)
)
case' g9n => (
rw [if_neg c2] at H
have c2b0 : (a0_6 == 0) = false := beq_eq_false_iff_ne.mpr c2
have c2b1 : (a0_6 != 0) = true := bne_iff_ne.mpr c2
refine em_ (p := a0_6 = 1) (fun c11 => ?g8p) (fun c11 => ?g8n)
case' g8p => (
rw [if_pos c11] at H
have c11b0 : (a0_6 == 1) = true := beq_iff_eq.mpr c11
have c11b1 : (a0_6 != 1) = false := bne_eq_false_iff_eq.mpr c11
clear c11
replace H := Option.bind_eq_some_iff.mp H
obtain ⟨t381, A120, H⟩ := H
(try dsimp only at H)
have A12 := am A120
clear A120
refine em_ (p := t381 = 2) (fun c13 => ?g5p) (fun c13 => ?g5n)
case' g5p => (
rw [if_pos c13] at H
have c13b0 : (t381 == 2) = true := beq_iff_eq.mpr c13
have c13b1 : (t381 != 2) = false := bne_eq_false_iff_eq.mpr c13
clear c13
replace H := Option.bind_eq_some_iff.mp H
obtain ⟨t380, A140, H⟩ := H
replace H : (some t380) = some r := H
have A5 := am A140
clear A140
obtain rfl := Option.some.inj H
have lf17_ := trivial
)
case' g5n => (
rw [if_neg c13] at H
have c13b0 : (t381 == 2) = false := beq_eq_false_iff_ne.mpr c13
have c13b1 : (t381 != 2) = true := bne_iff_ne.mpr c13
obtain rfl := Option.some.inj H
have lf18_ := trivial
)
)
case' g8n => (
rw [if_neg c11] at H
have c11b0 : (a0_6 == 1) = false := beq_eq_false_iff_ne.mpr c11
have c11b1 : (a0_6 != 1) = true := bne_iff_ne.mpr c11
refine em_ (p := a0_6 = 2) (fun c20 => ?g7p) (fun c20 => ?g7n)
case' g7p => (
rw [if_pos c20] at H
have c20b0 : (a0_6 == 2) = true := beq_iff_eq.mpr c20
have c20b1 : (a0_6 != 2) = false := bne_eq_false_iff_eq.mpr c20
clear c20
refine em_ (p := a0_0 = 0) (fun c21 => ?g6p) (fun c21 => ?g6n)
case' g6p => (
rw [if_pos c21] at H
have c21b0 : (a0_0 == 0) = true := beq_iff_eq.mpr c21
have c21b1 : (a0_0 != 0) = false := bne_eq_false_iff_eq.mpr c21
clear c21
replace H := Option.bind_eq_some_iff.mp H
obtain ⟨t380, A220, H⟩ := H
replace H : (some t380) = some r := H
have A5 := am A220
clear A220
obtain rfl := Option.some.inj H
have lf19_ := trivial
)
case' g6n => (
rw [if_neg c21] at H
have c21b0 : (a0_0 == 0) = false := beq_eq_false_iff_ne.mpr c21
have c21b1 : (a0_0 != 0) = true := bne_iff_ne.mpr c21
obtain rfl := Option.some.inj H
have lf20_ := trivial
)
)
case' g7n => (
rw [if_neg c20] at H
have c20b0 : (a0_6 == 2) = false := beq_eq_false_iff_ne.mpr c20
have c20b1 : (a0_6 != 2) = true := bne_iff_ne.mpr c20
obtain rfl := Option.some.inj H
have lf21_ := trivial
)
)
)
all_goals (
go_enter Try.func117, Try.ntmps117
go_wp2_with (first | ((with_reducible refine gate_dst (N := 1) rfl ?_); refine box_event ?hg (N := 1) ?hd (cs := #[.int .i64 a0_0, .int .i64 a0_1, .int .i64 a0_2, .bool a0_3, .bool a0_4, .bool a0_5, .int .i64 a0_6]) (t := 98) ?hr ?_; (case hd => rfl); (case hg => rfl); (case hr => first | (go_simp; done) | (go_simp; rfl)); intro gb378 hg w6 hbox hb; have BK378 := am (hbox); have GW378 := am (gw hg (rb HB)); have GE378 := GW378; replace HB := am (below_step (rb HB) hb); clear hb hbox hg; have hcz7_0 : w6.cell? ⟨gb378, 0, none⟩ = some (.int .i64 a0_0) := (blk_cell BK378.out 0).trans rfl; have hcz7_1 : w6.cell? ⟨gb378, 1, none⟩ = some (.int .i64 a0_1) := (blk_cell BK378.out 1).trans rfl; have hcz7_2 : w6.cell? ⟨gb378, 2, none⟩ = some (.int .i64 a0_2) := (blk_cell BK378.out 2).trans rfl; have hcz7_3 : w6.cell? ⟨gb378, 3, none⟩ = some (.bool a0_3) := (blk_cell BK378.out 3).trans rfl; have hcz7_4 : w6.cell? ⟨gb378, 4, none⟩ = some (.bool a0_4) := (blk_cell BK378.out 4).trans rfl; have hcz7_5 : w6.cell? ⟨gb378, 5, none⟩ = some (.bool a0_5) := (blk_cell BK378.out 5).trans rfl; have hcz7_6 : w6.cell? ⟨gb378, 6, none⟩ = some (.int .i64 a0_6) := (blk_cell BK378.out 6).trans rfl; have hfz7_0 := blk_frozen BK378.out 0; have hfz7_1 := blk_frozen BK378.out 1; have hfz7_2 := blk_frozen BK378.out 2; have hfz7_3 := blk_frozen BK378.out 3; have hfz7_4 := blk_frozen BK378.out 4; have hfz7_5 := blk_frozen BK378.out 5; have hfz7_6 := blk_frozen BK378.out 6) | (go_at_call 130; (with_reducible refine (impl_StyleOk.calls a0_1 a0_2 a0_3 a0_4 a0_5 t380 _ A5.out).mono ?_); rintro e w8 ⟨rfl, hb⟩; replace BK378 := am (blk_below (rk BK378) hb); replace HB := am (below_step (rb1 HB GE378) hb); (try clear hb); (try clear hb2); (try clear hk); (try clear hi)) | ((with_reducible refine gate_callee (f := 129) rfl ?_); refine gl_ (some 20) Try.func129 #[.int .i64 a0_0] ?_; (with_reducible refine (impl_Width.calls k a0_0 t381 _ A12.out).mono ?_); rintro e w' ⟨rfl, ⟨nd, rfl⟩⟩; refine ⟨_, rfl, ?_⟩) | ((with_reducible refine gate_callee (f := 129) rfl ?_); refine gl_ (some 9) Try.func129 #[.int .i64 a0_0] ?_; (with_reducible refine (impl_Width.calls k a0_0 t379 _ A3.out).mono ?_); rintro e w' ⟨rfl, ⟨nd, rfl⟩⟩; refine ⟨_, rfl, ?_⟩))
go_ret
exact ⟨by first | rfl | (simp [errW_none, errW_some] <;> rfl) | (simp [*, errW_none, errW_some] <;> rfl), by repeat (first | (with_reducible first | exact HB.out | apply b1 | apply b2 | apply b3 | refine below_set ?_ GE378.out) | exact HB.out)⟩
)
)

end Go.Proofs.Ytalopdcephohgaa.RC
