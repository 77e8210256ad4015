/- Contracts of Go functions that laws of this seat reach: each Lean function answers as its Go function does. No condition. Written by wip/tools/inj.py, over the kit's print. -/
import Derived.Test.YtalopdcephohgaaRCx0
import Derived.Test.YtalopdcephohgaaRCx10
namespace Go.Proofs.Ytalopdcephohgaa.RC
open Go.RowKit Go.Proofs.YtalopdcephohgaaW.PrintWords Go.Proofs.YtalopdcephohgaaW.PrintLast Go.Proofs.YtalopdcephohgaaW.PrintMore
attribute [local go_sem] max2_int min2_int max_two min_two max_three min_three max_four min_four   -- for this text's walks alone
set_option linter.unusedVariables false
set_option linter.unusedSimpArgs false

/-! ### spec_Width: function 120 -/
def spec_Width.j0 : Nat → Int → Bool → Option (Int)
 | 0, _, _ => none
 | k + 1, x0, x3 => if x3 = true then (some 0) else ((spec_l1In.f x0 4352 4447).bind fun t186 => (if t186 = true then (some 2) else ((spec_l1In.f x0 12288 55295).bind fun t187 => (if t187 = true then (some 2) else ((spec_l1In.f x0 127744 131071).bind fun t188 => (if t188 = true then (some 2) else (some 1)))))))
def spec_Width.f (k : Nat) (a0 : Int) : Option (Int) := (spec_RuneOk.f a0).bind fun t183 => (if t183 = true then (if a0 < 32 then (spec_Width.j0 k a0 true) else ((spec_l1In.f a0 127 159).bind fun t184 => (if t184 = true then (spec_Width.j0 k a0 true) else ((spec_l1In.f a0 768 879).bind fun t185 => (spec_Width.j0 k a0 t185))))) else (spec_Width.j0 k a0 true))
theorem spec_Width.mono_l : ∀ k, (∀ y0 y1, LeO (spec_Width.j0 k y0 y1) (spec_Width.j0 (k + 1) y0 y1))
 | 0 => fun _ _ r h => by simp [spec_Width.j0] at h
 | k + 1 => by
  have ih0 := spec_Width.mono_l k
  ·intro y0 y1
   unfold spec_Width.j0
   repeat' first
   | (with_reducible exact ih0 _ _)
   | (with_reducible exact LeO.refl _)
   | (with_reducible exact LeO.none _)
   | (with_reducible refine LeO.ite ?_ ?_)
   | (with_reducible refine LeO.bind ?_ (fun _ => ?_))
theorem spec_Width.mono : ∀ a0 k, LeO (spec_Width.f k a0) (spec_Width.f (k + 1) a0) := by
 intro a0 k
 have ih0 := spec_Width.mono_l k
 unfold spec_Width.f
 repeat' first
   | (with_reducible exact ih0 _ _)
   | (with_reducible exact LeO.refl _)
   | (with_reducible exact LeO.none _)
   | (with_reducible refine LeO.ite ?_ ?_)
   | (with_reducible refine LeO.bind ?_ (fun _ => ?_))
set_option maxHeartbeats 8000000 in
set_option maxRecDepth 100000 in
theorem spec_Width.calls (k : Nat) (a0 : Int) (r : Int) (w : World) (h : spec_Width.f k a0 = some r) :
  Calls Try.prog 120 #[.int .i64 a0] w fun e w' => e = .returned (.int .i64 r) ∧ Drawn0 w w' := by
 (
have H := h
unfold spec_Width.f at H
clear h
have HC2 := am H
clear H
go_enter Try.func120, Try.ntmps120
go_upto_region 1 with (fail)
go_cut [3] (fun v3 wc => ∃ (kq : Nat) (x3_1 : Bool), v3 = .bool x3_1 ∧ Aside0 (spec_Width.j0 kq a0 x3_1 = some r) ∧ Aside0 (kq ≤ k) ∧ Drawn0 w wc)
case first => (
have H := HC2.out
clear HC2
replace H := Option.bind_eq_some_iff.mp H
obtain ⟨t183, A30, H⟩ := H
(try dsimp only at H)
have A3 := am A30
clear A30
by_cases c4 : t183 = true
·(
subst c4
rw [if_pos rfl] at H
refine em_ (p := a0 < 32) (fun c5 => ?g0p) (fun c5 => ?g0n)
case' g0p => (
rw [if_pos c5] at H
have c5b0 : decide (a0 < 32) = true := decide_eq_true c5
clear c5
(first | rw [c5b0] | (simp only [i64_w, i32_w]; rw [c5b0]) | skip)
have H' := am H
clear H
have lf1_ := trivial
)
case g0n => (
rw [if_neg c5] at H
have c5b0 : decide (a0 < 32) = false := decide_eq_false c5
clear c5
(first | rw [c5b0] | (simp only [i64_w, i32_w]; rw [c5b0]) | skip)
replace H := Option.bind_eq_some_iff.mp H
obtain ⟨t184, A60, H⟩ := H
(try dsimp only at H)
have A6 := am A60
clear A60
by_cases c7 : t184 = true
·(
subst c7
have H1 : (spec_Width.j0 k a0 true) = some r := by rw [if_pos rfl] at H; exact H
clear H
have H := H1
clear H1
have H' := am H
clear H
go_wp2_with (first | ((with_reducible refine gate_callee (f := 135) rfl ?_); refine gl_ (some 5) Try.func135 #[.int .i64 a0] ?_; (with_reducible refine (spec_RuneOk.calls a0 true _ A3.out).mono ?_); rintro e w' ⟨rfl, ⟨nd, rfl⟩⟩; refine ⟨_, rfl, ?_⟩) | (go_at_call 60; (with_reducible refine (spec_l1In.calls a0 127 159 true _ A6.out).mono ?_); rintro e w' ⟨rfl, ⟨nd, rfl⟩⟩))
go_meet
case rel => exact ⟨_, (true), (by first | rfl | (simp; done) | (simp [*]; done)), H', ⟨by first | omega | exact Nat.le_refl _⟩, by repeat (first | exact Drawn0.refl _ | apply Drawn0.step)⟩
)
·(
replace c7 := Bool.eq_false_iff.mpr c7
subst c7
rw [if_neg (show ¬ (false = true) by decide)] at H
replace H := Option.bind_eq_some_iff.mp H
obtain ⟨t185, A80, H⟩ := H
replace H : (spec_Width.j0 k a0 t185) = some r := H
have A8 := am A80
clear A80
have H' := am H
clear H
go_wp2_with (first | ((with_reducible refine gate_callee (f := 135) rfl ?_); refine gl_ (some 5) Try.func135 #[.int .i64 a0] ?_; (with_reducible refine (spec_RuneOk.calls a0 true _ A3.out).mono ?_); rintro e w' ⟨rfl, ⟨nd, rfl⟩⟩; refine ⟨_, rfl, ?_⟩) | (go_at_call 60; (with_reducible refine (spec_l1In.calls a0 127 159 false _ A6.out).mono ?_); rintro e w' ⟨rfl, ⟨nd, rfl⟩⟩) | (go_at_call 60; (with_reducible refine (spec_l1In.calls a0 768 879 t185 _ A8.out).mono ?_); rintro e w' ⟨rfl, ⟨nd, rfl⟩⟩))
go_meet
case rel => exact ⟨_, (t185), (by first | rfl | (simp; done) | (simp [*]; done)), H', ⟨by first | omega | exact Nat.le_refl _⟩, by repeat (first | exact Drawn0.refl _ | apply Drawn0.step)⟩
)
)
all_goals (
go_wp2_with (first | ((with_reducible refine gate_callee (f := 135) rfl ?_); refine gl_ (some 5) Try.func135 #[.int .i64 a0] ?_; (with_reducible refine (spec_RuneOk.calls a0 true _ A3.out).mono ?_); rintro e w' ⟨rfl, ⟨nd, rfl⟩⟩; refine ⟨_, rfl, ?_⟩))
go_meet
case rel => exact ⟨_, (true), (by first | rfl | (simp; done) | (simp [*]; done)), H', ⟨by first | omega | exact Nat.le_refl _⟩, by repeat (first | exact Drawn0.refl _ | apply Drawn0.step)⟩
)
)
·(
replace c4 := Bool.eq_false_iff.mpr c4
subst c4
have H1 : (spec_Width.j0 k a0 true) = some r := by rw [if_neg (show ¬ (false = true) by decide)] at H; exact H
clear H
have H := H1
clear H1
have H' := am H
clear H
go_wp2_with (first | ((with_reducible refine gate_callee (f := 135) rfl ?_); refine gl_ (some 5) Try.func135 #[.int .i64 a0] ?_; (with_reducible refine (spec_RuneOk.calls a0 false _ A3.out).mono ?_); rintro e w' ⟨rfl, ⟨nd, rfl⟩⟩; refine ⟨_, rfl, ?_⟩))
go_meet
case rel => exact ⟨_, (true), (by first | rfl | (simp; done) | (simp [*]; done)), H', ⟨by first | omega | exact Nat.le_refl _⟩, by repeat (first | exact Drawn0.refl _ | apply Drawn0.step)⟩
)
)
case rest => (
clear HC2
try clear c1
try clear p2
try clear c4
try clear c5
try clear c5b0
try clear c7
obtain ⟨kq, x3_1, rfl, HA, HJ1, ⟨mc1, rfl⟩⟩ := hcut
cases kq with
| zero => exact absurd HA.out (by simp [spec_Width.j0])
| succ kj1 => (
have H := HA.out
clear HA
simp only [spec_Width.j0] at H
refine em_ (p := x3_1 = true) (fun c9 => ?g2p) (fun c9 => ?g2n)
case' g2p => (
subst c9
have H1 : (some 0) = some r := by rw [if_pos rfl] at H; exact H
clear H
have H := H1
clear H1
obtain rfl := Option.some.inj H
have lf7_ := trivial
)
case g2n => (
replace c9 := Bool.eq_false_iff.mpr c9
subst c9
rw [if_neg (show ¬ (false = true) by decide)] at H
replace H := Option.bind_eq_some_iff.mp H
obtain ⟨t186, A100, H⟩ := H
(try dsimp only at H)
have A10 := am A100
clear A100
refine em_ (p := t186 = true) (fun c11 => ?g3p) (fun c11 => ?g3n)
case' g3p => (
subst c11
have H1 : (some 2) = some r := by rw [if_pos rfl] at H; exact H
clear H
have H := H1
clear H1
obtain rfl := Option.some.inj H
have lf12_ := trivial
)
case g3n => (
replace c11 := Bool.eq_false_iff.mpr c11
subst c11
rw [if_neg (show ¬ (false = true) by decide)] at H
replace H := Option.bind_eq_some_iff.mp H
obtain ⟨t187, A120, H⟩ := H
(try dsimp only at H)
have A12 := am A120
clear A120
refine em_ (p := t187 = true) (fun c13 => ?g1p) (fun c13 => ?g1n)
case' g1p => (
subst c13
have H1 : (some 2) = some r := by rw [if_pos rfl] at H; exact H
clear H
have H := H1
clear H1
obtain rfl := Option.some.inj H
have lf9_ := trivial
)
case g1n => (
replace c13 := Bool.eq_false_iff.mpr c13
subst c13
rw [if_neg (show ¬ (false = true) by decide)] at H
replace H := Option.bind_eq_some_iff.mp H
obtain ⟨t188, A140, H⟩ := H
(try dsimp only at H)
have A14 := am A140
clear A140
by_cases c15 : t188 = true
·(
subst c15
have H1 : (some 2) = some r := by rw [if_pos rfl] at H; exact H
clear H
have H := H1
clear H1
obtain rfl := Option.some.inj H
go_wp2_with (first | ((with_reducible refine gate_callee (f := 60) rfl ?_); refine gl_ (some 21) Try.func60 #[.int .i64 a0, .int .i64 4352, .int .i64 4447] ?_; (with_reducible refine (spec_l1In.calls a0 4352 4447 false _ A10.out).mono ?_); rintro e w' ⟨rfl, ⟨nd, rfl⟩⟩; refine ⟨_, rfl, ?_⟩) | (go_at_call 60; (with_reducible refine (spec_l1In.calls a0 12288 55295 false _ A12.out).mono ?_); rintro e w' ⟨rfl, ⟨nd, rfl⟩⟩) | (go_at_call 60; (with_reducible refine (spec_l1In.calls a0 127744 131071 true _ A14.out).mono ?_); rintro e w' ⟨rfl, ⟨nd, rfl⟩⟩))
go_ret
exact ⟨by first | rfl | (simp; done) | (simp [*]; done), by repeat (first | exact Drawn0.refl _ | apply Drawn0.step)⟩
)
·(
replace c15 := Bool.eq_false_iff.mpr c15
subst c15
have H1 : (some 1) = some r := by rw [if_neg (show ¬ (false = true) by decide)] at H; exact H
clear H
have H := H1
clear H1
obtain rfl := Option.some.inj H
go_wp2_with (first | ((with_reducible refine gate_callee (f := 60) rfl ?_); refine gl_ (some 21) Try.func60 #[.int .i64 a0, .int .i64 4352, .int .i64 4447] ?_; (with_reducible refine (spec_l1In.calls a0 4352 4447 false _ A10.out).mono ?_); rintro e w' ⟨rfl, ⟨nd, rfl⟩⟩; refine ⟨_, rfl, ?_⟩) | (go_at_call 60; (with_reducible refine (spec_l1In.calls a0 12288 55295 false _ A12.out).mono ?_); rintro e w' ⟨rfl, ⟨nd, rfl⟩⟩) | (go_at_call 60; (with_reducible refine (spec_l1In.calls a0 127744 131071 false _ A14.out).mono ?_); rintro e w' ⟨rfl, ⟨nd, rfl⟩⟩))
go_ret
exact ⟨by first | rfl | (simp; done) | (simp [*]; done), by repeat (first | exact Drawn0.refl _ | apply Drawn0.step)⟩
)
)
all_goals (
go_wp2_with (first | ((with_reducible refine gate_callee (f := 60) rfl ?_); refine gl_ (some 21) Try.func60 #[.int .i64 a0, .int .i64 4352, .int .i64 4447] ?_; (with_reducible refine (spec_l1In.calls a0 4352 4447 false _ A10.out).mono ?_); rintro e w' ⟨rfl, ⟨nd, rfl⟩⟩; refine ⟨_, rfl, ?_⟩) | (go_at_call 60; (with_reducible refine (spec_l1In.calls a0 12288 55295 true _ A12.out).mono ?_); rintro e w' ⟨rfl, ⟨nd, rfl⟩⟩))
go_ret
exact ⟨by first | rfl | (simp; done) | (simp [*]; done), by repeat (first | exact Drawn0.refl _ | apply Drawn0.step)⟩
)
)
all_goals (
go_wp2_with (first | ((with_reducible refine gate_callee (f := 60) rfl ?_); refine gl_ (some 21) Try.func60 #[.int .i64 a0, .int .i64 4352, .int .i64 4447] ?_; (with_reducible refine (spec_l1In.calls a0 4352 4447 true _ A10.out).mono ?_); rintro e w' ⟨rfl, ⟨nd, rfl⟩⟩; refine ⟨_, rfl, ?_⟩))
go_ret
exact ⟨by first | rfl | (simp; done) | (simp [*]; done), by repeat (first | exact Drawn0.refl _ | apply Drawn0.step)⟩
)
)
all_goals (
go_wp2
go_ret
exact ⟨by first | rfl | (simp; done) | (simp [*]; done), by repeat (first | exact Drawn0.refl _ | apply Drawn0.step)⟩
)
)
)
)

end Go.Proofs.Ytalopdcephohgaa.RC
