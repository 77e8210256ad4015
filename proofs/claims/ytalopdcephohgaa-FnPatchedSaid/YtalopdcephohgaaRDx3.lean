/- Contracts of Go functions that laws of this seat reach: each Lean function answers as its Go function does. No condition. Written by wip/tools/inj.py, over the kit's print. -/
import Derived.Test.YtalopdcephohgaaRDx0
namespace Go.Proofs.Ytalopdcephohgaa.RD
open Go.RowKit Go.Proofs.YtalopdcephohgaaW.PrintWords Go.Proofs.YtalopdcephohgaaW.PrintLast Go.Proofs.YtalopdcephohgaaW.PrintMore
attribute [local go_sem] max2_int min2_int max_two min_two max_three min_three max_four min_four   -- for this text's walks alone
set_option linter.unusedVariables false
set_option linter.unusedSimpArgs false

/-! ### laws_big: function 8 -/
def laws_big.f (l0 : List Int) : Option (Bool) := some (decide ((l0.length : Int) > 4096))
set_option maxHeartbeats 8000000 in
set_option maxRecDepth 100000 in
theorem laws_big.calls (A0 : Option Addr) (c0 : Nat) (l0 : List Int) (r : Bool) (w : World) (a9 : Kd.C (Kd.int .u8) w A0 l0.length l0) (a8 : l0.length ≤ c0) (h : laws_big.f l0 = some r) :
  Calls Try.prog 8 #[.slice A0 l0.length c0] w fun e w' => e = .returned (.bool r) ∧ Drawn0 w w' := by
 (
have ac := am a9
have aa := am a8
clear a9 a8
have H : (some (decide ((l0.length : Int) > 4096))) = some r := h
clear h
obtain rfl := Option.some.inj H
go_enter Try.func8, Try.ntmps8
go_wp2
go_ret
exact ⟨sd, dw⟩
)

/-! ### spec_l1In: function 60 -/
def spec_l1In.f (a0 : Int) (a1 : Int) (a2 : Int) : Option (Bool) := if a0 ≥ a1 then (some (decide (a0 ≤ a2))) else (some false)
set_option maxHeartbeats 8000000 in
set_option maxRecDepth 100000 in
theorem spec_l1In.calls (a0 : Int) (a1 : Int) (a2 : Int) (r : Bool) (w : World) (h : spec_l1In.f a0 a1 a2 = some r) :
  Calls Try.prog 60 #[.int .i64 a0, .int .i64 a1, .int .i64 a2] w fun e w' => e = .returned (.bool r) ∧ Drawn0 w w' := by
 (
have H : (if a0 ≥ a1 then (some (decide (a0 ≤ a2))) else (some false)) = some r := h
clear h
by_cases c4 : a0 ≥ a1
·(
rw [if_pos c4] at H
have a8 : decide (a1 ≤ a0) = true := decide_eq_true c4
clear c4
obtain rfl := Option.some.inj H
go_enter Try.func60, Try.ntmps60
go_wp2
go_ret
exact ⟨sd, dw⟩
)
·(
rw [if_neg c4] at H
have a8 : decide (a1 ≤ a0) = false := decide_eq_false c4
clear c4
obtain rfl := Option.some.inj H
go_enter Try.func60, Try.ntmps60
go_wp2
go_ret
exact ⟨sd, dw⟩
)
)

/-! ### spec_StyleOk: function 119 -/
def spec_StyleOk.f (a8 : Int) (a9 : Int) (ae : Bool) (af : Bool) (ag : Bool) : Option (Bool) := (spec_l1In.f a8 0 8).bind fun aa => (if aa = true then ((spec_l1In.f a9 0 8).bind fun ac => (some ac)) else (some false))
set_option maxHeartbeats 8000000 in
set_option maxRecDepth 100000 in
theorem spec_StyleOk.calls (a8 : Int) (a9 : Int) (ae : Bool) (af : Bool) (ag : Bool) (r : Bool) (w : World) (h : spec_StyleOk.f a8 a9 ae af ag = some r) :
  Calls Try.prog 119 #[.agg #[.int .i64 a8, .int .i64 a9, .bool ae, .bool af, .bool ag]] w fun e w' => e = .returned (.bool r) ∧ Below w.heap.size w w' := by
 (
have ao := Try.underlying96
have HB := am (Below.refl w.heap.size w)
have H := h
unfold spec_StyleOk.f at H
clear h
obtain ⟨al, A2, H⟩ := bd H
(try dsimp only at H)
by_cases c3 : al = true
·(
subst c3
have H1 : ((spec_l1In.f a9 0 8).bind fun ah => (some ah)) = some r := by rw [if_pos rfl] at H; exact H
clear H
have H := H1
clear H1
replace H := Option.bind_eq_some_iff.mp H
obtain ⟨ah, ak, H⟩ := H
replace H : (some ah) = some r := H
have A4 := am ak
clear ak
obtain rfl := Option.some.inj H
go_enter Try.func119, Try.ntmps119
go_wp2_with (first | (refine bx 1 #[.int .i64 a8, .int .i64 a9, .bool ae, .bool af, .bool ag] 96 ?_; intro aj hg w5 hbox hb; have aa := am (hbox); have ac := am (gw hg (rb HB)); have ai := ac; replace HB := bs HB hb; clear hb hbox hg; have ap := z5 aa) | ((with_reducible refine cg 60 rfl ?_); refine gl_ (some 5) Try.func60 #[.int .i64 a8, .int .i64 0, .int .i64 8] ?_; (with_reducible refine (spec_l1In.calls a8 0 8 true _ A2.out).mono ?_); rintro e w' ⟨rfl, ⟨nd, rfl⟩⟩; refine ⟨_, rfl, ?_⟩) | (go_at_call 60; (with_reducible refine (spec_l1In.calls a9 0 8 ah _ A4.out).mono ?_); rintro e w' ⟨rfl, ⟨nd, rfl⟩⟩))
go_ret
exact ⟨ew, rb HB⟩
)
·(
replace c3 := Bool.eq_false_iff.mpr c3
subst c3
have H1 : (some false) = some r := by rw [if_neg (show ¬ (false = true) by decide)] at H; exact H
clear H
have H := H1
clear H1
obtain rfl := Option.some.inj H
go_enter Try.func119, Try.ntmps119
go_wp2_with (first | (refine bx 1 #[.int .i64 a8, .int .i64 a9, .bool ae, .bool af, .bool ag] 96 ?_; intro aj hg w7 hbox hb; have aa := am (hbox); have ac := am (gw hg (rb HB)); have ai := ac; replace HB := bs HB hb; clear hb hbox hg; have aq := z5 aa) | ((with_reducible refine cg 60 rfl ?_); refine gl_ (some 5) Try.func60 #[.int .i64 a8, .int .i64 0, .int .i64 8] ?_; (with_reducible refine (spec_l1In.calls a8 0 8 false _ A2.out).mono ?_); rintro e w' ⟨rfl, ⟨nd, rfl⟩⟩; refine ⟨_, rfl, ?_⟩))
go_ret
exact ⟨ew, rb HB⟩
)
)

/-! ### spec_RuneOk: function 135 -/
def spec_RuneOk.f (a0 : Int) : Option (Bool) := (spec_l1In.f a0 0 1114111).bind fun a8 => (if a8 = true then ((spec_l1In.f a0 55296 57343).bind fun a9 => (some (!a9))) else (some false))
set_option maxHeartbeats 8000000 in
set_option maxRecDepth 100000 in
theorem spec_RuneOk.calls (a0 : Int) (r : Bool) (w : World) (h : spec_RuneOk.f a0 = some r) :
  Calls Try.prog 135 #[.int .i64 a0] w fun e w' => e = .returned (.bool r) ∧ Drawn0 w w' := by
 (
have H := h
unfold spec_RuneOk.f at H
clear h
obtain ⟨aa, A2, H⟩ := bd H
(try dsimp only at H)
by_cases c3 : aa = true
·(
subst c3
have H1 : ((spec_l1In.f a0 55296 57343).bind fun a8 => (some (!a8))) = some r := by rw [if_pos rfl] at H; exact H
clear H
have H := H1
clear H1
replace H := Option.bind_eq_some_iff.mp H
obtain ⟨a8, a9, H⟩ := H
replace H : (some (!a8)) = some r := H
have A4 := am a9
clear a9
obtain rfl := Option.some.inj H
go_enter Try.func135, Try.ntmps135
go_wp2_with (first | ((with_reducible refine cg 60 rfl ?_); refine gl_ (some 4) Try.func60 #[.int .i64 a0, .int .i64 0, .int .i64 1114111] ?_; (with_reducible refine (spec_l1In.calls a0 0 1114111 true _ A2.out).mono ?_); rintro e w' ⟨rfl, ⟨nd, rfl⟩⟩; refine ⟨_, rfl, ?_⟩) | (go_at_call 60; (with_reducible refine (spec_l1In.calls a0 55296 57343 a8 _ A4.out).mono ?_); rintro e w' ⟨rfl, ⟨nd, rfl⟩⟩))
go_ret
exact ⟨sd, dw⟩
)
·(
replace c3 := Bool.eq_false_iff.mpr c3
subst c3
have H1 : (some false) = some r := by rw [if_neg (show ¬ (false = true) by decide)] at H; exact H
clear H
have H := H1
clear H1
obtain rfl := Option.some.inj H
go_enter Try.func135, Try.ntmps135
go_wp2_with (first | ((with_reducible refine cg 60 rfl ?_); refine gl_ (some 4) Try.func60 #[.int .i64 a0, .int .i64 0, .int .i64 1114111] ?_; (with_reducible refine (spec_l1In.calls a0 0 1114111 false _ A2.out).mono ?_); rintro e w' ⟨rfl, ⟨nd, rfl⟩⟩; refine ⟨_, rfl, ?_⟩))
go_ret
exact ⟨sd, dw⟩
)
)

/-! ### spec_Width: function 120 -/
def spec_Width.j0 : Nat → Int → Bool → Option (Int)
 | 0, _, _ => none
 | k + 1, x0, x3 => if x3 = true then (some 0) else ((spec_l1In.f x0 4352 4447).bind fun a8 => (if a8 = true then (some 2) else ((spec_l1In.f x0 12288 55295).bind fun a9 => (if a9 = true then (some 2) else ((spec_l1In.f x0 127744 131071).bind fun aa => (if aa = true then (some 2) else (some 1)))))))
def spec_Width.f (k : Nat) (a0 : Int) : Option (Int) := (spec_RuneOk.f a0).bind fun a8 => (if a8 = true then (if a0 < 32 then (spec_Width.j0 k a0 true) else ((spec_l1In.f a0 127 159).bind fun a9 => (if a9 = true then (spec_Width.j0 k a0 true) else ((spec_l1In.f a0 768 879).bind fun aa => (spec_Width.j0 k a0 aa))))) else (spec_Width.j0 k a0 true))
theorem spec_Width.mono_l : ∀ k, (∀ y0 y1, LeO (spec_Width.j0 k y0 y1) (spec_Width.j0 (k + 1) y0 y1))
 | 0 => fun _ _ r h => by simp [spec_Width.j0] at h
 | k + 1 => by
  have ih0 := spec_Width.mono_l k
  ·intro y0 y1
   unfold spec_Width.j0
   repeat' first
   | (with_reducible exact ih0 _ _)
   | (with_reducible exact LeO.refl _)
   | (with_reducible exact LeO.none _)
   | (with_reducible refine LeO.ite ?_ ?_)
   | (with_reducible refine LeO.bind ?_ (fun _ => ?_))
theorem spec_Width.mono : ∀ a0 k, LeO (spec_Width.f k a0) (spec_Width.f (k + 1) a0) := by
 intro a0 k
 have ih0 := spec_Width.mono_l k
 unfold spec_Width.f
 repeat' first
   | (with_reducible exact ih0 _ _)
   | (with_reducible exact LeO.refl _)
   | (with_reducible exact LeO.none _)
   | (with_reducible refine LeO.ite ?_ ?_)
   | (with_reducible refine LeO.bind ?_ (fun _ => ?_))
set_option maxHeartbeats 8000000 in
set_option maxRecDepth 100000 in
theorem spec_Width.calls (k : Nat) (a0 : Int) (r : Int) (w : World) (h : spec_Width.f k a0 = some r) :
  Calls Try.prog 120 #[.int .i64 a0] w fun e w' => e = .returned (.int .i64 r) ∧ Drawn0 w w' := by
 (
have H := h
unfold spec_Width.f at H
clear h
have ai := am H
clear H
go_enter Try.func120, Try.ntmps120
go_upto_region 1 with (fail)
go_cut [3] (fun v3 wc => ∃ (kq : Nat) (a9 : Bool), v3 = .bool a9 ∧ Aside0 (spec_Width.j0 kq a0 a9 = some r) ∧ Aside0 (kq ≤ k) ∧ Drawn0 w wc)
case first => (
have H := ai.out
clear ai
obtain ⟨al, A3, H⟩ := bd H
(try dsimp only at H)
by_cases c4 : al = true
·(
subst c4
rw [if_pos rfl] at H
refine em_ (p := a0 < 32) (fun c5 => ?ax) (fun c5 => ?av)
case' ax => (
rw [if_pos c5] at H
have a8 : decide (a0 < 32) = true := decide_eq_true c5
clear c5
(first | rw [a8] | (simp only [i64_w, i32_w]; rw [a8]) | skip)
have H' := am H
clear H
have aF := trivial
)
case av => (
rw [if_neg c5] at H
have a8 : decide (a0 < 32) = false := decide_eq_false c5
clear c5
(first | rw [a8] | (simp only [i64_w, i32_w]; rw [a8]) | skip)
obtain ⟨ao, A6, H⟩ := bd H
(try dsimp only at H)
by_cases c7 : ao = true
·(
subst c7
have H1 : (spec_Width.j0 k a0 true) = some r := by rw [if_pos rfl] at H; exact H
clear H
have H := H1
clear H1
have H' := am H
clear H
go_wp2_with (first | ((with_reducible refine cg 135 rfl ?_); refine gl_ (some 5) Try.func135 #[.int .i64 a0] ?_; (with_reducible refine (spec_RuneOk.calls a0 true _ A3.out).mono ?_); rintro e w' ⟨rfl, ⟨nd, rfl⟩⟩; refine ⟨_, rfl, ?_⟩) | (go_at_call 60; (with_reducible refine (spec_l1In.calls a0 127 159 true _ A6.out).mono ?_); rintro e w' ⟨rfl, ⟨nd, rfl⟩⟩))
go_meet
case rel => exact ⟨_, (true), sd, H', ⟨by first | omega | exact Nat.le_refl _⟩, dw⟩
)
·(
replace c7 := Bool.eq_false_iff.mpr c7
subst c7
rw [if_neg (show ¬ (false = true) by decide)] at H
replace H := Option.bind_eq_some_iff.mp H
obtain ⟨ae, ak, H⟩ := H
replace H : (spec_Width.j0 k a0 ae) = some r := H
have A8 := am ak
clear ak
have H' := am H
clear H
go_wp2_with (first | ((with_reducible refine cg 135 rfl ?_); refine gl_ (some 5) Try.func135 #[.int .i64 a0] ?_; (with_reducible refine (spec_RuneOk.calls a0 true _ A3.out).mono ?_); rintro e w' ⟨rfl, ⟨nd, rfl⟩⟩; refine ⟨_, rfl, ?_⟩) | (go_at_call 60; (with_reducible refine (spec_l1In.calls a0 127 159 false _ A6.out).mono ?_); rintro e w' ⟨rfl, ⟨nd, rfl⟩⟩) | (go_at_call 60; (with_reducible refine (spec_l1In.calls a0 768 879 ae _ A8.out).mono ?_); rintro e w' ⟨rfl, ⟨nd, rfl⟩⟩))
go_meet
case rel => exact ⟨_, (ae), sd, H', ⟨by first | omega | exact Nat.le_refl _⟩, dw⟩
)
)
all_goals (
go_wp2_with (first | ((with_reducible refine cg 135 rfl ?_); refine gl_ (some 5) Try.func135 #[.int .i64 a0] ?_; (with_reducible refine (spec_RuneOk.calls a0 true _ A3.out).mono ?_); rintro e w' ⟨rfl, ⟨nd, rfl⟩⟩; refine ⟨_, rfl, ?_⟩))
go_meet
case rel => exact ⟨_, (true), sd, H', ⟨by first | omega | exact Nat.le_refl _⟩, dw⟩
)
)
·(
replace c4 := Bool.eq_false_iff.mpr c4
subst c4
have H1 : (spec_Width.j0 k a0 true) = some r := by rw [if_neg (show ¬ (false = true) by decide)] at H; exact H
clear H
have H := H1
clear H1
have H' := am H
clear H
go_wp2_with (first | ((with_reducible refine cg 135 rfl ?_); refine gl_ (some 5) Try.func135 #[.int .i64 a0] ?_; (with_reducible refine (spec_RuneOk.calls a0 false _ A3.out).mono ?_); rintro e w' ⟨rfl, ⟨nd, rfl⟩⟩; refine ⟨_, rfl, ?_⟩))
go_meet
case rel => exact ⟨_, (true), sd, H', ⟨by first | omega | exact Nat.le_refl _⟩, dw⟩
)
)
case rest => (
clear ai
obtain ⟨kq, a9, rfl, HA, aI, ⟨mc1, rfl⟩⟩ := hcut
cases kq with
| zero => exact absurd HA.out (by simp [spec_Width.j0])
| succ aJ => (
have H := HA.out
clear HA
simp only [spec_Width.j0] at H
refine em_ (p := a9 = true) (fun c9 => ?aB) (fun c9 => ?aA)
case' aB => (
subst c9
have H1 : (some 0) = some r := by rw [if_pos rfl] at H; exact H
clear H
have H := H1
clear H1
obtain rfl := Option.some.inj H
have aG := trivial
)
case aA => (
replace c9 := Bool.eq_false_iff.mpr c9
subst c9
rw [if_neg (show ¬ (false = true) by decide)] at H
obtain ⟨ap, af, H⟩ := bd H
(try dsimp only at H)
refine em_ (p := ap = true) (fun aa => ?aD) (fun aa => ?aC)
case' aD => (
subst aa
have H1 : (some 2) = some r := by rw [if_pos rfl] at H; exact H
clear H
have H := H1
clear H1
obtain rfl := Option.some.inj H
have aE := trivial
)
case aC => (
replace aa := Bool.eq_false_iff.mpr aa
subst aa
rw [if_neg (show ¬ (false = true) by decide)] at H
obtain ⟨aq, ah, H⟩ := bd H
(try dsimp only at H)
refine em_ (p := aq = true) (fun ac => ?az) (fun ac => ?ay)
case' az => (
subst ac
have H1 : (some 2) = some r := by rw [if_pos rfl] at H; exact H
clear H
have H := H1
clear H1
obtain rfl := Option.some.inj H
have aH := trivial
)
case ay => (
replace ac := Bool.eq_false_iff.mpr ac
subst ac
rw [if_neg (show ¬ (false = true) by decide)] at H
obtain ⟨au, aj, H⟩ := bd H
(try dsimp only at H)
by_cases ag : au = true
·(
subst ag
have H1 : (some 2) = some r := by rw [if_pos rfl] at H; exact H
clear H
have H := H1
clear H1
obtain rfl := Option.some.inj H
go_wp2_with (first | ((with_reducible refine cg 60 rfl ?_); refine gl_ (some 21) Try.func60 #[.int .i64 a0, .int .i64 4352, .int .i64 4447] ?_; (with_reducible refine (spec_l1In.calls a0 4352 4447 false _ af.out).mono ?_); rintro e w' ⟨rfl, ⟨nd, rfl⟩⟩; refine ⟨_, rfl, ?_⟩) | (go_at_call 60; (with_reducible refine (spec_l1In.calls a0 12288 55295 false _ ah.out).mono ?_); rintro e w' ⟨rfl, ⟨nd, rfl⟩⟩) | (go_at_call 60; (with_reducible refine (spec_l1In.calls a0 127744 131071 true _ aj.out).mono ?_); rintro e w' ⟨rfl, ⟨nd, rfl⟩⟩))
go_ret
exact ⟨sd, dw⟩
)
·(
replace ag := Bool.eq_false_iff.mpr ag
subst ag
have H1 : (some 1) = some r := by rw [if_neg (show ¬ (false = true) by decide)] at H; exact H
clear H
have H := H1
clear H1
obtain rfl := Option.some.inj H
go_wp2_with (first | ((with_reducible refine cg 60 rfl ?_); refine gl_ (some 21) Try.func60 #[.int .i64 a0, .int .i64 4352, .int .i64 4447] ?_; (with_reducible refine (spec_l1In.calls a0 4352 4447 false _ af.out).mono ?_); rintro e w' ⟨rfl, ⟨nd, rfl⟩⟩; refine ⟨_, rfl, ?_⟩) | (go_at_call 60; (with_reducible refine (spec_l1In.calls a0 12288 55295 false _ ah.out).mono ?_); rintro e w' ⟨rfl, ⟨nd, rfl⟩⟩) | (go_at_call 60; (with_reducible refine (spec_l1In.calls a0 127744 131071 false _ aj.out).mono ?_); rintro e w' ⟨rfl, ⟨nd, rfl⟩⟩))
go_ret
exact ⟨sd, dw⟩
)
)
all_goals (
go_wp2_with (first | ((with_reducible refine cg 60 rfl ?_); refine gl_ (some 21) Try.func60 #[.int .i64 a0, .int .i64 4352, .int .i64 4447] ?_; (with_reducible refine (spec_l1In.calls a0 4352 4447 false _ af.out).mono ?_); rintro e w' ⟨rfl, ⟨nd, rfl⟩⟩; refine ⟨_, rfl, ?_⟩) | (go_at_call 60; (with_reducible refine (spec_l1In.calls a0 12288 55295 true _ ah.out).mono ?_); rintro e w' ⟨rfl, ⟨nd, rfl⟩⟩))
go_ret
exact ⟨sd, dw⟩
)
)
all_goals (
go_wp2_with (first | ((with_reducible refine cg 60 rfl ?_); refine gl_ (some 21) Try.func60 #[.int .i64 a0, .int .i64 4352, .int .i64 4447] ?_; (with_reducible refine (spec_l1In.calls a0 4352 4447 true _ af.out).mono ?_); rintro e w' ⟨rfl, ⟨nd, rfl⟩⟩; refine ⟨_, rfl, ?_⟩))
go_ret
exact ⟨sd, dw⟩
)
)
all_goals (
go_wp2
go_ret
exact ⟨sd, dw⟩
)
)
)
)

end Go.Proofs.Ytalopdcephohgaa.RD
