/- Contracts of Go functions that laws of this seat reach: each Lean function answers as its Go function does. No condition. Written by wip/tools/inj.py, over the kit's print. -/
import Derived.Test.YtalopdcephohgaaRAx0
namespace Go.Proofs.Ytalopdcephohgaa.RA
open Go.RowKit Go.Proofs.YtalopdcephohgaaW.PrintWords Go.Proofs.YtalopdcephohgaaW.PrintLast Go.Proofs.YtalopdcephohgaaW.PrintMore
attribute [local go_sem] max2_int min2_int max_two min_two max_three min_three max_four min_four   -- for this text's walks alone
set_option linter.unusedVariables false
set_option linter.unusedSimpArgs false

/-! ### impl_in: function 56 -/
def impl_in.f (a0 : Int) (a1 : Int) (a2 : Int) : Option (Bool) := if a1 ≤ a0 then (some (decide (a0 ≤ a2))) else (some false)
set_option maxHeartbeats 8000000 in
set_option maxRecDepth 100000 in
theorem impl_in.calls (a0 : Int) (a1 : Int) (a2 : Int) (r : Bool) (w : World) (h : impl_in.f a0 a1 a2 = some r) :
  Calls Try.prog 56 #[.int .i64 a0, .int .i64 a1, .int .i64 a2] w fun e w' => e = .returned (.bool r) ∧ Drawn0 w w' := by
 (
have H : (if a1 ≤ a0 then (some (decide (a0 ≤ a2))) else (some false)) = some r := h
clear h
by_cases c4 : a1 ≤ a0
·(
rw [if_pos c4] at H
have c4b0 : decide (a1 ≤ a0) = true := decide_eq_true c4
clear c4
obtain rfl := Option.some.inj H
go_enter Try.func56, Try.ntmps56
go_wp2
go_ret
exact ⟨by first | rfl | (simp; done) | (simp [*]; done), by repeat (first | exact Drawn0.refl _ | apply Drawn0.step)⟩
)
·(
rw [if_neg c4] at H
have c4b0 : decide (a1 ≤ a0) = false := decide_eq_false c4
clear c4
obtain rfl := Option.some.inj H
go_enter Try.func56, Try.ntmps56
go_wp2
go_ret
exact ⟨by first | rfl | (simp; done) | (simp [*]; done), by repeat (first | exact Drawn0.refl _ | apply Drawn0.step)⟩
)
)

-- NOT PRINTED: function 92 (slices_IndexFunc_string_string)

-- NOT PRINTED: function 58 (slices_ContainsFunc_string_string)

/-! ### impl_HistoryOk_1: function 59 -/
def impl_HistoryOk_1.f (a0 : ByteArray) : Option (Bool) := some (decide ((a0.size : Int) > 300))
set_option maxHeartbeats 8000000 in
set_option maxRecDepth 100000 in
theorem impl_HistoryOk_1.calls (a0 : ByteArray) (r : Bool) (w : World) (h : impl_HistoryOk_1.f a0 = some r) :
  Calls Try.prog 59 #[.string a0] w fun e w' => e = .returned (.bool r) ∧ Drawn0 w w' := by
 (
have H : (some (decide ((a0.size : Int) > 300))) = some r := h
clear h
obtain rfl := Option.some.inj H
go_enter Try.func59, Try.ntmps59
go_wp2
go_ret
exact ⟨by first | rfl | (simp; done) | (simp [*]; done), by repeat (first | exact Drawn0.refl _ | apply Drawn0.step)⟩
)

/-- A call of a function value that a place holds, in a plain region, as an arm of the walk. -/
theorem slices_IndexFunc_string_string_impl_HistoryOk_lit1.goesT_ {P : Program} {ops : Array Oper} {Q : Exit → Act → World → Prop} {rest : List Oper} {oi : Oper} {a : Act} {w : World} (N : Option Tmp) (t : Tmp) (hd : oi.dst = N) (hg : oi.guard = none) {f : FuncId} {fn : Func} {xs_ : Array Operand} {ts : Array TypeId} (hf : P.funcs[f]? = some fn) (hname : (fn.name == "runtime.NumGoroutine") = false) (hb : fn.body.isSome = true) (args : Array Value)
  (hop : oi.op = .call { callee := .value (.tmp t), args := xs_, argTypes := ts }) (hv : a.eval (.tmp t) = .func (.func f) #[] #[]) (hargs : xs_.map a.eval = args)
  (h : Calls P f args w fun e w' => ∃ v, e = .returned v ∧ wpList P ops Q rest (a.put N v) w') : wpList P ops Q (oi :: rest) a w := by
 refine wpList_plain hg fun K hK => ?_
 have he := enters_ hf hname hb args w
 have hrun : (execOp a.eval oi).run P w = .ok (.enter f args) w := by
  unfold execOp
  simp [hop, resolve, Deferred.ofValue, invoke, hv, hargs, he]
 unfold Oper.wp
 rw [hrun, Oper.upon_enter]
 refine h.mono fun e w'' hh => ?_
 obtain ⟨v, rfl, hk⟩ := hh
 subst hd
 exact hK _ _ hk
/-! ### slices_IndexFunc_string_string_impl_HistoryOk_lit1: function 166 -/
def slices_IndexFunc_string_string_impl_HistoryOk_lit1.l0 : Nat → List ByteArray → Int → Int → Option (Int)
 | 0, _, _, _ => none
 | k + 1, x0, x7, x8 => if x8 < x7 then (if 0 ≤ x8 then (if x8 < (x0.length : Int) then ((impl_HistoryOk_1.f (rdOf ByteArray.empty x0 x8)).bind fun t233 => (if t233 = true then (some x8) else (slices_IndexFunc_string_string_impl_HistoryOk_lit1.l0 k x0 x7 (wrap64 (x8 + 1))))) else (none)) else (none)) else (some (-1))
def slices_IndexFunc_string_string_impl_HistoryOk_lit1.f (k : Nat) (l0 : List ByteArray) : Option (Int) := slices_IndexFunc_string_string_impl_HistoryOk_lit1.l0 k l0 (l0.length : Int) 0
theorem slices_IndexFunc_string_string_impl_HistoryOk_lit1.mono_l : ∀ k, (∀ y0 y1 y2, LeO (slices_IndexFunc_string_string_impl_HistoryOk_lit1.l0 k y0 y1 y2) (slices_IndexFunc_string_string_impl_HistoryOk_lit1.l0 (k + 1) y0 y1 y2))
 | 0 => fun _ _ _ r h => by simp [slices_IndexFunc_string_string_impl_HistoryOk_lit1.l0] at h
 | k + 1 => by
  have ih0 := slices_IndexFunc_string_string_impl_HistoryOk_lit1.mono_l k
  ·intro y0 y1 y2
   unfold slices_IndexFunc_string_string_impl_HistoryOk_lit1.l0
   repeat' first
   | (with_reducible exact ih0 _ _ _)
   | (with_reducible exact LeO.refl _)
   | (with_reducible exact LeO.none _)
   | (with_reducible refine LeO.ite ?_ ?_)
   | (with_reducible refine LeO.bind ?_ (fun _ => ?_))
theorem slices_IndexFunc_string_string_impl_HistoryOk_lit1.mono : ∀ a0 k, LeO (slices_IndexFunc_string_string_impl_HistoryOk_lit1.f k a0) (slices_IndexFunc_string_string_impl_HistoryOk_lit1.f (k + 1) a0) := by
 intro a0 k
 have ih0 := slices_IndexFunc_string_string_impl_HistoryOk_lit1.mono_l k
 unfold slices_IndexFunc_string_string_impl_HistoryOk_lit1.f
 repeat' first
   | (with_reducible exact ih0 _ _ _)
   | (with_reducible exact LeO.refl _)
   | (with_reducible exact LeO.none _)
   | (with_reducible refine LeO.ite ?_ ?_)
   | (with_reducible refine LeO.bind ?_ (fun _ => ?_))
set_option maxHeartbeats 8000000 in
set_option maxRecDepth 100000 in
theorem slices_IndexFunc_string_string_impl_HistoryOk_lit1.calls (k : Nat) (A0 : Option Addr) (c0 : Nat) (l0 : List ByteArray) (r : Int) (w : World) (hr0 : Kd.C Kd.string w A0 l0.length l0) (hc0 : l0.length ≤ c0) (h : slices_IndexFunc_string_string_impl_HistoryOk_lit1.f k l0 = some r) :
  Calls Try.prog 92 #[.slice A0 l0.length c0, .func (.func 59) #[] #[]] w fun e w' => e = .returned (.int .i64 r) ∧ Drawn0 w w' := by
 (
have HR0 := am hr0
have HC0 := am hc0
clear hr0 hc0
have H : (slices_IndexFunc_string_string_impl_HistoryOk_lit1.l0 k l0 (l0.length : Int) 0) = some r := h
clear h
have H' := am H
clear H
go_enter Try.func92, Try.ntmps92
go_wp2
go_loopg [8] k (fun kq v8 w' => ∃ (x8_1 : Int), v8 = .int .i64 x8_1 ∧ Aside0 (slices_IndexFunc_string_string_impl_HistoryOk_lit1.l0 kq l0 (l0.length : Int) x8_1 = some r) ∧ Aside0 (kq ≤ k) ∧ Drawn0 w w')
case atStart => exact ⟨(0), (by first | rfl | (simp; done) | (simp [*]; done)), H', ⟨Nat.le_refl _⟩, by repeat (first | exact Drawn0.refl _ | apply Drawn0.step)⟩
case round => (
clear H'
try clear c1
obtain ⟨x8_1, rfl, HA, HK1, ⟨m1, rfl⟩⟩ := hrel
cases gk with
| zero => exact absurd HA.out (by simp [slices_IndexFunc_string_string_impl_HistoryOk_lit1.l0])
| succ k1 => (
have H := HA.out
clear HA
simp only [slices_IndexFunc_string_string_impl_HistoryOk_lit1.l0] at H
by_cases c2 : x8_1 < (l0.length : Int)
·(
rw [if_pos c2] at H
have c2b0 : decide (x8_1 < (l0.length : Int)) = true := decide_eq_true c2
clear c2
by_cases c3 : 0 ≤ x8_1
·(
rw [if_pos c3] at H
have c3b0 : decide (0 ≤ x8_1) = true := decide_eq_true c3
clear c3
by_cases c4 : x8_1 < (l0.length : Int)
·(
rw [if_pos c4] at H
have c4b0 : decide (x8_1 < (l0.length : Int)) = true := decide_eq_true c4
clear c4
replace H := Option.bind_eq_some_iff.mp H
obtain ⟨t233, A50, H⟩ := H
(try dsimp only at H)
have A5 := am A50
clear A50
by_cases c6 : t233 = true
·(
subst c6
have H1 : (some x8_1) = some r := by rw [if_pos rfl] at H; exact H
clear H
have H := H1
clear H1
obtain rfl := Option.some.inj H
have p232 : 0 ≤ (x8_1 : Int) := dt_
have q232 : x8_1 < (l0.length : Int) := dt_
obtain ⟨ad232, e232, hx232_0⟩ := Kd.at_string HR0.out x8_1 p232 q232
cases e232
replace p232 := eq_true p232
replace q232 := eq_true q232
go_wp2_with (first | (refine slices_IndexFunc_string_string_impl_HistoryOk_lit1.goesT_ (some 16) 11 rfl rfl Try.func59 (by kernel_rfl) rfl #[.string (rdOf ByteArray.empty l0 x8_1)] rfl (by rfl) mt ?_; (with_reducible refine (impl_HistoryOk_1.calls (rdOf ByteArray.empty l0 x8_1) true _ A5.out).mono ?_); rintro e w' ⟨rfl, ⟨nd, rfl⟩⟩; refine ⟨_, rfl, ?_⟩))
go_ret
exact ⟨by first | rfl | (simp; done) | (simp [*]; done), by repeat (first | exact Drawn0.refl _ | apply Drawn0.step)⟩
)
·(
replace c6 := Bool.eq_false_iff.mpr c6
subst c6
rw [if_neg (show ¬ (false = true) by decide)] at H
have H' := am H
clear H
have p232 : 0 ≤ (x8_1 : Int) := dt_
have q232 : x8_1 < (l0.length : Int) := dt_
obtain ⟨ad232, e232, hx232_0⟩ := Kd.at_string HR0.out x8_1 p232 q232
cases e232
replace p232 := eq_true p232
replace q232 := eq_true q232
go_wp2_with (first | (refine slices_IndexFunc_string_string_impl_HistoryOk_lit1.goesT_ (some 16) 11 rfl rfl Try.func59 (by kernel_rfl) rfl #[.string (rdOf ByteArray.empty l0 x8_1)] rfl (by rfl) mt ?_; (with_reducible refine (impl_HistoryOk_1.calls (rdOf ByteArray.empty l0 x8_1) false _ A5.out).mono ?_); rintro e w' ⟨rfl, ⟨nd, rfl⟩⟩; refine ⟨_, rfl, ?_⟩))
go_roundg k1
case measure => have := HK1.out; omega
case rel => exact ⟨(wrap64 (x8_1 + 1)), (by first | rfl | (simp; done) | (simp [*]; done)), H', ⟨by have := HK1.out; omega⟩, by repeat (first | exact Drawn0.refl _ | apply Drawn0.step)⟩
)
)
·(
rw [if_neg c4] at H
exact absurd H (by simp)
)
)
·(
rw [if_neg c3] at H
exact absurd H (by simp)
)
)
·(
rw [if_neg c2] at H
have c2b0 : decide (x8_1 < (l0.length : Int)) = false := decide_eq_false c2
clear c2
obtain rfl := Option.some.inj H
go_wp2
go_ret
exact ⟨by first | rfl | (simp; done) | (simp [*]; done), by repeat (first | exact Drawn0.refl _ | apply Drawn0.step)⟩
)
)
)
)

/-! ### slices_ContainsFunc_string_string_impl_HistoryOk_lit1: function 165 -/
def slices_ContainsFunc_string_string_impl_HistoryOk_lit1.f (k : Nat) (l0 : List ByteArray) : Option (Bool) := (slices_IndexFunc_string_string_impl_HistoryOk_lit1.f k l0).bind fun t234 => (some (decide (t234 ≥ 0)))
theorem slices_ContainsFunc_string_string_impl_HistoryOk_lit1.mono : ∀ a0 k, LeO (slices_ContainsFunc_string_string_impl_HistoryOk_lit1.f k a0) (slices_ContainsFunc_string_string_impl_HistoryOk_lit1.f (k + 1) a0) := by
 intro a0 k
 unfold slices_ContainsFunc_string_string_impl_HistoryOk_lit1.f
 repeat' first
   | (with_reducible exact slices_IndexFunc_string_string_impl_HistoryOk_lit1.mono _ _)
   | (with_reducible exact LeO.refl _)
   | (with_reducible exact LeO.none _)
   | (with_reducible refine LeO.ite ?_ ?_)
   | (with_reducible refine LeO.bind ?_ (fun _ => ?_))
set_option maxHeartbeats 8000000 in
set_option maxRecDepth 100000 in
theorem slices_ContainsFunc_string_string_impl_HistoryOk_lit1.calls (k : Nat) (A0 : Option Addr) (c0 : Nat) (l0 : List ByteArray) (r : Bool) (w : World) (hr0 : Kd.C Kd.string w A0 l0.length l0) (hc0 : l0.length ≤ c0) (h : slices_ContainsFunc_string_string_impl_HistoryOk_lit1.f k l0 = some r) :
  Calls Try.prog 58 #[.slice A0 l0.length c0, .func (.func 59) #[] #[]] w fun e w' => e = .returned (.bool r) ∧ Drawn0 w w' := by
 (
have HR0 := am hr0
have HC0 := am hc0
clear hr0 hc0
have H := h
unfold slices_ContainsFunc_string_string_impl_HistoryOk_lit1.f at H
clear h
replace H := Option.bind_eq_some_iff.mp H
obtain ⟨t234, A20, H⟩ := H
replace H : (some (decide (t234 ≥ 0))) = some r := H
have A2 := am A20
clear A20
obtain rfl := Option.some.inj H
go_enter Try.func58, Try.ntmps58
go_wp2_with (first | ((with_reducible refine gate_callee (f := 92) rfl ?_); refine gl_ (some 7) Try.func92 #[.slice A0 l0.length c0, .func (.func 59) #[] #[]] ?_; (with_reducible refine (slices_IndexFunc_string_string_impl_HistoryOk_lit1.calls k _ _ l0 t234 _ ?side1 ?side2 A2.out).mono ?_); (case side1 => exact rc (HR0.out)); (case side2 => exact HC0.out); rintro e w' ⟨rfl, ⟨nd, rfl⟩⟩; refine ⟨_, rfl, ?_⟩))
go_ret
exact ⟨by first | rfl | (simp; done) | (simp [*]; done), by repeat (first | exact Drawn0.refl _ | apply Drawn0.step)⟩
)

/-! ### impl_HistoryOk: function 19 -/
def impl_HistoryOk.f (k : Nat) (a0_0 : Int) (l0_1 : List ByteArray) (a0_2 : Int) : Option (Bool) := (impl_in.f a0_0 1 200).bind fun t236 => (if t236 = true then (if (l0_1.length : Int) ≤ a0_0 then ((impl_in.f a0_2 0 1000000).bind fun t237 => (if t237 = true then ((slices_ContainsFunc_string_string_impl_HistoryOk_lit1.f k l0_1).bind fun t238 => (some (!t238))) else (some false))) else (some false)) else (some false))
theorem impl_HistoryOk.mono : ∀ a0 a1 a2 k, LeO (impl_HistoryOk.f k a0 a1 a2) (impl_HistoryOk.f (k + 1) a0 a1 a2) := by
 intro a0 a1 a2 k
 unfold impl_HistoryOk.f
 repeat' first
   | (with_reducible exact slices_ContainsFunc_string_string_impl_HistoryOk_lit1.mono _ _)
   | (with_reducible exact LeO.refl _)
   | (with_reducible exact LeO.none _)
   | (with_reducible refine LeO.ite ?_ ?_)
   | (with_reducible refine LeO.bind ?_ (fun _ => ?_))
set_option maxHeartbeats 8000000 in
set_option maxRecDepth 100000 in
theorem impl_HistoryOk.calls (k : Nat) (a0_0 : Int) (A0_1 : Option Addr) (c0_1 : Nat) (l0_1 : List ByteArray) (a0_2 : Int) (r : Bool) (w : World) (hr0_1 : Kd.C Kd.string w A0_1 l0_1.length l0_1) (hc0_1 : l0_1.length ≤ c0_1) (h : impl_HistoryOk.f k a0_0 l0_1 a0_2 = some r) :
  Calls Try.prog 19 #[.agg #[.int .i64 a0_0, .slice A0_1 l0_1.length c0_1, .int .i64 a0_2]] w fun e w' => e = .returned (.bool r) ∧ Below w.heap.size w w' := by
 (
have hu26 := Try.underlying26
have HR0_1 := am hr0_1
have HC0_1 := am hc0_1
clear hr0_1 hc0_1
have HB := am (Below.refl w.heap.size w)
have H := h
unfold impl_HistoryOk.f at H
clear h
replace H := Option.bind_eq_some_iff.mp H
obtain ⟨t236, A20, H⟩ := H
(try dsimp only at H)
have A2 := am A20
clear A20
refine em_ (p := t236 = true) (fun c3 => ?g1p) (fun c3 => ?g1n)
case' g1p => (
subst c3
rw [if_pos rfl] at H
refine em_ (p := (l0_1.length : Int) ≤ a0_0) (fun c4 => ?g0p) (fun c4 => ?g0n)
case g0p => (
rw [if_pos c4] at H
have c4b0 : decide ((l0_1.length : Int) ≤ a0_0) = true := decide_eq_true c4
clear c4
replace H := Option.bind_eq_some_iff.mp H
obtain ⟨t237, A50, H⟩ := H
(try dsimp only at H)
have A5 := am A50
clear A50
by_cases c6 : t237 = true
·(
subst c6
rw [if_pos rfl] at H
replace H := Option.bind_eq_some_iff.mp H
obtain ⟨t238, A70, H⟩ := H
replace H : (some (!t238)) = some r := H
have A7 := am A70
clear A70
obtain rfl := Option.some.inj H
go_enter Try.func19, Try.ntmps19
go_wp2_with (first | ((with_reducible refine gate_dst (N := 1) rfl ?_); (try (refine gate_guard (by rfl) ?_; dsimp only)); refine box_event ?hg (N := 1) ?hd (cs := #[.int .i64 a0_0, .slice A0_1 l0_1.length c0_1, .int .i64 a0_2]) (t := 26) ?hr ?_; (case hd => rfl); (case hg => rfl); (case hr => first | (go_simp; done) | (go_simp; rfl)); intro gb235 hg w8 hbox hb; have BK235 := am (hbox); have GW235 := am (gw hg (rb HB)); have GE235 := GW235; replace HB := am (below_step (rb HB) hb); clear hb hbox hg; have hcz9_0 : w8.cell? ⟨gb235, 0, none⟩ = some (.int .i64 a0_0) := (blk_cell BK235.out 0).trans rfl; have hcz9_1 : w8.cell? ⟨gb235, 1, none⟩ = some (.slice A0_1 l0_1.length c0_1) := (blk_cell BK235.out 1).trans rfl; have hcz9_2 : w8.cell? ⟨gb235, 2, none⟩ = some (.int .i64 a0_2) := (blk_cell BK235.out 2).trans rfl; have hfz9_0 := blk_frozen BK235.out 0; have hfz9_1 := blk_frozen BK235.out 1; have hfz9_2 := blk_frozen BK235.out 2) | ((with_reducible refine gate_callee (f := 56) rfl ?_); refine gl_ (some 5) Try.func56 #[.int .i64 a0_0, .int .i64 1, .int .i64 200] ?_; (with_reducible refine (impl_in.calls a0_0 1 200 true _ A2.out).mono ?_); rintro e w' ⟨rfl, ⟨nd, rfl⟩⟩; refine ⟨_, rfl, ?_⟩) | (go_at_call 56; (with_reducible refine (impl_in.calls a0_2 0 1000000 true _ A5.out).mono ?_); rintro e w' ⟨rfl, ⟨nd, rfl⟩⟩) | (go_at_call 58; (with_reducible refine (slices_ContainsFunc_string_string_impl_HistoryOk_lit1.calls k _ _ l0_1 t238 _ ?side1 ?side2 A7.out).mono ?_); (case side1 => exact rc ((Kd.C_below HR0_1.out (rb1 HB GE235)))); (case side2 => exact HC0_1.out); rintro e w' ⟨rfl, ⟨nd, rfl⟩⟩))
go_ret
exact ⟨by first | rfl | (simp [errW_none, errW_some] <;> rfl) | (simp [*, errW_none, errW_some] <;> rfl), by repeat (first | (with_reducible first | exact HB.out | apply b1 | apply b2 | apply b3 | refine below_set ?_ GE235.out) | exact HB.out)⟩
)
·(
replace c6 := Bool.eq_false_iff.mpr c6
subst c6
have H1 : (some false) = some r := by rw [if_neg (show ¬ (false = true) by decide)] at H; exact H
clear H
have H := H1
clear H1
obtain rfl := Option.some.inj H
go_enter Try.func19, Try.ntmps19
go_wp2_with (first | ((with_reducible refine gate_dst (N := 1) rfl ?_); (try (refine gate_guard (by rfl) ?_; dsimp only)); refine box_event ?hg (N := 1) ?hd (cs := #[.int .i64 a0_0, .slice A0_1 l0_1.length c0_1, .int .i64 a0_2, .func (.func 59) #[] #[]]) (t := 26) ?hr ?_; (case hd => rfl); (case hg => rfl); (case hr => first | (go_simp; done) | (go_simp; rfl)); intro gb235 hg w10 hbox hb; have BK235 := am (hbox); have GW235 := am (gw hg (rb HB)); have GE235 := GW235; replace HB := am (below_step (rb HB) hb); clear hb hbox hg; have hcz11_0 : w10.cell? ⟨gb235, 0, none⟩ = some (.int .i64 a0_0) := (blk_cell BK235.out 0).trans rfl; have hcz11_1 : w10.cell? ⟨gb235, 1, none⟩ = some (.slice A0_1 l0_1.length c0_1) := (blk_cell BK235.out 1).trans rfl; have hcz11_2 : w10.cell? ⟨gb235, 2, none⟩ = some (.int .i64 a0_2) := (blk_cell BK235.out 2).trans rfl; have hfz11_0 := blk_frozen BK235.out 0; have hfz11_1 := blk_frozen BK235.out 1; have hfz11_2 := blk_frozen BK235.out 2) | ((with_reducible refine gate_callee (f := 56) rfl ?_); refine gl_ (some 5) Try.func56 #[.int .i64 a0_0, .int .i64 1, .int .i64 200] ?_; (with_reducible refine (impl_in.calls a0_0 1 200 true _ A2.out).mono ?_); rintro e w' ⟨rfl, ⟨nd, rfl⟩⟩; refine ⟨_, rfl, ?_⟩) | (go_at_call 56; (with_reducible refine (impl_in.calls a0_2 0 1000000 false _ A5.out).mono ?_); rintro e w' ⟨rfl, ⟨nd, rfl⟩⟩))
go_ret
exact ⟨by first | rfl | (simp [errW_none, errW_some] <;> rfl) | (simp [*, errW_none, errW_some] <;> rfl), by repeat (first | (with_reducible first | exact HB.out | apply b1 | apply b2 | apply b3 | refine below_set ?_ GE235.out) | exact HB.out)⟩
)
)
case' g0n => (
rw [if_neg c4] at H
have c4b0 : decide ((l0_1.length : Int) ≤ a0_0) = false := decide_eq_false c4
clear c4
obtain rfl := Option.some.inj H
have lf3_ := trivial
)
)
case' g1n => (
replace c3 := Bool.eq_false_iff.mpr c3
subst c3
have H1 : (some false) = some r := by rw [if_neg (show ¬ (false = true) by decide)] at H; exact H
clear H
have H := H1
clear H1
obtain rfl := Option.some.inj H
have lf4_ := trivial
)
all_goals (
go_enter Try.func19, Try.ntmps19
go_wp2_with (first | ((with_reducible refine gate_dst (N := 1) rfl ?_); (try (refine gate_guard (by rfl) ?_; dsimp only)); refine box_event ?hg (N := 1) ?hd (cs := #[.int .i64 a0_0, .slice A0_1 l0_1.length c0_1, .int .i64 a0_2]) (t := 26) ?hr ?_; (case hd => rfl); (case hg => rfl); (case hr => first | (go_simp; done) | (go_simp; rfl)); intro gb235 hg w12 hbox hb; have BK235 := am (hbox); have GW235 := am (gw hg (rb HB)); have GE235 := GW235; replace HB := am (below_step (rb HB) hb); clear hb hbox hg; have hcz13_0 : w12.cell? ⟨gb235, 0, none⟩ = some (.int .i64 a0_0) := (blk_cell BK235.out 0).trans rfl; have hcz13_1 : w12.cell? ⟨gb235, 1, none⟩ = some (.slice A0_1 l0_1.length c0_1) := (blk_cell BK235.out 1).trans rfl; have hcz13_2 : w12.cell? ⟨gb235, 2, none⟩ = some (.int .i64 a0_2) := (blk_cell BK235.out 2).trans rfl; have hfz13_0 := blk_frozen BK235.out 0; have hfz13_1 := blk_frozen BK235.out 1; have hfz13_2 := blk_frozen BK235.out 2) | ((with_reducible refine gate_callee (f := 56) rfl ?_); refine gl_ (some 5) Try.func56 #[.int .i64 a0_0, .int .i64 1, .int .i64 200] ?_; (with_reducible refine (impl_in.calls a0_0 1 200 false _ A2.out).mono ?_); rintro e w' ⟨rfl, ⟨nd, rfl⟩⟩; refine ⟨_, rfl, ?_⟩) | ((with_reducible refine gate_callee (f := 56) rfl ?_); refine gl_ (some 5) Try.func56 #[.int .i64 a0_0, .int .i64 1, .int .i64 200] ?_; (with_reducible refine (impl_in.calls a0_0 1 200 true _ A2.out).mono ?_); rintro e w' ⟨rfl, ⟨nd, rfl⟩⟩; refine ⟨_, rfl, ?_⟩))
go_ret
exact ⟨by first | rfl | (simp [errW_none, errW_some] <;> rfl) | (simp [*, errW_none, errW_some] <;> rfl), by repeat (first | (with_reducible first | exact HB.out | apply b1 | apply b2 | apply b3 | refine below_set ?_ GE235.out) | exact HB.out)⟩
)
)

/-! ### slices_Clone_string_string: function 53 -/
def slices_Clone_string_string.f (l0 : List ByteArray) : Option (List ByteArray) := (some (([] : List ByteArray) : List ByteArray)).bind fun y239 => (if y239.length + l0.length < 8796093022208 then (some (y239 ++ l0)) else (none))
theorem slices_Clone_string_string.eqnilIn {P : Program} (w : World) (d : Nat) (t e : TypeId) (a : Option Addr) (n c n' c' : Nat) (h : P.underlying t = some (.slice e)) :
  (Op.equalIn (d + 1) t (.slice a n c) (.slice none n' c')).run P w = .ok a.isNone w := by
 cases a <;> simp [Op.equalIn, run_underlying h]
theorem slices_Clone_string_string.eqnil (W : World) (A : Option Addr) (n c : Nat) : (binOp .eql 24 (.slice A n c) (.slice none 0 0)).run Try.prog W = .ok (.bool A.isNone) W := by
 have hu : Try.prog.underlying 24 = some (.slice 9) := by kernel_rfl
 simp only [binOp]
 simp [Op.equal, Op.maxDepth, slices_Clone_string_string.eqnilIn W 9999 24 9 A n c 0 0 hu]
set_option maxHeartbeats 8000000 in
set_option maxRecDepth 100000 in
theorem slices_Clone_string_string.calls (A0 : Option Addr) (c0 : Nat) (l0 : List ByteArray) (r : List ByteArray) (w : World) (hr0 : Kd.C Kd.string w A0 l0.length l0) (hc0 : l0.length ≤ c0) (h : slices_Clone_string_string.f l0 = some r) :
  Calls Try.prog 53 #[.slice A0 l0.length c0] w fun e w' => ∃ v0_ : Value, e = .returned (v0_) ∧ Kd.R Kd.string 9 w' w.heap.size (fun _ => True) v0_ r ∧ Below w.heap.size w w' := by
 (
cases A0 with
| none => (
have hl : l0 = [] := List.eq_nil_of_length_eq_zero (Nat.eq_zero_of_not_pos fun hp => by obtain ⟨ad, e, _⟩ := hr0.2.2 hp; cases e)
subst hl
have hn : ([] : List _) = r := Option.some.inj ((show slices_Clone_string_string.f [] = some [] from rfl).symm.trans h)
subst hn
clear h hr0
have heq := slices_Clone_string_string.eqnil
go_enter Try.func53, Try.ntmps53
go_wp2
go_ret
exact ⟨_, rfl, Kd.R_nil _ _ _ _ _, Below.refl _ _⟩
)
| some a0_ => (
have HR0 := am hr0
have HC0 := am hc0
clear hr0 hc0
have HB := am (Below.refl w.heap.size w)
have H := h
unfold slices_Clone_string_string.f at H
clear h
obtain ⟨y239, hy239⟩ : ∃ y_ : List ByteArray, y_ = (([] : List ByteArray)) := ⟨_, rfl⟩
replace H : (if y239.length + l0.length < 8796093022208 then (some (y239 ++ l0)) else (none)) = some r := by first | (rw [hy239]; with_reducible exact H) | (rw [hy239]; exact H) | exact H
have Ny239 := am hy239
clear hy239
by_cases c2 : y239.length + l0.length < 8796093022208
·(
rw [if_pos c2] at H
have LMc2 := am c2
clear c2
obtain ⟨y242, hy242⟩ : ∃ y_ : List ByteArray, y_ = (y239 ++ l0) := ⟨_, rfl⟩
replace H : (some y242) = some r := by first | (rw [hy242]; with_reducible exact H) | (rw [hy242]; exact H) | exact H
have Ny242 := am hy242
clear hy242
obtain rfl := Option.some.inj H
have heq := slices_Clone_string_string.eqnil
go_enter Try.func53, Try.ntmps53
go_wp2_with (first | ((with_reducible refine gate_dst (N := 5) rfl ?_); refine Kd.R_lit Kd.string _ 9 ?hg (N := 5) ?hd (xs := ([] : List ByteArray)) (inner := []) (ok := fun _ => True) (okp := fun _ => True) ?hr ?hp (fun _ hk => hk) trivial (Below.refl _ _) (Nat.le_refl _) (by simp) ?_; (case hd => rfl); (case hg => rfl); (case hr => first | (go_simp; done) | (go_simp; rfl)); (case hp => exact (Reps.none _ _)); intro v240 w3 ho4 hb hg_ hnew_; clear hg_ hnew_; (first | rw [← Ny239.out] at ho4 | (simp only [Int.reduceToNat] at ho4; rw [← Ny239.out] at ho4)); have HO241 := am (Kd.R_lower ho4 (below_size (rb HB))); replace HB := am (below_step (rb HB) hb); clear hb ho4) | ((with_reducible refine gate_builtin (b := .append) (xs := #[.tmp 5, .tmp 6]) rfl ?_); at_builtin; refine Kd.R_append_rows Kd.string (w0 := w) w.heap.size rfl (.tmp 5) (.tmp 6) 24 9 (.string ⟨#[]⟩) 16 rfl Try.underlying24 info9 rfl (by decide) (by omega) v240 y239 l0 _ _ _ (fun _ => True) (fun _ => False) rfl rfl ?aO ?aR (fun _ _ h => h) (fun _ h => h.elim) ?aF ?aB ?aS ?aL ?_; (case aR => repeat (first | exact (Kd.C_below HR0.out HB.out) | (with_reducible refine Kd.C_alloc ?_ _) | (with_reducible refine Kd.C_drewN ?_ _) | (with_reducible refine Kd.C_drew ?_))); (case aB => exact (rb HB)); (case aF => exact (fun _ _ => trivial)); (case aO => exact (rr HO241)); (case aS => exact (below_size (rb HB))); (case aL => have := LMc2.out; omega); intro v243 w5 ho hb hg hat; rw [← Ny242.out] at ho; replace HB := am (hb); have HO244 := am (ho); clear HO241; clear ho hb hg hat))
go_ret
exact ⟨_, by first | rfl | (simp [errW_none, errW_some] <;> rfl) | (simp [*, errW_none, errW_some] <;> rfl), by (with_reducible repeat (first | apply r1 | apply r2 | apply r3)); exact HO244.out, by repeat (first | (with_reducible first | exact HB.out | apply b1 | apply b2 | apply b3) | exact HB.out)⟩
)
·(
rw [if_neg c2] at H
exact absurd H (by simp)
)
)
)

end Go.Proofs.Ytalopdcephohgaa.RA
