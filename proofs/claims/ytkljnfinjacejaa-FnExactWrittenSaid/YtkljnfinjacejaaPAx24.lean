/- Contracts of Go functions that laws of this seat reach: each Lean function answers as its Go function does. No condition. Written by wip/tools/inj.py, over the kit's print. -/
import Derived.Test.YtkljnfinjacejaaPAx0
import Derived.Test.YtkljnfinjacejaaPAx2
import Derived.Test.YtkljnfinjacejaaPAx6
import Derived.Test.YtkljnfinjacejaaPAx10
import Derived.Test.YtkljnfinjacejaaPAx18
import Derived.Test.YtkljnfinjacejaaPAx19
import Derived.Test.YtkljnfinjacejaaPAx21
import Derived.Test.YtkljnfinjacejaaPAx23
namespace Go.Proofs.Ytkljnfinjacejaa.PA
open Go.RowKit Go.Proofs.YtkljnfinjacejaaW.PrintWords Go.Proofs.YtkljnfinjacejaaW.PrintLast Go.Proofs.YtkljnfinjacejaaW.PrintMore
attribute [local go_sem] max2_int min2_int max_two min_two max_three min_three max_four min_four   -- for this text's walks alone
set_option linter.unusedVariables false
set_option linter.unusedSimpArgs false

/-! ### laws_FnExactWritten: function 7 -/
def laws_FnExactWritten.j0 : Nat → List (S82) → Int → Int → List (S79) → List (S79) → Bool → Int → Int → Bool → Bool → Bool → Option (Bool)
 | 0, _, _, _, _, _, _, _, _, _, _, _ => none
 | k + 1, x0, x1, x2, x10, x12, x56, x481000, x481001, x481002, x481003, x481004 => if x56 = true then (some false) else ((laws_markCellS.f k x12 1).bind fun bt512 => ((laws_heldCellS.f k bt512.2 1).bind fun t514 => (if t514 < 0 then (some false) else (if t514 = bt512.1 then ((laws_toCellS.f k x0).bind fun t515 => ((laws_toStyle.f x481000 x481001 x481002 x481003 x481004).bind fun bt518 => ((impl_Written.f k t515 x1 x2 bt518.1 bt518.2.1 bt518.2.2.1 bt518.2.2.2.1 bt518.2.2.2.2).bind fun t523 => ((laws_eqCellS.f k t523 x10).bind fun t526 => (if t526 = true then ((laws_heldCellS.f k bt512.2 1).bind fun t527 => (if t527 < 0 then (some false) else (if t527 = bt512.1 then (some true) else (some false)))) else (some false)))))) else (some false)))))
def laws_FnExactWritten.f (k : Nat) (l0 : List (S82)) (a1 : Int) (a2 : Int) (a3_0 : Int) (a3_1 : Int) (a3_2 : Bool) (a3_3 : Bool) (a3_4 : Bool) : Option (Bool) := (laws_szCellS.f l0 1048576).bind fun t481 => (if t481 < 0 then (some true) else ((laws_toCellS.f k l0).bind fun t482 => ((laws_toStyle.f a3_0 a3_1 a3_2 a3_3 a3_4).bind fun bt485 => ((spec_Written.f k t482 a1 a2 bt485.1 bt485.2.1 bt485.2.2.1 bt485.2.2.2.1 bt485.2.2.2.2).bind fun t490 => ((laws_toCellS.f k l0).bind fun t493 => ((laws_toStyle.f a3_0 a3_1 a3_2 a3_3 a3_4).bind fun bt496 => ((impl_Written.f k t493 a1 a2 bt496.1 bt496.2.1 bt496.2.2.1 bt496.2.2.2.1 bt496.2.2.2.2).bind fun t501 => ((laws_eqCellS.f k t501 t490).bind fun t504 => (if t504 = true then ((laws_toCellS.f k l0).bind fun t505 => ((laws_eqCellS.f k t493 t505).bind fun t508 => (if t508 = true then ((laws_markCellS.f k t493 1).bind fun bt509 => (if bt509.1 < 0 then (laws_FnExactWritten.j0 k l0 a1 a2 t490 t501 true a3_0 a3_1 a3_2 a3_3 a3_4) else ((laws_eqCellS.f k t501 t490).bind fun t511 => (laws_FnExactWritten.j0 k l0 a1 a2 t490 t501 (!t511) a3_0 a3_1 a3_2 a3_3 a3_4)))) else (some false)))) else (some false))))))))))
theorem laws_FnExactWritten.mono_l : ∀ k, (∀ y0 y1 y2 y3 y4 y5 y6 y7 y8 y9 y10, LeO (laws_FnExactWritten.j0 k y0 y1 y2 y3 y4 y5 y6 y7 y8 y9 y10) (laws_FnExactWritten.j0 (k + 1) y0 y1 y2 y3 y4 y5 y6 y7 y8 y9 y10))
 | 0 => fun _ _ _ _ _ _ _ _ _ _ _ r h => by simp [laws_FnExactWritten.j0] at h
 | k + 1 => by
  have ih0 := laws_FnExactWritten.mono_l k
  ·intro y0 y1 y2 y3 y4 y5 y6 y7 y8 y9 y10
   unfold laws_FnExactWritten.j0
   repeat' first
   | (with_reducible exact ih0 _ _ _ _ _ _ _ _ _ _ _)
   | (with_reducible exact impl_Written.mono _ _ _ _ _ _ _ _ _)
   | (with_reducible exact laws_eqCellS.mono _ _ _)
   | (with_reducible exact laws_heldCellS.mono _ _ _)
   | (with_reducible exact laws_markCellS.mono _ _ _)
   | (with_reducible exact laws_toCellS.mono _ _)
   | (with_reducible exact spec_Written.mono _ _ _ _ _ _ _ _ _)
   | (with_reducible exact LeO.refl _)
   | (with_reducible exact LeO.none _)
   | (with_reducible refine LeO.ite ?_ ?_)
   | (with_reducible refine LeO.bind ?_ (fun _ => ?_))
   | exact ih0 _ _ _ _ _ _ _ _ _ _ _
   | exact impl_Written.mono _ _ _ _ _ _ _ _ _
   | exact laws_eqCellS.mono _ _ _
   | exact laws_heldCellS.mono _ _ _
   | exact laws_markCellS.mono _ _ _
   | exact laws_toCellS.mono _ _
   | exact spec_Written.mono _ _ _ _ _ _ _ _ _
   | exact LeO.none _
   | refine LeO.ite ?_ ?_
   | refine LeO.bind ?_ (fun _ => ?_)
theorem laws_FnExactWritten.mono : ∀ a0 a1 a2 a3 a4 a5 a6 a7 k, LeO (laws_FnExactWritten.f k a0 a1 a2 a3 a4 a5 a6 a7) (laws_FnExactWritten.f (k + 1) a0 a1 a2 a3 a4 a5 a6 a7) := by
 intro a0 a1 a2 a3 a4 a5 a6 a7 k
 have ih0 := laws_FnExactWritten.mono_l k
 unfold laws_FnExactWritten.f
 repeat' first
   | (with_reducible exact ih0 _ _ _ _ _ _ _ _ _ _ _)
   | (with_reducible exact impl_Written.mono _ _ _ _ _ _ _ _ _)
   | (with_reducible exact laws_eqCellS.mono _ _ _)
   | (with_reducible exact laws_heldCellS.mono _ _ _)
   | (with_reducible exact laws_markCellS.mono _ _ _)
   | (with_reducible exact laws_toCellS.mono _ _)
   | (with_reducible exact spec_Written.mono _ _ _ _ _ _ _ _ _)
   | (with_reducible exact LeO.refl _)
   | (with_reducible exact LeO.none _)
   | (with_reducible refine LeO.ite ?_ ?_)
   | (with_reducible refine LeO.bind ?_ (fun _ => ?_))
   | exact ih0 _ _ _ _ _ _ _ _ _ _ _
   | exact impl_Written.mono _ _ _ _ _ _ _ _ _
   | exact laws_eqCellS.mono _ _ _
   | exact laws_heldCellS.mono _ _ _
   | exact laws_markCellS.mono _ _ _
   | exact laws_toCellS.mono _ _
   | exact spec_Written.mono _ _ _ _ _ _ _ _ _
   | exact LeO.none _
   | refine LeO.ite ?_ ?_
   | refine LeO.bind ?_ (fun _ => ?_)
def laws_FnExactWritten.T5 : Bool × List (List Nat × List Nat) := (true, [([], []), ([0], [0]), ([], []), ([], []), ([], []), ([4, 1], [4]), ([1, 2, 3, 5, 5], [1, 2, 3, 5]), ([6, 6, 0, 1, 2, 3, 4, 5, 6], [6])])
def laws_FnExactWritten.B5 : List Nat := [0, 1, 0, 0, 0, 19, 63, 127]
theorem laws_FnExactWritten.tab5 : rtab .any (opsOf Try.f7 5) = laws_FnExactWritten.T5 := by kernel_rfl
theorem laws_FnExactWritten.bits5 : waitsOk laws_FnExactWritten.T5.2 laws_FnExactWritten.B5 = true := by kernel_rfl
def laws_FnExactWritten.T24 : Bool × List (List Nat × List Nat) := (true, [([], []), ([0], [0]), ([], []), ([], []), ([], []), ([4, 1], [4]), ([1, 2, 3, 5, 5], [1, 2, 3, 5]), ([6, 6, 0, 1, 2, 3, 4, 5, 6], [6])])
def laws_FnExactWritten.B24 : List Nat := [0, 1, 0, 0, 0, 19, 63, 127]
theorem laws_FnExactWritten.tab24 : rtab .any (opsOf Try.f7 24) = laws_FnExactWritten.T24 := by kernel_rfl
theorem laws_FnExactWritten.bits24 : waitsOk laws_FnExactWritten.T24.2 laws_FnExactWritten.B24 = true := by kernel_rfl
set_option maxHeartbeats 8000000 in
set_option maxRecDepth 100000 in
theorem laws_FnExactWritten.calls (k : Nat) (A0 : Option Addr) (c0 : Nat) (l0 : List (S82)) (a1 : Int) (a2 : Int) (a3_0 : Int) (a3_1 : Int) (a3_2 : Bool) (a3_3 : Bool) (a3_4 : Bool) (r : Bool) (w : World) (hr0 : Kd.C k82 w A0 l0.length l0) (hc0 : l0.length ≤ c0) (h : laws_FnExactWritten.f k l0 a1 a2 a3_0 a3_1 a3_2 a3_3 a3_4 = some r) (hT_ : r = true) :
  Calls Try.prog 7 #[.slice A0 l0.length c0, .int .i64 a1, .int .i64 a2, .agg #[.int .i64 a3_0, .int .i64 a3_1, .bool a3_2, .bool a3_3, .bool a3_4]] w fun e w' => e = .returned (.bool r) ∧ Below w.heap.size w w' := by
 have hu50 := Try.underlying50
 have HR0 := am hr0
 have HC0 := am hc0
 clear hr0 hc0
 have HB := am (Below.refl w.heap.size w)
 have H : ((laws_szCellS.f l0 1048576).bind fun t481 => (if t481 < 0 then (some true) else ((laws_toCellS.f k l0).bind fun t482 => ((laws_toStyle.f a3_0 a3_1 a3_2 a3_3 a3_4).bind fun bt485 => ((spec_Written.f k t482 a1 a2 bt485.1 bt485.2.1 bt485.2.2.1 bt485.2.2.2.1 bt485.2.2.2.2).bind fun t490 => ((laws_toCellS.f k l0).bind fun t493 => ((laws_toStyle.f a3_0 a3_1 a3_2 a3_3 a3_4).bind fun bt496 => ((impl_Written.f k t493 a1 a2 bt496.1 bt496.2.1 bt496.2.2.1 bt496.2.2.2.1 bt496.2.2.2.2).bind fun t501 => ((laws_eqCellS.f k t501 t490).bind fun t504 => (if t504 = true then ((laws_toCellS.f k l0).bind fun t505 => ((laws_eqCellS.f k t493 t505).bind fun t508 => (if t508 = true then ((laws_markCellS.f k t493 1).bind fun bt509 => (if bt509.1 < 0 then (laws_FnExactWritten.j0 k l0 a1 a2 t490 t501 true a3_0 a3_1 a3_2 a3_3 a3_4) else ((laws_eqCellS.f k t501 t490).bind fun t511 => (laws_FnExactWritten.j0 k l0 a1 a2 t490 t501 (!t511) a3_0 a3_1 a3_2 a3_3 a3_4)))) else (some false)))) else (some false))))))))))) = some r := h
 clear h
 replace H := Option.bind_eq_some_iff.mp H
 obtain ⟨t481, A50, H⟩ := H
 replace H : (if t481 < 0 then (some true) else ((laws_toCellS.f k l0).bind fun t482 => ((laws_toStyle.f a3_0 a3_1 a3_2 a3_3 a3_4).bind fun bt485 => ((spec_Written.f k t482 a1 a2 bt485.1 bt485.2.1 bt485.2.2.1 bt485.2.2.2.1 bt485.2.2.2.2).bind fun t490 => ((laws_toCellS.f k l0).bind fun t493 => ((laws_toStyle.f a3_0 a3_1 a3_2 a3_3 a3_4).bind fun bt496 => ((impl_Written.f k t493 a1 a2 bt496.1 bt496.2.1 bt496.2.2.1 bt496.2.2.2.1 bt496.2.2.2.2).bind fun t501 => ((laws_eqCellS.f k t501 t490).bind fun t504 => (if t504 = true then ((laws_toCellS.f k l0).bind fun t505 => ((laws_eqCellS.f k t493 t505).bind fun t508 => (if t508 = true then ((laws_markCellS.f k t493 1).bind fun bt509 => (if bt509.1 < 0 then (laws_FnExactWritten.j0 k l0 a1 a2 t490 t501 true a3_0 a3_1 a3_2 a3_3 a3_4) else ((laws_eqCellS.f k t501 t490).bind fun t511 => (laws_FnExactWritten.j0 k l0 a1 a2 t490 t501 (!t511) a3_0 a3_1 a3_2 a3_3 a3_4)))) else (some false)))) else (some false)))))))))) = some r := H
 have A5 := am A50
 clear A50
 by_cases c6 : t481 < 0
 ·rw [if_pos c6] at H
  have c6b0 : decide (t481 < 0) = true := decide_eq_true c6
  clear c6
  first
  | with_reducible exact absurd (Option.some.inj (H.trans (congrArg some hT_))) Bool.false_ne_true
  | (
   obtain rfl := Option.some.inj H
   go_enter Try.func7, Try.ntmps7
   go_wp2_with (first | ((with_reducible refine gate_dst (N := 7) rfl ?_); refine box_event ?hg (N := 7) ?hd (cs := #[.int .i64 a3_0, .int .i64 a3_1, .bool a3_2, .bool a3_3, .bool a3_4]) (t := 50) ?hr ?_; (case hd => rfl); (case hg => rfl); (case hr => first | (go_simp; done) | (go_simp; rfl)); intro gb480 hg w7 hbox hb; have n0_ := am (below_step (rb HB) hb); have n1_ := am (hbox); have n2_ := am ((by rw [hg]; exact (below_size (rb HB)) : w.heap.size ≤ gb480)); have n3_ := am ((by rw [hg]; exact (below_size (rb HB)) : w.heap.size ≤ gb480)); clear HB; have HB := n0_; have BK480 := n1_; have GW480 := n2_; have GE480 := n3_; clear n0_ n1_ n2_ n3_; clear hb hbox hg) | ((with_reducible refine gate_callee (f := 25) rfl ?_); refine gl_ (some 19) Try.func25 #[.slice A0 l0.length c0, .int .i64 1048576] ?_; (with_reducible refine (laws_szCellS.calls _ _ l0 1048576 t481 _ ?side1 ?side2 A5.out).mono ?_); (case side1 => exact rc ((Kd.C_below HR0.out HB.out))); (case side2 => exact HC0.out); rintro e w' ⟨rfl, ⟨nd, rfl⟩⟩; refine ⟨_, rfl, ?_⟩))
   go_ret
   exact ⟨by first | rfl | (simp [errW_none, errW_some] <;> rfl) | (simp [*, errW_none, errW_some] <;> rfl), by repeat (first | (with_reducible first | exact HB.out | apply b1 | apply b2 | apply b3 | refine below_set ?_ GE480.out) | exact HB.out)⟩)
 ·rw [if_neg c6] at H
  have c6b0 : decide (t481 < 0) = false := decide_eq_false c6
  clear c6
  replace H := Option.bind_eq_some_iff.mp H
  obtain ⟨t482, A80, H⟩ := H
  replace H : ((laws_toStyle.f a3_0 a3_1 a3_2 a3_3 a3_4).bind fun bt485 => ((spec_Written.f k t482 a1 a2 bt485.1 bt485.2.1 bt485.2.2.1 bt485.2.2.2.1 bt485.2.2.2.2).bind fun t490 => ((laws_toCellS.f k l0).bind fun t493 => ((laws_toStyle.f a3_0 a3_1 a3_2 a3_3 a3_4).bind fun bt496 => ((impl_Written.f k t493 a1 a2 bt496.1 bt496.2.1 bt496.2.2.1 bt496.2.2.2.1 bt496.2.2.2.2).bind fun t501 => ((laws_eqCellS.f k t501 t490).bind fun t504 => (if t504 = true then ((laws_toCellS.f k l0).bind fun t505 => ((laws_eqCellS.f k t493 t505).bind fun t508 => (if t508 = true then ((laws_markCellS.f k t493 1).bind fun bt509 => (if bt509.1 < 0 then (laws_FnExactWritten.j0 k l0 a1 a2 t490 t501 true a3_0 a3_1 a3_2 a3_3 a3_4) else ((laws_eqCellS.f k t501 t490).bind fun t511 => (laws_FnExactWritten.j0 k l0 a1 a2 t490 t501 (!t511) a3_0 a3_1 a3_2 a3_3 a3_4)))) else (some false)))) else (some false)))))))) = some r := H
  have A8 := am A80
  clear A80
  replace H := Option.bind_eq_some_iff.mp H
  obtain ⟨⟨t485, t486, t487, t488, t489⟩, A90, H⟩ := H
  replace H : ((spec_Written.f k t482 a1 a2 t485 t486 t487 t488 t489).bind fun t490 => ((laws_toCellS.f k l0).bind fun t493 => ((laws_toStyle.f a3_0 a3_1 a3_2 a3_3 a3_4).bind fun bt496 => ((impl_Written.f k t493 a1 a2 bt496.1 bt496.2.1 bt496.2.2.1 bt496.2.2.2.1 bt496.2.2.2.2).bind fun t501 => ((laws_eqCellS.f k t501 t490).bind fun t504 => (if t504 = true then ((laws_toCellS.f k l0).bind fun t505 => ((laws_eqCellS.f k t493 t505).bind fun t508 => (if t508 = true then ((laws_markCellS.f k t493 1).bind fun bt509 => (if bt509.1 < 0 then (laws_FnExactWritten.j0 k l0 a1 a2 t490 t501 true a3_0 a3_1 a3_2 a3_3 a3_4) else ((laws_eqCellS.f k t501 t490).bind fun t511 => (laws_FnExactWritten.j0 k l0 a1 a2 t490 t501 (!t511) a3_0 a3_1 a3_2 a3_3 a3_4)))) else (some false)))) else (some false))))))) = some r := H
  have A9 := am A90
  clear A90
  replace H := Option.bind_eq_some_iff.mp H
  obtain ⟨t490, A100, H⟩ := H
  replace H : ((laws_toCellS.f k l0).bind fun t493 => ((laws_toStyle.f a3_0 a3_1 a3_2 a3_3 a3_4).bind fun bt496 => ((impl_Written.f k t493 a1 a2 bt496.1 bt496.2.1 bt496.2.2.1 bt496.2.2.2.1 bt496.2.2.2.2).bind fun t501 => ((laws_eqCellS.f k t501 t490).bind fun t504 => (if t504 = true then ((laws_toCellS.f k l0).bind fun t505 => ((laws_eqCellS.f k t493 t505).bind fun t508 => (if t508 = true then ((laws_markCellS.f k t493 1).bind fun bt509 => (if bt509.1 < 0 then (laws_FnExactWritten.j0 k l0 a1 a2 t490 t501 true a3_0 a3_1 a3_2 a3_3 a3_4) else ((laws_eqCellS.f k t501 t490).bind fun t511 => (laws_FnExactWritten.j0 k l0 a1 a2 t490 t501 (!t511) a3_0 a3_1 a3_2 a3_3 a3_4)))) else (some false)))) else (some false)))))) = some r := H
  have A10 := am A100
  clear A100
  replace H := Option.bind_eq_some_iff.mp H
  obtain ⟨t493, A110, H⟩ := H
  replace H : ((laws_toStyle.f a3_0 a3_1 a3_2 a3_3 a3_4).bind fun bt496 => ((impl_Written.f k t493 a1 a2 bt496.1 bt496.2.1 bt496.2.2.1 bt496.2.2.2.1 bt496.2.2.2.2).bind fun t501 => ((laws_eqCellS.f k t501 t490).bind fun t504 => (if t504 = true then ((laws_toCellS.f k l0).bind fun t505 => ((laws_eqCellS.f k t493 t505).bind fun t508 => (if t508 = true then ((laws_markCellS.f k t493 1).bind fun bt509 => (if bt509.1 < 0 then (laws_FnExactWritten.j0 k l0 a1 a2 t490 t501 true a3_0 a3_1 a3_2 a3_3 a3_4) else ((laws_eqCellS.f k t501 t490).bind fun t511 => (laws_FnExactWritten.j0 k l0 a1 a2 t490 t501 (!t511) a3_0 a3_1 a3_2 a3_3 a3_4)))) else (some false)))) else (some false))))) = some r := H
  have A11 := am A110
  clear A110
  replace H := Option.bind_eq_some_iff.mp H
  obtain ⟨⟨t496, t497, t498, t499, t500⟩, A120, H⟩ := H
  replace H : ((impl_Written.f k t493 a1 a2 t496 t497 t498 t499 t500).bind fun t501 => ((laws_eqCellS.f k t501 t490).bind fun t504 => (if t504 = true then ((laws_toCellS.f k l0).bind fun t505 => ((laws_eqCellS.f k t493 t505).bind fun t508 => (if t508 = true then ((laws_markCellS.f k t493 1).bind fun bt509 => (if bt509.1 < 0 then (laws_FnExactWritten.j0 k l0 a1 a2 t490 t501 true a3_0 a3_1 a3_2 a3_3 a3_4) else ((laws_eqCellS.f k t501 t490).bind fun t511 => (laws_FnExactWritten.j0 k l0 a1 a2 t490 t501 (!t511) a3_0 a3_1 a3_2 a3_3 a3_4)))) else (some false)))) else (some false)))) = some r := H
  have A12 := am A120
  clear A120
  replace H := Option.bind_eq_some_iff.mp H
  obtain ⟨t501, A130, H⟩ := H
  replace H : ((laws_eqCellS.f k t501 t490).bind fun t504 => (if t504 = true then ((laws_toCellS.f k l0).bind fun t505 => ((laws_eqCellS.f k t493 t505).bind fun t508 => (if t508 = true then ((laws_markCellS.f k t493 1).bind fun bt509 => (if bt509.1 < 0 then (laws_FnExactWritten.j0 k l0 a1 a2 t490 t501 true a3_0 a3_1 a3_2 a3_3 a3_4) else ((laws_eqCellS.f k t501 t490).bind fun t511 => (laws_FnExactWritten.j0 k l0 a1 a2 t490 t501 (!t511) a3_0 a3_1 a3_2 a3_3 a3_4)))) else (some false)))) else (some false))) = some r := H
  have A13 := am A130
  clear A130
  replace H := Option.bind_eq_some_iff.mp H
  obtain ⟨t504, A140, H⟩ := H
  replace H : (if t504 = true then ((laws_toCellS.f k l0).bind fun t505 => ((laws_eqCellS.f k t493 t505).bind fun t508 => (if t508 = true then ((laws_markCellS.f k t493 1).bind fun bt509 => (if bt509.1 < 0 then (laws_FnExactWritten.j0 k l0 a1 a2 t490 t501 true a3_0 a3_1 a3_2 a3_3 a3_4) else ((laws_eqCellS.f k t501 t490).bind fun t511 => (laws_FnExactWritten.j0 k l0 a1 a2 t490 t501 (!t511) a3_0 a3_1 a3_2 a3_3 a3_4)))) else (some false)))) else (some false)) = some r := H
  have A14 := am A140
  clear A140
  by_cases c15 : t504 = true
  ·subst c15
   have H1 : ((laws_toCellS.f k l0).bind fun t505 => ((laws_eqCellS.f k t493 t505).bind fun t508 => (if t508 = true then ((laws_markCellS.f k t493 1).bind fun bt509 => (if bt509.1 < 0 then (laws_FnExactWritten.j0 k l0 a1 a2 t490 t501 true a3_0 a3_1 a3_2 a3_3 a3_4) else ((laws_eqCellS.f k t501 t490).bind fun t511 => (laws_FnExactWritten.j0 k l0 a1 a2 t490 t501 (!t511) a3_0 a3_1 a3_2 a3_3 a3_4)))) else (some false)))) = some r := by rw [if_pos rfl] at H; exact H
   clear H
   have H := H1
   clear H1
   replace H := Option.bind_eq_some_iff.mp H
   obtain ⟨t505, A160, H⟩ := H
   replace H : ((laws_eqCellS.f k t493 t505).bind fun t508 => (if t508 = true then ((laws_markCellS.f k t493 1).bind fun bt509 => (if bt509.1 < 0 then (laws_FnExactWritten.j0 k l0 a1 a2 t490 t501 true a3_0 a3_1 a3_2 a3_3 a3_4) else ((laws_eqCellS.f k t501 t490).bind fun t511 => (laws_FnExactWritten.j0 k l0 a1 a2 t490 t501 (!t511) a3_0 a3_1 a3_2 a3_3 a3_4)))) else (some false))) = some r := H
   have A16 := am A160
   clear A160
   replace H := Option.bind_eq_some_iff.mp H
   obtain ⟨t508, A170, H⟩ := H
   replace H : (if t508 = true then ((laws_markCellS.f k t493 1).bind fun bt509 => (if bt509.1 < 0 then (laws_FnExactWritten.j0 k l0 a1 a2 t490 t501 true a3_0 a3_1 a3_2 a3_3 a3_4) else ((laws_eqCellS.f k t501 t490).bind fun t511 => (laws_FnExactWritten.j0 k l0 a1 a2 t490 t501 (!t511) a3_0 a3_1 a3_2 a3_3 a3_4)))) else (some false)) = some r := H
   have A17 := am A170
   clear A170
   by_cases c18 : t508 = true
   ·subst c18
    have H1 : ((laws_markCellS.f k t493 1).bind fun bt509 => (if bt509.1 < 0 then (laws_FnExactWritten.j0 k l0 a1 a2 t490 t501 true a3_0 a3_1 a3_2 a3_3 a3_4) else ((laws_eqCellS.f k t501 t490).bind fun t511 => (laws_FnExactWritten.j0 k l0 a1 a2 t490 t501 (!t511) a3_0 a3_1 a3_2 a3_3 a3_4)))) = some r := by rw [if_pos rfl] at H; exact H
    clear H
    have H := H1
    clear H1
    replace H := Option.bind_eq_some_iff.mp H
    obtain ⟨⟨t509, t510⟩, A190, H⟩ := H
    replace H : (if t509 < 0 then (laws_FnExactWritten.j0 k l0 a1 a2 t490 t501 true a3_0 a3_1 a3_2 a3_3 a3_4) else ((laws_eqCellS.f k t501 t490).bind fun t511 => (laws_FnExactWritten.j0 k l0 a1 a2 t490 t501 (!t511) a3_0 a3_1 a3_2 a3_3 a3_4))) = some r := H
    have A19 := am A190
    clear A190
    have HC20 := am H
    clear H
    go_enter Try.func7, Try.ntmps7
    try go_wp2_with (first | ((with_reducible refine gate_dst (N := 7) rfl ?_); refine box_event ?hg (N := 7) ?hd (cs := #[.int .i64 a3_0, .int .i64 a3_1, .bool a3_2, .bool a3_3, .bool a3_4]) (t := 50) ?hr ?_; (case hd => rfl); (case hg => rfl); (case hr => first | (go_simp; done) | (go_simp; rfl)); intro gb480 hg w21 hbox hb; have n0_ := am (below_step (rb HB) hb); have n1_ := am (hbox); have n2_ := am ((by rw [hg]; exact (below_size (rb HB)) : w.heap.size ≤ gb480)); have n3_ := am ((by rw [hg]; exact (below_size (rb HB)) : w.heap.size ≤ gb480)); clear HB; have HB := n0_; have BK480 := n1_; have GW480 := n2_; have GE480 := n3_; clear n0_ n1_ n2_ n3_; clear hb hbox hg) | ((with_reducible refine gate_callee (f := 25) rfl ?_); refine gl_ (some 19) Try.func25 #[.slice A0 l0.length c0, .int .i64 1048576] ?_; (with_reducible refine (laws_szCellS.calls _ _ l0 1048576 t481 _ ?side1 ?side2 A5.out).mono ?_); (case side1 => exact rc ((Kd.C_below HR0.out HB.out))); (case side2 => exact HC0.out); rintro e w' ⟨rfl, ⟨nd, rfl⟩⟩; refine ⟨_, rfl, ?_⟩))
    (try (rw [drewN_self w21]; generalize hq_ : World.drewN w21 _ = w21; have n0_ : Aside0 (w21.heap[gb480]? = some (.cells #[.int .i64 a3_0, .int .i64 a3_1, .bool a3_2, .bool a3_3, .bool a3_4] 50 (0, 0))) := ⟨by rw [← hq_]; exact (rk BK480)⟩; have n1_ : Aside0 (Below w.heap.size w w21) := ⟨by rw [← hq_]; exact (rb1 HB GE480)⟩; clear BK480 HB hq_; have BK480 := n0_; have HB := n1_; clear n0_ n1_))
    have n0_ := am (blk_drew BK480.out)
    have n1_ := am (below_drew1 HB.out)
    clear BK480
    clear HB
    have BK480 := n0_
    have HB := n1_
    clear n0_ n1_
    refine start_ (n := 8) (S := fun w' => w'.cell? ⟨gb480, 0, none⟩ = some (.int .i64 a3_0) ∧ w'.cell? ⟨gb480, 1, none⟩ = some (.int .i64 a3_1) ∧ w'.cell? ⟨gb480, 2, none⟩ = some (.bool a3_2) ∧ w'.cell? ⟨gb480, 3, none⟩ = some (.bool a3_3) ∧ w'.cell? ⟨gb480, 4, none⟩ = some (.bool a3_4)) (ds := []) (bm 8 0) (by kernel_rfl) rfl rfl ⟨(blk_cell BK480.out 0).trans rfl, (blk_cell BK480.out 1).trans rfl, (blk_cell BK480.out 2).trans rfl, (blk_cell BK480.out 3).trans rfl, (blk_cell BK480.out 4).trans rfl⟩ (fun hHeld => ?_); refine with_tabW laws_FnExactWritten.tab5 laws_FnExactWritten.bits5 (fun HT_ HW_ => ?_)
    generalize w21.drew = w22 at BK480 HB hHeld ⊢
    refine pu_ 0 22 (bm 8 1) HT_.out ?_
    refine pu_ 2 24 (bm 8 5) HT_.out ?_
    refine pu_ 3 25 (bm 8 13) HT_.out ?_
    refine take_ (i := 4) (N := some 26) (v := ?_) (a' := ?_) (bm 8 29) rfl rfl (take_ofW HT_.out HW_.out (by kernel_rfl)) (fun _ _ _ h => h) (Or.inl ⟨by rfl, ?_⟩) hHeld ?_ ?_
    rotate_left
    ·rintro w' ⟨s0, s1, s2, s3, s4⟩
     go_simp
     with_reducible rfl
    rotate_left
    ·simp only [Act.put, List.setIfInBounds_toArray, List.set_cons_zero, List.set_cons_succ, i64_w, i32_w]
     rfl
    refine one_ (i := 1) (N := some 23) (bm 8 31) rfl rfl (one_of HT_.out (by kernel_rfl)) (by decide) (fun K hK => ?_)
    refine goes_ Try.func27 (by kernel_rfl) rfl #[.slice A0 l0.length c0] (by rfl) rfl rfl (by (try simp only [List.map_toArray, List.map_cons, List.map_nil]); first | done | rfl | (simp only [List.length_drop, List.length_take]; rfl)) ?_
    with_reducible refine (laws_toCellS.calls k _ _ l0 t482 _ ?side1 ?side2 A8.out).mono ?_
    (case side1 => exact rc ((Kd.C_below HR0.out HB.out)))
    (case side2 => exact HC0.out)
    rintro e w23 ⟨v483, rfl, ho0, hb⟩
    refine ⟨_, rfl, ?_⟩
    have n0_ := am (Kd.R_lower ho0 (below_size (rb1 HB GE480)))
    have n1_ := am (blk_below (g := gb480) (o := .cells #[.int .i64 a3_0, .int .i64 a3_1, .bool a3_2, .bool a3_3, .bool a3_4] 50 (0, 0)) (rk BK480) hb)
    have n2_ := am (below_step (rb1 HB GE480) hb)
    clear BK480
    clear HB
    have HO484 := n0_
    have BK480 := n1_
    have HB := n2_
    clear n0_ n1_ n2_
    (try clear hb)
    (try clear hb2)
    (try clear hk)
    (try clear hi)
    (try clear ho0)
    refine hK.out _ _ ⟨(blk_cell BK480.out 0).trans rfl, (blk_cell BK480.out 1).trans rfl, (blk_cell BK480.out 2).trans rfl, (blk_cell BK480.out 3).trans rfl, (blk_cell BK480.out 4).trans rfl⟩ (fun hHeld => ?_)
    clear hK K
    refine norm_ (a' := ?_) ?_ ?_
    rotate_left
    ·show Act.put _ (some 23) _ = _
     simp only [Act.put, List.setIfInBounds_toArray, List.set_cons_zero, List.set_cons_succ, i64_w, i32_w]
     rfl
    refine one_ (i := 5) (N := some 27) (bm 8 63) rfl rfl (one_of HT_.out (by kernel_rfl)) (by decide) (fun K hK => ?_)
    refine goes_ Try.func28 (by kernel_rfl) rfl #[.agg #[.int .i64 a3_0, .int .i64 a3_1, .bool a3_2, .bool a3_3, .bool a3_4]] (by rfl) rfl rfl (by (try simp only [List.map_toArray, List.map_cons, List.map_nil]); first | done | rfl | (simp only [List.length_drop, List.length_take]; rfl)) ?_
    with_reducible refine (laws_toStyle.calls a3_0 a3_1 a3_2 a3_3 a3_4 t485 t486 t487 t488 t489 _ A9.out).mono ?_
    rintro e w24 ⟨rfl, hb⟩
    refine ⟨_, rfl, ?_⟩
    have n0_ := am (Kd.R_below (rr HO484) hb)
    have n1_ := am (blk_below (g := gb480) (o := .cells #[.int .i64 a3_0, .int .i64 a3_1, .bool a3_2, .bool a3_3, .bool a3_4] 50 (0, 0)) (rk BK480) hb)
    have n2_ := am (below_step (rb1 HB GE480) hb)
    clear HO484
    clear BK480
    clear HB
    have HO484 := n0_
    have BK480 := n1_
    have HB := n2_
    clear n0_ n1_ n2_
    (try clear hb)
    (try clear hb2)
    (try clear hk)
    (try clear hi)
    obtain ⟨Ao25, co25, eo25⟩ := Kd.R_slice HO484.out
    (first | subst eo25 | (injection eo25 with f1_ f2_ f3_; have f4_ := f1_.symm; have f5_ := f3_.symm; clear f1_ f2_ f3_; subst f4_; subst f5_))
    refine hK.out _ _ ⟨(blk_cell BK480.out 0).trans rfl, (blk_cell BK480.out 1).trans rfl, (blk_cell BK480.out 2).trans rfl, (blk_cell BK480.out 3).trans rfl, (blk_cell BK480.out 4).trans rfl⟩ (fun hHeld => ?_)
    clear hK K
    refine norm_ (a' := ?_) ?_ ?_
    rotate_left
    ·show Act.put _ (some 27) _ = _
     simp only [Act.put, List.setIfInBounds_toArray, List.set_cons_zero, List.set_cons_succ, i64_w, i32_w]
     rfl
    refine one_ (i := 6) (N := some 28) (bm 8 127) rfl rfl (one_of HT_.out (by kernel_rfl)) (by decide) (fun K hK => ?_)
    refine goes_ Try.func33 (by kernel_rfl) rfl #[.slice Ao25 t482.length co25, .int .i64 a1, .int .i64 a2, .agg #[.int .i64 t485, .int .i64 t486, .bool t487, .bool t488, .bool t489]] (by rfl) rfl rfl (by (try simp only [List.map_toArray, List.map_cons, List.map_nil]); first | done | rfl | (simp only [List.length_drop, List.length_take]; rfl)) ?_
    with_reducible refine (spec_Written.calls k _ _ t482 a1 a2 t485 t486 t487 t488 t489 t490 _ ?side1 ?side2 A10.out).mono ?_
    (case side1 => repeat (first | exact (Kd.R_reads' HO484.out).2.2 | (with_reducible refine Kd.C_alloc ?_ _) | (with_reducible refine Kd.C_drewN ?_ _) | (with_reducible refine Kd.C_drew ?_)))
    (case side2 => exact (Kd.R_reads' HO484.out).2.1)
    rintro e w26 ⟨v491, rfl, ho0, hb⟩
    refine ⟨_, rfl, ?_⟩
    have n0_ := am (Kd.R_elder' (rr HO484) (Kd.R_base ho0) hb)
    have n1_ := am (Kd.R_lower (Kd.R_new' ho0 (Kd.R_lt (rr HO484))) (below_size (rb1 HB GE480)))
    have n2_ := am (blk_below (g := gb480) (o := .cells #[.int .i64 a3_0, .int .i64 a3_1, .bool a3_2, .bool a3_3, .bool a3_4] 50 (0, 0)) (rk BK480) hb)
    have n3_ := am (below_step (rb1 HB GE480) hb)
    clear HO484
    clear BK480
    clear HB
    have HO484 := n0_
    have HO492 := n1_
    have BK480 := n2_
    have HB := n3_
    clear n0_ n1_ n2_ n3_
    (try clear hb)
    (try clear hb2)
    (try clear hk)
    (try clear hi)
    (try clear ho0)
    refine hK.out _ _ ⟨(blk_cell BK480.out 0).trans rfl, (blk_cell BK480.out 1).trans rfl, (blk_cell BK480.out 2).trans rfl, (blk_cell BK480.out 3).trans rfl, (blk_cell BK480.out 4).trans rfl⟩ (fun hHeld => ?_)
    clear hK K
    refine norm_ (a' := ?_) ?_ ?_
    rotate_left
    ·show Act.put _ (some 28) _ = _
     simp only [Act.put, List.setIfInBounds_toArray, List.set_cons_zero, List.set_cons_succ, i64_w, i32_w]
     rfl
    refine pu_ 7 10 (bm 8 255) HT_.out ?_
    refine done_ (done_of HT_.out (by kernel_rfl)) ?_
    go_upto_region 14 with (first | ((with_reducible refine gate_callee (f := 27) rfl ?_); refine gl_ (some 30) Try.func27 #[.slice A0 l0.length c0] ?_; (with_reducible refine (laws_toCellS.calls k _ _ l0 t493 _ ?side1 ?side2 A11.out).mono ?_); (case side1 => exact rc ((Kd.C_below HR0.out HB.out))); (case side2 => exact HC0.out); rintro e w27 ⟨v494, rfl, ho0, hb⟩; refine ⟨_, rfl, ?_⟩; have n0_ := am (Kd.R_elder' (rr HO484) (Kd.R_base ho0) hb); have n1_ := am (Kd.R_elder' (rr HO492) (Kd.R_base ho0) hb); have n2_ := am (Kd.R_lower (Kd.R_new' (Kd.R_new' ho0 (Kd.R_lt (rr HO484))) (Kd.R_lt (rr HO492))) (below_size (rb1 HB GE480))); have n3_ := am (blk_below (g := gb480) (o := .cells #[.int .i64 a3_0, .int .i64 a3_1, .bool a3_2, .bool a3_3, .bool a3_4] 50 (0, 0)) (rk BK480) hb); have n4_ := am (below_step (rb1 HB GE480) hb); clear HO484; clear HO492; clear BK480; clear HB; have HO484 := n0_; have HO492 := n1_; have HO495 := n2_; have BK480 := n3_; have HB := n4_; clear n0_ n1_ n2_ n3_ n4_; (try clear hb); (try clear hb2); (try clear hk); (try clear hi); (try clear ho0); have hcz28_0 : w27.cell? ⟨gb480, 0, none⟩ = some (.int .i64 a3_0) := (blk_cell BK480.out 0).trans rfl; have hcz28_1 : w27.cell? ⟨gb480, 1, none⟩ = some (.int .i64 a3_1) := (blk_cell BK480.out 1).trans rfl; have hcz28_2 : w27.cell? ⟨gb480, 2, none⟩ = some (.bool a3_2) := (blk_cell BK480.out 2).trans rfl; have hcz28_3 : w27.cell? ⟨gb480, 3, none⟩ = some (.bool a3_3) := (blk_cell BK480.out 3).trans rfl; have hcz28_4 : w27.cell? ⟨gb480, 4, none⟩ = some (.bool a3_4) := (blk_cell BK480.out 4).trans rfl; have hfz28_0 := blk_frozen BK480.out 0; have hfz28_1 := blk_frozen BK480.out 1; have hfz28_2 := blk_frozen BK480.out 2; have hfz28_3 := blk_frozen BK480.out 3; have hfz28_4 := blk_frozen BK480.out 4) | ((with_reducible refine gate_callee (f := 28) rfl ?_); refine gl_ (some 35) Try.func28 #[.agg #[.int .i64 a3_0, .int .i64 a3_1, .bool a3_2, .bool a3_3, .bool a3_4]] ?_; (with_reducible refine (laws_toStyle.calls a3_0 a3_1 a3_2 a3_3 a3_4 t496 t497 t498 t499 t500 _ A12.out).mono ?_); rintro e w29 ⟨rfl, hb⟩; refine ⟨_, rfl, ?_⟩; have n0_ := am (Kd.R_below (rr HO484) hb); have n1_ := am (Kd.R_below (rr HO492) hb); have n2_ := am (Kd.R_below (rr HO495) hb); have n3_ := am (blk_below (g := gb480) (o := .cells #[.int .i64 a3_0, .int .i64 a3_1, .bool a3_2, .bool a3_3, .bool a3_4] 50 (0, 0)) (rk BK480) hb); have n4_ := am (below_step (rb1 HB GE480) hb); clear HO484; clear HO492; clear HO495; clear BK480; clear HB; have HO484 := n0_; have HO492 := n1_; have HO495 := n2_; have BK480 := n3_; have HB := n4_; clear n0_ n1_ n2_ n3_ n4_; (try clear hb); (try clear hb2); (try clear hk); (try clear hi); obtain ⟨Ao30, co30, eo30⟩ := Kd.R_slice HO495.out; subst eo30) | ((with_reducible refine gate_callee (f := 34) rfl ?_); refine gl_ (some 36) Try.func34 #[.slice Ao30 t493.length co30, .int .i64 a1, .int .i64 a2, .agg #[.int .i64 t496, .int .i64 t497, .bool t498, .bool t499, .bool t500]] ?_; (with_reducible refine (impl_Written.calls k _ _ t493 a1 a2 t496 t497 t498 t499 t500 t501 _ ?side1 ?side2 A13.out).mono ?_); (case side1 => repeat (first | exact (Kd.R_reads' HO495.out).2.2 | (with_reducible refine Kd.C_alloc ?_ _) | (with_reducible refine Kd.C_drewN ?_ _) | (with_reducible refine Kd.C_drew ?_))); (case side2 => exact (Kd.R_reads' HO495.out).2.1); rintro e w31 ⟨v502, rfl, ho0, hb⟩; refine ⟨_, rfl, ?_⟩; have n0_ := am (Kd.R_elder' (rr HO484) (Kd.R_base ho0) hb); have n1_ := am (Kd.R_elder' (rr HO492) (Kd.R_base ho0) hb); have n2_ := am (Kd.R_elder' (rr HO495) (Kd.R_base ho0) hb); have n3_ := am (Kd.R_lower (Kd.R_new' (Kd.R_new' (Kd.R_new' ho0 (Kd.R_lt (rr HO484))) (Kd.R_lt (rr HO492))) (Kd.R_lt (rr HO495))) (below_size (rb1 HB GE480))); have n4_ := am (blk_below (g := gb480) (o := .cells #[.int .i64 a3_0, .int .i64 a3_1, .bool a3_2, .bool a3_3, .bool a3_4] 50 (0, 0)) (rk BK480) hb); have n5_ := am (below_step (rb1 HB GE480) hb); clear HO484; clear HO492; clear HO495; clear BK480; clear HB; have HO484 := n0_; have HO492 := n1_; have HO495 := n2_; have HO503 := n3_; have BK480 := n4_; have HB := n5_; clear n0_ n1_ n2_ n3_ n4_ n5_; (try clear hb); (try clear hb2); (try clear hk); (try clear hi); (try clear ho0); obtain ⟨Ao32, co32, eo32⟩ := Kd.R_slice HO503.out; subst eo32; obtain ⟨Ao33, co33, eo33⟩ := Kd.R_slice HO492.out; subst eo33) | ((with_reducible refine gate_callee (f := 30) rfl ?_); refine gl_ (some 39) Try.func30 #[.slice Ao32 t501.length co32, .slice Ao33 t490.length co33] ?_; (with_reducible refine (laws_eqCellS.calls k _ _ t501 _ _ t490 true _ ?side1 ?side2 ?side3 ?side4 A14.out).mono ?_); (case side1 => repeat (first | exact (Kd.R_reads' HO503.out).2.2 | (with_reducible refine Kd.C_alloc ?_ _) | (with_reducible refine Kd.C_drewN ?_ _) | (with_reducible refine Kd.C_drew ?_))); (case side2 => exact (Kd.R_reads' HO503.out).2.1); (case side3 => repeat (first | exact (Kd.R_reads' HO492.out).2.2 | (with_reducible refine Kd.C_alloc ?_ _) | (with_reducible refine Kd.C_drewN ?_ _) | (with_reducible refine Kd.C_drew ?_))); (case side4 => exact (Kd.R_reads' HO492.out).2.1); rintro e w34 ⟨rfl, hb⟩; refine ⟨_, rfl, ?_⟩; have n0_ := am (Kd.R_below (rr HO484) hb); have n1_ := am (Kd.R_below (rr HO492) hb); have n2_ := am (Kd.R_below (rr HO495) hb); have n3_ := am (Kd.R_below (rr HO503) hb); have n4_ := am (blk_below (g := gb480) (o := .cells #[.int .i64 a3_0, .int .i64 a3_1, .bool a3_2, .bool a3_3, .bool a3_4] 50 (0, 0)) (rk BK480) hb); have n5_ := am (below_step (rb1 HB GE480) hb); clear HO484; clear HO492; clear HO495; clear HO503; clear BK480; clear HB; have HO484 := n0_; have HO492 := n1_; have HO495 := n2_; have HO503 := n3_; have BK480 := n4_; have HB := n5_; clear n0_ n1_ n2_ n3_ n4_ n5_; (try clear hb); (try clear hb2); (try clear hk); (try clear hi)) | ((with_reducible refine gate_callee (f := 27) rfl ?_); refine gl_ (some 43) Try.func27 #[.slice A0 l0.length c0] ?_; (with_reducible refine (laws_toCellS.calls k _ _ l0 t505 _ ?side1 ?side2 A16.out).mono ?_); (case side1 => exact rc ((Kd.C_below HR0.out HB.out))); (case side2 => exact HC0.out); rintro e w35 ⟨v506, rfl, ho0, hb⟩; refine ⟨_, rfl, ?_⟩; have n0_ := am (Kd.R_elder' (rr HO484) (Kd.R_base ho0) hb); have n1_ := am (Kd.R_elder' (rr HO492) (Kd.R_base ho0) hb); have n2_ := am (Kd.R_elder' (rr HO495) (Kd.R_base ho0) hb); have n3_ := am (Kd.R_elder' (rr HO503) (Kd.R_base ho0) hb); have n4_ := am (Kd.R_lower (Kd.R_new' (Kd.R_new' (Kd.R_new' (Kd.R_new' ho0 (Kd.R_lt (rr HO484))) (Kd.R_lt (rr HO492))) (Kd.R_lt (rr HO495))) (Kd.R_lt (rr HO503))) (below_size (rb1 HB GE480))); have n5_ := am (blk_below (g := gb480) (o := .cells #[.int .i64 a3_0, .int .i64 a3_1, .bool a3_2, .bool a3_3, .bool a3_4] 50 (0, 0)) (rk BK480) hb); have n6_ := am (below_step (rb1 HB GE480) hb); clear HO484; clear HO492; clear HO495; clear HO503; clear BK480; clear HB; have HO484 := n0_; have HO492 := n1_; have HO495 := n2_; have HO503 := n3_; have HO507 := n4_; have BK480 := n5_; have HB := n6_; clear n0_ n1_ n2_ n3_ n4_ n5_ n6_; (try clear hb); (try clear hb2); (try clear hk); (try clear hi); (try clear ho0); obtain ⟨Ao36, co36, eo36⟩ := Kd.R_slice HO507.out; subst eo36) | ((with_reducible refine gate_callee (f := 30) rfl ?_); refine gl_ (some 44) Try.func30 #[.slice Ao30 t493.length co30, .slice Ao36 t505.length co36] ?_; (with_reducible refine (laws_eqCellS.calls k _ _ t493 _ _ t505 true _ ?side1 ?side2 ?side3 ?side4 A17.out).mono ?_); (case side1 => repeat (first | exact (Kd.R_reads' HO495.out).2.2 | (with_reducible refine Kd.C_alloc ?_ _) | (with_reducible refine Kd.C_drewN ?_ _) | (with_reducible refine Kd.C_drew ?_))); (case side2 => exact (Kd.R_reads' HO495.out).2.1); (case side3 => repeat (first | exact (Kd.R_reads' HO507.out).2.2 | (with_reducible refine Kd.C_alloc ?_ _) | (with_reducible refine Kd.C_drewN ?_ _) | (with_reducible refine Kd.C_drew ?_))); (case side4 => exact (Kd.R_reads' HO507.out).2.1); rintro e w37 ⟨rfl, hb⟩; refine ⟨_, rfl, ?_⟩; have n0_ := am (Kd.R_below (rr HO484) hb); have n1_ := am (Kd.R_below (rr HO492) hb); have n2_ := am (Kd.R_below (rr HO495) hb); have n3_ := am (Kd.R_below (rr HO503) hb); have n4_ := am (Kd.R_below (rr HO507) hb); have n5_ := am (blk_below (g := gb480) (o := .cells #[.int .i64 a3_0, .int .i64 a3_1, .bool a3_2, .bool a3_3, .bool a3_4] 50 (0, 0)) (rk BK480) hb); have n6_ := am (below_step (rb1 HB GE480) hb); clear HO484; clear HO492; clear HO495; clear HO503; clear HO507; clear BK480; clear HB; have HO484 := n0_; have HO492 := n1_; have HO495 := n2_; have HO503 := n3_; have HO507 := n4_; have BK480 := n5_; have HB := n6_; clear n0_ n1_ n2_ n3_ n4_ n5_ n6_; (try clear hb); (try clear hb2); (try clear hk); (try clear hi)) | ((with_reducible refine gate_callee (f := 31) rfl ?_); refine gl_ (some 48) Try.func31 #[.slice Ao30 t493.length co30, .int .i64 1] ?_; (with_reducible refine (laws_markCellS.calls k (fun k_ => some k_ = (.slice Ao30 t493.length co30 : Value).ownBlock) (.slice Ao30 t493.length co30) t493 1 t509 t510 w _ ?side1 ?side2 A19.out).mono ?_); (case side1 => repeat (first | (with_reducible first | exact HB.out | apply b1 | apply b2 | apply b3 | refine below_set ?_ GE480.out) | exact HB.out)); (case side2 => exact Kd.R_tight rfl HO495.out); rintro e w38 ⟨rfl, hy0, hb, hkp⟩; refine ⟨_, rfl, ?_⟩; have n0_ := am (blk_kept (rk BK480) hkp (fun hs_ => (fun e_ => (Kd.R_ne HO495.out BK480.out (by decide)) e_) hs_)); have n1_ := am (Kd.R_mono (ok' := fun k_ => some k_ ≠ (.slice Ao33 t490.length co33 : Value).ownBlock ∧ some k_ ≠ (.slice Ao30 t493.length co30 : Value).ownBlock ∧ some k_ ≠ (.slice Ao32 t501.length co32 : Value).ownBlock ∧ some k_ ≠ (.slice Ao36 t505.length co36 : Value).ownBlock) (Kd.R_keptB (HO484.out) hkp (fun k_ hk_ hs_ => (hk_.1.1.2) hs_)) (fun k_ hk_ => ⟨hk_.1.1.1.1.2, hk_.1.1.1.2, hk_.1.1.2, hk_.1.2⟩)); have n2_ := am (Kd.R_mono (ok' := fun k_ => some k_ ≠ (.slice Ao25 t482.length co25 : Value).ownBlock ∧ some k_ ≠ (.slice Ao30 t493.length co30 : Value).ownBlock ∧ some k_ ≠ (.slice Ao32 t501.length co32 : Value).ownBlock ∧ some k_ ≠ (.slice Ao36 t505.length co36 : Value).ownBlock) (Kd.R_keptB (HO492.out) hkp (fun k_ hk_ hs_ => (hk_.1.1.2) hs_)) (fun k_ hk_ => ⟨hk_.1.1.1.1.2, hk_.1.1.1.2, hk_.1.1.2, hk_.1.2⟩)); have n3_ := am (Kd.R_reok rfl hy0 (fun k_ e_ => HO495.out.1 k_ e_)); have n4_ := am (Kd.R_mono (ok' := fun k_ => some k_ ≠ (.slice Ao25 t482.length co25 : Value).ownBlock ∧ some k_ ≠ (.slice Ao33 t490.length co33 : Value).ownBlock ∧ some k_ ≠ (.slice Ao30 t493.length co30 : Value).ownBlock ∧ some k_ ≠ (.slice Ao36 t505.length co36 : Value).ownBlock) (Kd.R_keptB (HO503.out) hkp (fun k_ hk_ hs_ => (hk_.1.2) hs_)) (fun k_ hk_ => ⟨hk_.1.1.1.1.2, hk_.1.1.1.2, hk_.1.1.2, hk_.1.2⟩)); have n5_ := am (Kd.R_mono (ok' := fun k_ => some k_ ≠ (.slice Ao25 t482.length co25 : Value).ownBlock ∧ some k_ ≠ (.slice Ao33 t490.length co33 : Value).ownBlock ∧ some k_ ≠ (.slice Ao30 t493.length co30 : Value).ownBlock ∧ some k_ ≠ (.slice Ao32 t501.length co32 : Value).ownBlock) (Kd.R_keptB (HO507.out) hkp (fun k_ hk_ hs_ => (hk_.1.2) hs_)) (fun k_ hk_ => ⟨hk_.1.1.1.1.2, hk_.1.1.1.2, hk_.1.1.2, hk_.1.2⟩)); have n6_ := am (hb); clear BK480; clear HO484; clear HO492; clear HO495; clear HO503; clear HO507; clear HB; have BK480 := n0_; have HO484 := n1_; have HO492 := n2_; have HO495 := n3_; have HO503 := n4_; have HO507 := n5_; have HB := n6_; clear n0_ n1_ n2_ n3_ n4_ n5_ n6_; (try clear hb); (try clear hkp); (try clear hy0)))
    (try simp only [Act.put, List.setIfInBounds_toArray, List.set_cons_zero, List.set_cons_succ])
    go_cut [56] (fun v56 wc => ∃ (kq : Nat) (x56_19 : Bool), v56 = .bool x56_19 ∧ Aside0 (laws_FnExactWritten.j0 kq l0 a1 a2 t490 t501 x56_19 a3_0 a3_1 a3_2 a3_3 a3_4 = some r) ∧ Aside0 (kq ≤ k) ∧ Aside0 (Kd.R k79 79 wc w.heap.size (fun k_ => some k_ ≠ ((.slice Ao32 t501.length co32) : Value).ownBlock) (.slice Ao33 t490.length co33) t490) ∧ Aside0 (Kd.R k79 79 wc w.heap.size (fun k_ => some k_ ≠ ((.slice Ao33 t490.length co33) : Value).ownBlock) (.slice Ao32 t501.length co32) t501) ∧ Aside0 (wc.heap[gb480]? = some (.cells #[.int .i64 a3_0, .int .i64 a3_1, .bool a3_2, .bool a3_3, .bool a3_4] 50 (0, 0))) ∧ Aside0 (Below w.heap.size w wc))
    case first =>
     have H := HC20.out
     clear HC20
     by_cases c39 : t509 < 0
     ·rw [if_pos c39] at H
      have c39b0 : decide (t509 < 0) = true := decide_eq_true c39
      clear c39
      (first | rw [c39b0] | (simp only [i64_w, i32_w]; rw [c39b0]) | skip)
      have H' := am H
      clear H
      go_wp2
      go_meet
      case rel => exact ⟨_, (true), (by first | rfl | (simp; done) | (simp [*]; done)), H', ⟨by first | omega | exact Nat.le_refl _⟩, ⟨by (with_reducible repeat (first | apply r1 | apply r2 | apply r3)); exact Kd.R_mono HO492.out (fun _ hk => hk.2.2.1)⟩, ⟨by (with_reducible repeat (first | apply r1 | apply r2 | apply r3)); exact Kd.R_mono HO503.out (fun _ hk => hk.2.1)⟩, ⟨rk BK480⟩, ⟨by repeat (first | (with_reducible first | exact HB.out | apply b1 | apply b2 | apply b3 | refine below_set ?_ GE480.out) | exact HB.out)⟩⟩
     ·rw [if_neg c39] at H
      have c39b0 : decide (t509 < 0) = false := decide_eq_false c39
      clear c39
      (first | rw [c39b0] | (simp only [i64_w, i32_w]; rw [c39b0]) | skip)
      replace H := Option.bind_eq_some_iff.mp H
      obtain ⟨t511, A400, H⟩ := H
      replace H : (laws_FnExactWritten.j0 k l0 a1 a2 t490 t501 (!t511) a3_0 a3_1 a3_2 a3_3 a3_4) = some r := H
      have A40 := am A400
      clear A400
      have H' := am H
      clear H
      go_wp2_with (first | (go_at_call 30; (with_reducible refine (laws_eqCellS.calls k _ _ t501 _ _ t490 t511 _ ?side1 ?side2 ?side3 ?side4 A40.out).mono ?_); (case side1 => repeat (first | exact (Kd.R_reads' HO503.out).2.2 | (with_reducible refine Kd.C_alloc ?_ _) | (with_reducible refine Kd.C_drewN ?_ _) | (with_reducible refine Kd.C_drew ?_))); (case side2 => exact (Kd.R_reads' HO503.out).2.1); (case side3 => repeat (first | exact (Kd.R_reads' HO492.out).2.2 | (with_reducible refine Kd.C_alloc ?_ _) | (with_reducible refine Kd.C_drewN ?_ _) | (with_reducible refine Kd.C_drew ?_))); (case side4 => exact (Kd.R_reads' HO492.out).2.1); rintro e w41 ⟨rfl, hb⟩; have n0_ := am (Kd.R_below (rr HO484) hb); have n1_ := am (Kd.R_below (rr HO492) hb); have n2_ := am (Kd.R_below (rr HO495) hb); have n3_ := am (Kd.R_below (rr HO503) hb); have n4_ := am (Kd.R_below (rr HO507) hb); have n5_ := am (blk_below (g := gb480) (o := .cells #[.int .i64 a3_0, .int .i64 a3_1, .bool a3_2, .bool a3_3, .bool a3_4] 50 (0, 0)) (rk BK480) hb); have n6_ := am (below_step (rb1 HB GE480) hb); clear HO484; clear HO492; clear HO495; clear HO503; clear HO507; clear BK480; clear HB; have HO484 := n0_; have HO492 := n1_; have HO495 := n2_; have HO503 := n3_; have HO507 := n4_; have BK480 := n5_; have HB := n6_; clear n0_ n1_ n2_ n3_ n4_ n5_ n6_; (try clear hb); (try clear hb2); (try clear hk); (try clear hi)))
      go_meet
      case rel => exact ⟨_, (!t511), (by first | rfl | (simp; done) | (simp [*]; done)), H', ⟨by first | omega | exact Nat.le_refl _⟩, ⟨by (with_reducible repeat (first | apply r1 | apply r2 | apply r3)); exact Kd.R_mono HO492.out (fun _ hk => hk.2.2.1)⟩, ⟨by (with_reducible repeat (first | apply r1 | apply r2 | apply r3)); exact Kd.R_mono HO503.out (fun _ hk => hk.2.1)⟩, ⟨rk BK480⟩, ⟨by repeat (first | (with_reducible first | exact HB.out | apply b1 | apply b2 | apply b3 | refine below_set ?_ GE480.out) | exact HB.out)⟩⟩
    case rest =>
     clear HC20
     try clear c1
     try clear c2
     try clear p2
     try clear c3
     try clear c6
     try clear c6b0
     try clear c7
     try clear c15
     try clear c18
     try clear c25
     try clear c27
     try clear c28
     try clear c30
     try clear c31
     try clear c33
     try clear c34
     try clear c39
     try clear c39b0
     try clear hcz28_0
     try clear hcz28_1
     try clear hcz28_2
     try clear hcz28_3
     try clear hcz28_4
     try clear hfz28_0
     try clear hfz28_1
     try clear hfz28_2
     try clear hfz28_3
     try clear hfz28_4
     obtain ⟨kq, x56_19, rfl, HA, HJ19, HO_10, HO_12, BK480, HB⟩ := hcut
     cases kq with
     | zero => exact absurd HA.out (by simp [laws_FnExactWritten.j0])
     | succ kj19 =>
      have H := HA.out
      clear HA
      simp only [laws_FnExactWritten.j0] at H
      by_cases c42 : x56_19 = true
      ·subst c42
       have H1 : (some false) = some r := by rw [if_pos rfl] at H; exact H
       clear H
       have H := H1
       clear H1
       first
       | with_reducible exact absurd (Option.some.inj (H.trans (congrArg some hT_))) Bool.false_ne_true
       | (
        obtain rfl := Option.some.inj H
        go_wp2
        go_ret
        exact ⟨by first | rfl | (simp [errW_none, errW_some] <;> rfl) | (simp [*, errW_none, errW_some] <;> rfl), by repeat (first | (with_reducible first | exact HB.out | apply b1 | apply b2 | apply b3 | refine below_set ?_ GE480.out) | exact HB.out)⟩)
      ·replace c42 := Bool.eq_false_iff.mpr c42
       subst c42
       have H1 : ((laws_markCellS.f kj19 t501 1).bind fun bt512 => ((laws_heldCellS.f kj19 bt512.2 1).bind fun t514 => (if t514 < 0 then (some false) else (if t514 = bt512.1 then ((laws_toCellS.f kj19 l0).bind fun t515 => ((laws_toStyle.f a3_0 a3_1 a3_2 a3_3 a3_4).bind fun bt518 => ((impl_Written.f kj19 t515 a1 a2 bt518.1 bt518.2.1 bt518.2.2.1 bt518.2.2.2.1 bt518.2.2.2.2).bind fun t523 => ((laws_eqCellS.f kj19 t523 t490).bind fun t526 => (if t526 = true then ((laws_heldCellS.f kj19 bt512.2 1).bind fun t527 => (if t527 < 0 then (some false) else (if t527 = bt512.1 then (some true) else (some false)))) else (some false)))))) else (some false))))) = some r := by rw [if_neg (show ¬ (false = true) by decide)] at H; exact H
       clear H
       have H := H1
       clear H1
       replace H := Option.bind_eq_some_iff.mp H
       obtain ⟨⟨t512, t513⟩, A430, H⟩ := H
       replace H : ((laws_heldCellS.f kj19 t513 1).bind fun t514 => (if t514 < 0 then (some false) else (if t514 = t512 then ((laws_toCellS.f kj19 l0).bind fun t515 => ((laws_toStyle.f a3_0 a3_1 a3_2 a3_3 a3_4).bind fun bt518 => ((impl_Written.f kj19 t515 a1 a2 bt518.1 bt518.2.1 bt518.2.2.1 bt518.2.2.2.1 bt518.2.2.2.2).bind fun t523 => ((laws_eqCellS.f kj19 t523 t490).bind fun t526 => (if t526 = true then ((laws_heldCellS.f kj19 t513 1).bind fun t527 => (if t527 < 0 then (some false) else (if t527 = t512 then (some true) else (some false)))) else (some false)))))) else (some false)))) = some r := H
       have A43 := am A430
       clear A430
       replace H := Option.bind_eq_some_iff.mp H
       obtain ⟨t514, A440, H⟩ := H
       replace H : (if t514 < 0 then (some false) else (if t514 = t512 then ((laws_toCellS.f kj19 l0).bind fun t515 => ((laws_toStyle.f a3_0 a3_1 a3_2 a3_3 a3_4).bind fun bt518 => ((impl_Written.f kj19 t515 a1 a2 bt518.1 bt518.2.1 bt518.2.2.1 bt518.2.2.2.1 bt518.2.2.2.2).bind fun t523 => ((laws_eqCellS.f kj19 t523 t490).bind fun t526 => (if t526 = true then ((laws_heldCellS.f kj19 t513 1).bind fun t527 => (if t527 < 0 then (some false) else (if t527 = t512 then (some true) else (some false)))) else (some false)))))) else (some false))) = some r := H
       have A44 := am A440
       clear A440
       by_cases c45 : t514 < 0
       ·rw [if_pos c45] at H
        have c45b0 : decide (t514 < 0) = true := decide_eq_true c45
        clear c45
        first
        | with_reducible exact absurd (Option.some.inj (H.trans (congrArg some hT_))) Bool.false_ne_true
        | (
         obtain rfl := Option.some.inj H
         go_wp2_with (first | ((with_reducible refine gate_callee (f := 31) rfl ?_); refine gl_ (some 59) Try.func31 #[.slice Ao32 t501.length co32, .int .i64 1] ?_; (with_reducible refine (laws_markCellS.calls kj19 (fun k_ => some k_ = (.slice Ao32 t501.length co32 : Value).ownBlock) (.slice Ao32 t501.length co32) t501 1 t512 t513 w _ ?side1 ?side2 A43.out).mono ?_); (case side1 => repeat (first | (with_reducible first | exact HB.out | apply b1 | apply b2 | apply b3 | refine below_set ?_ GE480.out) | exact HB.out)); (case side2 => exact Kd.R_tight rfl HO_12.out); rintro e w46 ⟨rfl, hy0, hb, hkp⟩; refine ⟨_, rfl, ?_⟩; have n0_ := am (Kd.R_mono (ok' := fun k_ => some k_ ≠ (.slice Ao32 t501.length co32 : Value).ownBlock) (Kd.R_keptB (HO_10.out) hkp (fun k_ hk_ hs_ => (hk_) hs_)) (fun k_ hk_ => hk_.1)); have n1_ := am (Kd.R_reok rfl hy0 (fun k_ e_ => HO_12.out.1 k_ e_)); have n2_ := am (blk_kept (rk BK480) hkp (fun hs_ => (fun e_ => (Kd.R_ne HO_12.out BK480.out (by decide)) e_) hs_)); have n3_ := am (hb); clear HO_10; clear HO_12; clear BK480; clear HB; have HO_10 := n0_; have HO_12 := n1_; have BK480 := n2_; have HB := n3_; clear n0_ n1_ n2_ n3_; (try clear hb); (try clear hkp); (try clear hy0)) | ((with_reducible refine gate_callee (f := 32) rfl ?_); refine goesL_ (some 62) rfl rfl Try.func32 (by kernel_rfl) rfl #[.slice Ao32 t513.length co32, .int .i64 1] rfl (by (try simp only [List.map_toArray, List.map_cons, List.map_nil]); first | done | (rw [show t513.length = t501.length from (Kd.R_reads' HO_12.out).1.symm] <;> rfl) | rfl | (simp only [List.length_drop, List.length_take]; rfl)) ?_; (with_reducible refine (laws_heldCellS.calls kj19 _ _ t513 1 t514 _ ?side1 ?side2 A44.out).mono ?_); (case side1 => repeat (first | exact (Kd.R_reads' HO_12.out).2.2 | (with_reducible refine Kd.C_alloc ?_ _) | (with_reducible refine Kd.C_drewN ?_ _) | (with_reducible refine Kd.C_drew ?_))); (case side2 => rw [show t513.length = t501.length from (Kd.R_reads' HO_12.out).1.symm]; exact (Kd.R_reads' HO_12.out).2.1); rintro e w' ⟨rfl, ⟨nd, rfl⟩⟩; refine ⟨_, rfl, ?_⟩))
         go_ret
         exact ⟨by first | rfl | (simp [errW_none, errW_some] <;> rfl) | (simp [*, errW_none, errW_some] <;> rfl), by repeat (first | (with_reducible first | exact HB.out | apply b1 | apply b2 | apply b3 | refine below_set ?_ GE480.out) | exact HB.out)⟩)
       ·rw [if_neg c45] at H
        have c45b0 : decide (t514 < 0) = false := decide_eq_false c45
        clear c45
        by_cases c47 : t514 = t512
        ·rw [if_pos c47] at H
         have c47b0 : (t514 == t512) = true := beq_iff_eq.mpr c47
         have c47b1 : (t514 != t512) = false := bne_eq_false_iff_eq.mpr c47
         clear c47
         replace H := Option.bind_eq_some_iff.mp H
         obtain ⟨t515, A480, H⟩ := H
         replace H : ((laws_toStyle.f a3_0 a3_1 a3_2 a3_3 a3_4).bind fun bt518 => ((impl_Written.f kj19 t515 a1 a2 bt518.1 bt518.2.1 bt518.2.2.1 bt518.2.2.2.1 bt518.2.2.2.2).bind fun t523 => ((laws_eqCellS.f kj19 t523 t490).bind fun t526 => (if t526 = true then ((laws_heldCellS.f kj19 t513 1).bind fun t527 => (if t527 < 0 then (some false) else (if t527 = t512 then (some true) else (some false)))) else (some false))))) = some r := H
         have A48 := am A480
         clear A480
         replace H := Option.bind_eq_some_iff.mp H
         obtain ⟨⟨t518, t519, t520, t521, t522⟩, A490, H⟩ := H
         replace H : ((impl_Written.f kj19 t515 a1 a2 t518 t519 t520 t521 t522).bind fun t523 => ((laws_eqCellS.f kj19 t523 t490).bind fun t526 => (if t526 = true then ((laws_heldCellS.f kj19 t513 1).bind fun t527 => (if t527 < 0 then (some false) else (if t527 = t512 then (some true) else (some false)))) else (some false)))) = some r := H
         have A49 := am A490
         clear A490
         replace H := Option.bind_eq_some_iff.mp H
         obtain ⟨t523, A500, H⟩ := H
         replace H : ((laws_eqCellS.f kj19 t523 t490).bind fun t526 => (if t526 = true then ((laws_heldCellS.f kj19 t513 1).bind fun t527 => (if t527 < 0 then (some false) else (if t527 = t512 then (some true) else (some false)))) else (some false))) = some r := H
         have A50 := am A500
         clear A500
         replace H := Option.bind_eq_some_iff.mp H
         obtain ⟨t526, A510, H⟩ := H
         replace H : (if t526 = true then ((laws_heldCellS.f kj19 t513 1).bind fun t527 => (if t527 < 0 then (some false) else (if t527 = t512 then (some true) else (some false)))) else (some false)) = some r := H
         have A51 := am A510
         clear A510
         by_cases c52 : t526 = true
         ·subst c52
          have H1 : ((laws_heldCellS.f kj19 t513 1).bind fun t527 => (if t527 < 0 then (some false) else (if t527 = t512 then (some true) else (some false)))) = some r := by rw [if_pos rfl] at H; exact H
          clear H
          have H := H1
          clear H1
          replace H := Option.bind_eq_some_iff.mp H
          obtain ⟨t527, A530, H⟩ := H
          replace H : (if t527 < 0 then (some false) else (if t527 = t512 then (some true) else (some false))) = some r := H
          have A53 := am A530
          clear A530
          by_cases c54 : t527 < 0
          ·rw [if_pos c54] at H
           have c54b0 : decide (t527 < 0) = true := decide_eq_true c54
           clear c54
           first
           | with_reducible exact absurd (Option.some.inj (H.trans (congrArg some hT_))) Bool.false_ne_true
           | (
            obtain rfl := Option.some.inj H
            try go_wp2_with (first | ((with_reducible refine gate_callee (f := 31) rfl ?_); refine gl_ (some 59) Try.func31 #[.slice Ao32 t501.length co32, .int .i64 1] ?_; (with_reducible refine (laws_markCellS.calls kj19 (fun k_ => some k_ = (.slice Ao32 t501.length co32 : Value).ownBlock) (.slice Ao32 t501.length co32) t501 1 t512 t513 w _ ?side1 ?side2 A43.out).mono ?_); (case side1 => repeat (first | (with_reducible first | exact HB.out | apply b1 | apply b2 | apply b3 | refine below_set ?_ GE480.out) | exact HB.out)); (case side2 => exact Kd.R_tight rfl HO_12.out); rintro e w55 ⟨rfl, hy0, hb, hkp⟩; refine ⟨_, rfl, ?_⟩; have n0_ := am (Kd.R_mono (ok' := fun k_ => some k_ ≠ (.slice Ao32 t501.length co32 : Value).ownBlock) (Kd.R_keptB (HO_10.out) hkp (fun k_ hk_ hs_ => (hk_) hs_)) (fun k_ hk_ => hk_.1)); have n1_ := am (Kd.R_reok rfl hy0 (fun k_ e_ => HO_12.out.1 k_ e_)); have n2_ := am (blk_kept (rk BK480) hkp (fun hs_ => (fun e_ => (Kd.R_ne HO_12.out BK480.out (by decide)) e_) hs_)); have n3_ := am (hb); clear HO_10; clear HO_12; clear BK480; clear HB; have HO_10 := n0_; have HO_12 := n1_; have BK480 := n2_; have HB := n3_; clear n0_ n1_ n2_ n3_; (try clear hb); (try clear hkp); (try clear hy0)) | ((with_reducible refine gate_callee (f := 32) rfl ?_); refine goesL_ (some 62) rfl rfl Try.func32 (by kernel_rfl) rfl #[.slice Ao32 t513.length co32, .int .i64 1] rfl (by (try simp only [List.map_toArray, List.map_cons, List.map_nil]); first | done | (rw [show t513.length = t501.length from (Kd.R_reads' HO_12.out).1.symm] <;> rfl) | rfl | (simp only [List.length_drop, List.length_take]; rfl)) ?_; (with_reducible refine (laws_heldCellS.calls kj19 _ _ t513 1 t514 _ ?side1 ?side2 A44.out).mono ?_); (case side1 => repeat (first | exact (Kd.R_reads' HO_12.out).2.2 | (with_reducible refine Kd.C_alloc ?_ _) | (with_reducible refine Kd.C_drewN ?_ _) | (with_reducible refine Kd.C_drew ?_))); (case side2 => rw [show t513.length = t501.length from (Kd.R_reads' HO_12.out).1.symm]; exact (Kd.R_reads' HO_12.out).2.1); rintro e w' ⟨rfl, ⟨nd, rfl⟩⟩; refine ⟨_, rfl, ?_⟩))
            (try (rw [drewN_self w55]; generalize hq_ : World.drewN w55 _ = w55; have n0_ : Aside0 (Kd.R k79 79 w55 w.heap.size (fun k_ => some k_ ≠ (.slice Ao32 t501.length co32 : Value).ownBlock) (.slice Ao33 t490.length co33) t490) := ⟨by rw [← hq_]; exact (rr HO_10)⟩; have n1_ : Aside0 (Kd.R k79 79 w55 w.heap.size (fun k_ => some k_ ≠ (.slice Ao33 t490.length co33 : Value).ownBlock) (.slice Ao32 t501.length co32) t513) := ⟨by rw [← hq_]; exact (rr HO_12)⟩; have n2_ : Aside0 (w55.heap[gb480]? = some (.cells #[.int .i64 a3_0, .int .i64 a3_1, .bool a3_2, .bool a3_3, .bool a3_4] 50 (0, 0))) := ⟨by rw [← hq_]; exact (rk BK480)⟩; have n3_ : Aside0 (Below w.heap.size w w55) := ⟨by rw [← hq_]; exact (rb1 HB GE480)⟩; clear HO_10 HO_12 BK480 HB hq_; have HO_10 := n0_; have HO_12 := n1_; have BK480 := n2_; have HB := n3_; clear n0_ n1_ n2_ n3_))
            have n0_ := am (Kd.R_drew HO_10.out)
            have n1_ := am (Kd.R_drew HO_12.out)
            have n2_ := am (blk_drew BK480.out)
            have n3_ := am (below_drew1 HB.out)
            clear HO_10
            clear HO_12
            clear BK480
            clear HB
            have HO_10 := n0_
            have HO_12 := n1_
            have BK480 := n2_
            have HB := n3_
            clear n0_ n1_ n2_ n3_
            refine start_ (n := 8) (S := fun w' => w'.cell? ⟨gb480, 0, none⟩ = some (.int .i64 a3_0) ∧ w'.cell? ⟨gb480, 1, none⟩ = some (.int .i64 a3_1) ∧ w'.cell? ⟨gb480, 2, none⟩ = some (.bool a3_2) ∧ w'.cell? ⟨gb480, 3, none⟩ = some (.bool a3_3) ∧ w'.cell? ⟨gb480, 4, none⟩ = some (.bool a3_4)) (ds := []) (bm 8 0) (by kernel_rfl) rfl rfl ⟨(blk_cell BK480.out 0).trans rfl, (blk_cell BK480.out 1).trans rfl, (blk_cell BK480.out 2).trans rfl, (blk_cell BK480.out 3).trans rfl, (blk_cell BK480.out 4).trans rfl⟩ (fun hHeld => ?_); refine with_tabW laws_FnExactWritten.tab24 laws_FnExactWritten.bits24 (fun HT_ HW_ => ?_)
            generalize w55.drew = w56 at HO_10 HO_12 BK480 HB hHeld ⊢
            refine pu_ 0 68 (bm 8 1) HT_.out ?_
            refine pu_ 2 70 (bm 8 5) HT_.out ?_
            refine pu_ 3 71 (bm 8 13) HT_.out ?_
            refine take_ (i := 4) (N := some 72) (v := ?_) (a' := ?_) (bm 8 29) rfl rfl (take_ofW HT_.out HW_.out (by kernel_rfl)) (fun _ _ _ h => h) (Or.inl ⟨by rfl, ?_⟩) hHeld ?_ ?_
            rotate_left
            ·rintro w' ⟨s0, s1, s2, s3, s4⟩
             go_simp
             with_reducible rfl
            rotate_left
            ·simp only [Act.put, List.setIfInBounds_toArray, List.set_cons_zero, List.set_cons_succ, i64_w, i32_w]
             rfl
            refine one_ (i := 1) (N := some 69) (bm 8 31) rfl rfl (one_of HT_.out (by kernel_rfl)) (by decide) (fun K hK => ?_)
            refine goes_ Try.func27 (by kernel_rfl) rfl #[.slice A0 l0.length c0] (by rfl) rfl rfl (by (try simp only [List.map_toArray, List.map_cons, List.map_nil]); first | done | rfl | (simp only [List.length_drop, List.length_take]; rfl)) ?_
            with_reducible refine (laws_toCellS.calls kj19 _ _ l0 t515 _ ?side1 ?side2 A48.out).mono ?_
            (case side1 => exact rc ((Kd.C_below HR0.out HB.out)))
            (case side2 => exact HC0.out)
            rintro e w57 ⟨v516, rfl, ho0, hb⟩
            refine ⟨_, rfl, ?_⟩
            have n0_ := am (Kd.R_elder' (rr HO_10) (Kd.R_base ho0) hb)
            have n1_ := am (Kd.R_elder' (rr HO_12) (Kd.R_base ho0) hb)
            have n2_ := am (Kd.R_lower (Kd.R_new' (Kd.R_new' ho0 (Kd.R_lt (rr HO_10))) (Kd.R_lt (rr HO_12))) (below_size (rb1 HB GE480)))
            have n3_ := am (blk_below (g := gb480) (o := .cells #[.int .i64 a3_0, .int .i64 a3_1, .bool a3_2, .bool a3_3, .bool a3_4] 50 (0, 0)) (rk BK480) hb)
            have n4_ := am (below_step (rb1 HB GE480) hb)
            clear HO_10
            clear HO_12
            clear BK480
            clear HB
            have HO_10 := n0_
            have HO_12 := n1_
            have HO517 := n2_
            have BK480 := n3_
            have HB := n4_
            clear n0_ n1_ n2_ n3_ n4_
            (try clear hb)
            (try clear hb2)
            (try clear hk)
            (try clear hi)
            (try clear ho0)
            refine hK.out _ _ ⟨(blk_cell BK480.out 0).trans rfl, (blk_cell BK480.out 1).trans rfl, (blk_cell BK480.out 2).trans rfl, (blk_cell BK480.out 3).trans rfl, (blk_cell BK480.out 4).trans rfl⟩ (fun hHeld => ?_)
            clear hK K
            refine norm_ (a' := ?_) ?_ ?_
            rotate_left
            ·show Act.put _ (some 69) _ = _
             simp only [Act.put, List.setIfInBounds_toArray, List.set_cons_zero, List.set_cons_succ, i64_w, i32_w]
             rfl
            refine one_ (i := 5) (N := some 73) (bm 8 63) rfl rfl (one_of HT_.out (by kernel_rfl)) (by decide) (fun K hK => ?_)
            refine goes_ Try.func28 (by kernel_rfl) rfl #[.agg #[.int .i64 a3_0, .int .i64 a3_1, .bool a3_2, .bool a3_3, .bool a3_4]] (by rfl) rfl rfl (by (try simp only [List.map_toArray, List.map_cons, List.map_nil]); first | done | rfl | (simp only [List.length_drop, List.length_take]; rfl)) ?_
            with_reducible refine (laws_toStyle.calls a3_0 a3_1 a3_2 a3_3 a3_4 t518 t519 t520 t521 t522 _ A49.out).mono ?_
            rintro e w58 ⟨rfl, hb⟩
            refine ⟨_, rfl, ?_⟩
            have n0_ := am (Kd.R_below (rr HO_10) hb)
            have n1_ := am (Kd.R_below (rr HO_12) hb)
            have n2_ := am (Kd.R_below (rr HO517) hb)
            have n3_ := am (blk_below (g := gb480) (o := .cells #[.int .i64 a3_0, .int .i64 a3_1, .bool a3_2, .bool a3_3, .bool a3_4] 50 (0, 0)) (rk BK480) hb)
            have n4_ := am (below_step (rb1 HB GE480) hb)
            clear HO_10
            clear HO_12
            clear HO517
            clear BK480
            clear HB
            have HO_10 := n0_
            have HO_12 := n1_
            have HO517 := n2_
            have BK480 := n3_
            have HB := n4_
            clear n0_ n1_ n2_ n3_ n4_
            (try clear hb)
            (try clear hb2)
            (try clear hk)
            (try clear hi)
            obtain ⟨Ao59, co59, eo59⟩ := Kd.R_slice HO517.out
            (first | subst eo59 | (injection eo59 with f1_ f2_ f3_; have f4_ := f1_.symm; have f5_ := f3_.symm; clear f1_ f2_ f3_; subst f4_; subst f5_))
            refine hK.out _ _ ⟨(blk_cell BK480.out 0).trans rfl, (blk_cell BK480.out 1).trans rfl, (blk_cell BK480.out 2).trans rfl, (blk_cell BK480.out 3).trans rfl, (blk_cell BK480.out 4).trans rfl⟩ (fun hHeld => ?_)
            clear hK K
            refine norm_ (a' := ?_) ?_ ?_
            rotate_left
            ·show Act.put _ (some 73) _ = _
             simp only [Act.put, List.setIfInBounds_toArray, List.set_cons_zero, List.set_cons_succ, i64_w, i32_w]
             rfl
            refine one_ (i := 6) (N := some 74) (bm 8 127) rfl rfl (one_of HT_.out (by kernel_rfl)) (by decide) (fun K hK => ?_)
            refine goes_ Try.func34 (by kernel_rfl) rfl #[.slice Ao59 t515.length co59, .int .i64 a1, .int .i64 a2, .agg #[.int .i64 t518, .int .i64 t519, .bool t520, .bool t521, .bool t522]] (by rfl) rfl rfl (by (try simp only [List.map_toArray, List.map_cons, List.map_nil]); first | done | rfl | (simp only [List.length_drop, List.length_take]; rfl)) ?_
            with_reducible refine (impl_Written.calls kj19 _ _ t515 a1 a2 t518 t519 t520 t521 t522 t523 _ ?side1 ?side2 A50.out).mono ?_
            (case side1 => repeat (first | exact (Kd.R_reads' HO517.out).2.2 | (with_reducible refine Kd.C_alloc ?_ _) | (with_reducible refine Kd.C_drewN ?_ _) | (with_reducible refine Kd.C_drew ?_)))
            (case side2 => exact (Kd.R_reads' HO517.out).2.1)
            rintro e w60 ⟨v524, rfl, ho0, hb⟩
            refine ⟨_, rfl, ?_⟩
            have n0_ := am (Kd.R_elder' (rr HO_10) (Kd.R_base ho0) hb)
            have n1_ := am (Kd.R_elder' (rr HO_12) (Kd.R_base ho0) hb)
            have n2_ := am (Kd.R_elder' (rr HO517) (Kd.R_base ho0) hb)
            have n3_ := am (Kd.R_lower (Kd.R_new' (Kd.R_new' (Kd.R_new' ho0 (Kd.R_lt (rr HO_10))) (Kd.R_lt (rr HO_12))) (Kd.R_lt (rr HO517))) (below_size (rb1 HB GE480)))
            have n4_ := am (blk_below (g := gb480) (o := .cells #[.int .i64 a3_0, .int .i64 a3_1, .bool a3_2, .bool a3_3, .bool a3_4] 50 (0, 0)) (rk BK480) hb)
            have n5_ := am (below_step (rb1 HB GE480) hb)
            clear HO_10
            clear HO_12
            clear HO517
            clear BK480
            clear HB
            have HO_10 := n0_
            have HO_12 := n1_
            have HO517 := n2_
            have HO525 := n3_
            have BK480 := n4_
            have HB := n5_
            clear n0_ n1_ n2_ n3_ n4_ n5_
            (try clear hb)
            (try clear hb2)
            (try clear hk)
            (try clear hi)
            (try clear ho0)
            refine hK.out _ _ ⟨(blk_cell BK480.out 0).trans rfl, (blk_cell BK480.out 1).trans rfl, (blk_cell BK480.out 2).trans rfl, (blk_cell BK480.out 3).trans rfl, (blk_cell BK480.out 4).trans rfl⟩ (fun hHeld => ?_)
            clear hK K
            refine norm_ (a' := ?_) ?_ ?_
            rotate_left
            ·show Act.put _ (some 74) _ = _
             simp only [Act.put, List.setIfInBounds_toArray, List.set_cons_zero, List.set_cons_succ, i64_w, i32_w]
             rfl
            refine pu_ 7 16 (bm 8 255) HT_.out ?_
            refine done_ (done_of HT_.out (by kernel_rfl)) ?_
            obtain ⟨Ao61, co61, eo61⟩ := Kd.R_slice HO525.out
            subst eo61
            try go_wp2_with (first | ((with_reducible refine gate_callee (f := 30) rfl ?_); refine gl_ (some 77) Try.func30 #[.slice Ao61 t523.length co61, .slice Ao33 t490.length co33] ?_; (with_reducible refine (laws_eqCellS.calls kj19 _ _ t523 _ _ t490 true _ ?side1 ?side2 ?side3 ?side4 A51.out).mono ?_); (case side1 => repeat (first | exact (Kd.R_reads' HO525.out).2.2 | (with_reducible refine Kd.C_alloc ?_ _) | (with_reducible refine Kd.C_drewN ?_ _) | (with_reducible refine Kd.C_drew ?_))); (case side2 => exact (Kd.R_reads' HO525.out).2.1); (case side3 => repeat (first | exact (Kd.R_reads' HO_10.out).2.2 | (with_reducible refine Kd.C_alloc ?_ _) | (with_reducible refine Kd.C_drewN ?_ _) | (with_reducible refine Kd.C_drew ?_))); (case side4 => exact (Kd.R_reads' HO_10.out).2.1); rintro e w62 ⟨rfl, hb⟩; refine ⟨_, rfl, ?_⟩; have n0_ := am (Kd.R_below (rr HO_10) hb); have n1_ := am (Kd.R_below (rr HO_12) hb); have n2_ := am (Kd.R_below (rr HO517) hb); have n3_ := am (Kd.R_below (rr HO525) hb); have n4_ := am (blk_below (g := gb480) (o := .cells #[.int .i64 a3_0, .int .i64 a3_1, .bool a3_2, .bool a3_3, .bool a3_4] 50 (0, 0)) (rk BK480) hb); have n5_ := am (below_step (rb1 HB GE480) hb); clear HO_10; clear HO_12; clear HO517; clear HO525; clear BK480; clear HB; have HO_10 := n0_; have HO_12 := n1_; have HO517 := n2_; have HO525 := n3_; have BK480 := n4_; have HB := n5_; clear n0_ n1_ n2_ n3_ n4_ n5_; (try clear hb); (try clear hb2); (try clear hk); (try clear hi)) | ((with_reducible refine gate_callee (f := 32) rfl ?_); refine goesL_ (some 81) rfl rfl Try.func32 (by kernel_rfl) rfl #[.slice Ao32 t513.length co32, .int .i64 1] rfl (by (try simp only [List.map_toArray, List.map_cons, List.map_nil]); first | done | (rw [show t513.length = t501.length from (Kd.R_reads' HO_12.out).1.symm] <;> rfl) | rfl | (simp only [List.length_drop, List.length_take]; rfl)) ?_; (with_reducible refine (laws_heldCellS.calls kj19 _ _ t513 1 t527 _ ?side1 ?side2 A53.out).mono ?_); (case side1 => repeat (first | exact (Kd.R_reads' HO_12.out).2.2 | (with_reducible refine Kd.C_alloc ?_ _) | (with_reducible refine Kd.C_drewN ?_ _) | (with_reducible refine Kd.C_drew ?_))); (case side2 => rw [show t513.length = t501.length from (Kd.R_reads' HO_12.out).1.symm]; exact (Kd.R_reads' HO_12.out).2.1); rintro e w' ⟨rfl, ⟨nd, rfl⟩⟩; refine ⟨_, rfl, ?_⟩))
            go_ret
            exact ⟨by first | rfl | (simp [errW_none, errW_some] <;> rfl) | (simp [*, errW_none, errW_some] <;> rfl), by repeat (first | (with_reducible first | exact HB.out | apply b1 | apply b2 | apply b3 | refine below_set ?_ GE480.out) | exact HB.out)⟩)
          ·rw [if_neg c54] at H
           have c54b0 : decide (t527 < 0) = false := decide_eq_false c54
           clear c54
           by_cases c63 : t527 = t512
           ·rw [if_pos c63] at H
            have c63b0 : (t527 == t512) = true := beq_iff_eq.mpr c63
            have c63b1 : (t527 != t512) = false := bne_eq_false_iff_eq.mpr c63
            clear c63
            first
            | with_reducible exact absurd (Option.some.inj (H.trans (congrArg some hT_))) Bool.false_ne_true
            | (
             obtain rfl := Option.some.inj H
             try go_wp2_with (first | ((with_reducible refine gate_callee (f := 31) rfl ?_); refine gl_ (some 59) Try.func31 #[.slice Ao32 t501.length co32, .int .i64 1] ?_; (with_reducible refine (laws_markCellS.calls kj19 (fun k_ => some k_ = (.slice Ao32 t501.length co32 : Value).ownBlock) (.slice Ao32 t501.length co32) t501 1 t512 t513 w _ ?side1 ?side2 A43.out).mono ?_); (case side1 => repeat (first | (with_reducible first | exact HB.out | apply b1 | apply b2 | apply b3 | refine below_set ?_ GE480.out) | exact HB.out)); (case side2 => exact Kd.R_tight rfl HO_12.out); rintro e w64 ⟨rfl, hy0, hb, hkp⟩; refine ⟨_, rfl, ?_⟩; have n0_ := am (Kd.R_mono (ok' := fun k_ => some k_ ≠ (.slice Ao32 t501.length co32 : Value).ownBlock) (Kd.R_keptB (HO_10.out) hkp (fun k_ hk_ hs_ => (hk_) hs_)) (fun k_ hk_ => hk_.1)); have n1_ := am (Kd.R_reok rfl hy0 (fun k_ e_ => HO_12.out.1 k_ e_)); have n2_ := am (blk_kept (rk BK480) hkp (fun hs_ => (fun e_ => (Kd.R_ne HO_12.out BK480.out (by decide)) e_) hs_)); have n3_ := am (hb); clear HO_10; clear HO_12; clear BK480; clear HB; have HO_10 := n0_; have HO_12 := n1_; have BK480 := n2_; have HB := n3_; clear n0_ n1_ n2_ n3_; (try clear hb); (try clear hkp); (try clear hy0)) | ((with_reducible refine gate_callee (f := 32) rfl ?_); refine goesL_ (some 62) rfl rfl Try.func32 (by kernel_rfl) rfl #[.slice Ao32 t513.length co32, .int .i64 1] rfl (by (try simp only [List.map_toArray, List.map_cons, List.map_nil]); first | done | (rw [show t513.length = t501.length from (Kd.R_reads' HO_12.out).1.symm] <;> rfl) | rfl | (simp only [List.length_drop, List.length_take]; rfl)) ?_; (with_reducible refine (laws_heldCellS.calls kj19 _ _ t513 1 t514 _ ?side1 ?side2 A44.out).mono ?_); (case side1 => repeat (first | exact (Kd.R_reads' HO_12.out).2.2 | (with_reducible refine Kd.C_alloc ?_ _) | (with_reducible refine Kd.C_drewN ?_ _) | (with_reducible refine Kd.C_drew ?_))); (case side2 => rw [show t513.length = t501.length from (Kd.R_reads' HO_12.out).1.symm]; exact (Kd.R_reads' HO_12.out).2.1); rintro e w' ⟨rfl, ⟨nd, rfl⟩⟩; refine ⟨_, rfl, ?_⟩))
             (try (rw [drewN_self w64]; generalize hq_ : World.drewN w64 _ = w64; have n0_ : Aside0 (Kd.R k79 79 w64 w.heap.size (fun k_ => some k_ ≠ (.slice Ao32 t501.length co32 : Value).ownBlock) (.slice Ao33 t490.length co33) t490) := ⟨by rw [← hq_]; exact (rr HO_10)⟩; have n1_ : Aside0 (Kd.R k79 79 w64 w.heap.size (fun k_ => some k_ ≠ (.slice Ao33 t490.length co33 : Value).ownBlock) (.slice Ao32 t501.length co32) t513) := ⟨by rw [← hq_]; exact (rr HO_12)⟩; have n2_ : Aside0 (w64.heap[gb480]? = some (.cells #[.int .i64 a3_0, .int .i64 a3_1, .bool a3_2, .bool a3_3, .bool a3_4] 50 (0, 0))) := ⟨by rw [← hq_]; exact (rk BK480)⟩; have n3_ : Aside0 (Below w.heap.size w w64) := ⟨by rw [← hq_]; exact (rb1 HB GE480)⟩; clear HO_10 HO_12 BK480 HB hq_; have HO_10 := n0_; have HO_12 := n1_; have BK480 := n2_; have HB := n3_; clear n0_ n1_ n2_ n3_))
             have n0_ := am (Kd.R_drew HO_10.out)
             have n1_ := am (Kd.R_drew HO_12.out)
             have n2_ := am (blk_drew BK480.out)
             have n3_ := am (below_drew1 HB.out)
             clear HO_10
             clear HO_12
             clear BK480
             clear HB
             have HO_10 := n0_
             have HO_12 := n1_
             have BK480 := n2_
             have HB := n3_
             clear n0_ n1_ n2_ n3_
             refine start_ (n := 8) (S := fun w' => w'.cell? ⟨gb480, 0, none⟩ = some (.int .i64 a3_0) ∧ w'.cell? ⟨gb480, 1, none⟩ = some (.int .i64 a3_1) ∧ w'.cell? ⟨gb480, 2, none⟩ = some (.bool a3_2) ∧ w'.cell? ⟨gb480, 3, none⟩ = some (.bool a3_3) ∧ w'.cell? ⟨gb480, 4, none⟩ = some (.bool a3_4)) (ds := []) (bm 8 0) (by kernel_rfl) rfl rfl ⟨(blk_cell BK480.out 0).trans rfl, (blk_cell BK480.out 1).trans rfl, (blk_cell BK480.out 2).trans rfl, (blk_cell BK480.out 3).trans rfl, (blk_cell BK480.out 4).trans rfl⟩ (fun hHeld => ?_); refine with_tabW laws_FnExactWritten.tab24 laws_FnExactWritten.bits24 (fun HT_ HW_ => ?_)
             generalize w64.drew = w65 at HO_10 HO_12 BK480 HB hHeld ⊢
             refine pu_ 0 68 (bm 8 1) HT_.out ?_
             refine pu_ 2 70 (bm 8 5) HT_.out ?_
             refine pu_ 3 71 (bm 8 13) HT_.out ?_
             refine take_ (i := 4) (N := some 72) (v := ?_) (a' := ?_) (bm 8 29) rfl rfl (take_ofW HT_.out HW_.out (by kernel_rfl)) (fun _ _ _ h => h) (Or.inl ⟨by rfl, ?_⟩) hHeld ?_ ?_
             rotate_left
             ·rintro w' ⟨s0, s1, s2, s3, s4⟩
              go_simp
              with_reducible rfl
             rotate_left
             ·simp only [Act.put, List.setIfInBounds_toArray, List.set_cons_zero, List.set_cons_succ, i64_w, i32_w]
              rfl
             refine one_ (i := 1) (N := some 69) (bm 8 31) rfl rfl (one_of HT_.out (by kernel_rfl)) (by decide) (fun K hK => ?_)
             refine goes_ Try.func27 (by kernel_rfl) rfl #[.slice A0 l0.length c0] (by rfl) rfl rfl (by (try simp only [List.map_toArray, List.map_cons, List.map_nil]); first | done | rfl | (simp only [List.length_drop, List.length_take]; rfl)) ?_
             with_reducible refine (laws_toCellS.calls kj19 _ _ l0 t515 _ ?side1 ?side2 A48.out).mono ?_
             (case side1 => exact rc ((Kd.C_below HR0.out HB.out)))
             (case side2 => exact HC0.out)
             rintro e w66 ⟨v516, rfl, ho0, hb⟩
             refine ⟨_, rfl, ?_⟩
             have n0_ := am (Kd.R_elder' (rr HO_10) (Kd.R_base ho0) hb)
             have n1_ := am (Kd.R_elder' (rr HO_12) (Kd.R_base ho0) hb)
             have n2_ := am (Kd.R_lower (Kd.R_new' (Kd.R_new' ho0 (Kd.R_lt (rr HO_10))) (Kd.R_lt (rr HO_12))) (below_size (rb1 HB GE480)))
             have n3_ := am (blk_below (g := gb480) (o := .cells #[.int .i64 a3_0, .int .i64 a3_1, .bool a3_2, .bool a3_3, .bool a3_4] 50 (0, 0)) (rk BK480) hb)
             have n4_ := am (below_step (rb1 HB GE480) hb)
             clear HO_10
             clear HO_12
             clear BK480
             clear HB
             have HO_10 := n0_
             have HO_12 := n1_
             have HO517 := n2_
             have BK480 := n3_
             have HB := n4_
             clear n0_ n1_ n2_ n3_ n4_
             (try clear hb)
             (try clear hb2)
             (try clear hk)
             (try clear hi)
             (try clear ho0)
             refine hK.out _ _ ⟨(blk_cell BK480.out 0).trans rfl, (blk_cell BK480.out 1).trans rfl, (blk_cell BK480.out 2).trans rfl, (blk_cell BK480.out 3).trans rfl, (blk_cell BK480.out 4).trans rfl⟩ (fun hHeld => ?_)
             clear hK K
             refine norm_ (a' := ?_) ?_ ?_
             rotate_left
             ·show Act.put _ (some 69) _ = _
              simp only [Act.put, List.setIfInBounds_toArray, List.set_cons_zero, List.set_cons_succ, i64_w, i32_w]
              rfl
             refine one_ (i := 5) (N := some 73) (bm 8 63) rfl rfl (one_of HT_.out (by kernel_rfl)) (by decide) (fun K hK => ?_)
             refine goes_ Try.func28 (by kernel_rfl) rfl #[.agg #[.int .i64 a3_0, .int .i64 a3_1, .bool a3_2, .bool a3_3, .bool a3_4]] (by rfl) rfl rfl (by (try simp only [List.map_toArray, List.map_cons, List.map_nil]); first | done | rfl | (simp only [List.length_drop, List.length_take]; rfl)) ?_
             with_reducible refine (laws_toStyle.calls a3_0 a3_1 a3_2 a3_3 a3_4 t518 t519 t520 t521 t522 _ A49.out).mono ?_
             rintro e w67 ⟨rfl, hb⟩
             refine ⟨_, rfl, ?_⟩
             have n0_ := am (Kd.R_below (rr HO_10) hb)
             have n1_ := am (Kd.R_below (rr HO_12) hb)
             have n2_ := am (Kd.R_below (rr HO517) hb)
             have n3_ := am (blk_below (g := gb480) (o := .cells #[.int .i64 a3_0, .int .i64 a3_1, .bool a3_2, .bool a3_3, .bool a3_4] 50 (0, 0)) (rk BK480) hb)
             have n4_ := am (below_step (rb1 HB GE480) hb)
             clear HO_10
             clear HO_12
             clear HO517
             clear BK480
             clear HB
             have HO_10 := n0_
             have HO_12 := n1_
             have HO517 := n2_
             have BK480 := n3_
             have HB := n4_
             clear n0_ n1_ n2_ n3_ n4_
             (try clear hb)
             (try clear hb2)
             (try clear hk)
             (try clear hi)
             obtain ⟨Ao68, co68, eo68⟩ := Kd.R_slice HO517.out
             (first | subst eo68 | (injection eo68 with f1_ f2_ f3_; have f4_ := f1_.symm; have f5_ := f3_.symm; clear f1_ f2_ f3_; subst f4_; subst f5_))
             refine hK.out _ _ ⟨(blk_cell BK480.out 0).trans rfl, (blk_cell BK480.out 1).trans rfl, (blk_cell BK480.out 2).trans rfl, (blk_cell BK480.out 3).trans rfl, (blk_cell BK480.out 4).trans rfl⟩ (fun hHeld => ?_)
             clear hK K
             refine norm_ (a' := ?_) ?_ ?_
             rotate_left
             ·show Act.put _ (some 73) _ = _
              simp only [Act.put, List.setIfInBounds_toArray, List.set_cons_zero, List.set_cons_succ, i64_w, i32_w]
              rfl
             refine one_ (i := 6) (N := some 74) (bm 8 127) rfl rfl (one_of HT_.out (by kernel_rfl)) (by decide) (fun K hK => ?_)
             refine goes_ Try.func34 (by kernel_rfl) rfl #[.slice Ao68 t515.length co68, .int .i64 a1, .int .i64 a2, .agg #[.int .i64 t518, .int .i64 t519, .bool t520, .bool t521, .bool t522]] (by rfl) rfl rfl (by (try simp only [List.map_toArray, List.map_cons, List.map_nil]); first | done | rfl | (simp only [List.length_drop, List.length_take]; rfl)) ?_
             with_reducible refine (impl_Written.calls kj19 _ _ t515 a1 a2 t518 t519 t520 t521 t522 t523 _ ?side1 ?side2 A50.out).mono ?_
             (case side1 => repeat (first | exact (Kd.R_reads' HO517.out).2.2 | (with_reducible refine Kd.C_alloc ?_ _) | (with_reducible refine Kd.C_drewN ?_ _) | (with_reducible refine Kd.C_drew ?_)))
             (case side2 => exact (Kd.R_reads' HO517.out).2.1)
             rintro e w69 ⟨v524, rfl, ho0, hb⟩
             refine ⟨_, rfl, ?_⟩
             have n0_ := am (Kd.R_elder' (rr HO_10) (Kd.R_base ho0) hb)
             have n1_ := am (Kd.R_elder' (rr HO_12) (Kd.R_base ho0) hb)
             have n2_ := am (Kd.R_elder' (rr HO517) (Kd.R_base ho0) hb)
             have n3_ := am (Kd.R_lower (Kd.R_new' (Kd.R_new' (Kd.R_new' ho0 (Kd.R_lt (rr HO_10))) (Kd.R_lt (rr HO_12))) (Kd.R_lt (rr HO517))) (below_size (rb1 HB GE480)))
             have n4_ := am (blk_below (g := gb480) (o := .cells #[.int .i64 a3_0, .int .i64 a3_1, .bool a3_2, .bool a3_3, .bool a3_4] 50 (0, 0)) (rk BK480) hb)
             have n5_ := am (below_step (rb1 HB GE480) hb)
             clear HO_10
             clear HO_12
             clear HO517
             clear BK480
             clear HB
             have HO_10 := n0_
             have HO_12 := n1_
             have HO517 := n2_
             have HO525 := n3_
             have BK480 := n4_
             have HB := n5_
             clear n0_ n1_ n2_ n3_ n4_ n5_
             (try clear hb)
             (try clear hb2)
             (try clear hk)
             (try clear hi)
             (try clear ho0)
             refine hK.out _ _ ⟨(blk_cell BK480.out 0).trans rfl, (blk_cell BK480.out 1).trans rfl, (blk_cell BK480.out 2).trans rfl, (blk_cell BK480.out 3).trans rfl, (blk_cell BK480.out 4).trans rfl⟩ (fun hHeld => ?_)
             clear hK K
             refine norm_ (a' := ?_) ?_ ?_
             rotate_left
             ·show Act.put _ (some 74) _ = _
              simp only [Act.put, List.setIfInBounds_toArray, List.set_cons_zero, List.set_cons_succ, i64_w, i32_w]
              rfl
             refine pu_ 7 16 (bm 8 255) HT_.out ?_
             refine done_ (done_of HT_.out (by kernel_rfl)) ?_
             obtain ⟨Ao70, co70, eo70⟩ := Kd.R_slice HO525.out
             subst eo70
             try go_wp2_with (first | ((with_reducible refine gate_callee (f := 30) rfl ?_); refine gl_ (some 77) Try.func30 #[.slice Ao70 t523.length co70, .slice Ao33 t490.length co33] ?_; (with_reducible refine (laws_eqCellS.calls kj19 _ _ t523 _ _ t490 true _ ?side1 ?side2 ?side3 ?side4 A51.out).mono ?_); (case side1 => repeat (first | exact (Kd.R_reads' HO525.out).2.2 | (with_reducible refine Kd.C_alloc ?_ _) | (with_reducible refine Kd.C_drewN ?_ _) | (with_reducible refine Kd.C_drew ?_))); (case side2 => exact (Kd.R_reads' HO525.out).2.1); (case side3 => repeat (first | exact (Kd.R_reads' HO_10.out).2.2 | (with_reducible refine Kd.C_alloc ?_ _) | (with_reducible refine Kd.C_drewN ?_ _) | (with_reducible refine Kd.C_drew ?_))); (case side4 => exact (Kd.R_reads' HO_10.out).2.1); rintro e w71 ⟨rfl, hb⟩; refine ⟨_, rfl, ?_⟩; have n0_ := am (Kd.R_below (rr HO_10) hb); have n1_ := am (Kd.R_below (rr HO_12) hb); have n2_ := am (Kd.R_below (rr HO517) hb); have n3_ := am (Kd.R_below (rr HO525) hb); have n4_ := am (blk_below (g := gb480) (o := .cells #[.int .i64 a3_0, .int .i64 a3_1, .bool a3_2, .bool a3_3, .bool a3_4] 50 (0, 0)) (rk BK480) hb); have n5_ := am (below_step (rb1 HB GE480) hb); clear HO_10; clear HO_12; clear HO517; clear HO525; clear BK480; clear HB; have HO_10 := n0_; have HO_12 := n1_; have HO517 := n2_; have HO525 := n3_; have BK480 := n4_; have HB := n5_; clear n0_ n1_ n2_ n3_ n4_ n5_; (try clear hb); (try clear hb2); (try clear hk); (try clear hi)) | ((with_reducible refine gate_callee (f := 32) rfl ?_); refine goesL_ (some 81) rfl rfl Try.func32 (by kernel_rfl) rfl #[.slice Ao32 t513.length co32, .int .i64 1] rfl (by (try simp only [List.map_toArray, List.map_cons, List.map_nil]); first | done | (rw [show t513.length = t501.length from (Kd.R_reads' HO_12.out).1.symm] <;> rfl) | rfl | (simp only [List.length_drop, List.length_take]; rfl)) ?_; (with_reducible refine (laws_heldCellS.calls kj19 _ _ t513 1 t527 _ ?side1 ?side2 A53.out).mono ?_); (case side1 => repeat (first | exact (Kd.R_reads' HO_12.out).2.2 | (with_reducible refine Kd.C_alloc ?_ _) | (with_reducible refine Kd.C_drewN ?_ _) | (with_reducible refine Kd.C_drew ?_))); (case side2 => rw [show t513.length = t501.length from (Kd.R_reads' HO_12.out).1.symm]; exact (Kd.R_reads' HO_12.out).2.1); rintro e w' ⟨rfl, ⟨nd, rfl⟩⟩; refine ⟨_, rfl, ?_⟩))
             go_ret
             exact ⟨by first | rfl | (simp [errW_none, errW_some] <;> rfl) | (simp [*, errW_none, errW_some] <;> rfl), by repeat (first | (with_reducible first | exact HB.out | apply b1 | apply b2 | apply b3 | refine below_set ?_ GE480.out) | exact HB.out)⟩)
           ·rw [if_neg c63] at H
            have c63b0 : (t527 == t512) = false := beq_eq_false_iff_ne.mpr c63
            have c63b1 : (t527 != t512) = true := bne_iff_ne.mpr c63
            first
            | with_reducible exact absurd (Option.some.inj (H.trans (congrArg some hT_))) Bool.false_ne_true
            | (
             obtain rfl := Option.some.inj H
             try go_wp2_with (first | ((with_reducible refine gate_callee (f := 31) rfl ?_); refine gl_ (some 59) Try.func31 #[.slice Ao32 t501.length co32, .int .i64 1] ?_; (with_reducible refine (laws_markCellS.calls kj19 (fun k_ => some k_ = (.slice Ao32 t501.length co32 : Value).ownBlock) (.slice Ao32 t501.length co32) t501 1 t512 t513 w _ ?side1 ?side2 A43.out).mono ?_); (case side1 => repeat (first | (with_reducible first | exact HB.out | apply b1 | apply b2 | apply b3 | refine below_set ?_ GE480.out) | exact HB.out)); (case side2 => exact Kd.R_tight rfl HO_12.out); rintro e w72 ⟨rfl, hy0, hb, hkp⟩; refine ⟨_, rfl, ?_⟩; have n0_ := am (Kd.R_mono (ok' := fun k_ => some k_ ≠ (.slice Ao32 t501.length co32 : Value).ownBlock) (Kd.R_keptB (HO_10.out) hkp (fun k_ hk_ hs_ => (hk_) hs_)) (fun k_ hk_ => hk_.1)); have n1_ := am (Kd.R_reok rfl hy0 (fun k_ e_ => HO_12.out.1 k_ e_)); have n2_ := am (blk_kept (rk BK480) hkp (fun hs_ => (fun e_ => (Kd.R_ne HO_12.out BK480.out (by decide)) e_) hs_)); have n3_ := am (hb); clear HO_10; clear HO_12; clear BK480; clear HB; have HO_10 := n0_; have HO_12 := n1_; have BK480 := n2_; have HB := n3_; clear n0_ n1_ n2_ n3_; (try clear hb); (try clear hkp); (try clear hy0)) | ((with_reducible refine gate_callee (f := 32) rfl ?_); refine goesL_ (some 62) rfl rfl Try.func32 (by kernel_rfl) rfl #[.slice Ao32 t513.length co32, .int .i64 1] rfl (by (try simp only [List.map_toArray, List.map_cons, List.map_nil]); first | done | (rw [show t513.length = t501.length from (Kd.R_reads' HO_12.out).1.symm] <;> rfl) | rfl | (simp only [List.length_drop, List.length_take]; rfl)) ?_; (with_reducible refine (laws_heldCellS.calls kj19 _ _ t513 1 t514 _ ?side1 ?side2 A44.out).mono ?_); (case side1 => repeat (first | exact (Kd.R_reads' HO_12.out).2.2 | (with_reducible refine Kd.C_alloc ?_ _) | (with_reducible refine Kd.C_drewN ?_ _) | (with_reducible refine Kd.C_drew ?_))); (case side2 => rw [show t513.length = t501.length from (Kd.R_reads' HO_12.out).1.symm]; exact (Kd.R_reads' HO_12.out).2.1); rintro e w' ⟨rfl, ⟨nd, rfl⟩⟩; refine ⟨_, rfl, ?_⟩))
             (try (rw [drewN_self w72]; generalize hq_ : World.drewN w72 _ = w72; have n0_ : Aside0 (Kd.R k79 79 w72 w.heap.size (fun k_ => some k_ ≠ (.slice Ao32 t501.length co32 : Value).ownBlock) (.slice Ao33 t490.length co33) t490) := ⟨by rw [← hq_]; exact (rr HO_10)⟩; have n1_ : Aside0 (Kd.R k79 79 w72 w.heap.size (fun k_ => some k_ ≠ (.slice Ao33 t490.length co33 : Value).ownBlock) (.slice Ao32 t501.length co32) t513) := ⟨by rw [← hq_]; exact (rr HO_12)⟩; have n2_ : Aside0 (w72.heap[gb480]? = some (.cells #[.int .i64 a3_0, .int .i64 a3_1, .bool a3_2, .bool a3_3, .bool a3_4] 50 (0, 0))) := ⟨by rw [← hq_]; exact (rk BK480)⟩; have n3_ : Aside0 (Below w.heap.size w w72) := ⟨by rw [← hq_]; exact (rb1 HB GE480)⟩; clear HO_10 HO_12 BK480 HB hq_; have HO_10 := n0_; have HO_12 := n1_; have BK480 := n2_; have HB := n3_; clear n0_ n1_ n2_ n3_))
             have n0_ := am (Kd.R_drew HO_10.out)
             have n1_ := am (Kd.R_drew HO_12.out)
             have n2_ := am (blk_drew BK480.out)
             have n3_ := am (below_drew1 HB.out)
             clear HO_10
             clear HO_12
             clear BK480
             clear HB
             have HO_10 := n0_
             have HO_12 := n1_
             have BK480 := n2_
             have HB := n3_
             clear n0_ n1_ n2_ n3_
             refine start_ (n := 8) (S := fun w' => w'.cell? ⟨gb480, 0, none⟩ = some (.int .i64 a3_0) ∧ w'.cell? ⟨gb480, 1, none⟩ = some (.int .i64 a3_1) ∧ w'.cell? ⟨gb480, 2, none⟩ = some (.bool a3_2) ∧ w'.cell? ⟨gb480, 3, none⟩ = some (.bool a3_3) ∧ w'.cell? ⟨gb480, 4, none⟩ = some (.bool a3_4)) (ds := []) (bm 8 0) (by kernel_rfl) rfl rfl ⟨(blk_cell BK480.out 0).trans rfl, (blk_cell BK480.out 1).trans rfl, (blk_cell BK480.out 2).trans rfl, (blk_cell BK480.out 3).trans rfl, (blk_cell BK480.out 4).trans rfl⟩ (fun hHeld => ?_); refine with_tabW laws_FnExactWritten.tab24 laws_FnExactWritten.bits24 (fun HT_ HW_ => ?_)
             generalize w72.drew = w73 at HO_10 HO_12 BK480 HB hHeld ⊢
             refine pu_ 0 68 (bm 8 1) HT_.out ?_
             refine pu_ 2 70 (bm 8 5) HT_.out ?_
             refine pu_ 3 71 (bm 8 13) HT_.out ?_
             refine take_ (i := 4) (N := some 72) (v := ?_) (a' := ?_) (bm 8 29) rfl rfl (take_ofW HT_.out HW_.out (by kernel_rfl)) (fun _ _ _ h => h) (Or.inl ⟨by rfl, ?_⟩) hHeld ?_ ?_
             rotate_left
             ·rintro w' ⟨s0, s1, s2, s3, s4⟩
              go_simp
              with_reducible rfl
             rotate_left
             ·simp only [Act.put, List.setIfInBounds_toArray, List.set_cons_zero, List.set_cons_succ, i64_w, i32_w]
              rfl
             refine one_ (i := 1) (N := some 69) (bm 8 31) rfl rfl (one_of HT_.out (by kernel_rfl)) (by decide) (fun K hK => ?_)
             refine goes_ Try.func27 (by kernel_rfl) rfl #[.slice A0 l0.length c0] (by rfl) rfl rfl (by (try simp only [List.map_toArray, List.map_cons, List.map_nil]); first | done | rfl | (simp only [List.length_drop, List.length_take]; rfl)) ?_
             with_reducible refine (laws_toCellS.calls kj19 _ _ l0 t515 _ ?side1 ?side2 A48.out).mono ?_
             (case side1 => exact rc ((Kd.C_below HR0.out HB.out)))
             (case side2 => exact HC0.out)
             rintro e w74 ⟨v516, rfl, ho0, hb⟩
             refine ⟨_, rfl, ?_⟩
             have n0_ := am (Kd.R_elder' (rr HO_10) (Kd.R_base ho0) hb)
             have n1_ := am (Kd.R_elder' (rr HO_12) (Kd.R_base ho0) hb)
             have n2_ := am (Kd.R_lower (Kd.R_new' (Kd.R_new' ho0 (Kd.R_lt (rr HO_10))) (Kd.R_lt (rr HO_12))) (below_size (rb1 HB GE480)))
             have n3_ := am (blk_below (g := gb480) (o := .cells #[.int .i64 a3_0, .int .i64 a3_1, .bool a3_2, .bool a3_3, .bool a3_4] 50 (0, 0)) (rk BK480) hb)
             have n4_ := am (below_step (rb1 HB GE480) hb)
             clear HO_10
             clear HO_12
             clear BK480
             clear HB
             have HO_10 := n0_
             have HO_12 := n1_
             have HO517 := n2_
             have BK480 := n3_
             have HB := n4_
             clear n0_ n1_ n2_ n3_ n4_
             (try clear hb)
             (try clear hb2)
             (try clear hk)
             (try clear hi)
             (try clear ho0)
             refine hK.out _ _ ⟨(blk_cell BK480.out 0).trans rfl, (blk_cell BK480.out 1).trans rfl, (blk_cell BK480.out 2).trans rfl, (blk_cell BK480.out 3).trans rfl, (blk_cell BK480.out 4).trans rfl⟩ (fun hHeld => ?_)
             clear hK K
             refine norm_ (a' := ?_) ?_ ?_
             rotate_left
             ·show Act.put _ (some 69) _ = _
              simp only [Act.put, List.setIfInBounds_toArray, List.set_cons_zero, List.set_cons_succ, i64_w, i32_w]
              rfl
             refine one_ (i := 5) (N := some 73) (bm 8 63) rfl rfl (one_of HT_.out (by kernel_rfl)) (by decide) (fun K hK => ?_)
             refine goes_ Try.func28 (by kernel_rfl) rfl #[.agg #[.int .i64 a3_0, .int .i64 a3_1, .bool a3_2, .bool a3_3, .bool a3_4]] (by rfl) rfl rfl (by (try simp only [List.map_toArray, List.map_cons, List.map_nil]); first | done | rfl | (simp only [List.length_drop, List.length_take]; rfl)) ?_
             with_reducible refine (laws_toStyle.calls a3_0 a3_1 a3_2 a3_3 a3_4 t518 t519 t520 t521 t522 _ A49.out).mono ?_
             rintro e w75 ⟨rfl, hb⟩
             refine ⟨_, rfl, ?_⟩
             have n0_ := am (Kd.R_below (rr HO_10) hb)
             have n1_ := am (Kd.R_below (rr HO_12) hb)
             have n2_ := am (Kd.R_below (rr HO517) hb)
             have n3_ := am (blk_below (g := gb480) (o := .cells #[.int .i64 a3_0, .int .i64 a3_1, .bool a3_2, .bool a3_3, .bool a3_4] 50 (0, 0)) (rk BK480) hb)
             have n4_ := am (below_step (rb1 HB GE480) hb)
             clear HO_10
             clear HO_12
             clear HO517
             clear BK480
             clear HB
             have HO_10 := n0_
             have HO_12 := n1_
             have HO517 := n2_
             have BK480 := n3_
             have HB := n4_
             clear n0_ n1_ n2_ n3_ n4_
             (try clear hb)
             (try clear hb2)
             (try clear hk)
             (try clear hi)
             obtain ⟨Ao76, co76, eo76⟩ := Kd.R_slice HO517.out
             (first | subst eo76 | (injection eo76 with f1_ f2_ f3_; have f4_ := f1_.symm; have f5_ := f3_.symm; clear f1_ f2_ f3_; subst f4_; subst f5_))
             refine hK.out _ _ ⟨(blk_cell BK480.out 0).trans rfl, (blk_cell BK480.out 1).trans rfl, (blk_cell BK480.out 2).trans rfl, (blk_cell BK480.out 3).trans rfl, (blk_cell BK480.out 4).trans rfl⟩ (fun hHeld => ?_)
             clear hK K
             refine norm_ (a' := ?_) ?_ ?_
             rotate_left
             ·show Act.put _ (some 73) _ = _
              simp only [Act.put, List.setIfInBounds_toArray, List.set_cons_zero, List.set_cons_succ, i64_w, i32_w]
              rfl
             refine one_ (i := 6) (N := some 74) (bm 8 127) rfl rfl (one_of HT_.out (by kernel_rfl)) (by decide) (fun K hK => ?_)
             refine goes_ Try.func34 (by kernel_rfl) rfl #[.slice Ao76 t515.length co76, .int .i64 a1, .int .i64 a2, .agg #[.int .i64 t518, .int .i64 t519, .bool t520, .bool t521, .bool t522]] (by rfl) rfl rfl (by (try simp only [List.map_toArray, List.map_cons, List.map_nil]); first | done | rfl | (simp only [List.length_drop, List.length_take]; rfl)) ?_
             with_reducible refine (impl_Written.calls kj19 _ _ t515 a1 a2 t518 t519 t520 t521 t522 t523 _ ?side1 ?side2 A50.out).mono ?_
             (case side1 => repeat (first | exact (Kd.R_reads' HO517.out).2.2 | (with_reducible refine Kd.C_alloc ?_ _) | (with_reducible refine Kd.C_drewN ?_ _) | (with_reducible refine Kd.C_drew ?_)))
             (case side2 => exact (Kd.R_reads' HO517.out).2.1)
             rintro e w77 ⟨v524, rfl, ho0, hb⟩
             refine ⟨_, rfl, ?_⟩
             have n0_ := am (Kd.R_elder' (rr HO_10) (Kd.R_base ho0) hb)
             have n1_ := am (Kd.R_elder' (rr HO_12) (Kd.R_base ho0) hb)
             have n2_ := am (Kd.R_elder' (rr HO517) (Kd.R_base ho0) hb)
             have n3_ := am (Kd.R_lower (Kd.R_new' (Kd.R_new' (Kd.R_new' ho0 (Kd.R_lt (rr HO_10))) (Kd.R_lt (rr HO_12))) (Kd.R_lt (rr HO517))) (below_size (rb1 HB GE480)))
             have n4_ := am (blk_below (g := gb480) (o := .cells #[.int .i64 a3_0, .int .i64 a3_1, .bool a3_2, .bool a3_3, .bool a3_4] 50 (0, 0)) (rk BK480) hb)
             have n5_ := am (below_step (rb1 HB GE480) hb)
             clear HO_10
             clear HO_12
             clear HO517
             clear BK480
             clear HB
             have HO_10 := n0_
             have HO_12 := n1_
             have HO517 := n2_
             have HO525 := n3_
             have BK480 := n4_
             have HB := n5_
             clear n0_ n1_ n2_ n3_ n4_ n5_
             (try clear hb)
             (try clear hb2)
             (try clear hk)
             (try clear hi)
             (try clear ho0)
             refine hK.out _ _ ⟨(blk_cell BK480.out 0).trans rfl, (blk_cell BK480.out 1).trans rfl, (blk_cell BK480.out 2).trans rfl, (blk_cell BK480.out 3).trans rfl, (blk_cell BK480.out 4).trans rfl⟩ (fun hHeld => ?_)
             clear hK K
             refine norm_ (a' := ?_) ?_ ?_
             rotate_left
             ·show Act.put _ (some 74) _ = _
              simp only [Act.put, List.setIfInBounds_toArray, List.set_cons_zero, List.set_cons_succ, i64_w, i32_w]
              rfl
             refine pu_ 7 16 (bm 8 255) HT_.out ?_
             refine done_ (done_of HT_.out (by kernel_rfl)) ?_
             obtain ⟨Ao78, co78, eo78⟩ := Kd.R_slice HO525.out
             subst eo78
             try go_wp2_with (first | ((with_reducible refine gate_callee (f := 30) rfl ?_); refine gl_ (some 77) Try.func30 #[.slice Ao78 t523.length co78, .slice Ao33 t490.length co33] ?_; (with_reducible refine (laws_eqCellS.calls kj19 _ _ t523 _ _ t490 true _ ?side1 ?side2 ?side3 ?side4 A51.out).mono ?_); (case side1 => repeat (first | exact (Kd.R_reads' HO525.out).2.2 | (with_reducible refine Kd.C_alloc ?_ _) | (with_reducible refine Kd.C_drewN ?_ _) | (with_reducible refine Kd.C_drew ?_))); (case side2 => exact (Kd.R_reads' HO525.out).2.1); (case side3 => repeat (first | exact (Kd.R_reads' HO_10.out).2.2 | (with_reducible refine Kd.C_alloc ?_ _) | (with_reducible refine Kd.C_drewN ?_ _) | (with_reducible refine Kd.C_drew ?_))); (case side4 => exact (Kd.R_reads' HO_10.out).2.1); rintro e w79 ⟨rfl, hb⟩; refine ⟨_, rfl, ?_⟩; have n0_ := am (Kd.R_below (rr HO_10) hb); have n1_ := am (Kd.R_below (rr HO_12) hb); have n2_ := am (Kd.R_below (rr HO517) hb); have n3_ := am (Kd.R_below (rr HO525) hb); have n4_ := am (blk_below (g := gb480) (o := .cells #[.int .i64 a3_0, .int .i64 a3_1, .bool a3_2, .bool a3_3, .bool a3_4] 50 (0, 0)) (rk BK480) hb); have n5_ := am (below_step (rb1 HB GE480) hb); clear HO_10; clear HO_12; clear HO517; clear HO525; clear BK480; clear HB; have HO_10 := n0_; have HO_12 := n1_; have HO517 := n2_; have HO525 := n3_; have BK480 := n4_; have HB := n5_; clear n0_ n1_ n2_ n3_ n4_ n5_; (try clear hb); (try clear hb2); (try clear hk); (try clear hi)) | ((with_reducible refine gate_callee (f := 32) rfl ?_); refine goesL_ (some 81) rfl rfl Try.func32 (by kernel_rfl) rfl #[.slice Ao32 t513.length co32, .int .i64 1] rfl (by (try simp only [List.map_toArray, List.map_cons, List.map_nil]); first | done | (rw [show t513.length = t501.length from (Kd.R_reads' HO_12.out).1.symm] <;> rfl) | rfl | (simp only [List.length_drop, List.length_take]; rfl)) ?_; (with_reducible refine (laws_heldCellS.calls kj19 _ _ t513 1 t527 _ ?side1 ?side2 A53.out).mono ?_); (case side1 => repeat (first | exact (Kd.R_reads' HO_12.out).2.2 | (with_reducible refine Kd.C_alloc ?_ _) | (with_reducible refine Kd.C_drewN ?_ _) | (with_reducible refine Kd.C_drew ?_))); (case side2 => rw [show t513.length = t501.length from (Kd.R_reads' HO_12.out).1.symm]; exact (Kd.R_reads' HO_12.out).2.1); rintro e w' ⟨rfl, ⟨nd, rfl⟩⟩; refine ⟨_, rfl, ?_⟩))
             go_ret
             exact ⟨by first | rfl | (simp [errW_none, errW_some] <;> rfl) | (simp [*, errW_none, errW_some] <;> rfl), by repeat (first | (with_reducible first | exact HB.out | apply b1 | apply b2 | apply b3 | refine below_set ?_ GE480.out) | exact HB.out)⟩)
         ·replace c52 := Bool.eq_false_iff.mpr c52
          subst c52
          have H1 : (some false) = some r := by rw [if_neg (show ¬ (false = true) by decide)] at H; exact H
          clear H
          have H := H1
          clear H1
          first
          | with_reducible exact absurd (Option.some.inj (H.trans (congrArg some hT_))) Bool.false_ne_true
          | (
           obtain rfl := Option.some.inj H
           try go_wp2_with (first | ((with_reducible refine gate_callee (f := 31) rfl ?_); refine gl_ (some 59) Try.func31 #[.slice Ao32 t501.length co32, .int .i64 1] ?_; (with_reducible refine (laws_markCellS.calls kj19 (fun k_ => some k_ = (.slice Ao32 t501.length co32 : Value).ownBlock) (.slice Ao32 t501.length co32) t501 1 t512 t513 w _ ?side1 ?side2 A43.out).mono ?_); (case side1 => repeat (first | (with_reducible first | exact HB.out | apply b1 | apply b2 | apply b3 | refine below_set ?_ GE480.out) | exact HB.out)); (case side2 => exact Kd.R_tight rfl HO_12.out); rintro e w80 ⟨rfl, hy0, hb, hkp⟩; refine ⟨_, rfl, ?_⟩; have n0_ := am (Kd.R_mono (ok' := fun k_ => some k_ ≠ (.slice Ao32 t501.length co32 : Value).ownBlock) (Kd.R_keptB (HO_10.out) hkp (fun k_ hk_ hs_ => (hk_) hs_)) (fun k_ hk_ => hk_.1)); have n1_ := am (Kd.R_reok rfl hy0 (fun k_ e_ => HO_12.out.1 k_ e_)); have n2_ := am (blk_kept (rk BK480) hkp (fun hs_ => (fun e_ => (Kd.R_ne HO_12.out BK480.out (by decide)) e_) hs_)); have n3_ := am (hb); clear HO_10; clear HO_12; clear BK480; clear HB; have HO_10 := n0_; have HO_12 := n1_; have BK480 := n2_; have HB := n3_; clear n0_ n1_ n2_ n3_; (try clear hb); (try clear hkp); (try clear hy0)) | ((with_reducible refine gate_callee (f := 32) rfl ?_); refine goesL_ (some 62) rfl rfl Try.func32 (by kernel_rfl) rfl #[.slice Ao32 t513.length co32, .int .i64 1] rfl (by (try simp only [List.map_toArray, List.map_cons, List.map_nil]); first | done | (rw [show t513.length = t501.length from (Kd.R_reads' HO_12.out).1.symm] <;> rfl) | rfl | (simp only [List.length_drop, List.length_take]; rfl)) ?_; (with_reducible refine (laws_heldCellS.calls kj19 _ _ t513 1 t514 _ ?side1 ?side2 A44.out).mono ?_); (case side1 => repeat (first | exact (Kd.R_reads' HO_12.out).2.2 | (with_reducible refine Kd.C_alloc ?_ _) | (with_reducible refine Kd.C_drewN ?_ _) | (with_reducible refine Kd.C_drew ?_))); (case side2 => rw [show t513.length = t501.length from (Kd.R_reads' HO_12.out).1.symm]; exact (Kd.R_reads' HO_12.out).2.1); rintro e w' ⟨rfl, ⟨nd, rfl⟩⟩; refine ⟨_, rfl, ?_⟩))
           (try (rw [drewN_self w80]; generalize hq_ : World.drewN w80 _ = w80; have n0_ : Aside0 (Kd.R k79 79 w80 w.heap.size (fun k_ => some k_ ≠ (.slice Ao32 t501.length co32 : Value).ownBlock) (.slice Ao33 t490.length co33) t490) := ⟨by rw [← hq_]; exact (rr HO_10)⟩; have n1_ : Aside0 (Kd.R k79 79 w80 w.heap.size (fun k_ => some k_ ≠ (.slice Ao33 t490.length co33 : Value).ownBlock) (.slice Ao32 t501.length co32) t513) := ⟨by rw [← hq_]; exact (rr HO_12)⟩; have n2_ : Aside0 (w80.heap[gb480]? = some (.cells #[.int .i64 a3_0, .int .i64 a3_1, .bool a3_2, .bool a3_3, .bool a3_4] 50 (0, 0))) := ⟨by rw [← hq_]; exact (rk BK480)⟩; have n3_ : Aside0 (Below w.heap.size w w80) := ⟨by rw [← hq_]; exact (rb1 HB GE480)⟩; clear HO_10 HO_12 BK480 HB hq_; have HO_10 := n0_; have HO_12 := n1_; have BK480 := n2_; have HB := n3_; clear n0_ n1_ n2_ n3_))
           have n0_ := am (Kd.R_drew HO_10.out)
           have n1_ := am (Kd.R_drew HO_12.out)
           have n2_ := am (blk_drew BK480.out)
           have n3_ := am (below_drew1 HB.out)
           clear HO_10
           clear HO_12
           clear BK480
           clear HB
           have HO_10 := n0_
           have HO_12 := n1_
           have BK480 := n2_
           have HB := n3_
           clear n0_ n1_ n2_ n3_
           refine start_ (n := 8) (S := fun w' => w'.cell? ⟨gb480, 0, none⟩ = some (.int .i64 a3_0) ∧ w'.cell? ⟨gb480, 1, none⟩ = some (.int .i64 a3_1) ∧ w'.cell? ⟨gb480, 2, none⟩ = some (.bool a3_2) ∧ w'.cell? ⟨gb480, 3, none⟩ = some (.bool a3_3) ∧ w'.cell? ⟨gb480, 4, none⟩ = some (.bool a3_4)) (ds := []) (bm 8 0) (by kernel_rfl) rfl rfl ⟨(blk_cell BK480.out 0).trans rfl, (blk_cell BK480.out 1).trans rfl, (blk_cell BK480.out 2).trans rfl, (blk_cell BK480.out 3).trans rfl, (blk_cell BK480.out 4).trans rfl⟩ (fun hHeld => ?_); refine with_tabW laws_FnExactWritten.tab24 laws_FnExactWritten.bits24 (fun HT_ HW_ => ?_)
           generalize w80.drew = w81 at HO_10 HO_12 BK480 HB hHeld ⊢
           refine pu_ 0 68 (bm 8 1) HT_.out ?_
           refine pu_ 2 70 (bm 8 5) HT_.out ?_
           refine pu_ 3 71 (bm 8 13) HT_.out ?_
           refine take_ (i := 4) (N := some 72) (v := ?_) (a' := ?_) (bm 8 29) rfl rfl (take_ofW HT_.out HW_.out (by kernel_rfl)) (fun _ _ _ h => h) (Or.inl ⟨by rfl, ?_⟩) hHeld ?_ ?_
           rotate_left
           ·rintro w' ⟨s0, s1, s2, s3, s4⟩
            go_simp
            with_reducible rfl
           rotate_left
           ·simp only [Act.put, List.setIfInBounds_toArray, List.set_cons_zero, List.set_cons_succ, i64_w, i32_w]
            rfl
           refine one_ (i := 1) (N := some 69) (bm 8 31) rfl rfl (one_of HT_.out (by kernel_rfl)) (by decide) (fun K hK => ?_)
           refine goes_ Try.func27 (by kernel_rfl) rfl #[.slice A0 l0.length c0] (by rfl) rfl rfl (by (try simp only [List.map_toArray, List.map_cons, List.map_nil]); first | done | rfl | (simp only [List.length_drop, List.length_take]; rfl)) ?_
           with_reducible refine (laws_toCellS.calls kj19 _ _ l0 t515 _ ?side1 ?side2 A48.out).mono ?_
           (case side1 => exact rc ((Kd.C_below HR0.out HB.out)))
           (case side2 => exact HC0.out)
           rintro e w82 ⟨v516, rfl, ho0, hb⟩
           refine ⟨_, rfl, ?_⟩
           have n0_ := am (Kd.R_elder' (rr HO_10) (Kd.R_base ho0) hb)
           have n1_ := am (Kd.R_elder' (rr HO_12) (Kd.R_base ho0) hb)
           have n2_ := am (Kd.R_lower (Kd.R_new' (Kd.R_new' ho0 (Kd.R_lt (rr HO_10))) (Kd.R_lt (rr HO_12))) (below_size (rb1 HB GE480)))
           have n3_ := am (blk_below (g := gb480) (o := .cells #[.int .i64 a3_0, .int .i64 a3_1, .bool a3_2, .bool a3_3, .bool a3_4] 50 (0, 0)) (rk BK480) hb)
           have n4_ := am (below_step (rb1 HB GE480) hb)
           clear HO_10
           clear HO_12
           clear BK480
           clear HB
           have HO_10 := n0_
           have HO_12 := n1_
           have HO517 := n2_
           have BK480 := n3_
           have HB := n4_
           clear n0_ n1_ n2_ n3_ n4_
           (try clear hb)
           (try clear hb2)
           (try clear hk)
           (try clear hi)
           (try clear ho0)
           refine hK.out _ _ ⟨(blk_cell BK480.out 0).trans rfl, (blk_cell BK480.out 1).trans rfl, (blk_cell BK480.out 2).trans rfl, (blk_cell BK480.out 3).trans rfl, (blk_cell BK480.out 4).trans rfl⟩ (fun hHeld => ?_)
           clear hK K
           refine norm_ (a' := ?_) ?_ ?_
           rotate_left
           ·show Act.put _ (some 69) _ = _
            simp only [Act.put, List.setIfInBounds_toArray, List.set_cons_zero, List.set_cons_succ, i64_w, i32_w]
            rfl
           refine one_ (i := 5) (N := some 73) (bm 8 63) rfl rfl (one_of HT_.out (by kernel_rfl)) (by decide) (fun K hK => ?_)
           refine goes_ Try.func28 (by kernel_rfl) rfl #[.agg #[.int .i64 a3_0, .int .i64 a3_1, .bool a3_2, .bool a3_3, .bool a3_4]] (by rfl) rfl rfl (by (try simp only [List.map_toArray, List.map_cons, List.map_nil]); first | done | rfl | (simp only [List.length_drop, List.length_take]; rfl)) ?_
           with_reducible refine (laws_toStyle.calls a3_0 a3_1 a3_2 a3_3 a3_4 t518 t519 t520 t521 t522 _ A49.out).mono ?_
           rintro e w83 ⟨rfl, hb⟩
           refine ⟨_, rfl, ?_⟩
           have n0_ := am (Kd.R_below (rr HO_10) hb)
           have n1_ := am (Kd.R_below (rr HO_12) hb)
           have n2_ := am (Kd.R_below (rr HO517) hb)
           have n3_ := am (blk_below (g := gb480) (o := .cells #[.int .i64 a3_0, .int .i64 a3_1, .bool a3_2, .bool a3_3, .bool a3_4] 50 (0, 0)) (rk BK480) hb)
           have n4_ := am (below_step (rb1 HB GE480) hb)
           clear HO_10
           clear HO_12
           clear HO517
           clear BK480
           clear HB
           have HO_10 := n0_
           have HO_12 := n1_
           have HO517 := n2_
           have BK480 := n3_
           have HB := n4_
           clear n0_ n1_ n2_ n3_ n4_
           (try clear hb)
           (try clear hb2)
           (try clear hk)
           (try clear hi)
           obtain ⟨Ao84, co84, eo84⟩ := Kd.R_slice HO517.out
           (first | subst eo84 | (injection eo84 with f1_ f2_ f3_; have f4_ := f1_.symm; have f5_ := f3_.symm; clear f1_ f2_ f3_; subst f4_; subst f5_))
           refine hK.out _ _ ⟨(blk_cell BK480.out 0).trans rfl, (blk_cell BK480.out 1).trans rfl, (blk_cell BK480.out 2).trans rfl, (blk_cell BK480.out 3).trans rfl, (blk_cell BK480.out 4).trans rfl⟩ (fun hHeld => ?_)
           clear hK K
           refine norm_ (a' := ?_) ?_ ?_
           rotate_left
           ·show Act.put _ (some 73) _ = _
            simp only [Act.put, List.setIfInBounds_toArray, List.set_cons_zero, List.set_cons_succ, i64_w, i32_w]
            rfl
           refine one_ (i := 6) (N := some 74) (bm 8 127) rfl rfl (one_of HT_.out (by kernel_rfl)) (by decide) (fun K hK => ?_)
           refine goes_ Try.func34 (by kernel_rfl) rfl #[.slice Ao84 t515.length co84, .int .i64 a1, .int .i64 a2, .agg #[.int .i64 t518, .int .i64 t519, .bool t520, .bool t521, .bool t522]] (by rfl) rfl rfl (by (try simp only [List.map_toArray, List.map_cons, List.map_nil]); first | done | rfl | (simp only [List.length_drop, List.length_take]; rfl)) ?_
           with_reducible refine (impl_Written.calls kj19 _ _ t515 a1 a2 t518 t519 t520 t521 t522 t523 _ ?side1 ?side2 A50.out).mono ?_
           (case side1 => repeat (first | exact (Kd.R_reads' HO517.out).2.2 | (with_reducible refine Kd.C_alloc ?_ _) | (with_reducible refine Kd.C_drewN ?_ _) | (with_reducible refine Kd.C_drew ?_)))
           (case side2 => exact (Kd.R_reads' HO517.out).2.1)
           rintro e w85 ⟨v524, rfl, ho0, hb⟩
           refine ⟨_, rfl, ?_⟩
           have n0_ := am (Kd.R_elder' (rr HO_10) (Kd.R_base ho0) hb)
           have n1_ := am (Kd.R_elder' (rr HO_12) (Kd.R_base ho0) hb)
           have n2_ := am (Kd.R_elder' (rr HO517) (Kd.R_base ho0) hb)
           have n3_ := am (Kd.R_lower (Kd.R_new' (Kd.R_new' (Kd.R_new' ho0 (Kd.R_lt (rr HO_10))) (Kd.R_lt (rr HO_12))) (Kd.R_lt (rr HO517))) (below_size (rb1 HB GE480)))
           have n4_ := am (blk_below (g := gb480) (o := .cells #[.int .i64 a3_0, .int .i64 a3_1, .bool a3_2, .bool a3_3, .bool a3_4] 50 (0, 0)) (rk BK480) hb)
           have n5_ := am (below_step (rb1 HB GE480) hb)
           clear HO_10
           clear HO_12
           clear HO517
           clear BK480
           clear HB
           have HO_10 := n0_
           have HO_12 := n1_
           have HO517 := n2_
           have HO525 := n3_
           have BK480 := n4_
           have HB := n5_
           clear n0_ n1_ n2_ n3_ n4_ n5_
           (try clear hb)
           (try clear hb2)
           (try clear hk)
           (try clear hi)
           (try clear ho0)
           refine hK.out _ _ ⟨(blk_cell BK480.out 0).trans rfl, (blk_cell BK480.out 1).trans rfl, (blk_cell BK480.out 2).trans rfl, (blk_cell BK480.out 3).trans rfl, (blk_cell BK480.out 4).trans rfl⟩ (fun hHeld => ?_)
           clear hK K
           refine norm_ (a' := ?_) ?_ ?_
           rotate_left
           ·show Act.put _ (some 74) _ = _
            simp only [Act.put, List.setIfInBounds_toArray, List.set_cons_zero, List.set_cons_succ, i64_w, i32_w]
            rfl
           refine pu_ 7 16 (bm 8 255) HT_.out ?_
           refine done_ (done_of HT_.out (by kernel_rfl)) ?_
           obtain ⟨Ao86, co86, eo86⟩ := Kd.R_slice HO525.out
           subst eo86
           try go_wp2_with (first | ((with_reducible refine gate_callee (f := 30) rfl ?_); refine gl_ (some 77) Try.func30 #[.slice Ao86 t523.length co86, .slice Ao33 t490.length co33] ?_; (with_reducible refine (laws_eqCellS.calls kj19 _ _ t523 _ _ t490 false _ ?side1 ?side2 ?side3 ?side4 A51.out).mono ?_); (case side1 => repeat (first | exact (Kd.R_reads' HO525.out).2.2 | (with_reducible refine Kd.C_alloc ?_ _) | (with_reducible refine Kd.C_drewN ?_ _) | (with_reducible refine Kd.C_drew ?_))); (case side2 => exact (Kd.R_reads' HO525.out).2.1); (case side3 => repeat (first | exact (Kd.R_reads' HO_10.out).2.2 | (with_reducible refine Kd.C_alloc ?_ _) | (with_reducible refine Kd.C_drewN ?_ _) | (with_reducible refine Kd.C_drew ?_))); (case side4 => exact (Kd.R_reads' HO_10.out).2.1); rintro e w87 ⟨rfl, hb⟩; refine ⟨_, rfl, ?_⟩; have n0_ := am (Kd.R_below (rr HO_10) hb); have n1_ := am (Kd.R_below (rr HO_12) hb); have n2_ := am (Kd.R_below (rr HO517) hb); have n3_ := am (Kd.R_below (rr HO525) hb); have n4_ := am (blk_below (g := gb480) (o := .cells #[.int .i64 a3_0, .int .i64 a3_1, .bool a3_2, .bool a3_3, .bool a3_4] 50 (0, 0)) (rk BK480) hb); have n5_ := am (below_step (rb1 HB GE480) hb); clear HO_10; clear HO_12; clear HO517; clear HO525; clear BK480; clear HB; have HO_10 := n0_; have HO_12 := n1_; have HO517 := n2_; have HO525 := n3_; have BK480 := n4_; have HB := n5_; clear n0_ n1_ n2_ n3_ n4_ n5_; (try clear hb); (try clear hb2); (try clear hk); (try clear hi)))
           go_ret
           exact ⟨by first | rfl | (simp [errW_none, errW_some] <;> rfl) | (simp [*, errW_none, errW_some] <;> rfl), by repeat (first | (with_reducible first | exact HB.out | apply b1 | apply b2 | apply b3 | refine below_set ?_ GE480.out) | exact HB.out)⟩)
        ·rw [if_neg c47] at H
         have c47b0 : (t514 == t512) = false := beq_eq_false_iff_ne.mpr c47
         have c47b1 : (t514 != t512) = true := bne_iff_ne.mpr c47
         first
         | with_reducible exact absurd (Option.some.inj (H.trans (congrArg some hT_))) Bool.false_ne_true
         | (
          obtain rfl := Option.some.inj H
          go_wp2_with (first | ((with_reducible refine gate_callee (f := 31) rfl ?_); refine gl_ (some 59) Try.func31 #[.slice Ao32 t501.length co32, .int .i64 1] ?_; (with_reducible refine (laws_markCellS.calls kj19 (fun k_ => some k_ = (.slice Ao32 t501.length co32 : Value).ownBlock) (.slice Ao32 t501.length co32) t501 1 t512 t513 w _ ?side1 ?side2 A43.out).mono ?_); (case side1 => repeat (first | (with_reducible first | exact HB.out | apply b1 | apply b2 | apply b3 | refine below_set ?_ GE480.out) | exact HB.out)); (case side2 => exact Kd.R_tight rfl HO_12.out); rintro e w88 ⟨rfl, hy0, hb, hkp⟩; refine ⟨_, rfl, ?_⟩; have n0_ := am (Kd.R_mono (ok' := fun k_ => some k_ ≠ (.slice Ao32 t501.length co32 : Value).ownBlock) (Kd.R_keptB (HO_10.out) hkp (fun k_ hk_ hs_ => (hk_) hs_)) (fun k_ hk_ => hk_.1)); have n1_ := am (Kd.R_reok rfl hy0 (fun k_ e_ => HO_12.out.1 k_ e_)); have n2_ := am (blk_kept (rk BK480) hkp (fun hs_ => (fun e_ => (Kd.R_ne HO_12.out BK480.out (by decide)) e_) hs_)); have n3_ := am (hb); clear HO_10; clear HO_12; clear BK480; clear HB; have HO_10 := n0_; have HO_12 := n1_; have BK480 := n2_; have HB := n3_; clear n0_ n1_ n2_ n3_; (try clear hb); (try clear hkp); (try clear hy0)) | ((with_reducible refine gate_callee (f := 32) rfl ?_); refine goesL_ (some 62) rfl rfl Try.func32 (by kernel_rfl) rfl #[.slice Ao32 t513.length co32, .int .i64 1] rfl (by (try simp only [List.map_toArray, List.map_cons, List.map_nil]); first | done | (rw [show t513.length = t501.length from (Kd.R_reads' HO_12.out).1.symm] <;> rfl) | rfl | (simp only [List.length_drop, List.length_take]; rfl)) ?_; (with_reducible refine (laws_heldCellS.calls kj19 _ _ t513 1 t514 _ ?side1 ?side2 A44.out).mono ?_); (case side1 => repeat (first | exact (Kd.R_reads' HO_12.out).2.2 | (with_reducible refine Kd.C_alloc ?_ _) | (with_reducible refine Kd.C_drewN ?_ _) | (with_reducible refine Kd.C_drew ?_))); (case side2 => rw [show t513.length = t501.length from (Kd.R_reads' HO_12.out).1.symm]; exact (Kd.R_reads' HO_12.out).2.1); rintro e w' ⟨rfl, ⟨nd, rfl⟩⟩; refine ⟨_, rfl, ?_⟩))
          go_ret
          exact ⟨by first | rfl | (simp [errW_none, errW_some] <;> rfl) | (simp [*, errW_none, errW_some] <;> rfl), by repeat (first | (with_reducible first | exact HB.out | apply b1 | apply b2 | apply b3 | refine below_set ?_ GE480.out) | exact HB.out)⟩)
   ·replace c18 := Bool.eq_false_iff.mpr c18
    subst c18
    have H1 : (some false) = some r := by rw [if_neg (show ¬ (false = true) by decide)] at H; exact H
    clear H
    have H := H1
    clear H1
    first
    | with_reducible exact absurd (Option.some.inj (H.trans (congrArg some hT_))) Bool.false_ne_true
    | (
     obtain rfl := Option.some.inj H
     go_enter Try.func7, Try.ntmps7
     try go_wp2_with (first | ((with_reducible refine gate_dst (N := 7) rfl ?_); refine box_event ?hg (N := 7) ?hd (cs := #[.int .i64 a3_0, .int .i64 a3_1, .bool a3_2, .bool a3_3, .bool a3_4]) (t := 50) ?hr ?_; (case hd => rfl); (case hg => rfl); (case hr => first | (go_simp; done) | (go_simp; rfl)); intro gb480 hg w89 hbox hb; have n0_ := am (below_step (rb HB) hb); have n1_ := am (hbox); have n2_ := am ((by rw [hg]; exact (below_size (rb HB)) : w.heap.size ≤ gb480)); have n3_ := am ((by rw [hg]; exact (below_size (rb HB)) : w.heap.size ≤ gb480)); clear HB; have HB := n0_; have BK480 := n1_; have GW480 := n2_; have GE480 := n3_; clear n0_ n1_ n2_ n3_; clear hb hbox hg) | ((with_reducible refine gate_callee (f := 25) rfl ?_); refine gl_ (some 19) Try.func25 #[.slice A0 l0.length c0, .int .i64 1048576] ?_; (with_reducible refine (laws_szCellS.calls _ _ l0 1048576 t481 _ ?side1 ?side2 A5.out).mono ?_); (case side1 => exact rc ((Kd.C_below HR0.out HB.out))); (case side2 => exact HC0.out); rintro e w' ⟨rfl, ⟨nd, rfl⟩⟩; refine ⟨_, rfl, ?_⟩))
     (try (rw [drewN_self w89]; generalize hq_ : World.drewN w89 _ = w89; have n0_ : Aside0 (w89.heap[gb480]? = some (.cells #[.int .i64 a3_0, .int .i64 a3_1, .bool a3_2, .bool a3_3, .bool a3_4] 50 (0, 0))) := ⟨by rw [← hq_]; exact (rk BK480)⟩; have n1_ : Aside0 (Below w.heap.size w w89) := ⟨by rw [← hq_]; exact (rb1 HB GE480)⟩; clear BK480 HB hq_; have BK480 := n0_; have HB := n1_; clear n0_ n1_))
     have n0_ := am (blk_drew BK480.out)
     have n1_ := am (below_drew1 HB.out)
     clear BK480
     clear HB
     have BK480 := n0_
     have HB := n1_
     clear n0_ n1_
     refine start_ (n := 8) (S := fun w' => w'.cell? ⟨gb480, 0, none⟩ = some (.int .i64 a3_0) ∧ w'.cell? ⟨gb480, 1, none⟩ = some (.int .i64 a3_1) ∧ w'.cell? ⟨gb480, 2, none⟩ = some (.bool a3_2) ∧ w'.cell? ⟨gb480, 3, none⟩ = some (.bool a3_3) ∧ w'.cell? ⟨gb480, 4, none⟩ = some (.bool a3_4)) (ds := []) (bm 8 0) (by kernel_rfl) rfl rfl ⟨(blk_cell BK480.out 0).trans rfl, (blk_cell BK480.out 1).trans rfl, (blk_cell BK480.out 2).trans rfl, (blk_cell BK480.out 3).trans rfl, (blk_cell BK480.out 4).trans rfl⟩ (fun hHeld => ?_); refine with_tabW laws_FnExactWritten.tab5 laws_FnExactWritten.bits5 (fun HT_ HW_ => ?_)
     generalize w89.drew = w90 at BK480 HB hHeld ⊢
     refine pu_ 0 22 (bm 8 1) HT_.out ?_
     refine pu_ 2 24 (bm 8 5) HT_.out ?_
     refine pu_ 3 25 (bm 8 13) HT_.out ?_
     refine take_ (i := 4) (N := some 26) (v := ?_) (a' := ?_) (bm 8 29) rfl rfl (take_ofW HT_.out HW_.out (by kernel_rfl)) (fun _ _ _ h => h) (Or.inl ⟨by rfl, ?_⟩) hHeld ?_ ?_
     rotate_left
     ·rintro w' ⟨s0, s1, s2, s3, s4⟩
      go_simp
      with_reducible rfl
     rotate_left
     ·simp only [Act.put, List.setIfInBounds_toArray, List.set_cons_zero, List.set_cons_succ, i64_w, i32_w]
      rfl
     refine one_ (i := 1) (N := some 23) (bm 8 31) rfl rfl (one_of HT_.out (by kernel_rfl)) (by decide) (fun K hK => ?_)
     refine goes_ Try.func27 (by kernel_rfl) rfl #[.slice A0 l0.length c0] (by rfl) rfl rfl (by (try simp only [List.map_toArray, List.map_cons, List.map_nil]); first | done | rfl | (simp only [List.length_drop, List.length_take]; rfl)) ?_
     with_reducible refine (laws_toCellS.calls k _ _ l0 t482 _ ?side1 ?side2 A8.out).mono ?_
     (case side1 => exact rc ((Kd.C_below HR0.out HB.out)))
     (case side2 => exact HC0.out)
     rintro e w91 ⟨v483, rfl, ho0, hb⟩
     refine ⟨_, rfl, ?_⟩
     have n0_ := am (Kd.R_lower ho0 (below_size (rb1 HB GE480)))
     have n1_ := am (blk_below (g := gb480) (o := .cells #[.int .i64 a3_0, .int .i64 a3_1, .bool a3_2, .bool a3_3, .bool a3_4] 50 (0, 0)) (rk BK480) hb)
     have n2_ := am (below_step (rb1 HB GE480) hb)
     clear BK480
     clear HB
     have HO484 := n0_
     have BK480 := n1_
     have HB := n2_
     clear n0_ n1_ n2_
     (try clear hb)
     (try clear hb2)
     (try clear hk)
     (try clear hi)
     (try clear ho0)
     refine hK.out _ _ ⟨(blk_cell BK480.out 0).trans rfl, (blk_cell BK480.out 1).trans rfl, (blk_cell BK480.out 2).trans rfl, (blk_cell BK480.out 3).trans rfl, (blk_cell BK480.out 4).trans rfl⟩ (fun hHeld => ?_)
     clear hK K
     refine norm_ (a' := ?_) ?_ ?_
     rotate_left
     ·show Act.put _ (some 23) _ = _
      simp only [Act.put, List.setIfInBounds_toArray, List.set_cons_zero, List.set_cons_succ, i64_w, i32_w]
      rfl
     refine one_ (i := 5) (N := some 27) (bm 8 63) rfl rfl (one_of HT_.out (by kernel_rfl)) (by decide) (fun K hK => ?_)
     refine goes_ Try.func28 (by kernel_rfl) rfl #[.agg #[.int .i64 a3_0, .int .i64 a3_1, .bool a3_2, .bool a3_3, .bool a3_4]] (by rfl) rfl rfl (by (try simp only [List.map_toArray, List.map_cons, List.map_nil]); first | done | rfl | (simp only [List.length_drop, List.length_take]; rfl)) ?_
     with_reducible refine (laws_toStyle.calls a3_0 a3_1 a3_2 a3_3 a3_4 t485 t486 t487 t488 t489 _ A9.out).mono ?_
     rintro e w92 ⟨rfl, hb⟩
     refine ⟨_, rfl, ?_⟩
     have n0_ := am (Kd.R_below (rr HO484) hb)
     have n1_ := am (blk_below (g := gb480) (o := .cells #[.int .i64 a3_0, .int .i64 a3_1, .bool a3_2, .bool a3_3, .bool a3_4] 50 (0, 0)) (rk BK480) hb)
     have n2_ := am (below_step (rb1 HB GE480) hb)
     clear HO484
     clear BK480
     clear HB
     have HO484 := n0_
     have BK480 := n1_
     have HB := n2_
     clear n0_ n1_ n2_
     (try clear hb)
     (try clear hb2)
     (try clear hk)
     (try clear hi)
     obtain ⟨Ao93, co93, eo93⟩ := Kd.R_slice HO484.out
     (first | subst eo93 | (injection eo93 with f1_ f2_ f3_; have f4_ := f1_.symm; have f5_ := f3_.symm; clear f1_ f2_ f3_; subst f4_; subst f5_))
     refine hK.out _ _ ⟨(blk_cell BK480.out 0).trans rfl, (blk_cell BK480.out 1).trans rfl, (blk_cell BK480.out 2).trans rfl, (blk_cell BK480.out 3).trans rfl, (blk_cell BK480.out 4).trans rfl⟩ (fun hHeld => ?_)
     clear hK K
     refine norm_ (a' := ?_) ?_ ?_
     rotate_left
     ·show Act.put _ (some 27) _ = _
      simp only [Act.put, List.setIfInBounds_toArray, List.set_cons_zero, List.set_cons_succ, i64_w, i32_w]
      rfl
     refine one_ (i := 6) (N := some 28) (bm 8 127) rfl rfl (one_of HT_.out (by kernel_rfl)) (by decide) (fun K hK => ?_)
     refine goes_ Try.func33 (by kernel_rfl) rfl #[.slice Ao93 t482.length co93, .int .i64 a1, .int .i64 a2, .agg #[.int .i64 t485, .int .i64 t486, .bool t487, .bool t488, .bool t489]] (by rfl) rfl rfl (by (try simp only [List.map_toArray, List.map_cons, List.map_nil]); first | done | rfl | (simp only [List.length_drop, List.length_take]; rfl)) ?_
     with_reducible refine (spec_Written.calls k _ _ t482 a1 a2 t485 t486 t487 t488 t489 t490 _ ?side1 ?side2 A10.out).mono ?_
     (case side1 => repeat (first | exact (Kd.R_reads' HO484.out).2.2 | (with_reducible refine Kd.C_alloc ?_ _) | (with_reducible refine Kd.C_drewN ?_ _) | (with_reducible refine Kd.C_drew ?_)))
     (case side2 => exact (Kd.R_reads' HO484.out).2.1)
     rintro e w94 ⟨v491, rfl, ho0, hb⟩
     refine ⟨_, rfl, ?_⟩
     have n0_ := am (Kd.R_elder' (rr HO484) (Kd.R_base ho0) hb)
     have n1_ := am (Kd.R_lower (Kd.R_new' ho0 (Kd.R_lt (rr HO484))) (below_size (rb1 HB GE480)))
     have n2_ := am (blk_below (g := gb480) (o := .cells #[.int .i64 a3_0, .int .i64 a3_1, .bool a3_2, .bool a3_3, .bool a3_4] 50 (0, 0)) (rk BK480) hb)
     have n3_ := am (below_step (rb1 HB GE480) hb)
     clear HO484
     clear BK480
     clear HB
     have HO484 := n0_
     have HO492 := n1_
     have BK480 := n2_
     have HB := n3_
     clear n0_ n1_ n2_ n3_
     (try clear hb)
     (try clear hb2)
     (try clear hk)
     (try clear hi)
     (try clear ho0)
     refine hK.out _ _ ⟨(blk_cell BK480.out 0).trans rfl, (blk_cell BK480.out 1).trans rfl, (blk_cell BK480.out 2).trans rfl, (blk_cell BK480.out 3).trans rfl, (blk_cell BK480.out 4).trans rfl⟩ (fun hHeld => ?_)
     clear hK K
     refine norm_ (a' := ?_) ?_ ?_
     rotate_left
     ·show Act.put _ (some 28) _ = _
      simp only [Act.put, List.setIfInBounds_toArray, List.set_cons_zero, List.set_cons_succ, i64_w, i32_w]
      rfl
     refine pu_ 7 10 (bm 8 255) HT_.out ?_
     refine done_ (done_of HT_.out (by kernel_rfl)) ?_
     try go_wp2_with (first | ((with_reducible refine gate_callee (f := 27) rfl ?_); refine gl_ (some 30) Try.func27 #[.slice A0 l0.length c0] ?_; (with_reducible refine (laws_toCellS.calls k _ _ l0 t493 _ ?side1 ?side2 A11.out).mono ?_); (case side1 => exact rc ((Kd.C_below HR0.out HB.out))); (case side2 => exact HC0.out); rintro e w95 ⟨v494, rfl, ho0, hb⟩; refine ⟨_, rfl, ?_⟩; have n0_ := am (Kd.R_elder' (rr HO484) (Kd.R_base ho0) hb); have n1_ := am (Kd.R_elder' (rr HO492) (Kd.R_base ho0) hb); have n2_ := am (Kd.R_lower (Kd.R_new' (Kd.R_new' ho0 (Kd.R_lt (rr HO484))) (Kd.R_lt (rr HO492))) (below_size (rb1 HB GE480))); have n3_ := am (blk_below (g := gb480) (o := .cells #[.int .i64 a3_0, .int .i64 a3_1, .bool a3_2, .bool a3_3, .bool a3_4] 50 (0, 0)) (rk BK480) hb); have n4_ := am (below_step (rb1 HB GE480) hb); clear HO484; clear HO492; clear BK480; clear HB; have HO484 := n0_; have HO492 := n1_; have HO495 := n2_; have BK480 := n3_; have HB := n4_; clear n0_ n1_ n2_ n3_ n4_; (try clear hb); (try clear hb2); (try clear hk); (try clear hi); (try clear ho0); have hcz96_0 : w95.cell? ⟨gb480, 0, none⟩ = some (.int .i64 a3_0) := (blk_cell BK480.out 0).trans rfl; have hcz96_1 : w95.cell? ⟨gb480, 1, none⟩ = some (.int .i64 a3_1) := (blk_cell BK480.out 1).trans rfl; have hcz96_2 : w95.cell? ⟨gb480, 2, none⟩ = some (.bool a3_2) := (blk_cell BK480.out 2).trans rfl; have hcz96_3 : w95.cell? ⟨gb480, 3, none⟩ = some (.bool a3_3) := (blk_cell BK480.out 3).trans rfl; have hcz96_4 : w95.cell? ⟨gb480, 4, none⟩ = some (.bool a3_4) := (blk_cell BK480.out 4).trans rfl; have hfz96_0 := blk_frozen BK480.out 0; have hfz96_1 := blk_frozen BK480.out 1; have hfz96_2 := blk_frozen BK480.out 2; have hfz96_3 := blk_frozen BK480.out 3; have hfz96_4 := blk_frozen BK480.out 4) | ((with_reducible refine gate_callee (f := 28) rfl ?_); refine gl_ (some 35) Try.func28 #[.agg #[.int .i64 a3_0, .int .i64 a3_1, .bool a3_2, .bool a3_3, .bool a3_4]] ?_; (with_reducible refine (laws_toStyle.calls a3_0 a3_1 a3_2 a3_3 a3_4 t496 t497 t498 t499 t500 _ A12.out).mono ?_); rintro e w97 ⟨rfl, hb⟩; refine ⟨_, rfl, ?_⟩; have n0_ := am (Kd.R_below (rr HO484) hb); have n1_ := am (Kd.R_below (rr HO492) hb); have n2_ := am (Kd.R_below (rr HO495) hb); have n3_ := am (blk_below (g := gb480) (o := .cells #[.int .i64 a3_0, .int .i64 a3_1, .bool a3_2, .bool a3_3, .bool a3_4] 50 (0, 0)) (rk BK480) hb); have n4_ := am (below_step (rb1 HB GE480) hb); clear HO484; clear HO492; clear HO495; clear BK480; clear HB; have HO484 := n0_; have HO492 := n1_; have HO495 := n2_; have BK480 := n3_; have HB := n4_; clear n0_ n1_ n2_ n3_ n4_; (try clear hb); (try clear hb2); (try clear hk); (try clear hi); obtain ⟨Ao98, co98, eo98⟩ := Kd.R_slice HO495.out; subst eo98) | ((with_reducible refine gate_callee (f := 34) rfl ?_); refine gl_ (some 36) Try.func34 #[.slice Ao98 t493.length co98, .int .i64 a1, .int .i64 a2, .agg #[.int .i64 t496, .int .i64 t497, .bool t498, .bool t499, .bool t500]] ?_; (with_reducible refine (impl_Written.calls k _ _ t493 a1 a2 t496 t497 t498 t499 t500 t501 _ ?side1 ?side2 A13.out).mono ?_); (case side1 => repeat (first | exact (Kd.R_reads' HO495.out).2.2 | (with_reducible refine Kd.C_alloc ?_ _) | (with_reducible refine Kd.C_drewN ?_ _) | (with_reducible refine Kd.C_drew ?_))); (case side2 => exact (Kd.R_reads' HO495.out).2.1); rintro e w99 ⟨v502, rfl, ho0, hb⟩; refine ⟨_, rfl, ?_⟩; have n0_ := am (Kd.R_elder' (rr HO484) (Kd.R_base ho0) hb); have n1_ := am (Kd.R_elder' (rr HO492) (Kd.R_base ho0) hb); have n2_ := am (Kd.R_elder' (rr HO495) (Kd.R_base ho0) hb); have n3_ := am (Kd.R_lower (Kd.R_new' (Kd.R_new' (Kd.R_new' ho0 (Kd.R_lt (rr HO484))) (Kd.R_lt (rr HO492))) (Kd.R_lt (rr HO495))) (below_size (rb1 HB GE480))); have n4_ := am (blk_below (g := gb480) (o := .cells #[.int .i64 a3_0, .int .i64 a3_1, .bool a3_2, .bool a3_3, .bool a3_4] 50 (0, 0)) (rk BK480) hb); have n5_ := am (below_step (rb1 HB GE480) hb); clear HO484; clear HO492; clear HO495; clear BK480; clear HB; have HO484 := n0_; have HO492 := n1_; have HO495 := n2_; have HO503 := n3_; have BK480 := n4_; have HB := n5_; clear n0_ n1_ n2_ n3_ n4_ n5_; (try clear hb); (try clear hb2); (try clear hk); (try clear hi); (try clear ho0); obtain ⟨Ao100, co100, eo100⟩ := Kd.R_slice HO503.out; subst eo100; obtain ⟨Ao101, co101, eo101⟩ := Kd.R_slice HO492.out; subst eo101) | ((with_reducible refine gate_callee (f := 30) rfl ?_); refine gl_ (some 39) Try.func30 #[.slice Ao100 t501.length co100, .slice Ao101 t490.length co101] ?_; (with_reducible refine (laws_eqCellS.calls k _ _ t501 _ _ t490 true _ ?side1 ?side2 ?side3 ?side4 A14.out).mono ?_); (case side1 => repeat (first | exact (Kd.R_reads' HO503.out).2.2 | (with_reducible refine Kd.C_alloc ?_ _) | (with_reducible refine Kd.C_drewN ?_ _) | (with_reducible refine Kd.C_drew ?_))); (case side2 => exact (Kd.R_reads' HO503.out).2.1); (case side3 => repeat (first | exact (Kd.R_reads' HO492.out).2.2 | (with_reducible refine Kd.C_alloc ?_ _) | (with_reducible refine Kd.C_drewN ?_ _) | (with_reducible refine Kd.C_drew ?_))); (case side4 => exact (Kd.R_reads' HO492.out).2.1); rintro e w102 ⟨rfl, hb⟩; refine ⟨_, rfl, ?_⟩; have n0_ := am (Kd.R_below (rr HO484) hb); have n1_ := am (Kd.R_below (rr HO492) hb); have n2_ := am (Kd.R_below (rr HO495) hb); have n3_ := am (Kd.R_below (rr HO503) hb); have n4_ := am (blk_below (g := gb480) (o := .cells #[.int .i64 a3_0, .int .i64 a3_1, .bool a3_2, .bool a3_3, .bool a3_4] 50 (0, 0)) (rk BK480) hb); have n5_ := am (below_step (rb1 HB GE480) hb); clear HO484; clear HO492; clear HO495; clear HO503; clear BK480; clear HB; have HO484 := n0_; have HO492 := n1_; have HO495 := n2_; have HO503 := n3_; have BK480 := n4_; have HB := n5_; clear n0_ n1_ n2_ n3_ n4_ n5_; (try clear hb); (try clear hb2); (try clear hk); (try clear hi)) | ((with_reducible refine gate_callee (f := 27) rfl ?_); refine gl_ (some 43) Try.func27 #[.slice A0 l0.length c0] ?_; (with_reducible refine (laws_toCellS.calls k _ _ l0 t505 _ ?side1 ?side2 A16.out).mono ?_); (case side1 => exact rc ((Kd.C_below HR0.out HB.out))); (case side2 => exact HC0.out); rintro e w103 ⟨v506, rfl, ho0, hb⟩; refine ⟨_, rfl, ?_⟩; have n0_ := am (Kd.R_elder' (rr HO484) (Kd.R_base ho0) hb); have n1_ := am (Kd.R_elder' (rr HO492) (Kd.R_base ho0) hb); have n2_ := am (Kd.R_elder' (rr HO495) (Kd.R_base ho0) hb); have n3_ := am (Kd.R_elder' (rr HO503) (Kd.R_base ho0) hb); have n4_ := am (Kd.R_lower (Kd.R_new' (Kd.R_new' (Kd.R_new' (Kd.R_new' ho0 (Kd.R_lt (rr HO484))) (Kd.R_lt (rr HO492))) (Kd.R_lt (rr HO495))) (Kd.R_lt (rr HO503))) (below_size (rb1 HB GE480))); have n5_ := am (blk_below (g := gb480) (o := .cells #[.int .i64 a3_0, .int .i64 a3_1, .bool a3_2, .bool a3_3, .bool a3_4] 50 (0, 0)) (rk BK480) hb); have n6_ := am (below_step (rb1 HB GE480) hb); clear HO484; clear HO492; clear HO495; clear HO503; clear BK480; clear HB; have HO484 := n0_; have HO492 := n1_; have HO495 := n2_; have HO503 := n3_; have HO507 := n4_; have BK480 := n5_; have HB := n6_; clear n0_ n1_ n2_ n3_ n4_ n5_ n6_; (try clear hb); (try clear hb2); (try clear hk); (try clear hi); (try clear ho0); obtain ⟨Ao104, co104, eo104⟩ := Kd.R_slice HO507.out; subst eo104) | ((with_reducible refine gate_callee (f := 30) rfl ?_); refine gl_ (some 44) Try.func30 #[.slice Ao98 t493.length co98, .slice Ao104 t505.length co104] ?_; (with_reducible refine (laws_eqCellS.calls k _ _ t493 _ _ t505 false _ ?side1 ?side2 ?side3 ?side4 A17.out).mono ?_); (case side1 => repeat (first | exact (Kd.R_reads' HO495.out).2.2 | (with_reducible refine Kd.C_alloc ?_ _) | (with_reducible refine Kd.C_drewN ?_ _) | (with_reducible refine Kd.C_drew ?_))); (case side2 => exact (Kd.R_reads' HO495.out).2.1); (case side3 => repeat (first | exact (Kd.R_reads' HO507.out).2.2 | (with_reducible refine Kd.C_alloc ?_ _) | (with_reducible refine Kd.C_drewN ?_ _) | (with_reducible refine Kd.C_drew ?_))); (case side4 => exact (Kd.R_reads' HO507.out).2.1); rintro e w105 ⟨rfl, hb⟩; refine ⟨_, rfl, ?_⟩; have n0_ := am (Kd.R_below (rr HO484) hb); have n1_ := am (Kd.R_below (rr HO492) hb); have n2_ := am (Kd.R_below (rr HO495) hb); have n3_ := am (Kd.R_below (rr HO503) hb); have n4_ := am (Kd.R_below (rr HO507) hb); have n5_ := am (blk_below (g := gb480) (o := .cells #[.int .i64 a3_0, .int .i64 a3_1, .bool a3_2, .bool a3_3, .bool a3_4] 50 (0, 0)) (rk BK480) hb); have n6_ := am (below_step (rb1 HB GE480) hb); clear HO484; clear HO492; clear HO495; clear HO503; clear HO507; clear BK480; clear HB; have HO484 := n0_; have HO492 := n1_; have HO495 := n2_; have HO503 := n3_; have HO507 := n4_; have BK480 := n5_; have HB := n6_; clear n0_ n1_ n2_ n3_ n4_ n5_ n6_; (try clear hb); (try clear hb2); (try clear hk); (try clear hi)))
     go_ret
     exact ⟨by first | rfl | (simp [errW_none, errW_some] <;> rfl) | (simp [*, errW_none, errW_some] <;> rfl), by repeat (first | (with_reducible first | exact HB.out | apply b1 | apply b2 | apply b3 | refine below_set ?_ GE480.out) | exact HB.out)⟩)
  ·replace c15 := Bool.eq_false_iff.mpr c15
   subst c15
   have H1 : (some false) = some r := by rw [if_neg (show ¬ (false = true) by decide)] at H; exact H
   clear H
   have H := H1
   clear H1
   first
   | with_reducible exact absurd (Option.some.inj (H.trans (congrArg some hT_))) Bool.false_ne_true
   | (
    obtain rfl := Option.some.inj H
    go_enter Try.func7, Try.ntmps7
    try go_wp2_with (first | ((with_reducible refine gate_dst (N := 7) rfl ?_); refine box_event ?hg (N := 7) ?hd (cs := #[.int .i64 a3_0, .int .i64 a3_1, .bool a3_2, .bool a3_3, .bool a3_4]) (t := 50) ?hr ?_; (case hd => rfl); (case hg => rfl); (case hr => first | (go_simp; done) | (go_simp; rfl)); intro gb480 hg w106 hbox hb; have n0_ := am (below_step (rb HB) hb); have n1_ := am (hbox); have n2_ := am ((by rw [hg]; exact (below_size (rb HB)) : w.heap.size ≤ gb480)); have n3_ := am ((by rw [hg]; exact (below_size (rb HB)) : w.heap.size ≤ gb480)); clear HB; have HB := n0_; have BK480 := n1_; have GW480 := n2_; have GE480 := n3_; clear n0_ n1_ n2_ n3_; clear hb hbox hg) | ((with_reducible refine gate_callee (f := 25) rfl ?_); refine gl_ (some 19) Try.func25 #[.slice A0 l0.length c0, .int .i64 1048576] ?_; (with_reducible refine (laws_szCellS.calls _ _ l0 1048576 t481 _ ?side1 ?side2 A5.out).mono ?_); (case side1 => exact rc ((Kd.C_below HR0.out HB.out))); (case side2 => exact HC0.out); rintro e w' ⟨rfl, ⟨nd, rfl⟩⟩; refine ⟨_, rfl, ?_⟩))
    (try (rw [drewN_self w106]; generalize hq_ : World.drewN w106 _ = w106; have n0_ : Aside0 (w106.heap[gb480]? = some (.cells #[.int .i64 a3_0, .int .i64 a3_1, .bool a3_2, .bool a3_3, .bool a3_4] 50 (0, 0))) := ⟨by rw [← hq_]; exact (rk BK480)⟩; have n1_ : Aside0 (Below w.heap.size w w106) := ⟨by rw [← hq_]; exact (rb1 HB GE480)⟩; clear BK480 HB hq_; have BK480 := n0_; have HB := n1_; clear n0_ n1_))
    have n0_ := am (blk_drew BK480.out)
    have n1_ := am (below_drew1 HB.out)
    clear BK480
    clear HB
    have BK480 := n0_
    have HB := n1_
    clear n0_ n1_
    refine start_ (n := 8) (S := fun w' => w'.cell? ⟨gb480, 0, none⟩ = some (.int .i64 a3_0) ∧ w'.cell? ⟨gb480, 1, none⟩ = some (.int .i64 a3_1) ∧ w'.cell? ⟨gb480, 2, none⟩ = some (.bool a3_2) ∧ w'.cell? ⟨gb480, 3, none⟩ = some (.bool a3_3) ∧ w'.cell? ⟨gb480, 4, none⟩ = some (.bool a3_4)) (ds := []) (bm 8 0) (by kernel_rfl) rfl rfl ⟨(blk_cell BK480.out 0).trans rfl, (blk_cell BK480.out 1).trans rfl, (blk_cell BK480.out 2).trans rfl, (blk_cell BK480.out 3).trans rfl, (blk_cell BK480.out 4).trans rfl⟩ (fun hHeld => ?_); refine with_tabW laws_FnExactWritten.tab5 laws_FnExactWritten.bits5 (fun HT_ HW_ => ?_)
    generalize w106.drew = w107 at BK480 HB hHeld ⊢
    refine pu_ 0 22 (bm 8 1) HT_.out ?_
    refine pu_ 2 24 (bm 8 5) HT_.out ?_
    refine pu_ 3 25 (bm 8 13) HT_.out ?_
    refine take_ (i := 4) (N := some 26) (v := ?_) (a' := ?_) (bm 8 29) rfl rfl (take_ofW HT_.out HW_.out (by kernel_rfl)) (fun _ _ _ h => h) (Or.inl ⟨by rfl, ?_⟩) hHeld ?_ ?_
    rotate_left
    ·rintro w' ⟨s0, s1, s2, s3, s4⟩
     go_simp
     with_reducible rfl
    rotate_left
    ·simp only [Act.put, List.setIfInBounds_toArray, List.set_cons_zero, List.set_cons_succ, i64_w, i32_w]
     rfl
    refine one_ (i := 1) (N := some 23) (bm 8 31) rfl rfl (one_of HT_.out (by kernel_rfl)) (by decide) (fun K hK => ?_)
    refine goes_ Try.func27 (by kernel_rfl) rfl #[.slice A0 l0.length c0] (by rfl) rfl rfl (by (try simp only [List.map_toArray, List.map_cons, List.map_nil]); first | done | rfl | (simp only [List.length_drop, List.length_take]; rfl)) ?_
    with_reducible refine (laws_toCellS.calls k _ _ l0 t482 _ ?side1 ?side2 A8.out).mono ?_
    (case side1 => exact rc ((Kd.C_below HR0.out HB.out)))
    (case side2 => exact HC0.out)
    rintro e w108 ⟨v483, rfl, ho0, hb⟩
    refine ⟨_, rfl, ?_⟩
    have n0_ := am (Kd.R_lower ho0 (below_size (rb1 HB GE480)))
    have n1_ := am (blk_below (g := gb480) (o := .cells #[.int .i64 a3_0, .int .i64 a3_1, .bool a3_2, .bool a3_3, .bool a3_4] 50 (0, 0)) (rk BK480) hb)
    have n2_ := am (below_step (rb1 HB GE480) hb)
    clear BK480
    clear HB
    have HO484 := n0_
    have BK480 := n1_
    have HB := n2_
    clear n0_ n1_ n2_
    (try clear hb)
    (try clear hb2)
    (try clear hk)
    (try clear hi)
    (try clear ho0)
    refine hK.out _ _ ⟨(blk_cell BK480.out 0).trans rfl, (blk_cell BK480.out 1).trans rfl, (blk_cell BK480.out 2).trans rfl, (blk_cell BK480.out 3).trans rfl, (blk_cell BK480.out 4).trans rfl⟩ (fun hHeld => ?_)
    clear hK K
    refine norm_ (a' := ?_) ?_ ?_
    rotate_left
    ·show Act.put _ (some 23) _ = _
     simp only [Act.put, List.setIfInBounds_toArray, List.set_cons_zero, List.set_cons_succ, i64_w, i32_w]
     rfl
    refine one_ (i := 5) (N := some 27) (bm 8 63) rfl rfl (one_of HT_.out (by kernel_rfl)) (by decide) (fun K hK => ?_)
    refine goes_ Try.func28 (by kernel_rfl) rfl #[.agg #[.int .i64 a3_0, .int .i64 a3_1, .bool a3_2, .bool a3_3, .bool a3_4]] (by rfl) rfl rfl (by (try simp only [List.map_toArray, List.map_cons, List.map_nil]); first | done | rfl | (simp only [List.length_drop, List.length_take]; rfl)) ?_
    with_reducible refine (laws_toStyle.calls a3_0 a3_1 a3_2 a3_3 a3_4 t485 t486 t487 t488 t489 _ A9.out).mono ?_
    rintro e w109 ⟨rfl, hb⟩
    refine ⟨_, rfl, ?_⟩
    have n0_ := am (Kd.R_below (rr HO484) hb)
    have n1_ := am (blk_below (g := gb480) (o := .cells #[.int .i64 a3_0, .int .i64 a3_1, .bool a3_2, .bool a3_3, .bool a3_4] 50 (0, 0)) (rk BK480) hb)
    have n2_ := am (below_step (rb1 HB GE480) hb)
    clear HO484
    clear BK480
    clear HB
    have HO484 := n0_
    have BK480 := n1_
    have HB := n2_
    clear n0_ n1_ n2_
    (try clear hb)
    (try clear hb2)
    (try clear hk)
    (try clear hi)
    obtain ⟨Ao110, co110, eo110⟩ := Kd.R_slice HO484.out
    (first | subst eo110 | (injection eo110 with f1_ f2_ f3_; have f4_ := f1_.symm; have f5_ := f3_.symm; clear f1_ f2_ f3_; subst f4_; subst f5_))
    refine hK.out _ _ ⟨(blk_cell BK480.out 0).trans rfl, (blk_cell BK480.out 1).trans rfl, (blk_cell BK480.out 2).trans rfl, (blk_cell BK480.out 3).trans rfl, (blk_cell BK480.out 4).trans rfl⟩ (fun hHeld => ?_)
    clear hK K
    refine norm_ (a' := ?_) ?_ ?_
    rotate_left
    ·show Act.put _ (some 27) _ = _
     simp only [Act.put, List.setIfInBounds_toArray, List.set_cons_zero, List.set_cons_succ, i64_w, i32_w]
     rfl
    refine one_ (i := 6) (N := some 28) (bm 8 127) rfl rfl (one_of HT_.out (by kernel_rfl)) (by decide) (fun K hK => ?_)
    refine goes_ Try.func33 (by kernel_rfl) rfl #[.slice Ao110 t482.length co110, .int .i64 a1, .int .i64 a2, .agg #[.int .i64 t485, .int .i64 t486, .bool t487, .bool t488, .bool t489]] (by rfl) rfl rfl (by (try simp only [List.map_toArray, List.map_cons, List.map_nil]); first | done | rfl | (simp only [List.length_drop, List.length_take]; rfl)) ?_
    with_reducible refine (spec_Written.calls k _ _ t482 a1 a2 t485 t486 t487 t488 t489 t490 _ ?side1 ?side2 A10.out).mono ?_
    (case side1 => repeat (first | exact (Kd.R_reads' HO484.out).2.2 | (with_reducible refine Kd.C_alloc ?_ _) | (with_reducible refine Kd.C_drewN ?_ _) | (with_reducible refine Kd.C_drew ?_)))
    (case side2 => exact (Kd.R_reads' HO484.out).2.1)
    rintro e w111 ⟨v491, rfl, ho0, hb⟩
    refine ⟨_, rfl, ?_⟩
    have n0_ := am (Kd.R_elder' (rr HO484) (Kd.R_base ho0) hb)
    have n1_ := am (Kd.R_lower (Kd.R_new' ho0 (Kd.R_lt (rr HO484))) (below_size (rb1 HB GE480)))
    have n2_ := am (blk_below (g := gb480) (o := .cells #[.int .i64 a3_0, .int .i64 a3_1, .bool a3_2, .bool a3_3, .bool a3_4] 50 (0, 0)) (rk BK480) hb)
    have n3_ := am (below_step (rb1 HB GE480) hb)
    clear HO484
    clear BK480
    clear HB
    have HO484 := n0_
    have HO492 := n1_
    have BK480 := n2_
    have HB := n3_
    clear n0_ n1_ n2_ n3_
    (try clear hb)
    (try clear hb2)
    (try clear hk)
    (try clear hi)
    (try clear ho0)
    refine hK.out _ _ ⟨(blk_cell BK480.out 0).trans rfl, (blk_cell BK480.out 1).trans rfl, (blk_cell BK480.out 2).trans rfl, (blk_cell BK480.out 3).trans rfl, (blk_cell BK480.out 4).trans rfl⟩ (fun hHeld => ?_)
    clear hK K
    refine norm_ (a' := ?_) ?_ ?_
    rotate_left
    ·show Act.put _ (some 28) _ = _
     simp only [Act.put, List.setIfInBounds_toArray, List.set_cons_zero, List.set_cons_succ, i64_w, i32_w]
     rfl
    refine pu_ 7 10 (bm 8 255) HT_.out ?_
    refine done_ (done_of HT_.out (by kernel_rfl)) ?_
    try go_wp2_with (first | ((with_reducible refine gate_callee (f := 27) rfl ?_); refine gl_ (some 30) Try.func27 #[.slice A0 l0.length c0] ?_; (with_reducible refine (laws_toCellS.calls k _ _ l0 t493 _ ?side1 ?side2 A11.out).mono ?_); (case side1 => exact rc ((Kd.C_below HR0.out HB.out))); (case side2 => exact HC0.out); rintro e w112 ⟨v494, rfl, ho0, hb⟩; refine ⟨_, rfl, ?_⟩; have n0_ := am (Kd.R_elder' (rr HO484) (Kd.R_base ho0) hb); have n1_ := am (Kd.R_elder' (rr HO492) (Kd.R_base ho0) hb); have n2_ := am (Kd.R_lower (Kd.R_new' (Kd.R_new' ho0 (Kd.R_lt (rr HO484))) (Kd.R_lt (rr HO492))) (below_size (rb1 HB GE480))); have n3_ := am (blk_below (g := gb480) (o := .cells #[.int .i64 a3_0, .int .i64 a3_1, .bool a3_2, .bool a3_3, .bool a3_4] 50 (0, 0)) (rk BK480) hb); have n4_ := am (below_step (rb1 HB GE480) hb); clear HO484; clear HO492; clear BK480; clear HB; have HO484 := n0_; have HO492 := n1_; have HO495 := n2_; have BK480 := n3_; have HB := n4_; clear n0_ n1_ n2_ n3_ n4_; (try clear hb); (try clear hb2); (try clear hk); (try clear hi); (try clear ho0); have hcz113_0 : w112.cell? ⟨gb480, 0, none⟩ = some (.int .i64 a3_0) := (blk_cell BK480.out 0).trans rfl; have hcz113_1 : w112.cell? ⟨gb480, 1, none⟩ = some (.int .i64 a3_1) := (blk_cell BK480.out 1).trans rfl; have hcz113_2 : w112.cell? ⟨gb480, 2, none⟩ = some (.bool a3_2) := (blk_cell BK480.out 2).trans rfl; have hcz113_3 : w112.cell? ⟨gb480, 3, none⟩ = some (.bool a3_3) := (blk_cell BK480.out 3).trans rfl; have hcz113_4 : w112.cell? ⟨gb480, 4, none⟩ = some (.bool a3_4) := (blk_cell BK480.out 4).trans rfl; have hfz113_0 := blk_frozen BK480.out 0; have hfz113_1 := blk_frozen BK480.out 1; have hfz113_2 := blk_frozen BK480.out 2; have hfz113_3 := blk_frozen BK480.out 3; have hfz113_4 := blk_frozen BK480.out 4) | ((with_reducible refine gate_callee (f := 28) rfl ?_); refine gl_ (some 35) Try.func28 #[.agg #[.int .i64 a3_0, .int .i64 a3_1, .bool a3_2, .bool a3_3, .bool a3_4]] ?_; (with_reducible refine (laws_toStyle.calls a3_0 a3_1 a3_2 a3_3 a3_4 t496 t497 t498 t499 t500 _ A12.out).mono ?_); rintro e w114 ⟨rfl, hb⟩; refine ⟨_, rfl, ?_⟩; have n0_ := am (Kd.R_below (rr HO484) hb); have n1_ := am (Kd.R_below (rr HO492) hb); have n2_ := am (Kd.R_below (rr HO495) hb); have n3_ := am (blk_below (g := gb480) (o := .cells #[.int .i64 a3_0, .int .i64 a3_1, .bool a3_2, .bool a3_3, .bool a3_4] 50 (0, 0)) (rk BK480) hb); have n4_ := am (below_step (rb1 HB GE480) hb); clear HO484; clear HO492; clear HO495; clear BK480; clear HB; have HO484 := n0_; have HO492 := n1_; have HO495 := n2_; have BK480 := n3_; have HB := n4_; clear n0_ n1_ n2_ n3_ n4_; (try clear hb); (try clear hb2); (try clear hk); (try clear hi); obtain ⟨Ao115, co115, eo115⟩ := Kd.R_slice HO495.out; subst eo115) | ((with_reducible refine gate_callee (f := 34) rfl ?_); refine gl_ (some 36) Try.func34 #[.slice Ao115 t493.length co115, .int .i64 a1, .int .i64 a2, .agg #[.int .i64 t496, .int .i64 t497, .bool t498, .bool t499, .bool t500]] ?_; (with_reducible refine (impl_Written.calls k _ _ t493 a1 a2 t496 t497 t498 t499 t500 t501 _ ?side1 ?side2 A13.out).mono ?_); (case side1 => repeat (first | exact (Kd.R_reads' HO495.out).2.2 | (with_reducible refine Kd.C_alloc ?_ _) | (with_reducible refine Kd.C_drewN ?_ _) | (with_reducible refine Kd.C_drew ?_))); (case side2 => exact (Kd.R_reads' HO495.out).2.1); rintro e w116 ⟨v502, rfl, ho0, hb⟩; refine ⟨_, rfl, ?_⟩; have n0_ := am (Kd.R_elder' (rr HO484) (Kd.R_base ho0) hb); have n1_ := am (Kd.R_elder' (rr HO492) (Kd.R_base ho0) hb); have n2_ := am (Kd.R_elder' (rr HO495) (Kd.R_base ho0) hb); have n3_ := am (Kd.R_lower (Kd.R_new' (Kd.R_new' (Kd.R_new' ho0 (Kd.R_lt (rr HO484))) (Kd.R_lt (rr HO492))) (Kd.R_lt (rr HO495))) (below_size (rb1 HB GE480))); have n4_ := am (blk_below (g := gb480) (o := .cells #[.int .i64 a3_0, .int .i64 a3_1, .bool a3_2, .bool a3_3, .bool a3_4] 50 (0, 0)) (rk BK480) hb); have n5_ := am (below_step (rb1 HB GE480) hb); clear HO484; clear HO492; clear HO495; clear BK480; clear HB; have HO484 := n0_; have HO492 := n1_; have HO495 := n2_; have HO503 := n3_; have BK480 := n4_; have HB := n5_; clear n0_ n1_ n2_ n3_ n4_ n5_; (try clear hb); (try clear hb2); (try clear hk); (try clear hi); (try clear ho0); obtain ⟨Ao117, co117, eo117⟩ := Kd.R_slice HO503.out; subst eo117; obtain ⟨Ao118, co118, eo118⟩ := Kd.R_slice HO492.out; subst eo118) | ((with_reducible refine gate_callee (f := 30) rfl ?_); refine gl_ (some 39) Try.func30 #[.slice Ao117 t501.length co117, .slice Ao118 t490.length co118] ?_; (with_reducible refine (laws_eqCellS.calls k _ _ t501 _ _ t490 false _ ?side1 ?side2 ?side3 ?side4 A14.out).mono ?_); (case side1 => repeat (first | exact (Kd.R_reads' HO503.out).2.2 | (with_reducible refine Kd.C_alloc ?_ _) | (with_reducible refine Kd.C_drewN ?_ _) | (with_reducible refine Kd.C_drew ?_))); (case side2 => exact (Kd.R_reads' HO503.out).2.1); (case side3 => repeat (first | exact (Kd.R_reads' HO492.out).2.2 | (with_reducible refine Kd.C_alloc ?_ _) | (with_reducible refine Kd.C_drewN ?_ _) | (with_reducible refine Kd.C_drew ?_))); (case side4 => exact (Kd.R_reads' HO492.out).2.1); rintro e w119 ⟨rfl, hb⟩; refine ⟨_, rfl, ?_⟩; have n0_ := am (Kd.R_below (rr HO484) hb); have n1_ := am (Kd.R_below (rr HO492) hb); have n2_ := am (Kd.R_below (rr HO495) hb); have n3_ := am (Kd.R_below (rr HO503) hb); have n4_ := am (blk_below (g := gb480) (o := .cells #[.int .i64 a3_0, .int .i64 a3_1, .bool a3_2, .bool a3_3, .bool a3_4] 50 (0, 0)) (rk BK480) hb); have n5_ := am (below_step (rb1 HB GE480) hb); clear HO484; clear HO492; clear HO495; clear HO503; clear BK480; clear HB; have HO484 := n0_; have HO492 := n1_; have HO495 := n2_; have HO503 := n3_; have BK480 := n4_; have HB := n5_; clear n0_ n1_ n2_ n3_ n4_ n5_; (try clear hb); (try clear hb2); (try clear hk); (try clear hi)))
    go_ret
    exact ⟨by first | rfl | (simp [errW_none, errW_some] <;> rfl) | (simp [*, errW_none, errW_some] <;> rfl), by repeat (first | (with_reducible first | exact HB.out | apply b1 | apply b2 | apply b3 | refine below_set ?_ GE480.out) | exact HB.out)⟩)

end Go.Proofs.Ytkljnfinjacejaa.PA
