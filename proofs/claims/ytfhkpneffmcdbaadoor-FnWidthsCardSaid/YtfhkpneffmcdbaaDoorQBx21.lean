/- Contracts of Go functions that laws of this seat reach: each Lean function answers as its Go function does. No condition. Written by wip/tools/inj.py, over the kit's print. -/
import Derived.Test.YtfhkpneffmcdbaaDoorQBx0
import Derived.Test.YtfhkpneffmcdbaaDoorQBx2
import Derived.Test.YtfhkpneffmcdbaaDoorQBx3
import Derived.Test.YtfhkpneffmcdbaaDoorQBx7
import Derived.Test.YtfhkpneffmcdbaaDoorQBx8
namespace Go.Proofs.YtfhkpneffmcdbaaDoor.QB
open Go.RowKit Go.Proofs.YtfhkpneffmcdbaaDoorW.PrintWords Go.Proofs.YtfhkpneffmcdbaaDoorW.PrintLast Go.Proofs.YtfhkpneffmcdbaaDoorW.PrintMore
attribute [local go_sem] max2_int min2_int max_two min_two max_three min_three max_four min_four   -- for this text's walks alone
set_option linter.unusedVariables false
set_option linter.unusedSimpArgs false

/-! ### spec_DrawWidth: function 30 -/
def spec_DrawWidth.f (k : Nat) (l0 : List Int) : Option (Int) := (spec_l1New.f k l0).bind fun bt526 => ((spec_l1Once.f bt526.1 bt526.2.1 bt526.2.2 2).bind fun bt530 => (if bt530.1 = true then ((some (([31, 32, 126, 127, 159, 160, 767, 768, 879, 880, 4351, 4352, 4447, 4448, 12287, 12288, 55295, 57344, 127743, 127744, 131071, 131072] : List Int) : List Int)).bind fun y533 => ((spec_l1Below.f bt526.1 bt530.2.1 bt530.2.2 22).bind fun bt536 => (if 0 ≤ bt536.1 then (if bt536.1 < (y533.length : Int) then (some (rd y533 bt536.1)) else (none)) else (none)))) else ((spec_DrawRuneOk.f k l0).bind fun t540 => (some t540))))
theorem spec_DrawWidth.mono : ∀ a0 k, LeO (spec_DrawWidth.f k a0) (spec_DrawWidth.f (k + 1) a0) := by
 intro a0 k
 unfold spec_DrawWidth.f
 repeat' first
   | (with_reducible exact spec_DrawRuneOk.mono _ _)
   | (with_reducible exact spec_l1New.mono _ _)
   | (with_reducible exact LeO.refl _)
   | (with_reducible exact LeO.none _)
   | (with_reducible refine LeO.ite ?_ ?_)
   | (with_reducible refine LeO.bind ?_ (fun _ => ?_))
set_option maxHeartbeats 8000000 in
set_option maxRecDepth 100000 in
theorem spec_DrawWidth.calls (k : Nat) (A0 : Option Addr) (c0 : Nat) (l0 : List Int) (r : Int) (w : World) (hr0 : Kd.C (Kd.int .u8) w A0 l0.length l0) (hc0 : l0.length ≤ c0) (h : spec_DrawWidth.f k l0 = some r) :
  Calls Tryd.prog 30 #[.slice A0 l0.length c0] w fun e w' => e = .returned (.int .i64 r) ∧ Below w.heap.size w w' := by
 have HR0 := am hr0
 have HC0 := am hc0
 clear hr0 hc0
 have HB := am (Below.refl w.heap.size w)
 have H := h
 unfold spec_DrawWidth.f at H
 clear h
 replace H := Option.bind_eq_some_iff.mp H
 obtain ⟨⟨t526, t527, t528⟩, A20, H⟩ := H
 (try dsimp only at H)
 have A2 := am A20
 clear A20
 replace H := Option.bind_eq_some_iff.mp H
 obtain ⟨⟨t530, t531, t532⟩, A30, H⟩ := H
 (try dsimp only at H)
 have A3 := am A30
 clear A30
 refine em_ (p := t530 = true) (fun c4 => ?g2p) (fun c4 => ?g2n)
 case' g2p =>
  subst c4
  rw [if_pos rfl] at H
  obtain ⟨y533, hy533⟩ : ∃ y_ : List Int, y_ = (([31, 32, 126, 127, 159, 160, 767, 768, 879, 880, 4351, 4352, 4447, 4448, 12287, 12288, 55295, 57344, 127743, 127744, 131071, 131072] : List Int)) := ⟨_, rfl⟩
  replace H : ((spec_l1Below.f t526 t531 t532 22).bind fun bt536 => (if 0 ≤ bt536.1 then (if bt536.1 < (y533.length : Int) then (some (rd y533 bt536.1)) else (none)) else (none))) = some r := by first | (rw [hy533]; with_reducible exact H) | (rw [hy533]; exact H) | exact H
  have Ny533 := am hy533
  clear hy533
  replace H := Option.bind_eq_some_iff.mp H
  obtain ⟨⟨t536, t537, t538⟩, A50, H⟩ := H
  (try dsimp only at H)
  have A5 := am A50
  clear A50
  refine em_ (p := 0 ≤ t536) (fun c6 => ?g1p) (fun c6 => ?g1n)
  case' g1p =>
   rw [if_pos c6] at H
   have c6b0 : decide (0 ≤ t536) = true := decide_eq_true c6
   clear c6
   refine em_ (p := t536 < (y533.length : Int)) (fun c7 => ?g0p) (fun c7 => ?g0n)
   case' g0p =>
    rw [if_pos c7] at H
    have c7b0 : decide (t536 < (y533.length : Int)) = true := decide_eq_true c7
    clear c7
    obtain rfl := Option.some.inj H
    have lf1_ := trivial
   case g0n =>
    rw [if_neg c7] at H
    exact absurd H (by simp)
  case g1n =>
   rw [if_neg c6] at H
   exact absurd H (by simp)
 case' g2n =>
  replace c4 := Bool.eq_false_iff.mpr c4
  subst c4
  rw [if_neg (show ¬ (false = true) by decide)] at H
  replace H := Option.bind_eq_some_iff.mp H
  obtain ⟨t540, A140, H⟩ := H
  replace H : (some t540) = some r := H
  have A14 := am A140
  clear A140
  obtain rfl := Option.some.inj H
  have lf2_ := trivial
 all_goals
  go_enter Tryd.func30, Tryd.ntmps30
  go_wp2_with (first | ((with_reducible refine gate_dst (N := 8) rfl ?_); refine Kd.R_lit (Kd.int .i64) _ 2 ?hg (N := 8) ?hd (xs := ([31, 32, 126, 127, 159, 160, 767, 768, 879, 880, 4351, 4352, 4447, 4448, 12287, 12288, 55295, 57344, 127743, 127744, 131071, 131072] : List Int)) (inner := [.int .i64 31, .int .i64 32, .int .i64 126, .int .i64 127, .int .i64 159, .int .i64 160, .int .i64 767, .int .i64 768, .int .i64 879, .int .i64 880, .int .i64 4351, .int .i64 4352, .int .i64 4447, .int .i64 4448, .int .i64 12287, .int .i64 12288, .int .i64 55295, .int .i64 57344, .int .i64 127743, .int .i64 127744, .int .i64 131071, .int .i64 131072]) (ok := fun _ => True) (okp := fun _ => True) ?hr ?hp (fun _ hk => hk) trivial (Below.refl _ _) (Nat.le_refl _) (by simp) ?_; (case hd => rfl); (case hg => rfl); (case hr => first | (go_simp; done) | (go_simp; rfl)); (case hp => exact (Reps.one (show Kd.M (Kd.int .i64) _ _ _ 31 [.int .i64 31] from rfl) (Reps.one (show Kd.M (Kd.int .i64) _ _ _ 32 [.int .i64 32] from rfl) (Reps.one (show Kd.M (Kd.int .i64) _ _ _ 126 [.int .i64 126] from rfl) (Reps.one (show Kd.M (Kd.int .i64) _ _ _ 127 [.int .i64 127] from rfl) (Reps.one (show Kd.M (Kd.int .i64) _ _ _ 159 [.int .i64 159] from rfl) (Reps.one (show Kd.M (Kd.int .i64) _ _ _ 160 [.int .i64 160] from rfl) (Reps.one (show Kd.M (Kd.int .i64) _ _ _ 767 [.int .i64 767] from rfl) (Reps.one (show Kd.M (Kd.int .i64) _ _ _ 768 [.int .i64 768] from rfl) (Reps.one (show Kd.M (Kd.int .i64) _ _ _ 879 [.int .i64 879] from rfl) (Reps.one (show Kd.M (Kd.int .i64) _ _ _ 880 [.int .i64 880] from rfl) (Reps.one (show Kd.M (Kd.int .i64) _ _ _ 4351 [.int .i64 4351] from rfl) (Reps.one (show Kd.M (Kd.int .i64) _ _ _ 4352 [.int .i64 4352] from rfl) (Reps.one (show Kd.M (Kd.int .i64) _ _ _ 4447 [.int .i64 4447] from rfl) (Reps.one (show Kd.M (Kd.int .i64) _ _ _ 4448 [.int .i64 4448] from rfl) (Reps.one (show Kd.M (Kd.int .i64) _ _ _ 12287 [.int .i64 12287] from rfl) (Reps.one (show Kd.M (Kd.int .i64) _ _ _ 12288 [.int .i64 12288] from rfl) (Reps.one (show Kd.M (Kd.int .i64) _ _ _ 55295 [.int .i64 55295] from rfl) (Reps.one (show Kd.M (Kd.int .i64) _ _ _ 57344 [.int .i64 57344] from rfl) (Reps.one (show Kd.M (Kd.int .i64) _ _ _ 127743 [.int .i64 127743] from rfl) (Reps.one (show Kd.M (Kd.int .i64) _ _ _ 127744 [.int .i64 127744] from rfl) (Reps.one (show Kd.M (Kd.int .i64) _ _ _ 131071 [.int .i64 131071] from rfl) (Reps.one (show Kd.M (Kd.int .i64) _ _ _ 131072 [.int .i64 131072] from rfl) (Reps.none _ _)))))))))))))))))))))))); intro v534 w10 ho11 hb hg_ hnew_; clear hg_ hnew_; (first | rw [← Ny533.out] at ho11 | (simp only [Int.reduceToNat] at ho11; rw [← Ny533.out] at ho11)); have n0_ := am (Kd.R_lower ho11 (below_size (rbi83 HB HI529 IsS83.ge))); have n1_ := am (IsS83.below (ri83 HI529) hb); have n2_ := am (below_step (rbi83 HB HI529 IsS83.ge) hb); clear HI529; clear HB; have HO535 := n0_; have HI529 := n1_; have HB := n2_; clear n0_ n1_ n2_; clear hb ho11) | ((with_reducible refine gate_callee (f := 53) rfl ?_); refine gl_ (some 10) Tryd.func53 #[.pointer (some ⟨g529, 0, none⟩), .int .i64 22] ?_; (with_reducible refine (spec_l1Below.calls g529 t526 t531 t532 22 t536 t537 t538 w _ ?side1 ?side2 A5.out).mono ?_); (case side1 => exact ri83 HI529); (case side2 => exact rbi83 HB HI529 IsS83.ge); rintro e w12 ⟨rfl, hi, hb, hk⟩; refine ⟨_, rfl, ?_⟩; have n0_ := am (Kd.R_mono (Kd.R_keep (IsS83.apart (show IsS83 w _ g529 t526 t531 t532 from ri83 HI529) (rr HO535) (by decide)) hk (fun _ h => h.2)) (fun _ h => h.1)); have n1_ := am (hb); have n2_ := am (hi); clear HO535; clear HB; clear HI529; have HO535 := n0_; have HB := n1_; have HI529 := n2_; clear n0_ n1_ n2_; (try clear hb); (try clear hb2); (try clear hk); (try clear hi); obtain ⟨Ao13, co13, eo13⟩ := Kd.R_slice HO535.out; subst eo13; have p539 : 0 ≤ (t536 : Int) := dt_; have q539 : t536 < (y533.length : Int) := dt_; obtain ⟨ad539, e539, hx539_0⟩ := Kd.at_int (Kd.R_reads' HO535.out).2.2 t536 p539 q539; cases e539; replace p539 := eq_true p539; replace q539 := eq_true q539) | ((with_reducible refine gate_callee (f := 48) rfl ?_); refine gl_ (some 14) Tryd.func48 #[.slice A0 l0.length c0] ?_; (with_reducible refine (spec_DrawRuneOk.calls k _ _ l0 t540 _ ?side1 ?side2 A14.out).mono ?_); (case side1 => exact rc ((Kd.C_below HR0.out HB.out))); (case side2 => exact HC0.out); rintro e w17 ⟨rfl, hb⟩; refine ⟨_, rfl, ?_⟩; have n0_ := am (IsS83.below (ri83 HI529) hb); have n1_ := am (below_step (rbi83 HB HI529 IsS83.ge) hb); clear HI529; clear HB; have HI529 := n0_; have HB := n1_; clear n0_ n1_; (try clear hb); (try clear hb2); (try clear hk); (try clear hi)) | ((with_reducible refine gate_callee (f := 52) rfl ?_); refine gl_ (some 7) Tryd.func52 #[.pointer (some ⟨g529, 0, none⟩), .int .i64 2] ?_; (with_reducible refine (spec_l1Once.calls g529 t526 t527 t528 2 false t531 t532 w _ ?side1 ?side2 A3.out).mono ?_); (case side1 => exact ri83 HI529); (case side2 => exact rbi83 HB HI529 IsS83.ge); rintro e w16 ⟨rfl, hi, hb, hk⟩; refine ⟨_, rfl, ?_⟩; have n0_ := am (hb); have n1_ := am (hi); clear HB; clear HI529; have HB := n0_; have HI529 := n1_; clear n0_ n1_; (try clear hb); (try clear hb2); (try clear hk); (try clear hi)) | ((with_reducible refine gate_callee (f := 52) rfl ?_); refine gl_ (some 7) Tryd.func52 #[.pointer (some ⟨g529, 0, none⟩), .int .i64 2] ?_; (with_reducible refine (spec_l1Once.calls g529 t526 t527 t528 2 true t531 t532 w _ ?side1 ?side2 A3.out).mono ?_); (case side1 => exact ri83 HI529); (case side2 => exact rbi83 HB HI529 IsS83.ge); rintro e w9 ⟨rfl, hi, hb, hk⟩; refine ⟨_, rfl, ?_⟩; have n0_ := am (hb); have n1_ := am (hi); clear HB; clear HI529; have HB := n0_; have HI529 := n1_; clear n0_ n1_; (try clear hb); (try clear hb2); (try clear hk); (try clear hi)) | ((with_reducible refine gate_callee (f := 50) rfl ?_); refine gl_ (some 5) Tryd.func50 #[.slice A0 l0.length c0] ?_; (with_reducible refine (spec_l1New.calls k _ _ l0 t526 t527 t528 w _ ?side1 ?side2 ?side3 A2.out).mono ?_); (case side1 => repeat (first | (with_reducible first | exact HB.out | apply b1 | apply b2 | apply b3) | exact HB.out)); (case side2 => exact HR0.out); (case side3 => exact HC0.out); rintro e w8 ⟨g529, rfl, hi, hb, hb2⟩; refine ⟨_, rfl, ?_⟩; have n0_ := am (hb); have n1_ := am (hi); clear HB; have HB := n0_; have HI529 := n1_; clear n0_ n1_; (try clear hb); (try clear hb2); (try clear hk); (try clear hi)))
  go_ret
  exact ⟨by first | rfl | (simp [errW_none, errW_some] <;> rfl) | (simp [*, errW_none, errW_some] <;> rfl), rbi83 HB HI529 IsS83.ge⟩

/-! ### spec_DrawTextWidth: function 31 -/
def spec_DrawTextWidth.f (k : Nat) (l0 : List Int) : Option (ByteArray) := (spec_DrawGet.f k l0).bind fun t541 => (some t541)
theorem spec_DrawTextWidth.mono : ∀ a0 k, LeO (spec_DrawTextWidth.f k a0) (spec_DrawTextWidth.f (k + 1) a0) := by
 intro a0 k
 unfold spec_DrawTextWidth.f
 repeat' first
   | (with_reducible exact spec_DrawGet.mono _ _)
   | (with_reducible exact LeO.refl _)
   | (with_reducible exact LeO.none _)
   | (with_reducible refine LeO.ite ?_ ?_)
   | (with_reducible refine LeO.bind ?_ (fun _ => ?_))
set_option maxHeartbeats 8000000 in
set_option maxRecDepth 100000 in
theorem spec_DrawTextWidth.calls (k : Nat) (A0 : Option Addr) (c0 : Nat) (l0 : List Int) (r : ByteArray) (w : World) (hr0 : Kd.C (Kd.int .u8) w A0 l0.length l0) (hc0 : l0.length ≤ c0) (h : spec_DrawTextWidth.f k l0 = some r) :
  Calls Tryd.prog 31 #[.slice A0 l0.length c0] w fun e w' => e = .returned (.string r) ∧ Below w.heap.size w w' := by
 have HR0 := am hr0
 have HC0 := am hc0
 clear hr0 hc0
 have HB := am (Below.refl w.heap.size w)
 have H : ((spec_DrawGet.f k l0).bind fun t541 => (some t541)) = some r := h
 clear h
 replace H := Option.bind_eq_some_iff.mp H
 obtain ⟨t541, A20, H⟩ := H
 replace H : (some t541) = some r := H
 have A2 := am A20
 clear A20
 obtain rfl := Option.some.inj H
 go_enter Tryd.func31, Tryd.ntmps31
 go_wp2_with (first | ((with_reducible refine gate_callee (f := 54) rfl ?_); refine gl_ (some 4) Tryd.func54 #[.slice A0 l0.length c0] ?_; (with_reducible refine (spec_DrawGet.calls k _ _ l0 t541 _ ?side1 ?side2 A2.out).mono ?_); (case side1 => exact rc (HR0.out)); (case side2 => exact HC0.out); rintro e w3 ⟨rfl, hb⟩; refine ⟨_, rfl, ?_⟩; have n0_ := am (below_step (rb HB) hb); clear HB; have HB := n0_; clear n0_; (try clear hb); (try clear hb2); (try clear hk); (try clear hi)))
 go_ret
 exact ⟨by first | rfl | (simp [errW_none, errW_some] <;> rfl) | (simp [*, errW_none, errW_some] <;> rfl), by repeat (first | (with_reducible first | exact HB.out | apply b1 | apply b2 | apply b3) | exact HB.out)⟩

/-! ### spec_DrawFitting: function 32 -/
def spec_DrawFitting.f (k : Nat) (l0 : List Int) : Option (ByteArray × Int) := (spec_l1New.f k l0).bind fun bt542 => ((spec_l1DrawBytes.f k bt542.1 bt542.2.1 bt542.2.2).bind fun bt546 => ((spec_l1Below.f bt542.1 bt546.2.1 bt546.2.2 9).bind fun bt549 => ((spec_l1Once.f bt542.1 bt549.2.1 bt549.2.2 10).bind fun bt552 => (if bt552.1 = true then ((some (([(-1), 1000, 1001, 4611686018427387904] : List Int) : List Int)).bind fun y555 => ((spec_l1Below.f bt542.1 bt552.2.1 bt552.2.2 4).bind fun bt558 => (if 0 ≤ bt558.1 then (if bt558.1 < (y555.length : Int) then (some (bt546.1, rd y555 bt558.1)) else (none)) else (none)))) else (some (bt546.1, bt549.1))))))
theorem spec_DrawFitting.mono : ∀ a0 k, LeO (spec_DrawFitting.f k a0) (spec_DrawFitting.f (k + 1) a0) := by
 intro a0 k
 unfold spec_DrawFitting.f
 repeat' first
   | (with_reducible exact spec_l1DrawBytes.mono _ _ _ _)
   | (with_reducible exact spec_l1New.mono _ _)
   | (with_reducible exact LeO.refl _)
   | (with_reducible exact LeO.none _)
   | (with_reducible refine LeO.ite ?_ ?_)
   | (with_reducible refine LeO.bind ?_ (fun _ => ?_))
set_option maxHeartbeats 8000000 in
set_option maxRecDepth 100000 in
theorem spec_DrawFitting.calls (k : Nat) (A0 : Option Addr) (c0 : Nat) (l0 : List Int) (r1 : ByteArray) (r2 : Int) (w : World) (hr0 : Kd.C (Kd.int .u8) w A0 l0.length l0) (hc0 : l0.length ≤ c0) (h : spec_DrawFitting.f k l0 = some (r1, r2)) :
  Calls Tryd.prog 32 #[.slice A0 l0.length c0] w fun e w' => e = .returned (.tuple #[.string r1, .int .i64 r2]) ∧ Below w.heap.size w w' := by
 have HR0 := am hr0
 have HC0 := am hc0
 clear hr0 hc0
 have HB := am (Below.refl w.heap.size w)
 have H := h
 unfold spec_DrawFitting.f at H
 clear h
 replace H := Option.bind_eq_some_iff.mp H
 obtain ⟨⟨t542, t543, t544⟩, A20, H⟩ := H
 (try dsimp only at H)
 have A2 := am A20
 clear A20
 replace H := Option.bind_eq_some_iff.mp H
 obtain ⟨⟨t546, t547, t548⟩, A30, H⟩ := H
 (try dsimp only at H)
 have A3 := am A30
 clear A30
 replace H := Option.bind_eq_some_iff.mp H
 obtain ⟨⟨t549, t550, t551⟩, A40, H⟩ := H
 (try dsimp only at H)
 have A4 := am A40
 clear A40
 replace H := Option.bind_eq_some_iff.mp H
 obtain ⟨⟨t552, t553, t554⟩, A50, H⟩ := H
 (try dsimp only at H)
 have A5 := am A50
 clear A50
 refine em_ (p := t552 = true) (fun c6 => ?g5p) (fun c6 => ?g5n)
 case' g5p =>
  subst c6
  rw [if_pos rfl] at H
  obtain ⟨y555, hy555⟩ : ∃ y_ : List Int, y_ = (([(-1), 1000, 1001, 4611686018427387904] : List Int)) := ⟨_, rfl⟩
  replace H : ((spec_l1Below.f t542 t553 t554 4).bind fun bt558 => (if 0 ≤ bt558.1 then (if bt558.1 < (y555.length : Int) then (some (t546, rd y555 bt558.1)) else (none)) else (none))) = some (r1, r2) := by first | (rw [hy555]; with_reducible exact H) | (rw [hy555]; exact H) | exact H
  have Ny555 := am hy555
  clear hy555
  replace H := Option.bind_eq_some_iff.mp H
  obtain ⟨⟨t558, t559, t560⟩, A70, H⟩ := H
  (try dsimp only at H)
  have A7 := am A70
  clear A70
  refine em_ (p := 0 ≤ t558) (fun c8 => ?g4p) (fun c8 => ?g4n)
  case' g4p =>
   rw [if_pos c8] at H
   have c8b0 : decide (0 ≤ t558) = true := decide_eq_true c8
   clear c8
   refine em_ (p := t558 < (y555.length : Int)) (fun c9 => ?g3p) (fun c9 => ?g3n)
   case' g3p =>
    rw [if_pos c9] at H
    have c9b0 : decide (t558 < (y555.length : Int)) = true := decide_eq_true c9
    clear c9
    simp only [Option.some.injEq, Prod.mk.injEq] at H
    obtain ⟨rfl, rfl⟩ := H
    have lf3_ := trivial
   case g3n =>
    rw [if_neg c9] at H
    exact absurd H (by simp)
  case g4n =>
   rw [if_neg c8] at H
   exact absurd H (by simp)
 case' g5n =>
  replace c6 := Bool.eq_false_iff.mpr c6
  subst c6
  have H1 : (some (t546, t549)) = some (r1, r2) := by rw [if_neg (show ¬ (false = true) by decide)] at H; exact H
  clear H
  have H := H1
  clear H1
  simp only [Option.some.injEq, Prod.mk.injEq] at H
  obtain ⟨rfl, rfl⟩ := H
  have lf4_ := trivial
 all_goals
  go_enter Tryd.func32, Tryd.ntmps32
  go_wp2_with (first | ((with_reducible refine gate_dst (N := 15) rfl ?_); refine Kd.R_lit (Kd.int .i64) _ 2 ?hg (N := 15) ?hd (xs := ([(-1), 1000, 1001, 4611686018427387904] : List Int)) (inner := [.int .i64 (-1), .int .i64 1000, .int .i64 1001, .int .i64 4611686018427387904]) (ok := fun _ => True) (okp := fun _ => True) ?hr ?hp (fun _ hk => hk) trivial (Below.refl _ _) (Nat.le_refl _) (by simp) ?_; (case hd => rfl); (case hg => rfl); (case hr => first | (go_simp; done) | (go_simp; rfl)); (case hp => exact (Reps.one (show Kd.M (Kd.int .i64) _ _ _ (-1) [.int .i64 (-1)] from rfl) (Reps.one (show Kd.M (Kd.int .i64) _ _ _ 1000 [.int .i64 1000] from rfl) (Reps.one (show Kd.M (Kd.int .i64) _ _ _ 1001 [.int .i64 1001] from rfl) (Reps.one (show Kd.M (Kd.int .i64) _ _ _ 4611686018427387904 [.int .i64 4611686018427387904] from rfl) (Reps.none _ _)))))); intro v556 w14 ho15 hb hg_ hnew_; clear hg_ hnew_; (first | rw [← Ny555.out] at ho15 | (simp only [Int.reduceToNat] at ho15; rw [← Ny555.out] at ho15)); have n0_ := am (Kd.R_lower ho15 (below_size (rbi83 HB HI545 IsS83.ge))); have n1_ := am (IsS83.below (ri83 HI545) hb); have n2_ := am (below_step (rbi83 HB HI545 IsS83.ge) hb); clear HI545; clear HB; have HO557 := n0_; have HI545 := n1_; have HB := n2_; clear n0_ n1_ n2_; clear hb ho15) | ((with_reducible refine gate_callee (f := 53) rfl ?_); refine gl_ (some 17) Tryd.func53 #[.pointer (some ⟨g545, 0, none⟩), .int .i64 4] ?_; (with_reducible refine (spec_l1Below.calls g545 t542 t553 t554 4 t558 t559 t560 w _ ?side1 ?side2 A7.out).mono ?_); (case side1 => exact ri83 HI545); (case side2 => exact rbi83 HB HI545 IsS83.ge); rintro e w16 ⟨rfl, hi, hb, hk⟩; refine ⟨_, rfl, ?_⟩; have n0_ := am (Kd.R_mono (Kd.R_keep (IsS83.apart (show IsS83 w _ g545 t542 t553 t554 from ri83 HI545) (rr HO557) (by decide)) hk (fun _ h => h.2)) (fun _ h => h.1)); have n1_ := am (hb); have n2_ := am (hi); clear HO557; clear HB; clear HI545; have HO557 := n0_; have HB := n1_; have HI545 := n2_; clear n0_ n1_ n2_; (try clear hb); (try clear hb2); (try clear hk); (try clear hi); obtain ⟨Ao17, co17, eo17⟩ := Kd.R_slice HO557.out; subst eo17; have p561 : 0 ≤ (t558 : Int) := dt_; have q561 : t558 < (y555.length : Int) := dt_; obtain ⟨ad561, e561, hx561_0⟩ := Kd.at_int (Kd.R_reads' HO557.out).2.2 t558 p561 q561; cases e561; replace p561 := eq_true p561; replace q561 := eq_true q561) | ((with_reducible refine gate_callee (f := 52) rfl ?_); refine gl_ (some 14) Tryd.func52 #[.pointer (some ⟨g545, 0, none⟩), .int .i64 10] ?_; (with_reducible refine (spec_l1Once.calls g545 t542 t550 t551 10 false t553 t554 w _ ?side1 ?side2 A5.out).mono ?_); (case side1 => exact ri83 HI545); (case side2 => exact rbi83 HB HI545 IsS83.ge); rintro e w21 ⟨rfl, hi, hb, hk⟩; refine ⟨_, rfl, ?_⟩; have n0_ := am (hb); have n1_ := am (hi); clear HB; clear HI545; have HB := n0_; have HI545 := n1_; clear n0_ n1_; (try clear hb); (try clear hb2); (try clear hk); (try clear hi)) | ((with_reducible refine gate_callee (f := 52) rfl ?_); refine gl_ (some 14) Tryd.func52 #[.pointer (some ⟨g545, 0, none⟩), .int .i64 10] ?_; (with_reducible refine (spec_l1Once.calls g545 t542 t550 t551 10 true t553 t554 w _ ?side1 ?side2 A5.out).mono ?_); (case side1 => exact ri83 HI545); (case side2 => exact rbi83 HB HI545 IsS83.ge); rintro e w13 ⟨rfl, hi, hb, hk⟩; refine ⟨_, rfl, ?_⟩; have n0_ := am (hb); have n1_ := am (hi); clear HB; clear HI545; have HB := n0_; have HI545 := n1_; clear n0_ n1_; (try clear hb); (try clear hb2); (try clear hk); (try clear hi)) | ((with_reducible refine gate_callee (f := 53) rfl ?_); refine gl_ (some 12) Tryd.func53 #[.pointer (some ⟨g545, 0, none⟩), .int .i64 9] ?_; (with_reducible refine (spec_l1Below.calls g545 t542 t547 t548 9 t549 t550 t551 w _ ?side1 ?side2 A4.out).mono ?_); (case side1 => exact ri83 HI545); (case side2 => exact rbi83 HB HI545 IsS83.ge); rintro e w12 ⟨rfl, hi, hb, hk⟩; refine ⟨_, rfl, ?_⟩; have n0_ := am (hb); have n1_ := am (hi); clear HB; clear HI545; have HB := n0_; have HI545 := n1_; clear n0_ n1_; (try clear hb); (try clear hb2); (try clear hk); (try clear hi)) | ((with_reducible refine gate_callee (f := 64) rfl ?_); refine gl_ (some 10) Tryd.func64 #[.pointer (some ⟨g545, 0, none⟩)] ?_; (with_reducible refine (spec_l1DrawBytes.calls k g545 t542 t543 t544 t546 t547 t548 w _ ?side1 ?side2 A3.out).mono ?_); (case side1 => exact ri83 HI545); (case side2 => exact rbi83 HB HI545 IsS83.ge); rintro e w11 ⟨rfl, hi, hb, hk⟩; refine ⟨_, rfl, ?_⟩; have n0_ := am (hb); have n1_ := am (hi); clear HB; clear HI545; have HB := n0_; have HI545 := n1_; clear n0_ n1_; (try clear hb); (try clear hb2); (try clear hk); (try clear hi)) | ((with_reducible refine gate_callee (f := 50) rfl ?_); refine gl_ (some 8) Tryd.func50 #[.slice A0 l0.length c0] ?_; (with_reducible refine (spec_l1New.calls k _ _ l0 t542 t543 t544 w _ ?side1 ?side2 ?side3 A2.out).mono ?_); (case side1 => repeat (first | (with_reducible first | exact HB.out | apply b1 | apply b2 | apply b3) | exact HB.out)); (case side2 => exact HR0.out); (case side3 => exact HC0.out); rintro e w10 ⟨g545, rfl, hi, hb, hb2⟩; refine ⟨_, rfl, ?_⟩; have n0_ := am (hb); have n1_ := am (hi); clear HB; have HB := n0_; have HI545 := n1_; clear n0_ n1_; (try clear hb); (try clear hb2); (try clear hk); (try clear hi)))
  go_ret2
  exact ⟨by first | rfl | (simp [errW_none, errW_some] <;> rfl) | (simp [*, errW_none, errW_some] <;> rfl), rbi83 HB HI545 IsS83.ge⟩

/-! ### impl_Width: function 34 -/
def impl_Width.j0 : Nat → Int → Bool → Option (Int)
 | 0, _, _ => none
 | k + 1, x0, x3 => if x3 = true then (some 0) else ((impl_in.f x0 4352 4447).bind fun t565 => (if t565 = true then (some 2) else ((impl_in.f x0 12288 55295).bind fun t566 => (if t566 = true then (some 2) else ((impl_in.f x0 127744 131071).bind fun t567 => (if t567 = true then (some 2) else (some 1)))))))
def impl_Width.f (k : Nat) (a0 : Int) : Option (Int) := (impl_RuneOk.f a0).bind fun t562 => (if t562 = true then (if a0 < 32 then (impl_Width.j0 k a0 true) else ((impl_in.f a0 127 159).bind fun t563 => (if t563 = true then (impl_Width.j0 k a0 true) else ((impl_in.f a0 768 879).bind fun t564 => (impl_Width.j0 k a0 t564))))) else (impl_Width.j0 k a0 true))
theorem impl_Width.mono_l : ∀ k, (∀ y0 y1, LeO (impl_Width.j0 k y0 y1) (impl_Width.j0 (k + 1) y0 y1))
 | 0 => fun _ _ r h => by simp [impl_Width.j0] at h
 | k + 1 => by
  have ih0 := impl_Width.mono_l k
  ·intro y0 y1
   unfold impl_Width.j0
   repeat' first
   | (with_reducible exact ih0 _ _)
   | (with_reducible exact LeO.refl _)
   | (with_reducible exact LeO.none _)
   | (with_reducible refine LeO.ite ?_ ?_)
   | (with_reducible refine LeO.bind ?_ (fun _ => ?_))
theorem impl_Width.mono : ∀ a0 k, LeO (impl_Width.f k a0) (impl_Width.f (k + 1) a0) := by
 intro a0 k
 have ih0 := impl_Width.mono_l k
 unfold impl_Width.f
 repeat' first
   | (with_reducible exact ih0 _ _)
   | (with_reducible exact LeO.refl _)
   | (with_reducible exact LeO.none _)
   | (with_reducible refine LeO.ite ?_ ?_)
   | (with_reducible refine LeO.bind ?_ (fun _ => ?_))
set_option maxHeartbeats 8000000 in
set_option maxRecDepth 100000 in
theorem impl_Width.calls (k : Nat) (a0 : Int) (r : Int) (w : World) (h : impl_Width.f k a0 = some r) :
  Calls Tryd.prog 34 #[.int .i64 a0] w fun e w' => e = .returned (.int .i64 r) ∧ Drawn0 w w' := by
 have H := h
 unfold impl_Width.f at H
 clear h
 have HC2 := am H
 clear H
 go_enter Tryd.func34, Tryd.ntmps34
 go_upto_region 1 with (fail)
 go_cut [3] (fun v3 wc => ∃ (kq : Nat) (x3_1 : Bool), v3 = .bool x3_1 ∧ Aside0 (impl_Width.j0 kq a0 x3_1 = some r) ∧ Aside0 (kq ≤ k) ∧ Drawn0 w wc)
 case first =>
  have H := HC2.out
  clear HC2
  replace H := Option.bind_eq_some_iff.mp H
  obtain ⟨t562, A30, H⟩ := H
  (try dsimp only at H)
  have A3 := am A30
  clear A30
  by_cases c4 : t562 = true
  ·subst c4
   rw [if_pos rfl] at H
   refine em_ (p := a0 < 32) (fun c5 => ?g6p) (fun c5 => ?g6n)
   case' g6p =>
    rw [if_pos c5] at H
    have c5b0 : decide (a0 < 32) = true := decide_eq_true c5
    clear c5
    (first | rw [c5b0] | (simp only [i64_w, i32_w]; rw [c5b0]) | skip)
    have H' := am H
    clear H
    have lf5_ := trivial
   case g6n =>
    rw [if_neg c5] at H
    have c5b0 : decide (a0 < 32) = false := decide_eq_false c5
    clear c5
    (first | rw [c5b0] | (simp only [i64_w, i32_w]; rw [c5b0]) | skip)
    replace H := Option.bind_eq_some_iff.mp H
    obtain ⟨t563, A60, H⟩ := H
    (try dsimp only at H)
    have A6 := am A60
    clear A60
    by_cases c7 : t563 = true
    ·subst c7
     have H1 : (impl_Width.j0 k a0 true) = some r := by rw [if_pos rfl] at H; exact H
     clear H
     have H := H1
     clear H1
     have H' := am H
     clear H
     go_wp2_with (first | ((with_reducible refine gate_callee (f := 23) rfl ?_); refine gl_ (some 5) Tryd.func23 #[.int .i64 a0] ?_; (with_reducible refine (impl_RuneOk.calls a0 true _ A3.out).mono ?_); rintro e w' ⟨rfl, ⟨nd, rfl⟩⟩; refine ⟨_, rfl, ?_⟩) | (go_at_call 58; (with_reducible refine (impl_in.calls a0 127 159 true _ A6.out).mono ?_); rintro e w' ⟨rfl, ⟨nd, rfl⟩⟩))
     go_meet
     case rel => exact ⟨_, (true), (by first | rfl | (simp; done) | (simp [*]; done)), H', ⟨by first | omega | exact Nat.le_refl _⟩, by repeat (first | exact Drawn0.refl _ | apply Drawn0.step)⟩
    ·replace c7 := Bool.eq_false_iff.mpr c7
     subst c7
     rw [if_neg (show ¬ (false = true) by decide)] at H
     replace H := Option.bind_eq_some_iff.mp H
     obtain ⟨t564, A80, H⟩ := H
     replace H : (impl_Width.j0 k a0 t564) = some r := H
     have A8 := am A80
     clear A80
     have H' := am H
     clear H
     go_wp2_with (first | ((with_reducible refine gate_callee (f := 23) rfl ?_); refine gl_ (some 5) Tryd.func23 #[.int .i64 a0] ?_; (with_reducible refine (impl_RuneOk.calls a0 true _ A3.out).mono ?_); rintro e w' ⟨rfl, ⟨nd, rfl⟩⟩; refine ⟨_, rfl, ?_⟩) | (go_at_call 58; (with_reducible refine (impl_in.calls a0 127 159 false _ A6.out).mono ?_); rintro e w' ⟨rfl, ⟨nd, rfl⟩⟩) | (go_at_call 58; (with_reducible refine (impl_in.calls a0 768 879 t564 _ A8.out).mono ?_); rintro e w' ⟨rfl, ⟨nd, rfl⟩⟩))
     go_meet
     case rel => exact ⟨_, (t564), (by first | rfl | (simp; done) | (simp [*]; done)), H', ⟨by first | omega | exact Nat.le_refl _⟩, by repeat (first | exact Drawn0.refl _ | apply Drawn0.step)⟩
   all_goals
    go_wp2_with (first | ((with_reducible refine gate_callee (f := 23) rfl ?_); refine gl_ (some 5) Tryd.func23 #[.int .i64 a0] ?_; (with_reducible refine (impl_RuneOk.calls a0 true _ A3.out).mono ?_); rintro e w' ⟨rfl, ⟨nd, rfl⟩⟩; refine ⟨_, rfl, ?_⟩))
    go_meet
    case rel => exact ⟨_, (true), (by first | rfl | (simp; done) | (simp [*]; done)), H', ⟨by first | omega | exact Nat.le_refl _⟩, by repeat (first | exact Drawn0.refl _ | apply Drawn0.step)⟩
  ·replace c4 := Bool.eq_false_iff.mpr c4
   subst c4
   have H1 : (impl_Width.j0 k a0 true) = some r := by rw [if_neg (show ¬ (false = true) by decide)] at H; exact H
   clear H
   have H := H1
   clear H1
   have H' := am H
   clear H
   go_wp2_with (first | ((with_reducible refine gate_callee (f := 23) rfl ?_); refine gl_ (some 5) Tryd.func23 #[.int .i64 a0] ?_; (with_reducible refine (impl_RuneOk.calls a0 false _ A3.out).mono ?_); rintro e w' ⟨rfl, ⟨nd, rfl⟩⟩; refine ⟨_, rfl, ?_⟩))
   go_meet
   case rel => exact ⟨_, (true), (by first | rfl | (simp; done) | (simp [*]; done)), H', ⟨by first | omega | exact Nat.le_refl _⟩, by repeat (first | exact Drawn0.refl _ | apply Drawn0.step)⟩
 case rest =>
  clear HC2
  try clear c2
  try clear p2
  try clear c3
  try clear c4
  try clear c5
  try clear c5b0
  try clear c7
  obtain ⟨kq, x3_1, rfl, HA, HJ1, ⟨mc1, rfl⟩⟩ := hcut
  cases kq with
  | zero => exact absurd HA.out (by simp [impl_Width.j0])
  | succ kj1 =>
   have H := HA.out
   clear HA
   simp only [impl_Width.j0] at H
   refine em_ (p := x3_1 = true) (fun c9 => ?g8p) (fun c9 => ?g8n)
   case' g8p =>
    subst c9
    have H1 : (some 0) = some r := by rw [if_pos rfl] at H; exact H
    clear H
    have H := H1
    clear H1
    obtain rfl := Option.some.inj H
    have lf11_ := trivial
   case g8n =>
    replace c9 := Bool.eq_false_iff.mpr c9
    subst c9
    rw [if_neg (show ¬ (false = true) by decide)] at H
    replace H := Option.bind_eq_some_iff.mp H
    obtain ⟨t565, A100, H⟩ := H
    (try dsimp only at H)
    have A10 := am A100
    clear A100
    refine em_ (p := t565 = true) (fun c11 => ?g9p) (fun c11 => ?g9n)
    case' g9p =>
     subst c11
     have H1 : (some 2) = some r := by rw [if_pos rfl] at H; exact H
     clear H
     have H := H1
     clear H1
     obtain rfl := Option.some.inj H
     have lf16_ := trivial
    case g9n =>
     replace c11 := Bool.eq_false_iff.mpr c11
     subst c11
     rw [if_neg (show ¬ (false = true) by decide)] at H
     replace H := Option.bind_eq_some_iff.mp H
     obtain ⟨t566, A120, H⟩ := H
     (try dsimp only at H)
     have A12 := am A120
     clear A120
     refine em_ (p := t566 = true) (fun c13 => ?g7p) (fun c13 => ?g7n)
     case' g7p =>
      subst c13
      have H1 : (some 2) = some r := by rw [if_pos rfl] at H; exact H
      clear H
      have H := H1
      clear H1
      obtain rfl := Option.some.inj H
      have lf13_ := trivial
     case g7n =>
      replace c13 := Bool.eq_false_iff.mpr c13
      subst c13
      rw [if_neg (show ¬ (false = true) by decide)] at H
      replace H := Option.bind_eq_some_iff.mp H
      obtain ⟨t567, A140, H⟩ := H
      (try dsimp only at H)
      have A14 := am A140
      clear A140
      by_cases c15 : t567 = true
      ·subst c15
       have H1 : (some 2) = some r := by rw [if_pos rfl] at H; exact H
       clear H
       have H := H1
       clear H1
       obtain rfl := Option.some.inj H
       go_wp2_with (first | ((with_reducible refine gate_callee (f := 58) rfl ?_); refine gl_ (some 21) Tryd.func58 #[.int .i64 a0, .int .i64 4352, .int .i64 4447] ?_; (with_reducible refine (impl_in.calls a0 4352 4447 false _ A10.out).mono ?_); rintro e w' ⟨rfl, ⟨nd, rfl⟩⟩; refine ⟨_, rfl, ?_⟩) | (go_at_call 58; (with_reducible refine (impl_in.calls a0 12288 55295 false _ A12.out).mono ?_); rintro e w' ⟨rfl, ⟨nd, rfl⟩⟩) | (go_at_call 58; (with_reducible refine (impl_in.calls a0 127744 131071 true _ A14.out).mono ?_); rintro e w' ⟨rfl, ⟨nd, rfl⟩⟩))
       go_ret
       exact ⟨by first | rfl | (simp; done) | (simp [*]; done), by repeat (first | exact Drawn0.refl _ | apply Drawn0.step)⟩
      ·replace c15 := Bool.eq_false_iff.mpr c15
       subst c15
       have H1 : (some 1) = some r := by rw [if_neg (show ¬ (false = true) by decide)] at H; exact H
       clear H
       have H := H1
       clear H1
       obtain rfl := Option.some.inj H
       go_wp2_with (first | ((with_reducible refine gate_callee (f := 58) rfl ?_); refine gl_ (some 21) Tryd.func58 #[.int .i64 a0, .int .i64 4352, .int .i64 4447] ?_; (with_reducible refine (impl_in.calls a0 4352 4447 false _ A10.out).mono ?_); rintro e w' ⟨rfl, ⟨nd, rfl⟩⟩; refine ⟨_, rfl, ?_⟩) | (go_at_call 58; (with_reducible refine (impl_in.calls a0 12288 55295 false _ A12.out).mono ?_); rintro e w' ⟨rfl, ⟨nd, rfl⟩⟩) | (go_at_call 58; (with_reducible refine (impl_in.calls a0 127744 131071 false _ A14.out).mono ?_); rintro e w' ⟨rfl, ⟨nd, rfl⟩⟩))
       go_ret
       exact ⟨by first | rfl | (simp; done) | (simp [*]; done), by repeat (first | exact Drawn0.refl _ | apply Drawn0.step)⟩
     all_goals
      go_wp2_with (first | ((with_reducible refine gate_callee (f := 58) rfl ?_); refine gl_ (some 21) Tryd.func58 #[.int .i64 a0, .int .i64 4352, .int .i64 4447] ?_; (with_reducible refine (impl_in.calls a0 4352 4447 false _ A10.out).mono ?_); rintro e w' ⟨rfl, ⟨nd, rfl⟩⟩; refine ⟨_, rfl, ?_⟩) | (go_at_call 58; (with_reducible refine (impl_in.calls a0 12288 55295 true _ A12.out).mono ?_); rintro e w' ⟨rfl, ⟨nd, rfl⟩⟩))
      go_ret
      exact ⟨by first | rfl | (simp; done) | (simp [*]; done), by repeat (first | exact Drawn0.refl _ | apply Drawn0.step)⟩
    all_goals
     go_wp2_with (first | ((with_reducible refine gate_callee (f := 58) rfl ?_); refine gl_ (some 21) Tryd.func58 #[.int .i64 a0, .int .i64 4352, .int .i64 4447] ?_; (with_reducible refine (impl_in.calls a0 4352 4447 true _ A10.out).mono ?_); rintro e w' ⟨rfl, ⟨nd, rfl⟩⟩; refine ⟨_, rfl, ?_⟩))
     go_ret
     exact ⟨by first | rfl | (simp; done) | (simp [*]; done), by repeat (first | exact Drawn0.refl _ | apply Drawn0.step)⟩
   all_goals
    go_wp2
    go_ret
    exact ⟨by first | rfl | (simp; done) | (simp [*]; done), by repeat (first | exact Drawn0.refl _ | apply Drawn0.step)⟩

end Go.Proofs.YtfhkpneffmcdbaaDoor.QB
