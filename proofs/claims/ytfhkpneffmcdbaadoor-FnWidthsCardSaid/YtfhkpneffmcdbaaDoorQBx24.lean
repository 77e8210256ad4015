/- Contracts of Go functions that laws of this seat reach: each Lean function answers as its Go function does. No condition. Written by wip/tools/inj.py, over the kit's print. -/
import Derived.Test.YtfhkpneffmcdbaaDoorQBx0
import Derived.Test.YtfhkpneffmcdbaaDoorQBx2
import Derived.Test.YtfhkpneffmcdbaaDoorQBx8
import Derived.Test.YtfhkpneffmcdbaaDoorQBx10
import Derived.Test.YtfhkpneffmcdbaaDoorQBx21
import Derived.Test.YtfhkpneffmcdbaaDoorQBx22
import Derived.Test.YtfhkpneffmcdbaaDoorQBx23
namespace Go.Proofs.YtfhkpneffmcdbaaDoor.QB
open Go.RowKit Go.Proofs.YtfhkpneffmcdbaaDoorW.PrintWords Go.Proofs.YtfhkpneffmcdbaaDoorW.PrintLast Go.Proofs.YtfhkpneffmcdbaaDoorW.PrintMore
attribute [local go_sem] max2_int min2_int max_two min_two max_three min_three max_four min_four   -- for this text's walks alone
set_option linter.unusedVariables false
set_option linter.unusedSimpArgs false

/-! ### laws_FnWidths: function 5 -/
mutual
def laws_FnWidths.j0 : Nat → ByteArray → Int → ByteArray → Bool → Option (Bool)
 | 0, _, _, _, _ => none
 | k + 1, x5, x6, x7, x43 => if x43 = true then (some false) else (if x6 < 0 then (laws_FnWidths.j1 k x5 x6 x7 true) else (laws_FnWidths.j1 k x5 x6 x7 (decide (x6 > 1000))))
def laws_FnWidths.j1 : Nat → ByteArray → Int → ByteArray → Bool → Option (Bool)
 | 0, _, _, _, _ => none
 | k + 1, x5, x6, x7, x49 => if x49 = true then (some (x7.toList == ([] : List UInt8))) else (if (x7.size : Int) > (x5.size : Int) then (laws_FnWidths.j2 k x5 x6 x7 true) else (if 0 ≤ (x7.size : Int) then (if (x7.size : Int) ≤ (x5.size : Int) then (if (x5.extract 0 ((x7.size : Int) : Int).toNat).toList = x7.toList then ((impl_TextWidth.f k x7).bind fun t603 => (laws_FnWidths.j2 k x5 x6 x7 (decide (t603 > x6)))) else (laws_FnWidths.j2 k x5 x6 x7 true)) else (none)) else (none)))
def laws_FnWidths.j2 : Nat → ByteArray → Int → ByteArray → Bool → Option (Bool)
 | 0, _, _, _, _ => none
 | k + 1, x5, x6, x7, x70 => if x70 = true then (some false) else (if (x7.size : Int) = (x5.size : Int) then (some true) else (if 0 ≤ (x7.size : Int) then (if (x7.size : Int) ≤ (x5.size : Int) then ((spec_Get.f k (x5.extract ((x7.size : Int) : Int).toNat x5.size)).bind fun bt604 => (if 0 ≤ (wrap64 ((x7.size : Int) + bt604.2)) then (if (wrap64 ((x7.size : Int) + bt604.2)) ≤ (x5.size : Int) then ((impl_TextWidth.f k (x5.extract 0 ((wrap64 ((x7.size : Int) + bt604.2)) : Int).toNat)).bind fun t606 => (if t606 > x6 then ((impl_TextWidth.f k x7).bind fun t607 => ((impl_TextWidth.f k (x5.extract ((x7.size : Int) : Int).toNat x5.size)).bind fun t608 => ((impl_TextWidth.f k x5).bind fun t609 => (some ((wrap64 (t607 + t608)) == t609))))) else (some false))) else (none)) else (none))) else (none)) else (none)))
end
def laws_FnWidths.f (k : Nat) (l0 : List Int) : Option (Bool) := (laws_big.f l0).bind fun t592 => (if t592 = true then (some true) else ((spec_DrawWidth.f k l0).bind fun t593 => ((spec_DrawTextWidth.f k l0).bind fun t594 => ((spec_DrawFitting.f k l0).bind fun bt595 => ((impl_Fitting.f k bt595.1 bt595.2).bind fun t597 => ((impl_Width.f k t593).bind fun t598 => ((spec_Width.f k t593).bind fun t599 => (if t598 = t599 then ((impl_TextWidth.f k t594).bind fun t600 => ((spec_TextWidth.f k t594).bind fun t601 => (if t600 = t601 then ((spec_Fitting.f k bt595.1 bt595.2).bind fun t602 => (laws_FnWidths.j0 k bt595.1 bt595.2 t597 (t597.toList != t602.toList))) else (laws_FnWidths.j0 k bt595.1 bt595.2 t597 true)))) else (laws_FnWidths.j0 k bt595.1 bt595.2 t597 true)))))))))
theorem laws_FnWidths.mono_l : ∀ k, (∀ y0 y1 y2 y3, LeO (laws_FnWidths.j0 k y0 y1 y2 y3) (laws_FnWidths.j0 (k + 1) y0 y1 y2 y3)) ∧ (∀ y0 y1 y2 y3, LeO (laws_FnWidths.j1 k y0 y1 y2 y3) (laws_FnWidths.j1 (k + 1) y0 y1 y2 y3)) ∧ (∀ y0 y1 y2 y3, LeO (laws_FnWidths.j2 k y0 y1 y2 y3) (laws_FnWidths.j2 (k + 1) y0 y1 y2 y3))
 | 0 => ⟨fun _ _ _ _ r h => by simp [laws_FnWidths.j0] at h, fun _ _ _ _ r h => by simp [laws_FnWidths.j1] at h, fun _ _ _ _ r h => by simp [laws_FnWidths.j2] at h⟩
 | k + 1 => by
  obtain ⟨ih0, ih1, ih2⟩ := laws_FnWidths.mono_l k
  refine ⟨?_, ?_, ?_⟩
  ·intro y0 y1 y2 y3
   unfold laws_FnWidths.j0
   repeat' first
   | (with_reducible exact ih0 _ _ _ _)
   | (with_reducible exact ih1 _ _ _ _)
   | (with_reducible exact ih2 _ _ _ _)
   | (with_reducible exact impl_Fitting.mono _ _ _)
   | (with_reducible exact impl_TextWidth.mono _ _)
   | (with_reducible exact impl_Width.mono _ _)
   | (with_reducible exact spec_DrawFitting.mono _ _)
   | (with_reducible exact spec_DrawTextWidth.mono _ _)
   | (with_reducible exact spec_DrawWidth.mono _ _)
   | (with_reducible exact spec_Fitting.mono _ _ _)
   | (with_reducible exact spec_Get.mono _ _)
   | (with_reducible exact spec_TextWidth.mono _ _)
   | (with_reducible exact spec_Width.mono _ _)
   | (with_reducible exact LeO.refl _)
   | (with_reducible exact LeO.none _)
   | (with_reducible refine LeO.ite ?_ ?_)
   | (with_reducible refine LeO.bind ?_ (fun _ => ?_))
  ·intro y0 y1 y2 y3
   unfold laws_FnWidths.j1
   repeat' first
   | (with_reducible exact ih0 _ _ _ _)
   | (with_reducible exact ih1 _ _ _ _)
   | (with_reducible exact ih2 _ _ _ _)
   | (with_reducible exact impl_Fitting.mono _ _ _)
   | (with_reducible exact impl_TextWidth.mono _ _)
   | (with_reducible exact impl_Width.mono _ _)
   | (with_reducible exact spec_DrawFitting.mono _ _)
   | (with_reducible exact spec_DrawTextWidth.mono _ _)
   | (with_reducible exact spec_DrawWidth.mono _ _)
   | (with_reducible exact spec_Fitting.mono _ _ _)
   | (with_reducible exact spec_Get.mono _ _)
   | (with_reducible exact spec_TextWidth.mono _ _)
   | (with_reducible exact spec_Width.mono _ _)
   | (with_reducible exact LeO.refl _)
   | (with_reducible exact LeO.none _)
   | (with_reducible refine LeO.ite ?_ ?_)
   | (with_reducible refine LeO.bind ?_ (fun _ => ?_))
  ·intro y0 y1 y2 y3
   unfold laws_FnWidths.j2
   repeat' first
   | (with_reducible exact ih0 _ _ _ _)
   | (with_reducible exact ih1 _ _ _ _)
   | (with_reducible exact ih2 _ _ _ _)
   | (with_reducible exact impl_Fitting.mono _ _ _)
   | (with_reducible exact impl_TextWidth.mono _ _)
   | (with_reducible exact impl_Width.mono _ _)
   | (with_reducible exact spec_DrawFitting.mono _ _)
   | (with_reducible exact spec_DrawTextWidth.mono _ _)
   | (with_reducible exact spec_DrawWidth.mono _ _)
   | (with_reducible exact spec_Fitting.mono _ _ _)
   | (with_reducible exact spec_Get.mono _ _)
   | (with_reducible exact spec_TextWidth.mono _ _)
   | (with_reducible exact spec_Width.mono _ _)
   | (with_reducible exact LeO.refl _)
   | (with_reducible exact LeO.none _)
   | (with_reducible refine LeO.ite ?_ ?_)
   | (with_reducible refine LeO.bind ?_ (fun _ => ?_))
theorem laws_FnWidths.mono : ∀ a0 k, LeO (laws_FnWidths.f k a0) (laws_FnWidths.f (k + 1) a0) := by
 intro a0 k
 obtain ⟨ih0, ih1, ih2⟩ := laws_FnWidths.mono_l k
 unfold laws_FnWidths.f
 repeat' first
   | (with_reducible exact ih0 _ _ _ _)
   | (with_reducible exact ih1 _ _ _ _)
   | (with_reducible exact ih2 _ _ _ _)
   | (with_reducible exact impl_Fitting.mono _ _ _)
   | (with_reducible exact impl_TextWidth.mono _ _)
   | (with_reducible exact impl_Width.mono _ _)
   | (with_reducible exact spec_DrawFitting.mono _ _)
   | (with_reducible exact spec_DrawTextWidth.mono _ _)
   | (with_reducible exact spec_DrawWidth.mono _ _)
   | (with_reducible exact spec_Fitting.mono _ _ _)
   | (with_reducible exact spec_Get.mono _ _)
   | (with_reducible exact spec_TextWidth.mono _ _)
   | (with_reducible exact spec_Width.mono _ _)
   | (with_reducible exact LeO.refl _)
   | (with_reducible exact LeO.none _)
   | (with_reducible refine LeO.ite ?_ ?_)
   | (with_reducible refine LeO.bind ?_ (fun _ => ?_))
def laws_FnWidths.T17 : Bool × List (List Nat × List Nat) := (true, [([], []), ([0], [0]), ([], []), ([1, 2], [1, 2]), ([3, 1], [3]), ([4], [4]), ([5, 4, 4], [4, 5]), ([4], [4]), ([4], [4]), ([8, 4], [4, 8]), ([7, 9, 4], [4, 7, 9]), ([10, 6, 4], [4, 10]), ([6, 11, 4], [4, 6, 11]), ([4], [4]), ([13, 11, 4], [4, 13]), ([12, 14, 4], [4, 12, 14]), ([4, 15], [4, 15]), ([16, 14, 0, 1, 2, 3, 4, 5, 6, 7, 8, 9, 10, 11, 12, 13, 14, 15, 16], [16])])
def laws_FnWidths.B17 : List Nat := [0, 1, 0, 7, 15, 31, 63, 31, 31, 287, 927, 2047, 4095, 31, 12287, 32767, 65535, 131071]
theorem laws_FnWidths.tab17 : rtab .any (opsOf Tryd.f5 17) = laws_FnWidths.T17 := by kernel_rfl
theorem laws_FnWidths.bits17 : waitsOk laws_FnWidths.T17.2 laws_FnWidths.B17 = true := by kernel_rfl
set_option maxHeartbeats 8000000 in
set_option maxRecDepth 100000 in
theorem laws_FnWidths.calls (k : Nat) (A0 : Option Addr) (c0 : Nat) (l0 : List Int) (r : Bool) (w : World) (hr0 : Kd.C (Kd.int .u8) w A0 l0.length l0) (hc0 : l0.length ≤ c0) (h : laws_FnWidths.f k l0 = some r) (hT_ : r = true) (hT : TB w) :
  Calls Tryd.prog 5 #[.slice A0 l0.length c0] w fun e w' => e = .returned (.bool r) ∧ Below w.heap.size w w' := by
 have HT := am hT
 clear hT
 have HR0 := am hr0
 have HC0 := am hc0
 clear hr0 hc0
 have HB := am (Below.refl w.heap.size w)
 have H := h
 unfold laws_FnWidths.f at H
 clear h
 replace H := Option.bind_eq_some_iff.mp H
 obtain ⟨t592, A20, H⟩ := H
 (try dsimp only at H)
 have A2 := am A20
 clear A20
 by_cases c3 : t592 = true
 ·subst c3
  have H1 : (some true) = some r := by rw [if_pos rfl] at H; exact H
  clear H
  have H := H1
  clear H1
  obtain rfl := Option.some.inj H
  go_enter Tryd.func5, Tryd.ntmps5
  go_wp2_with (first | ((with_reducible refine gate_callee (f := 7) rfl ?_); refine gl_ (some 12) Tryd.func7 #[.slice A0 l0.length c0] ?_; (with_reducible refine (laws_big.calls _ _ l0 true _ ?side1 ?side2 A2.out).mono ?_); (case side1 => exact rc (HR0.out)); (case side2 => exact HC0.out); rintro e w' ⟨rfl, ⟨nd, rfl⟩⟩; refine ⟨_, rfl, ?_⟩))
  go_ret
  exact ⟨by first | rfl | (simp [errW_none, errW_some] <;> rfl) | (simp [*, errW_none, errW_some] <;> rfl), by repeat (first | (with_reducible first | exact HB.out | apply b1 | apply b2 | apply b3) | exact HB.out)⟩
 ·replace c3 := Bool.eq_false_iff.mpr c3
  subst c3
  rw [if_neg (show ¬ (false = true) by decide)] at H
  replace H := Option.bind_eq_some_iff.mp H
  obtain ⟨t593, A40, H⟩ := H
  (try dsimp only at H)
  have A4 := am A40
  clear A40
  replace H := Option.bind_eq_some_iff.mp H
  obtain ⟨t594, A50, H⟩ := H
  (try dsimp only at H)
  have A5 := am A50
  clear A50
  replace H := Option.bind_eq_some_iff.mp H
  obtain ⟨⟨t595, t596⟩, A60, H⟩ := H
  (try dsimp only at H)
  have A6 := am A60
  clear A60
  replace H := Option.bind_eq_some_iff.mp H
  obtain ⟨t597, A70, H⟩ := H
  (try dsimp only at H)
  have A7 := am A70
  clear A70
  have HC8 := am H
  clear H
  go_enter Tryd.func5, Tryd.ntmps5
  go_upto_region 7 with (first | ((with_reducible refine gate_callee (f := 7) rfl ?_); refine gl_ (some 12) Tryd.func7 #[.slice A0 l0.length c0] ?_; (with_reducible refine (laws_big.calls _ _ l0 false _ ?side1 ?side2 A2.out).mono ?_); (case side1 => exact rc (HR0.out)); (case side2 => exact HC0.out); rintro e w' ⟨rfl, ⟨nd, rfl⟩⟩; refine ⟨_, rfl, ?_⟩) | ((with_reducible refine gate_callee (f := 30) rfl ?_); refine gl_ (some 14) Tryd.func30 #[.slice A0 l0.length c0] ?_; (with_reducible refine (spec_DrawWidth.calls k _ _ l0 t593 _ ?side1 ?side2 A4.out).mono ?_); (case side1 => exact rc (HR0.out)); (case side2 => exact HC0.out); rintro e w9 ⟨rfl, hb⟩; refine ⟨_, rfl, ?_⟩; have n0_ := am (below_step (rb HB) hb); clear HB; have HB := n0_; clear n0_; (try clear hb); (try clear hb2); (try clear hk); (try clear hi)) | ((with_reducible refine gate_callee (f := 31) rfl ?_); refine gl_ (some 16) Tryd.func31 #[.slice A0 l0.length c0] ?_; (with_reducible refine (spec_DrawTextWidth.calls k _ _ l0 t594 _ ?side1 ?side2 A5.out).mono ?_); (case side1 => exact rc ((Kd.C_below HR0.out HB.out))); (case side2 => exact HC0.out); rintro e w10 ⟨rfl, hb⟩; refine ⟨_, rfl, ?_⟩; have n0_ := am (below_step (rb HB) hb); clear HB; have HB := n0_; clear n0_; (try clear hb); (try clear hb2); (try clear hk); (try clear hi)) | ((with_reducible refine gate_callee (f := 32) rfl ?_); refine gl_ (some 19) Tryd.func32 #[.slice A0 l0.length c0] ?_; (with_reducible refine (spec_DrawFitting.calls k _ _ l0 t595 t596 _ ?side1 ?side2 A6.out).mono ?_); (case side1 => exact rc ((Kd.C_below HR0.out HB.out))); (case side2 => exact HC0.out); rintro e w11 ⟨rfl, hb⟩; refine ⟨_, rfl, ?_⟩; have n0_ := am (below_step (rb HB) hb); clear HB; have HB := n0_; clear n0_; (try clear hb); (try clear hb2); (try clear hk); (try clear hi)) | ((with_reducible refine gate_callee (f := 33) rfl ?_); refine gl_ (some 24) Tryd.func33 #[.string t595, .int .i64 t596] ?_; (with_reducible refine (impl_Fitting.calls k t595 t596 t597 _ A7.out ?sideT).mono ?_); (case sideT => exact TB.below HT.out (rb HB)); rintro e w12 ⟨rfl, hb⟩; refine ⟨_, rfl, ?_⟩; have n0_ := am (below_step (rb HB) hb); clear HB; have HB := n0_; clear n0_; (try clear hb); (try clear hb2); (try clear hk); (try clear hi)))
  (try simp only [Act.put, List.setIfInBounds_toArray, List.set_cons_zero, List.set_cons_succ])
  go_cut [43] (fun v43 wc => ∃ (kq : Nat) (x43_7 : Bool), v43 = .bool x43_7 ∧ Aside0 (laws_FnWidths.j0 kq t595 t596 t597 x43_7 = some r) ∧ Aside0 (kq ≤ k) ∧ Aside0 (Below w.heap.size w wc))
  case first =>
   have H := HC8.out
   clear HC8
   replace H := Option.bind_eq_some_iff.mp H
   obtain ⟨t598, A130, H⟩ := H
   (try dsimp only at H)
   have A13 := am A130
   clear A130
   replace H := Option.bind_eq_some_iff.mp H
   obtain ⟨t599, A140, H⟩ := H
   (try dsimp only at H)
   have A14 := am A140
   clear A140
   refine em_ (p := t598 = t599) (fun c15 => ?g1p) (fun c15 => ?g1n)
   case' g1p =>
    rw [if_pos c15] at H
    have c15b0 : (t598 == t599) = true := beq_iff_eq.mpr c15
    have c15b1 : (t598 != t599) = false := bne_eq_false_iff_eq.mpr c15
    clear c15
    (first | rw [c15b0] | rw [c15b1] | (simp only [i64_w, i32_w]; rw [c15b0]) | skip)
    replace H := Option.bind_eq_some_iff.mp H
    obtain ⟨t600, A160, H⟩ := H
    (try dsimp only at H)
    have A16 := am A160
    clear A160
    replace H := Option.bind_eq_some_iff.mp H
    obtain ⟨t601, A170, H⟩ := H
    (try dsimp only at H)
    have A17 := am A170
    clear A170
    refine em_ (p := t600 = t601) (fun c18 => ?g0p) (fun c18 => ?g0n)
    case' g0p =>
     rw [if_pos c18] at H
     have c18b0 : (t600 == t601) = true := beq_iff_eq.mpr c18
     have c18b1 : (t600 != t601) = false := bne_eq_false_iff_eq.mpr c18
     clear c18
     replace H := Option.bind_eq_some_iff.mp H
     obtain ⟨t602, A190, H⟩ := H
     (try dsimp only at H)
     have A19 := am A190
     clear A190
     have H' := am H
     clear H
     have lf3_ := trivial
    case' g0n =>
     rw [if_neg c18] at H
     have c18b0 : (t600 == t601) = false := beq_eq_false_iff_ne.mpr c18
     have c18b1 : (t600 != t601) = true := bne_iff_ne.mpr c18
     have H' := am H
     clear H
     have lf4_ := trivial
   case' g1n =>
    rw [if_neg c15] at H
    have c15b0 : (t598 == t599) = false := beq_eq_false_iff_ne.mpr c15
    have c15b1 : (t598 != t599) = true := bne_iff_ne.mpr c15
    (first | rw [c15b0] | rw [c15b1] | (simp only [i64_w, i32_w]; rw [c15b0]) | skip)
    have H' := am H
    clear H
    have lf5_ := trivial
   all_goals
    go_wp2_with (first | (go_at_call 36; (with_reducible refine (impl_TextWidth.calls k t594 t600 _ A16.out ?sideT).mono ?_); (case sideT => exact TB.below HT.out (rb HB)); rintro e w20 ⟨rfl, hb⟩; have n0_ := am (below_step (rb HB) hb); clear HB; have HB := n0_; clear n0_; (try clear hb); (try clear hb2); (try clear hk); (try clear hi)) | (go_at_call 38; (with_reducible refine (spec_Fitting.calls k t595 t596 t602 _ A19.out).mono ?_); rintro e w22 ⟨rfl, hb⟩; have n0_ := am (below_step (rb HB) hb); clear HB; have HB := n0_; clear n0_; (try clear hb); (try clear hb2); (try clear hk); (try clear hi)) | (go_at_call 37; (with_reducible refine (spec_TextWidth.calls k t594 t601 _ A17.out).mono ?_); rintro e w21 ⟨rfl, hb⟩; have n0_ := am (below_step (rb HB) hb); clear HB; have HB := n0_; clear n0_; (try clear hb); (try clear hb2); (try clear hk); (try clear hi)) | ((with_reducible refine gate_callee (f := 34) rfl ?_); refine gl_ (some 26) Tryd.func34 #[.int .i64 t593] ?_; (with_reducible refine (impl_Width.calls k t593 t598 _ A13.out).mono ?_); rintro e w' ⟨rfl, ⟨nd, rfl⟩⟩; refine ⟨_, rfl, ?_⟩) | ((with_reducible refine gate_callee (f := 35) rfl ?_); refine gl_ (some 28) Tryd.func35 #[.int .i64 t593] ?_; (with_reducible refine (spec_Width.calls k t593 t599 _ A14.out).mono ?_); rintro e w' ⟨rfl, ⟨nd, rfl⟩⟩; refine ⟨_, rfl, ?_⟩))
    go_meet
    first
    | (
      first | have q_ := lf4_ | have q_ := lf5_
      case rel => exact ⟨_, (true), (by first | rfl | (simp; done) | (simp [*]; done)), H', ⟨by first | omega | exact Nat.le_refl _⟩, ⟨rb HB⟩⟩
      )
    | (
      have q_ := lf3_
      case rel => exact ⟨_, ((t597.toList != t602.toList)), (by first | rfl | (simp; done) | (simp [*]; done)), H', ⟨by first | omega | exact Nat.le_refl _⟩, ⟨rb HB⟩⟩
      )
  case rest =>
   clear HC8
   try clear c1
   try clear p2
   try clear c3
   try clear c5
   try clear c7
   try clear c15
   try clear c15b0
   try clear c15b1
   try clear c18
   try clear c18b0
   try clear c18b1
   obtain ⟨kq, x43_7, rfl, HA, HJ7, HB⟩ := hcut
   cases kq with
   | zero => exact absurd HA.out (by simp [laws_FnWidths.j0])
   | succ kj7 =>
    have H := HA.out
    clear HA
    simp only [laws_FnWidths.j0] at H
    refine em_ (p := x43_7 = true) (fun c25 => ?g2p) (fun c25 => ?g2n)
    case g2p =>
     subst c25
     have H1 : (some false) = some r := by rw [if_pos rfl] at H; exact H
     clear H
     have H := H1
     clear H1
     exact absurd (Option.some.inj (H.trans (congrArg some hT_))) Bool.false_ne_true
    case' g2n =>
     replace c25 := Bool.eq_false_iff.mpr c25
     subst c25
     rw [if_neg (show ¬ (false = true) by decide)] at H
     have HC26 := am H
     clear H
     have lf6_ := trivial
    all_goals
     go_upto_region 9 with (fail)
     go_cut [49] (fun v49 wc => ∃ (kq : Nat) (x49_25 : Bool), v49 = .bool x49_25 ∧ Aside0 (laws_FnWidths.j1 kq t595 t596 t597 x49_25 = some r) ∧ Aside0 (kq ≤ kj7) ∧ Aside0 (Below w.heap.size w wc))
     case first =>
      have H := HC26.out
      clear HC26
      by_cases c27 : t596 < 0
      ·rw [if_pos c27] at H
       have c27b0 : decide (t596 < 0) = true := decide_eq_true c27
       clear c27
       (first | rw [c27b0] | (simp only [i64_w, i32_w]; rw [c27b0]) | skip)
       have H' := am H
       clear H
       go_wp2
       go_meet
       case rel => exact ⟨_, (true), (by first | rfl | (simp; done) | (simp [*]; done)), H', ⟨by have := HJ7.out; first | omega | exact Nat.le_refl _⟩, ⟨rb HB⟩⟩
      ·rw [if_neg c27] at H
       have c27b0 : decide (t596 < 0) = false := decide_eq_false c27
       clear c27
       (first | rw [c27b0] | (simp only [i64_w, i32_w]; rw [c27b0]) | skip)
       have H' := am H
       clear H
       go_wp2
       go_meet
       case rel => exact ⟨_, (decide (t596 > 1000)), (by first | rfl | (simp; done) | (simp [*]; done)), H', ⟨by have := HJ7.out; first | omega | exact Nat.le_refl _⟩, ⟨rb HB⟩⟩
     case rest =>
      clear HC26
      try clear c1
      try clear c2
      try clear p2
      try clear c3
      try clear c5
      try clear c7
      try clear c15
      try clear c15b0
      try clear c15b1
      try clear c18
      try clear c18b0
      try clear c18b1
      try clear c25
      try clear c27
      try clear c27b0
      try clear p2
      obtain ⟨kq, x49_25, rfl, HA, HJ25, HB⟩ := hcut
      cases kq with
      | zero => exact absurd HA.out (by simp [laws_FnWidths.j1])
      | succ kj25 =>
       have H := HA.out
       clear HA
       simp only [laws_FnWidths.j1] at H
       refine em_ (p := x49_25 = true) (fun c28 => ?g3p) (fun c28 => ?g3n)
       case g3p =>
        subst c28
        have H1 : (some (t597.toList == ([] : List UInt8))) = some r := by rw [if_pos rfl] at H; exact H
        clear H
        have H := H1
        clear H1
        first
        | with_reducible exact absurd (Option.some.inj (H.trans (congrArg some hT_))) Bool.false_ne_true
        | (
         obtain rfl := Option.some.inj H
         go_wp2
         go_ret
         exact ⟨by first | rfl | (simp [errW_none, errW_some] <;> rfl) | (simp [*, errW_none, errW_some] <;> rfl), by repeat (first | (with_reducible first | exact HB.out | apply b1 | apply b2 | apply b3) | exact HB.out)⟩)
       case' g3n =>
        replace c28 := Bool.eq_false_iff.mpr c28
        subst c28
        rw [if_neg (show ¬ (false = true) by decide)] at H
        have HC29 := am H
        clear H
        have lf9_ := trivial
       all_goals
        go_upto_region 11 with (fail)
        go_cut [70] (fun v70 wc => ∃ (kq : Nat) (x70_28 : Bool), v70 = .bool x70_28 ∧ Aside0 (laws_FnWidths.j2 kq t595 t596 t597 x70_28 = some r) ∧ Aside0 (kq ≤ kj25) ∧ Aside0 (Below w.heap.size w wc))
        case first =>
         have H := HC29.out
         clear HC29
         refine em_ (p := (t597.size : Int) > (t595.size : Int)) (fun c30 => ?g4p) (fun c30 => ?g4n)
         case' g4p =>
          rw [if_pos c30] at H
          have c30b0 : decide ((t595.size : Int) < (t597.size : Int)) = true := decide_eq_true c30
          have c30b1 : decide (t595.size < t597.size) = true := decide_eq_true (Int.ofNat_lt.mp c30)
          clear c30
          (first | rw [c30b0] | (simp only [i64_w, i32_w]; rw [c30b0]) | skip)
          have H' := am H
          clear H
          have lf10_ := trivial
         case g4n =>
          rw [if_neg c30] at H
          have c30b0 : decide ((t595.size : Int) < (t597.size : Int)) = false := decide_eq_false c30
          have c30b1 : decide (t595.size < t597.size) = false := decide_eq_false (fun h => c30 (Int.ofNat_lt.mpr h))
          clear c30
          (first | rw [c30b0] | (simp only [i64_w, i32_w]; rw [c30b0]) | skip)
          by_cases c31 : 0 ≤ (t597.size : Int)
          ·rw [if_pos c31] at H
           have c31b0 := eq_true c31
           have c31b1 : decide (0 ≤ (t597.size : Int)) = true := decide_eq_true c31
           clear c31
           by_cases c32 : (t597.size : Int) ≤ (t595.size : Int)
           ·rw [if_pos c32] at H
            have c32b0 := eq_true c32
            have c32b1 : decide ((t597.size : Int) ≤ (t595.size : Int)) = true := decide_eq_true c32
            clear c32
            by_cases c33 : (t595.extract 0 ((t597.size : Int) : Int).toNat).toList = t597.toList
            ·rw [if_pos c33] at H
             have c33b0 : ((t595.extract 0 ((t597.size : Int) : Int).toNat).toList == t597.toList) = true := beq_iff_eq.mpr c33
             have c33b1 : ((t595.extract 0 ((t597.size : Int) : Int).toNat).toList != t597.toList) = false := bne_eq_false_iff_eq.mpr c33
             simp only [Int.toNat_natCast] at c33b0 c33b1
             clear c33
             replace H := Option.bind_eq_some_iff.mp H
             obtain ⟨t603, A340, H⟩ := H
             (try dsimp only at H)
             have A34 := am A340
             clear A340
             have H' := am H
             clear H
             go_wp2_with (first | (go_at_call 36; (with_reducible refine (impl_TextWidth.calls kj25 t597 t603 _ A34.out ?sideT).mono ?_); (case sideT => exact TB.below HT.out (rb HB)); rintro e w35 ⟨rfl, hb⟩; have n0_ := am (below_step (rb HB) hb); clear HB; have HB := n0_; clear n0_; (try clear hb); (try clear hb2); (try clear hk); (try clear hi)))
             go_meet
             case rel => exact ⟨_, (decide (t603 > t596)), (by first | rfl | (simp; done) | (simp [*]; done)), H', ⟨by have := HJ7.out; have := HJ25.out; first | omega | exact Nat.le_refl _⟩, ⟨rb HB⟩⟩
            ·rw [if_neg c33] at H
             have c33b0 : ((t595.extract 0 ((t597.size : Int) : Int).toNat).toList == t597.toList) = false := beq_eq_false_iff_ne.mpr c33
             have c33b1 : ((t595.extract 0 ((t597.size : Int) : Int).toNat).toList != t597.toList) = true := bne_iff_ne.mpr c33
             simp only [Int.toNat_natCast] at c33b0 c33b1
             have H' := am H
             clear H
             go_wp2
             go_meet
             case rel => exact ⟨_, (true), (by first | rfl | (simp; done) | (simp [*]; done)), H', ⟨by have := HJ7.out; have := HJ25.out; first | omega | exact Nat.le_refl _⟩, ⟨rb HB⟩⟩
           ·rw [if_neg c32] at H
            exact absurd H (by simp)
          ·rw [if_neg c31] at H
           exact absurd H (by simp)
         all_goals
          go_wp2
          go_meet
          case rel => exact ⟨_, (true), (by first | rfl | (simp; done) | (simp [*]; done)), H', ⟨by have := HJ7.out; have := HJ25.out; first | omega | exact Nat.le_refl _⟩, ⟨rb HB⟩⟩
        case rest =>
         clear HC29
         try clear c1
         try clear c2
         try clear p2
         try clear c3
         try clear c5
         try clear c7
         try clear c15
         try clear c15b0
         try clear c15b1
         try clear c18
         try clear c18b0
         try clear c18b1
         try clear c25
         try clear c27
         try clear c27b0
         try clear c28
         try clear c30
         try clear c30b0
         try clear c30b1
         try clear c31
         try clear c31b0
         try clear c31b1
         try clear c32
         try clear c32b0
         try clear c32b1
         try clear c33
         try clear c33b0
         try clear c33b1
         try clear c34
         try clear c35
         try clear p2
         obtain ⟨kq, x70_28, rfl, HA, HJ28, HB⟩ := hcut
         cases kq with
         | zero => exact absurd HA.out (by simp [laws_FnWidths.j2])
         | succ kj28 =>
          have H := HA.out
          clear HA
          simp only [laws_FnWidths.j2] at H
          refine em_ (p := x70_28 = true) (fun c36 => ?g6p) (fun c36 => ?g6n)
          case g6p =>
           subst c36
           have H1 : (some false) = some r := by rw [if_pos rfl] at H; exact H
           clear H
           have H := H1
           clear H1
           exact absurd (Option.some.inj (H.trans (congrArg some hT_))) Bool.false_ne_true
          case' g6n =>
           replace c36 := Bool.eq_false_iff.mpr c36
           subst c36
           rw [if_neg (show ¬ (false = true) by decide)] at H
           refine em_ (p := (t597.size : Int) = (t595.size : Int)) (fun c37 => ?g5p) (fun c37 => ?g5n)
           case' g5p =>
            rw [if_pos c37] at H
            have c37b0 : ((t597.size : Int) == (t595.size : Int)) = true := beq_iff_eq.mpr c37
            have c37b1 : ((t597.size : Int) != (t595.size : Int)) = false := bne_eq_false_iff_eq.mpr c37
            have c37b2 : (t597.size == t595.size) = true := by first | simpa using c37 | (simp at c37 ⊢; omega)
            clear c37
            obtain rfl := Option.some.inj H
            have lf15_ := trivial
           case g5n =>
            rw [if_neg c37] at H
            have c37b0 : ((t597.size : Int) == (t595.size : Int)) = false := beq_eq_false_iff_ne.mpr c37
            have c37b1 : ((t597.size : Int) != (t595.size : Int)) = true := bne_iff_ne.mpr c37
            have c37b2 : (t597.size == t595.size) = false := by first | simpa using c37 | (simp at c37 ⊢; omega)
            by_cases c38 : 0 ≤ (t597.size : Int)
            ·rw [if_pos c38] at H
             have c38b0 := eq_true c38
             have c38b1 : decide (0 ≤ (t597.size : Int)) = true := decide_eq_true c38
             clear c38
             by_cases c39 : (t597.size : Int) ≤ (t595.size : Int)
             ·rw [if_pos c39] at H
              have c39b0 := eq_true c39
              have c39b1 : decide ((t597.size : Int) ≤ (t595.size : Int)) = true := decide_eq_true c39
              clear c39
              replace H := Option.bind_eq_some_iff.mp H
              obtain ⟨⟨t604, t605⟩, A400, H⟩ := H
              (try dsimp only at H)
              have A40 := am A400
              clear A400
              obtain ⟨ji41, hji41⟩ : ∃ j_ : Int, (wrap64 ((t597.size : Int) + t605)) = j_ := ⟨_, rfl⟩
              replace H : (if 0 ≤ (ji41) then (if (ji41) ≤ (t595.size : Int) then ((impl_TextWidth.f kj28 (t595.extract 0 ((ji41) : Int).toNat)).bind fun t606 => (if t606 > t596 then ((impl_TextWidth.f kj28 t597).bind fun t607 => ((impl_TextWidth.f kj28 (t595.extract ((t597.size : Int) : Int).toNat t595.size)).bind fun t608 => ((impl_TextWidth.f kj28 t595).bind fun t609 => (some ((wrap64 (t607 + t608)) == t609))))) else (some false))) else (none)) else (none)) = some r := by first | (rw [hji41] at H; exact H) | (simp only [hji41] at H ⊢; exact H)
              (try rw [hji41] at A40)
              have hji41w : (IntKind.i64.wrap ((t597.size : Int) + t605)) = ji41 := (i64_w _).trans hji41
              by_cases c42 : 0 ≤ (ji41)
              ·rw [if_pos c42] at H
               have c42b0 := eq_true c42
               have c42b1 : decide (0 ≤ (ji41)) = true := decide_eq_true c42
               clear c42
               by_cases c43 : (ji41) ≤ (t595.size : Int)
               ·rw [if_pos c43] at H
                have c43b0 := eq_true c43
                have c43b1 : decide ((ji41) ≤ (t595.size : Int)) = true := decide_eq_true c43
                clear c43
                replace H := Option.bind_eq_some_iff.mp H
                obtain ⟨t606, A440, H⟩ := H
                (try dsimp only at H)
                have A44 := am A440
                clear A440
                by_cases c45 : t606 > t596
                ·rw [if_pos c45] at H
                 have c45b0 : decide (t596 < t606) = true := decide_eq_true c45
                 clear c45
                 replace H := Option.bind_eq_some_iff.mp H
                 obtain ⟨t607, A460, H⟩ := H
                 (try dsimp only at H)
                 have A46 := am A460
                 clear A460
                 have c47b0 := eq_true (dt_ : 0 ≤ (t597.size : Int))
                 have c48b0 := eq_true (dt_ : (t597.size : Int) ≤ (t595.size : Int))
                 replace H := Option.bind_eq_some_iff.mp H
                 obtain ⟨t608, A490, H⟩ := H
                 (try dsimp only at H)
                 have A49 := am A490
                 clear A490
                 replace H := Option.bind_eq_some_iff.mp H
                 obtain ⟨t609, A500, H⟩ := H
                 (try dsimp only at H)
                 have A50 := am A500
                 clear A500
                 first
                 | with_reducible exact absurd (Option.some.inj (H.trans (congrArg some hT_))) Bool.false_ne_true
                 | (
                  obtain rfl := Option.some.inj H
                  try go_wp2_with (first | ((with_reducible refine gate_callee (f := 16) rfl ?_); refine gl_ (some 81) Tryd.func16 #[.string (t595.extract ((t597.size : Int) : Int).toNat t595.size)] ?_; (with_reducible refine (spec_Get.calls kj28 (t595.extract ((t597.size : Int) : Int).toNat t595.size) t604 t605 _ A40.out).mono ?_); rintro e w51 ⟨rfl, hb⟩; refine ⟨_, rfl, ?_⟩; have n0_ := am (below_step (rb HB) hb); clear HB; have HB := n0_; clear n0_; (try clear hb); (try clear hb2); (try clear hk); (try clear hi)))
                  have n0_ := am (below_drew1 HB.out)
                  clear HB
                  have HB := n0_
                  clear n0_
                  refine start_ (n := 18) (S := fun w' => True) (ds := []) (bm 18 0) (by kernel_rfl) rfl rfl trivial (fun hHeld => ?_); refine with_tabW laws_FnWidths.tab17 laws_FnWidths.bits17 (fun HT_ HW_ => ?_)
                  generalize w51.drew = w52 at HB hHeld ⊢
                  refine pu_ 0 90 (bm 18 1) HT_.out ?_
                  refine pu_ 2 92 (bm 18 5) HT_.out ?_
                  refine one_ (i := 1) (N := some 91) (bm 18 7) rfl rfl (one_of HT_.out (by kernel_rfl)) (by decide) (fun K hK => ?_)
                  refine goes_ Tryd.func36 (by kernel_rfl) rfl #[.string (t595.extract 0 ((ji41) : Int).toNat)] (by rfl) rfl rfl (by (try simp only [List.map_toArray, List.map_cons, List.map_nil]); first | done | (simp only [hji41]; rfl) | rfl | (simp only [List.length_drop, List.length_take]; rfl)) ?_
                  with_reducible refine (impl_TextWidth.calls kj28 (t595.extract 0 ((ji41) : Int).toNat) t606 _ A44.out ?sideT).mono ?_
                  case sideT => exact TB.below HT.out (rb HB)
                  rintro e w53 ⟨rfl, hb⟩
                  refine ⟨_, rfl, ?_⟩
                  have n0_ := am (below_step (rb HB) hb)
                  clear HB
                  have HB := n0_
                  clear n0_
                  (try clear hb)
                  (try clear hb2)
                  (try clear hk)
                  (try clear hi)
                  refine hK.out _ _ trivial (fun hHeld => ?_)
                  clear hK K
                  refine norm_ (a' := ?_) ?_ ?_
                  rotate_left
                  ·show Act.put _ (some 91) _ = _
                   simp only [Act.put, List.setIfInBounds_toArray, List.set_cons_zero, List.set_cons_succ, i64_w, i32_w]
                   rfl
                  refine pu_ 3 93 (bm 18 15) HT_.out ?_
                  refine pu_ 4 94 (bm 18 31) HT_.out ?_
                  refine pu_ 5 95 (bm 18 63) HT_.out ?_
                  refine pu_ 7 97 (bm 18 191) HT_.out ?_
                  refine pu_ 8 98 (bm 18 447) HT_.out ?_
                  refine pu_ 9 99 (bm 18 959) HT_.out ?_
                  refine pu_ 10 100 (bm 18 1983) HT_.out ?_
                  refine pu_ 13 103 (bm 18 10175) HT_.out ?_
                  refine one_ (i := 6) (N := some 96) (bm 18 10239) rfl rfl (one_of HT_.out (by kernel_rfl)) (by decide) (fun K hK => ?_)
                  refine goes_ Tryd.func36 (by kernel_rfl) rfl #[.string t597] (by rfl) rfl rfl (by (try simp only [List.map_toArray, List.map_cons, List.map_nil]); first | done | rfl | (simp only [List.length_drop, List.length_take]; rfl)) ?_
                  with_reducible refine (impl_TextWidth.calls kj28 t597 t607 _ A46.out ?sideT).mono ?_
                  case sideT => exact TB.below HT.out (rb HB)
                  rintro e w54 ⟨rfl, hb⟩
                  refine ⟨_, rfl, ?_⟩
                  have n0_ := am (below_step (rb HB) hb)
                  clear HB
                  have HB := n0_
                  clear n0_
                  (try clear hb)
                  (try clear hb2)
                  (try clear hk)
                  (try clear hi)
                  refine hK.out _ _ trivial (fun hHeld => ?_)
                  clear hK K
                  refine norm_ (a' := ?_) ?_ ?_
                  rotate_left
                  ·show Act.put _ (some 96) _ = _
                   simp only [Act.put, List.setIfInBounds_toArray, List.set_cons_zero, List.set_cons_succ, i64_w, i32_w]
                   rfl
                  refine one_ (i := 11) (N := some 101) (bm 18 12287) rfl rfl (one_of HT_.out (by kernel_rfl)) (by decide) (fun K hK => ?_)
                  refine goes_ Tryd.func36 (by kernel_rfl) rfl #[.string (t595.extract ((t597.size : Int) : Int).toNat t595.size)] (by rfl) rfl rfl (by (try simp only [List.map_toArray, List.map_cons, List.map_nil]); first | done | rfl | (simp only [List.length_drop, List.length_take]; rfl)) ?_
                  with_reducible refine (impl_TextWidth.calls kj28 (t595.extract ((t597.size : Int) : Int).toNat t595.size) t608 _ A49.out ?sideT).mono ?_
                  case sideT => exact TB.below HT.out (rb HB)
                  rintro e w55 ⟨rfl, hb⟩
                  refine ⟨_, rfl, ?_⟩
                  have n0_ := am (below_step (rb HB) hb)
                  clear HB
                  have HB := n0_
                  clear n0_
                  (try clear hb)
                  (try clear hb2)
                  (try clear hk)
                  (try clear hi)
                  refine hK.out _ _ trivial (fun hHeld => ?_)
                  clear hK K
                  refine norm_ (a' := ?_) ?_ ?_
                  rotate_left
                  ·show Act.put _ (some 101) _ = _
                   simp only [Act.put, List.setIfInBounds_toArray, List.set_cons_zero, List.set_cons_succ, i64_w, i32_w]
                   rfl
                  refine pu_ 12 102 (bm 18 16383) HT_.out ?_
                  refine one_ (i := 14) (N := some 104) (bm 18 32767) rfl rfl (one_of HT_.out (by kernel_rfl)) (by decide) (fun K hK => ?_)
                  refine goes_ Tryd.func36 (by kernel_rfl) rfl #[.string t595] (by rfl) rfl rfl (by (try simp only [List.map_toArray, List.map_cons, List.map_nil]); first | done | rfl | (simp only [List.length_drop, List.length_take]; rfl)) ?_
                  with_reducible refine (impl_TextWidth.calls kj28 t595 t609 _ A50.out ?sideT).mono ?_
                  case sideT => exact TB.below HT.out (rb HB)
                  rintro e w56 ⟨rfl, hb⟩
                  refine ⟨_, rfl, ?_⟩
                  have n0_ := am (below_step (rb HB) hb)
                  clear HB
                  have HB := n0_
                  clear n0_
                  (try clear hb)
                  (try clear hb2)
                  (try clear hk)
                  (try clear hi)
                  refine hK.out _ _ trivial (fun hHeld => ?_)
                  clear hK K
                  refine norm_ (a' := ?_) ?_ ?_
                  rotate_left
                  ·show Act.put _ (some 104) _ = _
                   simp only [Act.put, List.setIfInBounds_toArray, List.set_cons_zero, List.set_cons_succ, i64_w, i32_w]
                   rfl
                  refine pu_ 15 105 (bm 18 65535) HT_.out ?_
                  refine pu_ 16 106 (bm 18 131071) HT_.out ?_
                  refine pu_ 17 2 (bm 18 262143) HT_.out ?_
                  refine done_ (done_of HT_.out (by kernel_rfl)) ?_
                  try go_wp2
                  go_ret
                  exact ⟨by first | rfl | (simp [errW_none, errW_some] <;> rfl) | (simp only [← hji41]; first | rfl | (simp [errW_none, errW_some] <;> rfl)) | (simp [*, errW_none, errW_some] <;> rfl), by repeat (first | (with_reducible first | exact HB.out | apply b1 | apply b2 | apply b3) | exact HB.out)⟩)
                ·rw [if_neg c45] at H
                 have c45b0 : decide (t596 < t606) = false := decide_eq_false c45
                 clear c45
                 exact absurd (Option.some.inj (H.trans (congrArg some hT_))) Bool.false_ne_true
               ·rw [if_neg c43] at H
                exact absurd H (by simp)
              ·rw [if_neg c42] at H
               exact absurd H (by simp)
             ·rw [if_neg c39] at H
              exact absurd H (by simp)
            ·rw [if_neg c38] at H
             exact absurd H (by simp)
          all_goals
           go_wp2
           go_ret
           exact ⟨by first | rfl | (simp [errW_none, errW_some] <;> rfl) | (simp [*, errW_none, errW_some] <;> rfl), by repeat (first | (with_reducible first | exact HB.out | apply b1 | apply b2 | apply b3) | exact HB.out)⟩

/-- THE ONE PURE STATEMENT of laws_FnWidths: yours. -/
def laws_FnWidths.Pure : Prop := ∀ (l0 : List Int), l0.length ≤ maxLen → l0.length * 1 ≤ 140737488351232 → (∀ x ∈ l0, (Lit.int .u8 x).wf = true) → ∃ k, laws_FnWidths.f k l0 = some true

end Go.Proofs.YtfhkpneffmcdbaaDoor.QB
