/- Contracts of Go functions that laws of this seat reach: each Lean function answers as its Go function does. No condition. Written by wip/tools/inj.py, over the kit's print. -/
import Derived.Test.YtfhkpneffmcdbaaDoorQBx0
import Derived.Test.YtfhkpneffmcdbaaDoorQBx2
import Derived.Test.YtfhkpneffmcdbaaDoorQBx3
import Derived.Test.YtfhkpneffmcdbaaDoorQBx4
import Derived.Test.YtfhkpneffmcdbaaDoorQBx5
import Derived.Test.YtfhkpneffmcdbaaDoorQBx6
import Derived.Test.YtfhkpneffmcdbaaDoorQBx8
import Derived.Test.YtfhkpneffmcdbaaDoorQBx10
import Derived.Test.YtfhkpneffmcdbaaDoorQBx11
namespace Go.Proofs.YtfhkpneffmcdbaaDoor.QB
open Go.RowKit Go.Proofs.YtfhkpneffmcdbaaDoorW.PrintWords Go.Proofs.YtfhkpneffmcdbaaDoorW.PrintLast Go.Proofs.YtfhkpneffmcdbaaDoorW.PrintMore
attribute [local go_sem] max2_int min2_int max_two min_two max_three min_three max_four min_four   -- for this text's walks alone
set_option linter.unusedVariables false
set_option linter.unusedSimpArgs false

/-! ### laws_FnRunes: function 3 -/
mutual
def laws_FnRunes.j0 : Nat → Int → ByteArray → List Int → ByteArray → List Int → Bool → Option (Bool)
 | 0, _, _, _, _, _, _ => none
 | k + 1, x3, x4, x5, x6, x8, x84 => if x84 = true then (some false) else (if x4.toList = ([] : List UInt8) then (laws_FnRunes.j1 k x3 x4 x5 x6 x8) else (if x4.size + 1 ≤ 9223372036854775807 then ((impl_Get.f (x4 ++ (⟨#[120]⟩ : ByteArray))).bind fun bt387 => (if bt387.1 = x3 then (if bt387.2 = (x4.size : Int) then (if 0 < (x4.size : Int) then ((impl_Starts.f (bt x4 0)).bind fun t389 => (if t389 = true then (laws_FnRunes.j1 k x3 x4 x5 x6 x8) else (some false))) else (none)) else (some false)) else (some false))) else (none)))
def laws_FnRunes.j1 : Nat → Int → ByteArray → List Int → ByteArray → List Int → Option (Bool)
 | 0, _, _, _, _, _ => none
 | k + 1, x3, x4, x5, x6, x8 => laws_FnRunes.l0 k x3 x4 x5 x6 x8 true 0
def laws_FnRunes.l0 : Nat → Int → ByteArray → List Int → ByteArray → List Int → Bool → Int → Option (Bool)
 | 0, _, _, _, _, _, _, _ => none
 | k + 1, x3, x4, x5, x6, x8, x16, x17 => if x17 < (x5.length : Int) then (if x16 = true then (if 0 ≤ x17 then ((spec_RuneOk.f (rd x5 x17)).bind fun t391 => (laws_FnRunes.l0 k x3 x4 x5 x6 x8 t391 (wrap64 (x17 + 1)))) else (none)) else (laws_FnRunes.l0 k x3 x4 x5 x6 x8 false (wrap64 (x17 + 1)))) else (if x16 = true then ((impl_Runes.f k x6).bind fun t392 => ((laws_likeInts.f k t392 x5).bind fun t395 => (if t395 = true then ((impl_Text.f k x8).bind fun t396 => ((impl_Runes.f k t396).bind fun t397 => ((laws_likeInts.f k t397 x8).bind fun t400 => (if t400 = true then ((impl_RuneOk.f x3).bind fun t401 => (some ((x4.toList != ([] : List UInt8)) == t401))) else (some false))))) else (some false)))) else ((impl_Text.f k x8).bind fun t402 => ((impl_Runes.f k t402).bind fun t403 => ((laws_likeInts.f k t403 x8).bind fun t406 => (if t406 = true then ((impl_RuneOk.f x3).bind fun t407 => (some ((x4.toList != ([] : List UInt8)) == t407))) else (some false))))))
end
def laws_FnRunes.f (k : Nat) (l0 : List Int) : Option (Bool) := (laws_big.f l0).bind fun t361 => (if t361 = true then (some true) else ((spec_DrawPut.f k l0).bind fun t362 => ((impl_Put.f k t362).bind fun t363 => ((spec_DrawText.f k l0).bind fun t364 => ((impl_Text.f k t364).bind fun t367 => ((spec_DrawRunes.f k l0).bind fun t368 => ((impl_Runes.f k t368).bind fun t369 => ((impl_Get.f t368).bind fun bt372 => ((spec_DrawStarts.f k l0).bind fun t374 => ((spec_Get.f k t368).bind fun bt375 => (if bt372.1 = bt375.1 then (if bt372.2 = bt375.2 then ((spec_Put.f t362).bind fun t377 => (if t363.toList = t377.toList then ((spec_Text.f k t364).bind fun t378 => (if t367.toList = t378.toList then ((spec_Runes.f k t368).bind fun t379 => ((laws_likeInts.f k t369 t379).bind fun t382 => (if t382 = true then ((impl_Starts.f t374).bind fun t383 => ((spec_Starts.f t374).bind fun t384 => (if (t383 != t384) = true then (laws_FnRunes.j0 k t362 t363 t364 t367 t369 true) else ((impl_RuneOk.f t362).bind fun t385 => ((spec_RuneOk.f t362).bind fun t386 => (laws_FnRunes.j0 k t362 t363 t364 t367 t369 (t385 != t386))))))) else (laws_FnRunes.j0 k t362 t363 t364 t367 t369 true)))) else (laws_FnRunes.j0 k t362 t363 t364 t367 t369 true))) else (laws_FnRunes.j0 k t362 t363 t364 t367 t369 true))) else (laws_FnRunes.j0 k t362 t363 t364 t367 t369 true)) else (laws_FnRunes.j0 k t362 t363 t364 t367 t369 true))))))))))))
theorem laws_FnRunes.mono_l : ∀ k, (∀ y0 y1 y2 y3 y4 y5, LeO (laws_FnRunes.j0 k y0 y1 y2 y3 y4 y5) (laws_FnRunes.j0 (k + 1) y0 y1 y2 y3 y4 y5)) ∧ (∀ y0 y1 y2 y3 y4, LeO (laws_FnRunes.j1 k y0 y1 y2 y3 y4) (laws_FnRunes.j1 (k + 1) y0 y1 y2 y3 y4)) ∧ (∀ y0 y1 y2 y3 y4 y5 y6, LeO (laws_FnRunes.l0 k y0 y1 y2 y3 y4 y5 y6) (laws_FnRunes.l0 (k + 1) y0 y1 y2 y3 y4 y5 y6))
 | 0 => ⟨fun _ _ _ _ _ _ r h => by simp [laws_FnRunes.j0] at h, fun _ _ _ _ _ r h => by simp [laws_FnRunes.j1] at h, fun _ _ _ _ _ _ _ r h => by simp [laws_FnRunes.l0] at h⟩
 | k + 1 => by
  obtain ⟨ih0, ih1, ih2⟩ := laws_FnRunes.mono_l k
  refine ⟨?_, ?_, ?_⟩
  ·intro y0 y1 y2 y3 y4 y5
   unfold laws_FnRunes.j0
   repeat' first
   | (with_reducible exact ih0 _ _ _ _ _ _)
   | (with_reducible exact ih1 _ _ _ _ _)
   | (with_reducible exact ih2 _ _ _ _ _ _ _)
   | (with_reducible exact impl_Put.mono _ _)
   | (with_reducible exact impl_Runes.mono _ _)
   | (with_reducible exact impl_Text.mono _ _)
   | (with_reducible exact laws_likeInts.mono _ _ _)
   | (with_reducible exact spec_DrawPut.mono _ _)
   | (with_reducible exact spec_DrawRunes.mono _ _)
   | (with_reducible exact spec_DrawStarts.mono _ _)
   | (with_reducible exact spec_DrawText.mono _ _)
   | (with_reducible exact spec_Get.mono _ _)
   | (with_reducible exact spec_Runes.mono _ _)
   | (with_reducible exact spec_Text.mono _ _)
   | (with_reducible exact LeO.refl _)
   | (with_reducible exact LeO.none _)
   | (with_reducible refine LeO.ite ?_ ?_)
   | (with_reducible refine LeO.bind ?_ (fun _ => ?_))
  ·intro y0 y1 y2 y3 y4
   unfold laws_FnRunes.j1
   repeat' first
   | (with_reducible exact ih0 _ _ _ _ _ _)
   | (with_reducible exact ih1 _ _ _ _ _)
   | (with_reducible exact ih2 _ _ _ _ _ _ _)
   | (with_reducible exact impl_Put.mono _ _)
   | (with_reducible exact impl_Runes.mono _ _)
   | (with_reducible exact impl_Text.mono _ _)
   | (with_reducible exact laws_likeInts.mono _ _ _)
   | (with_reducible exact spec_DrawPut.mono _ _)
   | (with_reducible exact spec_DrawRunes.mono _ _)
   | (with_reducible exact spec_DrawStarts.mono _ _)
   | (with_reducible exact spec_DrawText.mono _ _)
   | (with_reducible exact spec_Get.mono _ _)
   | (with_reducible exact spec_Runes.mono _ _)
   | (with_reducible exact spec_Text.mono _ _)
   | (with_reducible exact LeO.refl _)
   | (with_reducible exact LeO.none _)
   | (with_reducible refine LeO.ite ?_ ?_)
   | (with_reducible refine LeO.bind ?_ (fun _ => ?_))
  ·intro y0 y1 y2 y3 y4 y5 y6
   unfold laws_FnRunes.l0
   repeat' first
   | (with_reducible exact ih0 _ _ _ _ _ _)
   | (with_reducible exact ih1 _ _ _ _ _)
   | (with_reducible exact ih2 _ _ _ _ _ _ _)
   | (with_reducible exact impl_Put.mono _ _)
   | (with_reducible exact impl_Runes.mono _ _)
   | (with_reducible exact impl_Text.mono _ _)
   | (with_reducible exact laws_likeInts.mono _ _ _)
   | (with_reducible exact spec_DrawPut.mono _ _)
   | (with_reducible exact spec_DrawRunes.mono _ _)
   | (with_reducible exact spec_DrawStarts.mono _ _)
   | (with_reducible exact spec_DrawText.mono _ _)
   | (with_reducible exact spec_Get.mono _ _)
   | (with_reducible exact spec_Runes.mono _ _)
   | (with_reducible exact spec_Text.mono _ _)
   | (with_reducible exact LeO.refl _)
   | (with_reducible exact LeO.none _)
   | (with_reducible refine LeO.ite ?_ ?_)
   | (with_reducible refine LeO.bind ?_ (fun _ => ?_))
theorem laws_FnRunes.mono : ∀ a0 k, LeO (laws_FnRunes.f k a0) (laws_FnRunes.f (k + 1) a0) := by
 intro a0 k
 obtain ⟨ih0, ih1, ih2⟩ := laws_FnRunes.mono_l k
 unfold laws_FnRunes.f
 repeat' first
   | (with_reducible exact ih0 _ _ _ _ _ _)
   | (with_reducible exact ih1 _ _ _ _ _)
   | (with_reducible exact ih2 _ _ _ _ _ _ _)
   | (with_reducible exact impl_Put.mono _ _)
   | (with_reducible exact impl_Runes.mono _ _)
   | (with_reducible exact impl_Text.mono _ _)
   | (with_reducible exact laws_likeInts.mono _ _ _)
   | (with_reducible exact spec_DrawPut.mono _ _)
   | (with_reducible exact spec_DrawRunes.mono _ _)
   | (with_reducible exact spec_DrawStarts.mono _ _)
   | (with_reducible exact spec_DrawText.mono _ _)
   | (with_reducible exact spec_Get.mono _ _)
   | (with_reducible exact spec_Runes.mono _ _)
   | (with_reducible exact spec_Text.mono _ _)
   | (with_reducible exact LeO.refl _)
   | (with_reducible exact LeO.none _)
   | (with_reducible refine LeO.ite ?_ ?_)
   | (with_reducible refine LeO.bind ?_ (fun _ => ?_))
set_option maxHeartbeats 8000000 in
set_option maxRecDepth 100000 in
theorem laws_FnRunes.calls (k : Nat) (A0 : Option Addr) (c0 : Nat) (l0 : List Int) (r : Bool) (w : World) (hr0 : Kd.C (Kd.int .u8) w A0 l0.length l0) (hc0 : l0.length ≤ c0) (h : laws_FnRunes.f k l0 = some r) (hT_ : r = true) (hT : TB w) :
  Calls Tryd.prog 3 #[.slice A0 l0.length c0] w fun e w' => e = .returned (.bool r) ∧ Below w.heap.size w w' := by
 have HT := am hT
 clear hT
 have HR0 := am hr0
 have HC0 := am hc0
 clear hr0 hc0
 have HB := am (Below.refl w.heap.size w)
 have H := h
 unfold laws_FnRunes.f at H
 clear h
 replace H := Option.bind_eq_some_iff.mp H
 obtain ⟨t361, A20, H⟩ := H
 (try dsimp only at H)
 have A2 := am A20
 clear A20
 by_cases c3 : t361 = true
 ·subst c3
  have H1 : (some true) = some r := by rw [if_pos rfl] at H; exact H
  clear H
  have H := H1
  clear H1
  obtain rfl := Option.some.inj H
  go_enter Tryd.func3, Tryd.ntmps3
  go_wp2_with (first | ((with_reducible refine gate_callee (f := 7) rfl ?_); refine gl_ (some 19) Tryd.func7 #[.slice A0 l0.length c0] ?_; (with_reducible refine (laws_big.calls _ _ l0 true _ ?side1 ?side2 A2.out).mono ?_); (case side1 => exact rc (HR0.out)); (case side2 => exact HC0.out); rintro e w' ⟨rfl, ⟨nd, rfl⟩⟩; refine ⟨_, rfl, ?_⟩))
  go_ret
  exact ⟨by first | rfl | (simp [errW_none, errW_some] <;> rfl) | (simp [*, errW_none, errW_some] <;> rfl), by repeat (first | (with_reducible first | exact HB.out | apply b1 | apply b2 | apply b3) | exact HB.out)⟩
 ·replace c3 := Bool.eq_false_iff.mpr c3
  subst c3
  rw [if_neg (show ¬ (false = true) by decide)] at H
  replace H := Option.bind_eq_some_iff.mp H
  obtain ⟨t362, A40, H⟩ := H
  (try dsimp only at H)
  have A4 := am A40
  clear A40
  replace H := Option.bind_eq_some_iff.mp H
  obtain ⟨t363, A50, H⟩ := H
  (try dsimp only at H)
  have A5 := am A50
  clear A50
  replace H := Option.bind_eq_some_iff.mp H
  obtain ⟨t364, A60, H⟩ := H
  (try dsimp only at H)
  have A6 := am A60
  clear A60
  replace H := Option.bind_eq_some_iff.mp H
  obtain ⟨t367, A70, H⟩ := H
  (try dsimp only at H)
  have A7 := am A70
  clear A70
  replace H := Option.bind_eq_some_iff.mp H
  obtain ⟨t368, A80, H⟩ := H
  (try dsimp only at H)
  have A8 := am A80
  clear A80
  replace H := Option.bind_eq_some_iff.mp H
  obtain ⟨t369, A90, H⟩ := H
  (try dsimp only at H)
  have A9 := am A90
  clear A90
  replace H := Option.bind_eq_some_iff.mp H
  obtain ⟨⟨t372, t373⟩, A100, H⟩ := H
  (try dsimp only at H)
  have A10 := am A100
  clear A100
  replace H := Option.bind_eq_some_iff.mp H
  obtain ⟨t374, A110, H⟩ := H
  (try dsimp only at H)
  have A11 := am A110
  clear A110
  replace H := Option.bind_eq_some_iff.mp H
  obtain ⟨⟨t375, t376⟩, A120, H⟩ := H
  (try dsimp only at H)
  have A12 := am A120
  clear A120
  have HC13 := am H
  clear H
  go_enter Tryd.func3, Tryd.ntmps3
  go_upto_region 12 with (first | ((with_reducible refine gate_callee (f := 7) rfl ?_); refine gl_ (some 19) Tryd.func7 #[.slice A0 l0.length c0] ?_; (with_reducible refine (laws_big.calls _ _ l0 false _ ?side1 ?side2 A2.out).mono ?_); (case side1 => exact rc (HR0.out)); (case side2 => exact HC0.out); rintro e w' ⟨rfl, ⟨nd, rfl⟩⟩; refine ⟨_, rfl, ?_⟩) | ((with_reducible refine gate_callee (f := 8) rfl ?_); refine gl_ (some 21) Tryd.func8 #[.slice A0 l0.length c0] ?_; (with_reducible refine (spec_DrawPut.calls k _ _ l0 t362 _ ?side1 ?side2 A4.out).mono ?_); (case side1 => exact rc (HR0.out)); (case side2 => exact HC0.out); rintro e w14 ⟨rfl, hb⟩; refine ⟨_, rfl, ?_⟩; have n0_ := am (below_step (rb HB) hb); clear HB; have HB := n0_; clear n0_; (try clear hb); (try clear hb2); (try clear hk); (try clear hi)) | ((with_reducible refine gate_callee (f := 9) rfl ?_); refine gl_ (some 23) Tryd.func9 #[.int .i64 t362] ?_; (with_reducible refine (impl_Put.calls k t362 t363 _ A5.out).mono ?_); rintro e w15 ⟨rfl, hb⟩; refine ⟨_, rfl, ?_⟩; have n0_ := am (below_step (rb HB) hb); clear HB; have HB := n0_; clear n0_; (try clear hb); (try clear hb2); (try clear hk); (try clear hi)) | ((with_reducible refine gate_callee (f := 10) rfl ?_); refine gl_ (some 25) Tryd.func10 #[.slice A0 l0.length c0] ?_; (with_reducible refine (spec_DrawText.calls k _ _ l0 t364 _ ?side1 ?side2 A6.out).mono ?_); (case side1 => exact rc ((Kd.C_below HR0.out HB.out))); (case side2 => exact HC0.out); rintro e w16 ⟨v365, rfl, ho0, hb⟩; refine ⟨_, rfl, ?_⟩; have n0_ := am (Kd.R_lower ho0 (below_size (rb HB))); have n1_ := am (below_step (rb HB) hb); clear HB; have HO366 := n0_; have HB := n1_; clear n0_ n1_; (try clear hb); (try clear hb2); (try clear hk); (try clear hi); (try clear ho0); obtain ⟨Ao17, co17, eo17⟩ := Kd.R_slice HO366.out; subst eo17) | ((with_reducible refine gate_callee (f := 11) rfl ?_); refine gl_ (some 27) Tryd.func11 #[.slice Ao17 t364.length co17] ?_; (with_reducible refine (impl_Text.calls k _ _ t364 t367 _ ?side1 ?side2 A7.out).mono ?_); (case side1 => repeat (first | exact (Kd.R_reads' HO366.out).2.2 | (with_reducible refine Kd.C_alloc ?_ _) | (with_reducible refine Kd.C_drewN ?_ _) | (with_reducible refine Kd.C_drew ?_))); (case side2 => exact (Kd.R_reads' HO366.out).2.1); rintro e w18 ⟨rfl, hb⟩; refine ⟨_, rfl, ?_⟩; have n0_ := am (Kd.R_below (rr HO366) hb); have n1_ := am (below_step (rb HB) hb); clear HO366; clear HB; have HO366 := n0_; have HB := n1_; clear n0_ n1_; (try clear hb); (try clear hb2); (try clear hk); (try clear hi)) | ((with_reducible refine gate_callee (f := 12) rfl ?_); refine gl_ (some 29) Tryd.func12 #[.slice A0 l0.length c0] ?_; (with_reducible refine (spec_DrawRunes.calls k _ _ l0 t368 _ ?side1 ?side2 A8.out).mono ?_); (case side1 => exact rc ((Kd.C_below HR0.out HB.out))); (case side2 => exact HC0.out); rintro e w19 ⟨rfl, hb⟩; refine ⟨_, rfl, ?_⟩; have n0_ := am (Kd.R_below (rr HO366) hb); have n1_ := am (below_step (rb HB) hb); clear HO366; clear HB; have HO366 := n0_; have HB := n1_; clear n0_ n1_; (try clear hb); (try clear hb2); (try clear hk); (try clear hi)) | ((with_reducible refine gate_callee (f := 13) rfl ?_); refine gl_ (some 31) Tryd.func13 #[.string t368] ?_; (with_reducible refine (impl_Runes.calls k t368 t369 _ A9.out ?sideT).mono ?_); (case sideT => exact TB.below HT.out (rb HB)); rintro e w20 ⟨v370, rfl, ho0, hb⟩; refine ⟨_, rfl, ?_⟩; have n0_ := am (Kd.R_elder' (rr HO366) (Kd.R_base ho0) hb); have n1_ := am (Kd.R_lower (Kd.R_new' ho0 (Kd.R_lt (rr HO366))) (below_size (rb HB))); have n2_ := am (below_step (rb HB) hb); clear HO366; clear HB; have HO366 := n0_; have HO371 := n1_; have HB := n2_; clear n0_ n1_ n2_; (try clear hb); (try clear hb2); (try clear hk); (try clear hi); (try clear ho0)) | ((with_reducible refine gate_callee (f := 14) rfl ?_); refine gl_ (some 34) Tryd.func14 #[.string t368] ?_; (with_reducible refine (impl_Get.calls t368 t372 t373 _ A10.out ?sideT).mono ?_); (case sideT => exact TB.below HT.out (rb HB)); rintro e w21 ⟨rfl, hb⟩; refine ⟨_, rfl, ?_⟩; have n0_ := am (Kd.R_below (rr HO366) hb); have n1_ := am (Kd.R_below (rr HO371) hb); have n2_ := am (below_step (rb HB) hb); clear HO366; clear HO371; clear HB; have HO366 := n0_; have HO371 := n1_; have HB := n2_; clear n0_ n1_ n2_; (try clear hb); (try clear hb2); (try clear hk); (try clear hi)) | ((with_reducible refine gate_callee (f := 15) rfl ?_); refine gl_ (some 38) Tryd.func15 #[.slice A0 l0.length c0] ?_; (with_reducible refine (spec_DrawStarts.calls k _ _ l0 t374 _ ?side1 ?side2 A11.out).mono ?_); (case side1 => exact rc ((Kd.C_below HR0.out HB.out))); (case side2 => exact HC0.out); rintro e w22 ⟨rfl, hb⟩; refine ⟨_, rfl, ?_⟩; have n0_ := am (Kd.R_below (rr HO366) hb); have n1_ := am (Kd.R_below (rr HO371) hb); have n2_ := am (below_step (rb HB) hb); clear HO366; clear HO371; clear HB; have HO366 := n0_; have HO371 := n1_; have HB := n2_; clear n0_ n1_ n2_; (try clear hb); (try clear hb2); (try clear hk); (try clear hi)) | ((with_reducible refine gate_callee (f := 16) rfl ?_); refine gl_ (some 41) Tryd.func16 #[.string t368] ?_; (with_reducible refine (spec_Get.calls k t368 t375 t376 _ A12.out).mono ?_); rintro e w23 ⟨rfl, hb⟩; refine ⟨_, rfl, ?_⟩; have n0_ := am (Kd.R_below (rr HO366) hb); have n1_ := am (Kd.R_below (rr HO371) hb); have n2_ := am (below_step (rb HB) hb); clear HO366; clear HO371; clear HB; have HO366 := n0_; have HO371 := n1_; have HB := n2_; clear n0_ n1_ n2_; (try clear hb); (try clear hb2); (try clear hk); (try clear hi)))
  (try simp only [Act.put, List.setIfInBounds_toArray, List.set_cons_zero, List.set_cons_succ])
  go_cut [84] (fun v84 wc => ∃ (kq : Nat) (x84_12 : Bool), v84 = .bool x84_12 ∧ Aside0 (laws_FnRunes.j0 kq t362 t363 t364 t367 t369 x84_12 = some r) ∧ Aside0 (kq ≤ k) ∧ Aside0 (Kd.R (Kd.int .i64) 2 wc w.heap.size (fun k_ => some k_ ≠ (v370 : Value).ownBlock) (.slice Ao17 t364.length co17) t364) ∧ Aside0 (Kd.R (Kd.int .i64) 2 wc w.heap.size (fun k_ => some k_ ≠ ((.slice Ao17 t364.length co17) : Value).ownBlock) v370 t369) ∧ Aside0 (Below w.heap.size w wc))
  case first =>
   have H := HC13.out
   clear HC13
   refine em_ (p := t372 = t375) (fun c24 => ?g4p) (fun c24 => ?g4n)
   case g4p =>
    rw [if_pos c24] at H
    have c24b0 : (t372 == t375) = true := beq_iff_eq.mpr c24
    have c24b1 : (t372 != t375) = false := bne_eq_false_iff_eq.mpr c24
    clear c24
    (first | rw [c24b0] | rw [c24b1] | (simp only [i64_w, i32_w]; rw [c24b0]) | skip)
    refine em_ (p := t373 = t376) (fun c25 => ?g5p) (fun c25 => ?g5n)
    case g5p =>
     rw [if_pos c25] at H
     have c25b0 : (t373 == t376) = true := beq_iff_eq.mpr c25
     have c25b1 : (t373 != t376) = false := bne_eq_false_iff_eq.mpr c25
     clear c25
     replace H := Option.bind_eq_some_iff.mp H
     obtain ⟨t377, A260, H⟩ := H
     (try dsimp only at H)
     have A26 := am A260
     clear A260
     refine em_ (p := t363.toList = t377.toList) (fun c27 => ?g3p) (fun c27 => ?g3n)
     case' g3p =>
      rw [if_pos c27] at H
      have c27b0 : (t363.toList == t377.toList) = true := beq_iff_eq.mpr c27
      have c27b1 : (t363.toList != t377.toList) = false := bne_eq_false_iff_eq.mpr c27
      clear c27
      replace H := Option.bind_eq_some_iff.mp H
      obtain ⟨t378, A280, H⟩ := H
      (try dsimp only at H)
      have A28 := am A280
      clear A280
      refine em_ (p := t367.toList = t378.toList) (fun c29 => ?g2p) (fun c29 => ?g2n)
      case' g2p =>
       rw [if_pos c29] at H
       have c29b0 : (t367.toList == t378.toList) = true := beq_iff_eq.mpr c29
       have c29b1 : (t367.toList != t378.toList) = false := bne_eq_false_iff_eq.mpr c29
       clear c29
       replace H := Option.bind_eq_some_iff.mp H
       obtain ⟨t379, A300, H⟩ := H
       (try dsimp only at H)
       have A30 := am A300
       clear A300
       replace H := Option.bind_eq_some_iff.mp H
       obtain ⟨t382, A310, H⟩ := H
       (try dsimp only at H)
       have A31 := am A310
       clear A310
       refine em_ (p := t382 = true) (fun c32 => ?g1p) (fun c32 => ?g1n)
       case' g1p =>
        subst c32
        rw [if_pos rfl] at H
        replace H := Option.bind_eq_some_iff.mp H
        obtain ⟨t383, A330, H⟩ := H
        (try dsimp only at H)
        have A33 := am A330
        clear A330
        replace H := Option.bind_eq_some_iff.mp H
        obtain ⟨t384, A340, H⟩ := H
        (try dsimp only at H)
        have A34 := am A340
        clear A340
        refine em_ (p := (t383 != t384) = true) (fun c35 => ?g0p) (fun c35 => ?g0n)
        case' g0p =>
         rw [if_pos c35] at H
         have c35b0 : (t383 != t384) = true := c35
         (try (have c35b1 : decide (t383 = t384) = false := by simpa using c35))
         (try (have c35b2 : (t383 == t384) = false := by simpa using c35))
         (try (have c35b3 : ¬ (t383 = t384) := by simpa using c35))
         clear c35
         have H' := am H
         clear H
         have lf3_ := trivial
        case' g0n =>
         rw [if_neg c35] at H
         have c35b0 : (t383 != t384) = false := by simpa using c35
         (try (have c35b1 : decide (t383 = t384) = true := by simpa using c35))
         (try (have c35b2 : (t383 == t384) = true := by simpa using c35))
         clear c35
         replace H := Option.bind_eq_some_iff.mp H
         obtain ⟨t385, A410, H⟩ := H
         (try dsimp only at H)
         have A41 := am A410
         clear A410
         replace H := Option.bind_eq_some_iff.mp H
         obtain ⟨t386, A420, H⟩ := H
         (try dsimp only at H)
         have A42 := am A420
         clear A420
         have H' := am H
         clear H
         have lf4_ := trivial
       case' g1n =>
        replace c32 := Bool.eq_false_iff.mpr c32
        subst c32
        rw [if_neg (show ¬ (false = true) by decide)] at H
        have H' := am H
        clear H
        have lf5_ := trivial
      case' g2n =>
       rw [if_neg c29] at H
       have c29b0 : (t367.toList == t378.toList) = false := beq_eq_false_iff_ne.mpr c29
       have c29b1 : (t367.toList != t378.toList) = true := bne_iff_ne.mpr c29
       have H' := am H
       clear H
       have lf6_ := trivial
     case' g3n =>
      rw [if_neg c27] at H
      have c27b0 : (t363.toList == t377.toList) = false := beq_eq_false_iff_ne.mpr c27
      have c27b1 : (t363.toList != t377.toList) = true := bne_iff_ne.mpr c27
      have H' := am H
      clear H
      have lf7_ := trivial
     all_goals
      go_wp2_with (first | (go_at_call 20; (with_reducible refine (spec_Runes.calls k t368 t379 _ A30.out).mono ?_); rintro e w38 ⟨v380, rfl, ho0, hb⟩; have n0_ := am (Kd.R_elder' (rr HO366) (Kd.R_base ho0) hb); have n1_ := am (Kd.R_elder' (rr HO371) (Kd.R_base ho0) hb); have n2_ := am (Kd.R_lower (Kd.R_new' (Kd.R_new' ho0 (Kd.R_lt (rr HO366))) (Kd.R_lt (rr HO371))) (below_size (rb HB))); have n3_ := am (below_step (rb HB) hb); clear HO366; clear HO371; clear HB; have HO366 := n0_; have HO371 := n1_; have HO381 := n2_; have HB := n3_; clear n0_ n1_ n2_ n3_; (try clear hb); (try clear hb2); (try clear hk); (try clear hi); (try clear ho0); obtain ⟨Ao39, co39, eo39⟩ := Kd.R_slice HO371.out; subst eo39; obtain ⟨Ao40, co40, eo40⟩ := Kd.R_slice HO381.out; subst eo40) | (go_at_call 18; (with_reducible refine (spec_Text.calls k _ _ t364 t378 _ ?side1 ?side2 A28.out).mono ?_); (case side1 => repeat (first | exact (Kd.R_reads' HO366.out).2.2 | (with_reducible refine Kd.C_alloc ?_ _) | (with_reducible refine Kd.C_drewN ?_ _) | (with_reducible refine Kd.C_drew ?_))); (case side2 => exact (Kd.R_reads' HO366.out).2.1); rintro e w37 ⟨rfl, hb⟩; have n0_ := am (Kd.R_below (rr HO366) hb); have n1_ := am (Kd.R_below (rr HO371) hb); have n2_ := am (below_step (rb HB) hb); clear HO366; clear HO371; clear HB; have HO366 := n0_; have HO371 := n1_; have HB := n2_; clear n0_ n1_ n2_; (try clear hb); (try clear hb2); (try clear hk); (try clear hi)) | (go_at_call 19; (with_reducible refine (laws_likeInts.calls k _ _ t369 _ _ t379 false _ ?side1 ?side2 ?side3 ?side4 A31.out).mono ?_); (case side1 => repeat (first | exact (Kd.R_reads' HO371.out).2.2 | (with_reducible refine Kd.C_alloc ?_ _) | (with_reducible refine Kd.C_drewN ?_ _) | (with_reducible refine Kd.C_drew ?_))); (case side2 => exact (Kd.R_reads' HO371.out).2.1); (case side3 => repeat (first | exact (Kd.R_reads' HO381.out).2.2 | (with_reducible refine Kd.C_alloc ?_ _) | (with_reducible refine Kd.C_drewN ?_ _) | (with_reducible refine Kd.C_drew ?_))); (case side4 => exact (Kd.R_reads' HO381.out).2.1); rintro e w' ⟨rfl, ⟨nd, rfl⟩⟩) | (go_at_call 19; (with_reducible refine (laws_likeInts.calls k _ _ t369 _ _ t379 true _ ?side1 ?side2 ?side3 ?side4 A31.out).mono ?_); (case side1 => repeat (first | exact (Kd.R_reads' HO371.out).2.2 | (with_reducible refine Kd.C_alloc ?_ _) | (with_reducible refine Kd.C_drewN ?_ _) | (with_reducible refine Kd.C_drew ?_))); (case side2 => exact (Kd.R_reads' HO371.out).2.1); (case side3 => repeat (first | exact (Kd.R_reads' HO381.out).2.2 | (with_reducible refine Kd.C_alloc ?_ _) | (with_reducible refine Kd.C_drewN ?_ _) | (with_reducible refine Kd.C_drew ?_))); (case side4 => exact (Kd.R_reads' HO381.out).2.1); rintro e w' ⟨rfl, ⟨nd, rfl⟩⟩) | (go_at_call 17; (with_reducible refine (spec_Put.calls t362 t377 _ A26.out).mono ?_); rintro e w36 ⟨rfl, hb⟩; have n0_ := am (Kd.R_below (rr HO366) hb); have n1_ := am (Kd.R_below (rr HO371) hb); have n2_ := am (below_step (rb HB) hb); clear HO366; clear HO371; clear HB; have HO366 := n0_; have HO371 := n1_; have HB := n2_; clear n0_ n1_ n2_; (try clear hb); (try clear hb2); (try clear hk); (try clear hi)) | (go_at_call 21; (with_reducible refine (impl_Starts.calls t374 t383 _ A33.out).mono ?_); rintro e w' ⟨rfl, ⟨nd, rfl⟩⟩) | (go_at_call 22; (with_reducible refine (spec_Starts.calls t374 t384 _ A34.out).mono ?_); rintro e w' ⟨rfl, ⟨nd, rfl⟩⟩) | (go_at_call 23; (with_reducible refine (impl_RuneOk.calls t362 t385 _ A41.out).mono ?_); rintro e w' ⟨rfl, ⟨nd, rfl⟩⟩) | (go_at_call 24; (with_reducible refine (spec_RuneOk.calls t362 t386 _ A42.out).mono ?_); rintro e w' ⟨rfl, ⟨nd, rfl⟩⟩))
      go_meet
      first
      | (
        first | have q_ := lf3_ | have q_ := lf5_
        case rel => exact ⟨_, (true), (by first | rfl | (simp; done) | (simp [*]; done)), H', ⟨by first | omega | exact Nat.le_refl _⟩, ⟨by (with_reducible repeat (first | apply r1 | apply r2 | apply r3)); exact Kd.R_mono HO366.out (fun _ hk => hk.1.2)⟩, ⟨by (with_reducible repeat (first | apply r1 | apply r2 | apply r3)); exact Kd.R_mono HO371.out (fun _ hk => hk.1.2)⟩, ⟨rb HB⟩⟩
        )
      | (
        first | have q_ := lf6_ | have q_ := lf7_
        case rel => exact ⟨_, (true), (by first | rfl | (simp; done) | (simp [*]; done)), H', ⟨by first | omega | exact Nat.le_refl _⟩, ⟨by (with_reducible repeat (first | apply r1 | apply r2 | apply r3)); exact Kd.R_mono HO366.out (fun _ hk => hk.2)⟩, ⟨by (with_reducible repeat (first | apply r1 | apply r2 | apply r3)); exact Kd.R_mono HO371.out (fun _ hk => hk.2)⟩, ⟨rb HB⟩⟩
        )
      | (
        have q_ := lf4_
        case rel => exact ⟨_, ((t385 != t386)), (by first | rfl | (simp; done) | (simp [*]; done)), H', ⟨by first | omega | exact Nat.le_refl _⟩, ⟨by (with_reducible repeat (first | apply r1 | apply r2 | apply r3)); exact Kd.R_mono HO366.out (fun _ hk => hk.1.2)⟩, ⟨by (with_reducible repeat (first | apply r1 | apply r2 | apply r3)); exact Kd.R_mono HO371.out (fun _ hk => hk.1.2)⟩, ⟨rb HB⟩⟩
        )
    case' g5n =>
     rw [if_neg c25] at H
     have c25b0 : (t373 == t376) = false := beq_eq_false_iff_ne.mpr c25
     have c25b1 : (t373 != t376) = true := bne_iff_ne.mpr c25
     have H' := am H
     clear H
     have lf10_ := trivial
    all_goals
     go_wp2
     go_meet
     case rel => exact ⟨_, (true), (by first | rfl | (simp; done) | (simp [*]; done)), H', ⟨by first | omega | exact Nat.le_refl _⟩, ⟨by (with_reducible repeat (first | apply r1 | apply r2 | apply r3)); exact Kd.R_mono HO366.out (fun _ hk => hk.2)⟩, ⟨by (with_reducible repeat (first | apply r1 | apply r2 | apply r3)); exact Kd.R_mono HO371.out (fun _ hk => hk.2)⟩, ⟨rb HB⟩⟩
   case' g4n =>
    rw [if_neg c24] at H
    have c24b0 : (t372 == t375) = false := beq_eq_false_iff_ne.mpr c24
    have c24b1 : (t372 != t375) = true := bne_iff_ne.mpr c24
    (first | rw [c24b0] | rw [c24b1] | (simp only [i64_w, i32_w]; rw [c24b0]) | skip)
    have H' := am H
    clear H
    have lf9_ := trivial
   all_goals
    go_wp2
    go_meet
    case rel => exact ⟨_, (true), (by first | rfl | (simp; done) | (simp [*]; done)), H', ⟨by first | omega | exact Nat.le_refl _⟩, ⟨by (with_reducible repeat (first | apply r1 | apply r2 | apply r3)); exact Kd.R_mono HO366.out (fun _ hk => hk.2)⟩, ⟨by (with_reducible repeat (first | apply r1 | apply r2 | apply r3)); exact Kd.R_mono HO371.out (fun _ hk => hk.2)⟩, ⟨rb HB⟩⟩
  case rest =>
   clear HC13
   try clear c1
   try clear c2
   try clear p2
   try clear c3
   try clear c7
   try clear c8
   try clear c9
   try clear c10
   try clear c11
   try clear c12
   try clear c13
   try clear c14
   try clear c15
   try clear c16
   try clear c24
   try clear c24b0
   try clear c24b1
   try clear c25
   try clear c25b0
   try clear c25b1
   try clear c27
   try clear c27b0
   try clear c27b1
   try clear c29
   try clear c29b0
   try clear c29b1
   try clear c32
   try clear c35
   try clear c35b0
   try clear c35b1
   try clear c35b2
   obtain ⟨kq, x84_12, rfl, HA, HJ12, HO_5, HO_8, HB⟩ := hcut
   cases kq with
   | zero => exact absurd HA.out (by simp [laws_FnRunes.j0])
   | succ kj12 =>
    have H := HA.out
    clear HA
    simp only [laws_FnRunes.j0] at H
    refine em_ (p := x84_12 = true) (fun c56 => ?g6p) (fun c56 => ?g6n)
    case g6p =>
     subst c56
     have H1 : (some false) = some r := by rw [if_pos rfl] at H; exact H
     clear H
     have H := H1
     clear H1
     exact absurd (Option.some.inj (H.trans (congrArg some hT_))) Bool.false_ne_true
    case' g6n =>
     replace c56 := Bool.eq_false_iff.mpr c56
     subst c56
     rw [if_neg (show ¬ (false = true) by decide)] at H
     have HC57 := am H
     clear H
     have lf11_ := trivial
    all_goals
     go_upto_if 86 with (fail)
     go_cut [] (fun wc => ∃ (kq : Nat), Aside0 (laws_FnRunes.j1 kq t362 t363 t364 t367 t369 = some r) ∧ Aside0 (kq ≤ kj12) ∧ Aside0 (Kd.R (Kd.int .i64) 2 wc w.heap.size (fun k_ => some k_ ≠ (v370 : Value).ownBlock) (.slice Ao17 t364.length co17) t364) ∧ Aside0 (Kd.R (Kd.int .i64) 2 wc w.heap.size (fun k_ => some k_ ≠ ((.slice Ao17 t364.length co17) : Value).ownBlock) v370 t369) ∧ Aside0 (Below w.heap.size w wc))
     case first =>
      have H := HC57.out
      clear HC57
      by_cases c58 : t363.toList = ([] : List UInt8)
      ·rw [if_pos c58] at H
       have c58b0 : (t363.toList == ([] : List UInt8)) = true := beq_iff_eq.mpr c58
       have c58b1 : (t363.toList != ([] : List UInt8)) = false := bne_eq_false_iff_eq.mpr c58
       have c58b2 : (!t363.toList.isEmpty) = false := by rw [c58]; rfl
       clear c58
       (first | rw [c58b0] | rw [c58b1] | (simp only [i64_w, i32_w]; rw [c58b0]) | skip)
       (try rw [c58b2])
       have H' := am H
       clear H
       go_wp2
       go_meet
       case rel => exact ⟨_, H', ⟨by have := HJ12.out; first | omega | exact Nat.le_refl _⟩, ⟨rr HO_5⟩, ⟨rr HO_8⟩, ⟨rb HB⟩⟩
      ·rw [if_neg c58] at H
       have c58b0 : (t363.toList == ([] : List UInt8)) = false := beq_eq_false_iff_ne.mpr c58
       have c58b1 : (t363.toList != ([] : List UInt8)) = true := bne_iff_ne.mpr c58
       have c58b2 : (!t363.toList.isEmpty) = true := by (cases h_ : t363.toList with | nil => exact absurd h_ c58 | cons => rfl)
       (first | rw [c58b0] | rw [c58b1] | (simp only [i64_w, i32_w]; rw [c58b0]) | skip)
       (try rw [c58b2])
       refine em_ (p := t363.size + 1 ≤ 9223372036854775807) (fun c59 => ?g11p) (fun c59 => ?g11n)
       case' g11p =>
        rw [if_pos c59] at H
        have c59b0 := eq_true c59
        have c59b1 : decide (t363.size + 1 ≤ 9223372036854775807) = true := decide_eq_true c59
        try have c59b2 : (9223372036854775807 < t363.size + 1) = False := eq_false (Nat.not_lt.2 c59)
        replace H := Option.bind_eq_some_iff.mp H
        obtain ⟨⟨t387, t388⟩, A600, H⟩ := H
        (try dsimp only at H)
        have A60 := am A600
        clear A600
        refine em_ (p := t387 = t362) (fun c61 => ?g10p) (fun c61 => ?g10n)
        case' g10p =>
         rw [if_pos c61] at H
         have c61b0 : (t387 == t362) = true := beq_iff_eq.mpr c61
         have c61b1 : (t387 != t362) = false := bne_eq_false_iff_eq.mpr c61
         clear c61
         refine em_ (p := t388 = (t363.size : Int)) (fun c62 => ?g9p) (fun c62 => ?g9n)
         case' g9p =>
          rw [if_pos c62] at H
          have c62b0 : (t388 == (t363.size : Int)) = true := beq_iff_eq.mpr c62
          have c62b1 : (t388 != (t363.size : Int)) = false := bne_eq_false_iff_eq.mpr c62
          clear c62
          refine em_ (p := 0 < (t363.size : Int)) (fun c63 => ?g8p) (fun c63 => ?g8n)
          case' g8p =>
           rw [if_pos c63] at H
           have c63b0 : decide (0 < (t363.size : Int)) = true := decide_eq_true c63
           have c63b1 : decide (0 < t363.size) = true := decide_eq_true (by omega)
           clear c63
           replace H := Option.bind_eq_some_iff.mp H
           obtain ⟨t389, A650, H⟩ := H
           (try dsimp only at H)
           have A65 := am A650
           clear A650
           refine em_ (p := t389 = true) (fun c66 => ?g7p) (fun c66 => ?g7n)
           case' g7p =>
            subst c66
            have H1 : (laws_FnRunes.j1 kj12 t362 t363 t364 t367 t369) = some r := by rw [if_pos rfl] at H; exact H
            clear H
            have H := H1
            clear H1
            have H' := am H
            clear H
            have lf13_ := trivial
           case g7n =>
            replace c66 := Bool.eq_false_iff.mpr c66
            subst c66
            have H1 : (some false) = some r := by rw [if_neg (show ¬ (false = true) by decide)] at H; exact H
            clear H
            have H := H1
            clear H1
            exact absurd (Option.some.inj (H.trans (congrArg some hT_))) Bool.false_ne_true
          case g8n =>
           rw [if_neg c63] at H
           exact absurd H (by simp)
         case g9n =>
          rw [if_neg c62] at H
          have c62b0 : (t388 == (t363.size : Int)) = false := beq_eq_false_iff_ne.mpr c62
          have c62b1 : (t388 != (t363.size : Int)) = true := bne_iff_ne.mpr c62
          exact absurd (Option.some.inj (H.trans (congrArg some hT_))) Bool.false_ne_true
        case g10n =>
         rw [if_neg c61] at H
         have c61b0 : (t387 == t362) = false := beq_eq_false_iff_ne.mpr c61
         have c61b1 : (t387 != t362) = true := bne_iff_ne.mpr c61
         exact absurd (Option.some.inj (H.trans (congrArg some hT_))) Bool.false_ne_true
       case g11n =>
        rw [if_neg c59] at H
        exact absurd H (by simp)
       all_goals
        go_wp2_with (first | ((with_reducible refine gate_callee (f := 14) rfl ?_); refine gl_ (some 90) Tryd.func14 #[.string (t363 ++ (⟨#[120]⟩ : ByteArray))] ?_; (with_reducible refine (impl_Get.calls (t363 ++ (⟨#[120]⟩ : ByteArray)) t387 t388 _ A60.out ?sideT).mono ?_); (case sideT => exact TB.below HT.out (rb HB)); rintro e w67 ⟨rfl, hb⟩; refine ⟨_, rfl, ?_⟩; have n0_ := am (Kd.R_below (rr HO_5) hb); have n1_ := am (Kd.R_below (rr HO_8) hb); have n2_ := am (below_step (rb HB) hb); clear HO_5; clear HO_8; clear HB; have HO_5 := n0_; have HO_8 := n1_; have HB := n2_; clear n0_ n1_ n2_; (try clear hb); (try clear hb2); (try clear hk); (try clear hi); have p64 : 0 ≤ (0 : Int) := (by omega); have q64 : 0 < t363.size := (by have : (0 : Int) < (t363.size : Int) := dt_; omega); have hx64 : ∀ h : 0 < t363.size, ((t363[0]'h).toNat : Int) = bt t363 0 := bt_at t363 0; clear p64; have qi64 : (0 < (t363.size : Int)) = True := eq_true dt_; replace q64 := eq_true q64) | (go_at_call 21; (with_reducible refine (impl_Starts.calls (bt t363 0) true _ A65.out).mono ?_); rintro e w' ⟨rfl, ⟨nd, rfl⟩⟩))
        go_meet
        case rel => exact ⟨_, H', ⟨by have := HJ12.out; first | omega | exact Nat.le_refl _⟩, ⟨rr HO_5⟩, ⟨rr HO_8⟩, ⟨rb HB⟩⟩
     case rest =>
      clear HC57
      try clear c1
      try clear c2
      try clear p2
      try clear c3
      try clear c5
      try clear c6
      try clear p6
      try clear q6
      try clear hx6
      try clear qi6
      try clear c7
      try clear c8
      try clear c9
      try clear c10
      try clear c11
      try clear c12
      try clear c13
      try clear c14
      try clear c15
      try clear c16
      try clear c24
      try clear c24b0
      try clear c24b1
      try clear c25
      try clear c25b0
      try clear c25b1
      try clear c27
      try clear c27b0
      try clear c27b1
      try clear c29
      try clear c29b0
      try clear c29b1
      try clear c32
      try clear c35
      try clear c35b0
      try clear c35b1
      try clear c35b2
      try clear c56
      try clear c58
      try clear c58b0
      try clear c58b1
      try clear c59
      try clear c59b0
      try clear c59b1
      try clear c59b2
      try clear c61
      try clear c61b0
      try clear c61b1
      try clear c62
      try clear c62b0
      try clear c62b1
      try clear c63
      try clear c63b0
      try clear c63b1
      try clear p64
      try clear q64
      try clear hx64
      try clear qi64
      try clear c66
      try clear p2
      try clear p64
      try clear q64
      obtain ⟨kq, HA, HJ56, HO_5, HO_8, HB⟩ := hcut
      cases kq with
      | zero => exact absurd HA.out (by simp [laws_FnRunes.j1])
      | succ kj56 =>
       have H := HA.out
       clear HA
       simp only [laws_FnRunes.j1] at H
       have H' := am H
       clear H
       go_wp2
       go_loopg [16, 17] kj56 (fun kq v16 v17 w' => ∃ (x16_3 : Bool) (x17_3 : Int), v16 = .bool x16_3 ∧ v17 = .int .i64 x17_3 ∧ Aside0 (laws_FnRunes.l0 kq t362 t363 t364 t367 t369 x16_3 x17_3 = some r) ∧ Aside0 (kq ≤ kj56) ∧ Aside0 (Kd.R (Kd.int .i64) 2 w' w.heap.size (fun k_ => some k_ ≠ (v370 : Value).ownBlock) (.slice Ao17 t364.length co17) t364) ∧ Aside0 (Kd.R (Kd.int .i64) 2 w' w.heap.size (fun k_ => some k_ ≠ ((.slice Ao17 t364.length co17) : Value).ownBlock) v370 t369) ∧ Aside0 (Below w.heap.size w w'))
       case atStart => exact ⟨(true), (0), (by first | rfl | (simp; done) | (simp [*]; done)), (by first | rfl | (simp; done) | (simp [*]; done)), H', ⟨Nat.le_refl _⟩, ⟨rr HO_5⟩, ⟨rr HO_8⟩, ⟨rb HB⟩⟩
       case round =>
        clear H'
        try clear c1
        try clear c2
        try clear p2
        try clear c3
        try clear c5
        try clear c6
        try clear p6
        try clear q6
        try clear hx6
        try clear qi6
        try clear c7
        try clear c8
        try clear c9
        try clear c10
        try clear c11
        try clear c12
        try clear c13
        try clear c14
        try clear c15
        try clear c16
        try clear c24
        try clear c24b0
        try clear c24b1
        try clear c25
        try clear c25b0
        try clear c25b1
        try clear c27
        try clear c27b0
        try clear c27b1
        try clear c29
        try clear c29b0
        try clear c29b1
        try clear c32
        try clear c35
        try clear c35b0
        try clear c35b1
        try clear c35b2
        try clear c56
        try clear c58
        try clear c58b0
        try clear c58b1
        try clear c59
        try clear c59b0
        try clear c59b1
        try clear c59b2
        try clear c61
        try clear c61b0
        try clear c61b1
        try clear c62
        try clear c62b0
        try clear c62b1
        try clear c63
        try clear c63b0
        try clear c63b1
        try clear p64
        try clear q64
        try clear hx64
        try clear qi64
        try clear c66
        try clear p2
        try clear p6
        try clear p64
        try clear q6
        try clear q64
        obtain ⟨x16_3, x17_3, rfl, rfl, HA, HK3, HO_5, HO_8, HB⟩ := hrel
        cases gk with
        | zero => exact absurd HA.out (by simp [laws_FnRunes.l0])
        | succ k3 =>
         have H := HA.out
         clear HA
         simp only [laws_FnRunes.l0] at H
         by_cases c71 : x17_3 < (t364.length : Int)
         ·rw [if_pos c71] at H
          have c71b0 : decide (x17_3 < (t364.length : Int)) = true := decide_eq_true c71
          clear c71
          by_cases c72 : x16_3 = true
          ·subst c72
           rw [if_pos rfl] at H
           refine em_ (p := 0 ≤ x17_3) (fun c73 => ?g12p) (fun c73 => ?g12n)
           case' g12p =>
            rw [if_pos c73] at H
            have c73b0 : decide (0 ≤ x17_3) = true := decide_eq_true c73
            clear c73
            replace H := Option.bind_eq_some_iff.mp H
            obtain ⟨t391, A740, H⟩ := H
            (try dsimp only at H)
            have A74 := am A740
            clear A740
            have H' := am H
            clear H
            have lf14_ := trivial
           case g12n =>
            rw [if_neg c73] at H
            exact absurd H (by simp)
           all_goals
            have p390 : 0 ≤ (x17_3 : Int) := dt_
            have q390 : x17_3 < (t364.length : Int) := dt_
            obtain ⟨ad390, e390, hx390_0⟩ := Kd.at_int (Kd.R_reads' HO_5.out).2.2 x17_3 p390 q390
            cases e390
            replace p390 := eq_true p390
            replace q390 := eq_true q390
            go_wp2_with (first | (go_at_call 24; (with_reducible refine (spec_RuneOk.calls (rd t364 x17_3) t391 _ A74.out).mono ?_); rintro e w' ⟨rfl, ⟨nd, rfl⟩⟩))
            go_roundg k3
            case measure => have := HJ12.out; have := HJ56.out; have := HK3.out; omega
            case rel => exact ⟨(t391), (wrap64 (x17_3 + 1)), (by first | rfl | (simp; done) | (simp [*]; done)), (by first | rfl | (simp; done) | (simp [*]; done)), H', ⟨by have := HJ12.out; have := HJ56.out; have := HK3.out; omega⟩, ⟨rr HO_5⟩, ⟨rr HO_8⟩, ⟨rb HB⟩⟩
          ·replace c72 := Bool.eq_false_iff.mpr c72
           subst c72
           rw [if_neg (show ¬ (false = true) by decide)] at H
           have H' := am H
           clear H
           go_wp2
           go_roundg k3
           case measure => have := HJ12.out; have := HJ56.out; have := HK3.out; omega
           case rel => exact ⟨(false), (wrap64 (x17_3 + 1)), (by first | rfl | (simp; done) | (simp [*]; done)), (by first | rfl | (simp; done) | (simp [*]; done)), H', ⟨by have := HJ12.out; have := HJ56.out; have := HK3.out; omega⟩, ⟨rr HO_5⟩, ⟨rr HO_8⟩, ⟨rb HB⟩⟩
         ·rw [if_neg c71] at H
          have c71b0 : decide (x17_3 < (t364.length : Int)) = false := decide_eq_false c71
          clear c71
          by_cases c75 : x16_3 = true
          ·subst c75
           rw [if_pos rfl] at H
           replace H := Option.bind_eq_some_iff.mp H
           obtain ⟨t392, A760, H⟩ := H
           (try dsimp only at H)
           have A76 := am A760
           clear A760
           replace H := Option.bind_eq_some_iff.mp H
           obtain ⟨t395, A770, H⟩ := H
           (try dsimp only at H)
           have A77 := am A770
           clear A770
           by_cases c78 : t395 = true
           ·subst c78
            rw [if_pos rfl] at H
            replace H := Option.bind_eq_some_iff.mp H
            obtain ⟨t396, A790, H⟩ := H
            (try dsimp only at H)
            have A79 := am A790
            clear A790
            replace H := Option.bind_eq_some_iff.mp H
            obtain ⟨t397, A800, H⟩ := H
            (try dsimp only at H)
            have A80 := am A800
            clear A800
            replace H := Option.bind_eq_some_iff.mp H
            obtain ⟨t400, A810, H⟩ := H
            (try dsimp only at H)
            have A81 := am A810
            clear A810
            by_cases c82 : t400 = true
            ·subst c82
             rw [if_pos rfl] at H
             replace H := Option.bind_eq_some_iff.mp H
             obtain ⟨t401, A830, H⟩ := H
             (try dsimp only at H)
             have A83 := am A830
             clear A830
             first
             | with_reducible exact absurd (Option.some.inj (H.trans (congrArg some hT_))) Bool.false_ne_true
             | (
              obtain rfl := Option.some.inj H
              go_wp2_with (first | (go_at_call 13; (with_reducible refine (impl_Runes.calls k3 t367 t392 _ A76.out ?sideT).mono ?_); (case sideT => exact TB.below HT.out (rb HB)); rintro e w84 ⟨v393, rfl, ho0, hb⟩; have n0_ := am (Kd.R_elder' (rr HO_5) (Kd.R_base ho0) hb); have n1_ := am (Kd.R_elder' (rr HO_8) (Kd.R_base ho0) hb); have n2_ := am (Kd.R_lower (Kd.R_new' (Kd.R_new' ho0 (Kd.R_lt (rr HO_5))) (Kd.R_lt (rr HO_8))) (below_size (rb HB))); have n3_ := am (below_step (rb HB) hb); clear HO_5; clear HO_8; clear HB; have HO_5 := n0_; have HO_8 := n1_; have HO394 := n2_; have HB := n3_; clear n0_ n1_ n2_ n3_; (try clear hb); (try clear hb2); (try clear hk); (try clear hi); (try clear ho0); obtain ⟨Ao85, co85, eo85⟩ := Kd.R_slice HO394.out; subst eo85) | (go_at_call 19; (with_reducible refine (laws_likeInts.calls k3 _ _ t392 _ _ t364 true _ ?side1 ?side2 ?side3 ?side4 A77.out).mono ?_); (case side1 => repeat (first | exact (Kd.R_reads' HO394.out).2.2 | (with_reducible refine Kd.C_alloc ?_ _) | (with_reducible refine Kd.C_drewN ?_ _) | (with_reducible refine Kd.C_drew ?_))); (case side2 => exact (Kd.R_reads' HO394.out).2.1); (case side3 => repeat (first | exact (Kd.R_reads' HO_5.out).2.2 | (with_reducible refine Kd.C_alloc ?_ _) | (with_reducible refine Kd.C_drewN ?_ _) | (with_reducible refine Kd.C_drew ?_))); (case side4 => exact (Kd.R_reads' HO_5.out).2.1); rintro e w' ⟨rfl, ⟨nd, rfl⟩⟩; obtain ⟨Ao86, co86, eo86⟩ := Kd.R_slice HO_8.out; subst eo86) | (go_at_call 11; (with_reducible refine (impl_Text.calls k3 _ _ t369 t396 _ ?side1 ?side2 A79.out).mono ?_); (case side1 => repeat (first | exact (Kd.R_reads' HO_8.out).2.2 | (with_reducible refine Kd.C_alloc ?_ _) | (with_reducible refine Kd.C_drewN ?_ _) | (with_reducible refine Kd.C_drew ?_))); (case side2 => exact (Kd.R_reads' HO_8.out).2.1); rintro e w87 ⟨rfl, hb⟩; have n0_ := am (Kd.R_below (rr HO_5) hb); have n1_ := am (Kd.R_below (rr HO_8) hb); have n2_ := am (Kd.R_below (rr HO394) hb); have n3_ := am (below_step (rb HB) hb); clear HO_5; clear HO_8; clear HO394; clear HB; have HO_5 := n0_; have HO_8 := n1_; have HO394 := n2_; have HB := n3_; clear n0_ n1_ n2_ n3_; (try clear hb); (try clear hb2); (try clear hk); (try clear hi)) | (go_at_call 13; (with_reducible refine (impl_Runes.calls k3 t396 t397 _ A80.out ?sideT).mono ?_); (case sideT => exact TB.below HT.out (rb HB)); rintro e w88 ⟨v398, rfl, ho0, hb⟩; have n0_ := am (Kd.R_elder' (rr HO_5) (Kd.R_base ho0) hb); have n1_ := am (Kd.R_elder' (rr HO_8) (Kd.R_base ho0) hb); have n2_ := am (Kd.R_elder' (rr HO394) (Kd.R_base ho0) hb); have n3_ := am (Kd.R_lower (Kd.R_new' (Kd.R_new' (Kd.R_new' ho0 (Kd.R_lt (rr HO_5))) (Kd.R_lt (rr HO_8))) (Kd.R_lt (rr HO394))) (below_size (rb HB))); have n4_ := am (below_step (rb HB) hb); clear HO_5; clear HO_8; clear HO394; clear HB; have HO_5 := n0_; have HO_8 := n1_; have HO394 := n2_; have HO399 := n3_; have HB := n4_; clear n0_ n1_ n2_ n3_ n4_; (try clear hb); (try clear hb2); (try clear hk); (try clear hi); (try clear ho0); obtain ⟨Ao89, co89, eo89⟩ := Kd.R_slice HO399.out; subst eo89) | (go_at_call 19; (with_reducible refine (laws_likeInts.calls k3 _ _ t397 _ _ t369 true _ ?side1 ?side2 ?side3 ?side4 A81.out).mono ?_); (case side1 => repeat (first | exact (Kd.R_reads' HO399.out).2.2 | (with_reducible refine Kd.C_alloc ?_ _) | (with_reducible refine Kd.C_drewN ?_ _) | (with_reducible refine Kd.C_drew ?_))); (case side2 => exact (Kd.R_reads' HO399.out).2.1); (case side3 => repeat (first | exact (Kd.R_reads' HO_8.out).2.2 | (with_reducible refine Kd.C_alloc ?_ _) | (with_reducible refine Kd.C_drewN ?_ _) | (with_reducible refine Kd.C_drew ?_))); (case side4 => exact (Kd.R_reads' HO_8.out).2.1); rintro e w' ⟨rfl, ⟨nd, rfl⟩⟩) | (go_at_call 23; (with_reducible refine (impl_RuneOk.calls t362 t401 _ A83.out).mono ?_); rintro e w' ⟨rfl, ⟨nd, rfl⟩⟩))
              go_ret
              exact ⟨by first | rfl | (generalize t363.toList = q_; cases q_ <;> cases t401 <;> rfl) | (generalize t363.toList = q_; cases q_ <;> cases t401 <;> rfl) | (generalize t363.toList = q_; cases q_ <;> cases t401 <;> rfl) | (generalize t363.toList = q_; cases q_ <;> cases t401 <;> rfl) | (generalize t363.toList = q_; cases q_ <;> cases t401 <;> rfl) | (generalize t363.toList = q_; cases q_ <;> cases t401 <;> rfl) | (simp [errW_none, errW_some] <;> rfl) | (simp [*, errW_none, errW_some] <;> rfl), by repeat (first | (with_reducible first | exact HB.out | apply b1 | apply b2 | apply b3) | exact HB.out)⟩)
            ·replace c82 := Bool.eq_false_iff.mpr c82
             subst c82
             have H1 : (some false) = some r := by rw [if_neg (show ¬ (false = true) by decide)] at H; exact H
             clear H
             have H := H1
             clear H1
             exact absurd (Option.some.inj (H.trans (congrArg some hT_))) Bool.false_ne_true
           ·replace c78 := Bool.eq_false_iff.mpr c78
            subst c78
            have H1 : (some false) = some r := by rw [if_neg (show ¬ (false = true) by decide)] at H; exact H
            clear H
            have H := H1
            clear H1
            exact absurd (Option.some.inj (H.trans (congrArg some hT_))) Bool.false_ne_true
          ·replace c75 := Bool.eq_false_iff.mpr c75
           subst c75
           rw [if_neg (show ¬ (false = true) by decide)] at H
           replace H := Option.bind_eq_some_iff.mp H
           obtain ⟨t402, A980, H⟩ := H
           (try dsimp only at H)
           have A98 := am A980
           clear A980
           replace H := Option.bind_eq_some_iff.mp H
           obtain ⟨t403, A990, H⟩ := H
           (try dsimp only at H)
           have A99 := am A990
           clear A990
           replace H := Option.bind_eq_some_iff.mp H
           obtain ⟨t406, A1000, H⟩ := H
           (try dsimp only at H)
           have A100 := am A1000
           clear A1000
           by_cases c101 : t406 = true
           ·subst c101
            rw [if_pos rfl] at H
            replace H := Option.bind_eq_some_iff.mp H
            obtain ⟨t407, A1020, H⟩ := H
            (try dsimp only at H)
            have A102 := am A1020
            clear A1020
            first
            | with_reducible exact absurd (Option.some.inj (H.trans (congrArg some hT_))) Bool.false_ne_true
            | (
             obtain rfl := Option.some.inj H
             obtain ⟨Ao103, co103, eo103⟩ := Kd.R_slice HO_8.out
             subst eo103
             go_wp2_with (first | (go_at_call 11; (with_reducible refine (impl_Text.calls k3 _ _ t369 t402 _ ?side1 ?side2 A98.out).mono ?_); (case side1 => repeat (first | exact (Kd.R_reads' HO_8.out).2.2 | (with_reducible refine Kd.C_alloc ?_ _) | (with_reducible refine Kd.C_drewN ?_ _) | (with_reducible refine Kd.C_drew ?_))); (case side2 => exact (Kd.R_reads' HO_8.out).2.1); rintro e w104 ⟨rfl, hb⟩; have n0_ := am (Kd.R_below (rr HO_5) hb); have n1_ := am (Kd.R_below (rr HO_8) hb); have n2_ := am (below_step (rb HB) hb); clear HO_5; clear HO_8; clear HB; have HO_5 := n0_; have HO_8 := n1_; have HB := n2_; clear n0_ n1_ n2_; (try clear hb); (try clear hb2); (try clear hk); (try clear hi)) | (go_at_call 13; (with_reducible refine (impl_Runes.calls k3 t402 t403 _ A99.out ?sideT).mono ?_); (case sideT => exact TB.below HT.out (rb HB)); rintro e w105 ⟨v404, rfl, ho0, hb⟩; have n0_ := am (Kd.R_elder' (rr HO_5) (Kd.R_base ho0) hb); have n1_ := am (Kd.R_elder' (rr HO_8) (Kd.R_base ho0) hb); have n2_ := am (Kd.R_lower (Kd.R_new' (Kd.R_new' ho0 (Kd.R_lt (rr HO_5))) (Kd.R_lt (rr HO_8))) (below_size (rb HB))); have n3_ := am (below_step (rb HB) hb); clear HO_5; clear HO_8; clear HB; have HO_5 := n0_; have HO_8 := n1_; have HO405 := n2_; have HB := n3_; clear n0_ n1_ n2_ n3_; (try clear hb); (try clear hb2); (try clear hk); (try clear hi); (try clear ho0); obtain ⟨Ao106, co106, eo106⟩ := Kd.R_slice HO405.out; subst eo106) | (go_at_call 19; (with_reducible refine (laws_likeInts.calls k3 _ _ t403 _ _ t369 true _ ?side1 ?side2 ?side3 ?side4 A100.out).mono ?_); (case side1 => repeat (first | exact (Kd.R_reads' HO405.out).2.2 | (with_reducible refine Kd.C_alloc ?_ _) | (with_reducible refine Kd.C_drewN ?_ _) | (with_reducible refine Kd.C_drew ?_))); (case side2 => exact (Kd.R_reads' HO405.out).2.1); (case side3 => repeat (first | exact (Kd.R_reads' HO_8.out).2.2 | (with_reducible refine Kd.C_alloc ?_ _) | (with_reducible refine Kd.C_drewN ?_ _) | (with_reducible refine Kd.C_drew ?_))); (case side4 => exact (Kd.R_reads' HO_8.out).2.1); rintro e w' ⟨rfl, ⟨nd, rfl⟩⟩) | (go_at_call 23; (with_reducible refine (impl_RuneOk.calls t362 t407 _ A102.out).mono ?_); rintro e w' ⟨rfl, ⟨nd, rfl⟩⟩))
             go_ret
             exact ⟨by first | rfl | (generalize t363.toList = q_; cases q_ <;> cases t407 <;> rfl) | (generalize t363.toList = q_; cases q_ <;> cases t407 <;> rfl) | (generalize t363.toList = q_; cases q_ <;> cases t407 <;> rfl) | (generalize t363.toList = q_; cases q_ <;> cases t407 <;> rfl) | (generalize t363.toList = q_; cases q_ <;> cases t407 <;> rfl) | (generalize t363.toList = q_; cases q_ <;> cases t407 <;> rfl) | (simp [errW_none, errW_some] <;> rfl) | (simp [*, errW_none, errW_some] <;> rfl), by repeat (first | (with_reducible first | exact HB.out | apply b1 | apply b2 | apply b3) | exact HB.out)⟩)
           ·replace c101 := Bool.eq_false_iff.mpr c101
            subst c101
            have H1 : (some false) = some r := by rw [if_neg (show ¬ (false = true) by decide)] at H; exact H
            clear H
            have H := H1
            clear H1
            exact absurd (Option.some.inj (H.trans (congrArg some hT_))) Bool.false_ne_true

/-- THE ONE PURE STATEMENT of laws_FnRunes: yours. -/
def laws_FnRunes.Pure : Prop := ∀ (l0 : List Int), l0.length ≤ maxLen → l0.length * 1 ≤ 140737488351232 → (∀ x ∈ l0, (Lit.int .u8 x).wf = true) → ∃ k, laws_FnRunes.f k l0 = some true

end Go.Proofs.YtfhkpneffmcdbaaDoor.QB
