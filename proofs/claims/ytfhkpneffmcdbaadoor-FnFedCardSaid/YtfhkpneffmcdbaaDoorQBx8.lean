/- Contracts of Go functions that laws of this seat reach: each Lean function answers as its Go function does. No condition. Written by wip/tools/inj.py, over the kit's print. -/
import Derived.Test.YtfhkpneffmcdbaaDoorQBx0
import Derived.Test.YtfhkpneffmcdbaaDoorQBx2
import Derived.Test.YtfhkpneffmcdbaaDoorQBx3
import Derived.Test.YtfhkpneffmcdbaaDoorQBx5
import Derived.Test.YtfhkpneffmcdbaaDoorQBx7
namespace Go.Proofs.YtfhkpneffmcdbaaDoor.QB
open Go.RowKit Go.Proofs.YtfhkpneffmcdbaaDoorW.PrintWords Go.Proofs.YtfhkpneffmcdbaaDoorW.PrintLast Go.Proofs.YtfhkpneffmcdbaaDoorW.PrintMore
attribute [local go_sem] max2_int min2_int max_two min_two max_three min_three max_four min_four   -- for this text's walks alone
set_option linter.unusedVariables false
set_option linter.unusedSimpArgs false

/-! ### spec_DrawGet: function 54 -/
def spec_DrawGet.f (k : Nat) (l0 : List Int) : Option (ByteArray) := (spec_l1New.f k l0).bind fun bt316 => ((spec_l1DrawBytes.f k bt316.1 bt316.2.1 bt316.2.2).bind fun bt320 => (some bt320.1))
theorem spec_DrawGet.mono : ∀ a0 k, LeO (spec_DrawGet.f k a0) (spec_DrawGet.f (k + 1) a0) := by
 intro a0 k
 unfold spec_DrawGet.f
 repeat' first
   | (with_reducible exact spec_l1DrawBytes.mono _ _ _ _)
   | (with_reducible exact spec_l1New.mono _ _)
   | (with_reducible exact LeO.refl _)
   | (with_reducible exact LeO.none _)
   | (with_reducible refine LeO.ite ?_ ?_)
   | (with_reducible refine LeO.bind ?_ (fun _ => ?_))
set_option maxHeartbeats 8000000 in
set_option maxRecDepth 100000 in
theorem spec_DrawGet.calls (k : Nat) (A0 : Option Addr) (c0 : Nat) (l0 : List Int) (r : ByteArray) (w : World) (hr0 : Kd.C (Kd.int .u8) w A0 l0.length l0) (hc0 : l0.length ≤ c0) (h : spec_DrawGet.f k l0 = some r) :
  Calls Tryd.prog 54 #[.slice A0 l0.length c0] w fun e w' => e = .returned (.string r) ∧ Below w.heap.size w w' := by
 have HR0 := am hr0
 have HC0 := am hc0
 clear hr0 hc0
 have HB := am (Below.refl w.heap.size w)
 have H := h
 unfold spec_DrawGet.f at H
 clear h
 replace H := Option.bind_eq_some_iff.mp H
 obtain ⟨⟨t316, t317, t318⟩, A20, H⟩ := H
 (try dsimp only at H)
 have A2 := am A20
 clear A20
 replace H := Option.bind_eq_some_iff.mp H
 obtain ⟨⟨t320, t321, t322⟩, A30, H⟩ := H
 replace H : (some t320) = some r := H
 have A3 := am A30
 clear A30
 obtain rfl := Option.some.inj H
 go_enter Tryd.func54, Tryd.ntmps54
 go_wp2_with (first | ((with_reducible refine gate_callee (f := 50) rfl ?_); refine gl_ (some 5) Tryd.func50 #[.slice A0 l0.length c0] ?_; (with_reducible refine (spec_l1New.calls k _ _ l0 t316 t317 t318 w _ ?side1 ?side2 ?side3 A2.out).mono ?_); (case side1 => repeat (first | (with_reducible first | exact HB.out | apply b1 | apply b2 | apply b3) | exact HB.out)); (case side2 => exact HR0.out); (case side3 => exact HC0.out); rintro e w4 ⟨g319, rfl, hi, hb, hb2⟩; refine ⟨_, rfl, ?_⟩; have n0_ := am (hb); have n1_ := am (hi); clear HB; have HB := n0_; have HI319 := n1_; clear n0_ n1_; (try clear hb); (try clear hb2); (try clear hk); (try clear hi)) | ((with_reducible refine gate_callee (f := 64) rfl ?_); refine gl_ (some 7) Tryd.func64 #[.pointer (some ⟨g319, 0, none⟩)] ?_; (with_reducible refine (spec_l1DrawBytes.calls k g319 t316 t317 t318 t320 t321 t322 w _ ?side1 ?side2 A3.out).mono ?_); (case side1 => exact ri83 HI319); (case side2 => exact rbi83 HB HI319 IsS83.ge); rintro e w5 ⟨rfl, hi, hb, hk⟩; refine ⟨_, rfl, ?_⟩; have n0_ := am (hb); have n1_ := am (hi); clear HB; clear HI319; have HB := n0_; have HI319 := n1_; clear n0_ n1_; (try clear hb); (try clear hb2); (try clear hk); (try clear hi)))
 go_ret
 exact ⟨by first | rfl | (simp [errW_none, errW_some] <;> rfl) | (simp [*, errW_none, errW_some] <;> rfl), rbi83 HB HI319 IsS83.ge⟩

/-! ### spec_DrawRunes: function 12 -/
def spec_DrawRunes.f (k : Nat) (l0 : List Int) : Option (ByteArray) := (spec_DrawGet.f k l0).bind fun t323 => (some t323)
theorem spec_DrawRunes.mono : ∀ a0 k, LeO (spec_DrawRunes.f k a0) (spec_DrawRunes.f (k + 1) a0) := by
 intro a0 k
 unfold spec_DrawRunes.f
 repeat' first
   | (with_reducible exact spec_DrawGet.mono _ _)
   | (with_reducible exact LeO.refl _)
   | (with_reducible exact LeO.none _)
   | (with_reducible refine LeO.ite ?_ ?_)
   | (with_reducible refine LeO.bind ?_ (fun _ => ?_))
set_option maxHeartbeats 8000000 in
set_option maxRecDepth 100000 in
theorem spec_DrawRunes.calls (k : Nat) (A0 : Option Addr) (c0 : Nat) (l0 : List Int) (r : ByteArray) (w : World) (hr0 : Kd.C (Kd.int .u8) w A0 l0.length l0) (hc0 : l0.length ≤ c0) (h : spec_DrawRunes.f k l0 = some r) :
  Calls Tryd.prog 12 #[.slice A0 l0.length c0] w fun e w' => e = .returned (.string r) ∧ Below w.heap.size w w' := by
 have HR0 := am hr0
 have HC0 := am hc0
 clear hr0 hc0
 have HB := am (Below.refl w.heap.size w)
 have H : ((spec_DrawGet.f k l0).bind fun t323 => (some t323)) = some r := h
 clear h
 replace H := Option.bind_eq_some_iff.mp H
 obtain ⟨t323, A20, H⟩ := H
 replace H : (some t323) = some r := H
 have A2 := am A20
 clear A20
 obtain rfl := Option.some.inj H
 go_enter Tryd.func12, Tryd.ntmps12
 go_wp2_with (first | ((with_reducible refine gate_callee (f := 54) rfl ?_); refine gl_ (some 4) Tryd.func54 #[.slice A0 l0.length c0] ?_; (with_reducible refine (spec_DrawGet.calls k _ _ l0 t323 _ ?side1 ?side2 A2.out).mono ?_); (case side1 => exact rc (HR0.out)); (case side2 => exact HC0.out); rintro e w3 ⟨rfl, hb⟩; refine ⟨_, rfl, ?_⟩; have n0_ := am (below_step (rb HB) hb); clear HB; have HB := n0_; clear n0_; (try clear hb); (try clear hb2); (try clear hk); (try clear hi)))
 go_ret
 exact ⟨by first | rfl | (simp [errW_none, errW_some] <;> rfl) | (simp [*, errW_none, errW_some] <;> rfl), by repeat (first | (with_reducible first | exact HB.out | apply b1 | apply b2 | apply b3) | exact HB.out)⟩

-- NOT PRINTED: function 75 (utf8_decodeRuneInStringSlow)

/-! ### utf8_DecodeRuneInString: function 55 -/
def TB (w : World) : Prop := Lib.Utf8Tabs 0 1 w
theorem TB.below {w w' : World} (h : TB w) (hb : Below w.heap.size w w') : TB w' := Utf8Tabs_below h hb
def utf8_DecodeRuneInString.f (a0 : ByteArray) : Option (Int × Int) := some (((Lib.decodeGo a0).1 : Int), ((Lib.decodeGo a0).2 : Int))
theorem utf8_DecodeRuneInString.calls (a0 : ByteArray) (r1 : Int) (r2 : Int) (w : World) (h : utf8_DecodeRuneInString.f a0 = some (r1, r2)) (hT : TB w) :
  Calls Tryd.prog 55 #[.string a0] w fun e w' => e = .returned (.tuple #[.int .i32 r1, .int .i64 r2]) ∧ Below w.heap.size w w' := by
 have e := Option.some.inj h
 have e1 : ((Lib.decodeGo a0).1 : Int) = r1 := congrArg Prod.fst e
 have e2 : ((Lib.decodeGo a0).2 : Int) = r2 := congrArg Prod.snd e
 subst e1
 subst e2
 exact Tryd.utf8_DecodeRuneInString a0 w hT

/-! ### impl_Get: function 14 -/
def impl_Get.f (a0 : ByteArray) : Option (Int × Int) := if a0.toList = ([] : List UInt8) then (some (0, 0)) else ((utf8_DecodeRuneInString.f a0).bind fun bt324 => (some (wrap64 (bt324.1), bt324.2)))
set_option maxHeartbeats 8000000 in
set_option maxRecDepth 100000 in
theorem impl_Get.calls (a0 : ByteArray) (r1 : Int) (r2 : Int) (w : World) (h : impl_Get.f a0 = some (r1, r2)) (hT : TB w) :
  Calls Tryd.prog 14 #[.string a0] w fun e w' => e = .returned (.tuple #[.int .i64 r1, .int .i64 r2]) ∧ Below w.heap.size w w' := by
 have HT := am hT
 clear hT
 have HB := am (Below.refl w.heap.size w)
 have H := h
 unfold impl_Get.f at H
 clear h
 by_cases c2 : a0.toList = ([] : List UInt8)
 ·rw [if_pos c2] at H
  have c2b0 : (a0.toList == ([] : List UInt8)) = true := beq_iff_eq.mpr c2
  have c2b1 : (a0.toList != ([] : List UInt8)) = false := bne_eq_false_iff_eq.mpr c2
  clear c2
  simp only [Option.some.injEq, Prod.mk.injEq] at H
  obtain ⟨rfl, rfl⟩ := H
  go_enter Tryd.func14, Tryd.ntmps14
  go_wp2
  go_ret2
  exact ⟨by first | rfl | (simp [errW_none, errW_some] <;> rfl) | (simp [*, errW_none, errW_some] <;> rfl), by repeat (first | (with_reducible first | exact HB.out | apply b1 | apply b2 | apply b3) | exact HB.out)⟩
 ·rw [if_neg c2] at H
  have c2b0 : (a0.toList == ([] : List UInt8)) = false := beq_eq_false_iff_ne.mpr c2
  have c2b1 : (a0.toList != ([] : List UInt8)) = true := bne_iff_ne.mpr c2
  replace H := Option.bind_eq_some_iff.mp H
  obtain ⟨⟨t324, t325⟩, A30, H⟩ := H
  (try dsimp only at H)
  have A3 := am A30
  clear A30
  simp only [Option.some.injEq, Prod.mk.injEq] at H
  obtain ⟨rfl, rfl⟩ := H
  go_enter Tryd.func14, Tryd.ntmps14
  go_wp2_with (first | ((with_reducible refine gate_callee (f := 55) rfl ?_); refine gl_ (some 10) Tryd.func55 #[.string a0] ?_; (with_reducible refine (utf8_DecodeRuneInString.calls a0 t324 t325 _ A3.out ?sideT).mono ?_); (case sideT => exact TB.below HT.out (rb HB)); rintro e w4 ⟨rfl, hb⟩; refine ⟨_, rfl, ?_⟩; have n0_ := am (below_step (rb HB) hb); clear HB; have HB := n0_; clear n0_; (try clear hb); (try clear hb2); (try clear hk); (try clear hi)))
  go_ret2
  exact ⟨by first | rfl | (simp [errW_none, errW_some] <;> rfl) | (simp [*, errW_none, errW_some] <;> rfl), by repeat (first | (with_reducible first | exact HB.out | apply b1 | apply b2 | apply b3) | exact HB.out)⟩

/-! ### impl_Runes: function 13 -/
def impl_Runes.l0 : Nat → ByteArray → List Int → Option (List Int)
 | 0, _, _ => none
 | k + 1, x0, x3 => if x0.toList = ([] : List UInt8) then (some x3) else ((impl_Get.f x0).bind fun bt329 => (if x3.length < 17592186044416 then (if 0 ≤ bt329.2 then (if bt329.2 ≤ (x0.size : Int) then (impl_Runes.l0 k (x0.extract (bt329.2 : Int).toNat x0.size) (x3 ++ [bt329.1])) else (none)) else (none)) else (none)))
def impl_Runes.f (k : Nat) (a0 : ByteArray) : Option (List Int) := impl_Runes.l0 k a0 (([] : List Int))
theorem impl_Runes.mono_l : ∀ k, (∀ y0 y1, LeO (impl_Runes.l0 k y0 y1) (impl_Runes.l0 (k + 1) y0 y1))
 | 0 => fun _ _ r h => by simp [impl_Runes.l0] at h
 | k + 1 => by
  have ih0 := impl_Runes.mono_l k
  ·intro y0 y1
   unfold impl_Runes.l0
   repeat' first
   | (with_reducible exact ih0 _ _)
   | (with_reducible exact LeO.refl _)
   | (with_reducible exact LeO.none _)
   | (with_reducible refine LeO.ite ?_ ?_)
   | (with_reducible refine LeO.bind ?_ (fun _ => ?_))
theorem impl_Runes.mono : ∀ a0 k, LeO (impl_Runes.f k a0) (impl_Runes.f (k + 1) a0) := by
 intro a0 k
 have ih0 := impl_Runes.mono_l k
 unfold impl_Runes.f
 repeat' first
   | (with_reducible exact ih0 _ _)
   | (with_reducible exact LeO.refl _)
   | (with_reducible exact LeO.none _)
   | (with_reducible refine LeO.ite ?_ ?_)
   | (with_reducible refine LeO.bind ?_ (fun _ => ?_))
def impl_Runes.T4 : Bool × List (List Nat × List Nat) := (true, [([], []), ([], []), ([1], [1]), ([0, 2], [0, 2]), ([], []), ([], []), ([4, 5], [4, 5]), ([3, 3, 0, 1, 2, 3], [0, 3]), ([6, 7, 0, 1, 2, 3, 4, 5, 6, 7], [4, 6])])
def impl_Runes.B4 : List Nat := [0, 0, 2, 7, 0, 0, 48, 15, 255]
theorem impl_Runes.tab4 : rtab .any (opsOf Tryd.f13 4) = impl_Runes.T4 := by kernel_rfl
theorem impl_Runes.bits4 : waitsOk impl_Runes.T4.2 impl_Runes.B4 = true := by kernel_rfl
set_option maxHeartbeats 8000000 in
set_option maxRecDepth 100000 in
theorem impl_Runes.calls (k : Nat) (a0 : ByteArray) (r : List Int) (w : World) (h : impl_Runes.f k a0 = some r) (hT : TB w) :
  Calls Tryd.prog 13 #[.string a0] w fun e w' => ∃ v0_ : Value, e = .returned (v0_) ∧ Kd.R (Kd.int .i64) 2 w' w.heap.size (fun _ => True) v0_ r ∧ Below w.heap.size w w' := by
 have HT := am hT
 clear hT
 have HB := am (Below.refl w.heap.size w)
 have H : (impl_Runes.l0 k a0 (([] : List Int))) = some r := h
 clear h
 obtain ⟨y326, hy326⟩ : ∃ y_ : List Int, y_ = (([] : List Int)) := ⟨_, rfl⟩
 replace H : (impl_Runes.l0 k a0 y326) = some r := by first | (rw [hy326]; with_reducible exact H) | (rw [hy326]; exact H) | exact H
 have Ny326 := am hy326
 clear hy326
 have H' := am H
 clear H
 go_enter Tryd.func13, Tryd.ntmps13
 go_wp2_with (first | ((with_reducible refine gate_dst (N := 6) rfl ?_); refine Kd.R_lit (Kd.int .i64) _ 2 ?hg (N := 6) ?hd (xs := ([] : List Int)) (inner := []) (ok := fun _ => True) (okp := fun _ => True) ?hr ?hp (fun _ hk => hk) trivial (Below.refl _ _) (Nat.le_refl _) (by simp) ?_; (case hd => rfl); (case hg => rfl); (case hr => first | (go_simp; done) | (go_simp; rfl)); (case hp => exact (Reps.none _ _)); intro v327 w2 ho3 hb hg_ hnew_; clear hg_ hnew_; (first | rw [← Ny326.out] at ho3 | (simp only [Int.reduceToNat] at ho3; rw [← Ny326.out] at ho3)); have n0_ := am (Kd.R_lower ho3 (below_size (rb HB))); have n1_ := am (below_step (rb HB) hb); clear HB; have HO328 := n0_; have HB := n1_; clear n0_ n1_; clear hb ho3))
 go_loopg [0, 3] k (fun kq v0 v3 w' => ∃ (x0_1 : ByteArray) (x3_1 : List Int), v0 = .string x0_1 ∧ Aside0 (impl_Runes.l0 kq x0_1 x3_1 = some r) ∧ Aside0 (kq ≤ k) ∧ Aside0 (Kd.R (Kd.int .i64) 2 w' w.heap.size (fun _ => True) v3 x3_1) ∧ Aside0 (Below w.heap.size w w'))
 case atStart => exact ⟨(a0), (y326), (by first | rfl | (simp; done) | (simp [*]; done)), H', ⟨Nat.le_refl _⟩, ⟨rr HO328⟩, ⟨rb HB⟩⟩
 case round =>
  clear H'
  try clear c1
  try clear p2
  obtain ⟨x0_1, x3_1, rfl, HA, HK1, HO_3, HB⟩ := hrel
  cases gk with
  | zero => exact absurd HA.out (by simp [impl_Runes.l0])
  | succ k1 =>
   have H := HA.out
   clear HA
   simp only [impl_Runes.l0] at H
   by_cases c4 : x0_1.toList = ([] : List UInt8)
   ·rw [if_pos c4] at H
    have c4b0 : (x0_1.toList == ([] : List UInt8)) = true := beq_iff_eq.mpr c4
    have c4b1 : (x0_1.toList != ([] : List UInt8)) = false := bne_eq_false_iff_eq.mpr c4
    clear c4
    obtain rfl := Option.some.inj H
    go_wp2
    go_ret
    exact ⟨_, by first | rfl | (simp [errW_none, errW_some] <;> rfl) | (simp [*, errW_none, errW_some] <;> rfl), by (with_reducible repeat (first | apply r1 | apply r2 | apply r3)); exact HO_3.out, by repeat (first | (with_reducible first | exact HB.out | apply b1 | apply b2 | apply b3) | exact HB.out)⟩
   ·rw [if_neg c4] at H
    have c4b0 : (x0_1.toList == ([] : List UInt8)) = false := beq_eq_false_iff_ne.mpr c4
    have c4b1 : (x0_1.toList != ([] : List UInt8)) = true := bne_iff_ne.mpr c4
    replace H := Option.bind_eq_some_iff.mp H
    obtain ⟨⟨t329, t330⟩, A50, H⟩ := H
    (try dsimp only at H)
    have A5 := am A50
    clear A50
    refine em_ (p := x3_1.length < 17592186044416) (fun c6 => ?g2p) (fun c6 => ?g2n)
    case' g2p =>
     rw [if_pos c6] at H
     have LMc6 := am c6
     clear c6
     obtain ⟨y331, hy331⟩ : ∃ y_ : List Int, y_ = (x3_1 ++ [t329]) := ⟨_, rfl⟩
     replace H : (if 0 ≤ t330 then (if t330 ≤ (x0_1.size : Int) then (impl_Runes.l0 k1 (x0_1.extract (t330 : Int).toNat x0_1.size) y331) else (none)) else (none)) = some r := by first | (rw [hy331]; with_reducible exact H) | (rw [hy331]; exact H) | exact H
     have Ny331 := am hy331
     clear hy331
     refine em_ (p := 0 ≤ t330) (fun c7 => ?g1p) (fun c7 => ?g1n)
     case' g1p =>
      rw [if_pos c7] at H
      have c7b0 := eq_true c7
      have c7b1 : decide (0 ≤ t330) = true := decide_eq_true c7
      clear c7
      refine em_ (p := t330 ≤ (x0_1.size : Int)) (fun c8 => ?g0p) (fun c8 => ?g0n)
      case' g0p =>
       rw [if_pos c8] at H
       have c8b0 := eq_true c8
       have c8b1 : decide (t330 ≤ (x0_1.size : Int)) = true := decide_eq_true c8
       clear c8
       have H' := am H
       clear H
       have lf2_ := trivial
      case g0n =>
       rw [if_neg c8] at H
       exact absurd H (by simp)
     case g1n =>
      rw [if_neg c7] at H
      exact absurd H (by simp)
    case g2n =>
     rw [if_neg c6] at H
     exact absurd H (by simp)
    all_goals
     try go_wp2_with (first | ((with_reducible refine gate_callee (f := 14) rfl ?_); refine gl_ (some 11) Tryd.func14 #[.string x0_1] ?_; (with_reducible refine (impl_Get.calls x0_1 t329 t330 _ A5.out ?sideT).mono ?_); (case sideT => exact TB.below HT.out (rb HB)); rintro e w9 ⟨rfl, hb⟩; refine ⟨_, rfl, ?_⟩; have n0_ := am (Kd.R_below (rr HO_3) hb); have n1_ := am (below_step (rb HB) hb); clear HO_3; clear HB; have HO_3 := n0_; have HB := n1_; clear n0_ n1_; (try clear hb); (try clear hb2); (try clear hk); (try clear hi)))
     have n0_ := am (Kd.R_drew HO_3.out)
     have n1_ := am (below_drew1 HB.out)
     clear HO_3
     clear HB
     have HO_3 := n0_
     have HB := n1_
     clear n0_ n1_
     refine start_ (n := 9) (S := fun w' => True) (ds := []) (bm 9 0) (by kernel_rfl) rfl rfl trivial (fun hHeld => ?_); refine with_tabW impl_Runes.tab4 impl_Runes.bits4 (fun HT_ HW_ => ?_)
     generalize w9.drew = w10 at HO_3 HB hHeld ⊢
     refine pu_ 0 14 (bm 9 1) HT_.out ?_
     refine pu_ 1 15 (bm 9 3) HT_.out ?_
     refine pu_ 4 18 (bm 9 19) HT_.out ?_
     refine pu_ 5 19 (bm 9 51) HT_.out ?_
     refine pu_ 6 20 (bm 9 115) HT_.out ?_
     refine one_ (i := 2) (N := some 16) (bm 9 119) rfl rfl (one_of HT_.out (by kernel_rfl)) (by decide) (fun K hK => ?_)
     refine value_ (w1 := ?_) (v := ?_) (by rfl) rfl ?_ ?_
     rotate_left 2
     ·go_simp
      constructor
      ·rfl
      ·rfl
     refine hK.out _ _ trivial (fun hHeld => ?_)
     clear hK K
     refine norm_ (a' := ?_) ?_ ?_
     rotate_left
     ·show Act.put _ (some 16) _ = _
      simp only [Act.put, List.setIfInBounds_toArray, List.set_cons_zero, List.set_cons_succ, i64_w, i32_w]
      rfl
     refine one_ (i := 3) (N := some 17) (bm 9 127) rfl rfl (one_of HT_.out (by kernel_rfl)) (by decide) (fun K hK => ?_)
     refine Kd.R_append_step (Kd.int .i64) (w0 := w) w.heap.size (by rfl) (.tmp 14) (.tmp 16) 26 2 (.int .i64 0) 8 rfl Tryd.underlying26 info2 rfl (by decide) (by omega) u3 x3_1 t329 [.int .i64 t329] (fun _ => True) (fun _ => False) rfl rfl ?aP (fun _ hk => hk.elim) ?aF ?aO ?aB ?aS ?aL ?_
     (case aP => exact rfl)
     (case aB => exact (rb HB))
     (case aF => exact (fun _ _ => trivial))
     (case aO => exact (rr HO_3))
     (case aS => exact (below_size (rb HB)))
     (case aL => have := LMc6.out; omega)
     intro v332 w11 ho hb hg hat
     rw [← Ny331.out] at ho
     have n0_ := am (hb)
     have n1_ := am (ho)
     clear HB
     clear HO_3
     have HB := n0_
     have HO333 := n1_
     clear n0_ n1_
     clear ho hb hg hat
     refine hK.out _ _ trivial (fun hHeld => ?_)
     clear hK K
     refine norm_ (a' := ?_) ?_ ?_
     rotate_left
     ·show Act.put _ (some 17) _ = _
      simp only [Act.put, List.setIfInBounds_toArray, List.set_cons_zero, List.set_cons_succ, i64_w, i32_w]
      rfl
     refine pu_ 7 3 (bm 9 255) HT_.out ?_
     refine pu_ 8 0 (bm 9 511) HT_.out ?_
     refine done_ (done_of HT_.out (by kernel_rfl)) ?_
     try go_wp2
     go_roundg k1
     case measure => have := HK1.out; omega
     case rel => exact ⟨(x0_1.extract (t330 : Int).toNat x0_1.size), (y331), (by first | rfl | (simp; done) | (simp [*]; done)), H', ⟨by have := HK1.out; omega⟩, ⟨rr HO333⟩, ⟨rb HB⟩⟩

/-! ### spec_DrawStarts: function 15 -/
def spec_DrawStarts.f (k : Nat) (l0 : List Int) : Option (Int) := (spec_l1New.f k l0).bind fun bt334 => ((some (([0, 127, 128, 191, 192, 255] : List Int) : List Int)).bind fun y338 => ((spec_l1Below.f bt334.1 bt334.2.1 bt334.2.2 6).bind fun bt341 => (if 0 ≤ bt341.1 then (if bt341.1 < (y338.length : Int) then (some (rd y338 bt341.1)) else (none)) else (none))))
theorem spec_DrawStarts.mono : ∀ a0 k, LeO (spec_DrawStarts.f k a0) (spec_DrawStarts.f (k + 1) a0) := by
 intro a0 k
 unfold spec_DrawStarts.f
 repeat' first
   | (with_reducible exact spec_l1New.mono _ _)
   | (with_reducible exact LeO.refl _)
   | (with_reducible exact LeO.none _)
   | (with_reducible refine LeO.ite ?_ ?_)
   | (with_reducible refine LeO.bind ?_ (fun _ => ?_))
set_option maxHeartbeats 8000000 in
set_option maxRecDepth 100000 in
theorem spec_DrawStarts.calls (k : Nat) (A0 : Option Addr) (c0 : Nat) (l0 : List Int) (r : Int) (w : World) (hr0 : Kd.C (Kd.int .u8) w A0 l0.length l0) (hc0 : l0.length ≤ c0) (h : spec_DrawStarts.f k l0 = some r) :
  Calls Tryd.prog 15 #[.slice A0 l0.length c0] w fun e w' => e = .returned (.int .u8 r) ∧ Below w.heap.size w w' := by
 have HR0 := am hr0
 have HC0 := am hc0
 clear hr0 hc0
 have HB := am (Below.refl w.heap.size w)
 have H := h
 unfold spec_DrawStarts.f at H
 clear h
 replace H := Option.bind_eq_some_iff.mp H
 obtain ⟨⟨t334, t335, t336⟩, A20, H⟩ := H
 (try dsimp only at H)
 have A2 := am A20
 clear A20
 obtain ⟨y338, hy338⟩ : ∃ y_ : List Int, y_ = (([0, 127, 128, 191, 192, 255] : List Int)) := ⟨_, rfl⟩
 replace H : ((spec_l1Below.f t334 t335 t336 6).bind fun bt341 => (if 0 ≤ bt341.1 then (if bt341.1 < (y338.length : Int) then (some (rd y338 bt341.1)) else (none)) else (none))) = some r := by first | (rw [hy338]; with_reducible exact H) | (rw [hy338]; exact H) | exact H
 have Ny338 := am hy338
 clear hy338
 replace H := Option.bind_eq_some_iff.mp H
 obtain ⟨⟨t341, t342, t343⟩, A30, H⟩ := H
 (try dsimp only at H)
 have A3 := am A30
 clear A30
 by_cases c4 : 0 ≤ t341
 ·rw [if_pos c4] at H
  have c4b0 : decide (0 ≤ t341) = true := decide_eq_true c4
  clear c4
  by_cases c5 : t341 < (y338.length : Int)
  ·rw [if_pos c5] at H
   have c5b0 : decide (t341 < (y338.length : Int)) = true := decide_eq_true c5
   clear c5
   obtain rfl := Option.some.inj H
   go_enter Tryd.func15, Tryd.ntmps15
   go_wp2_with (first | ((with_reducible refine gate_callee (f := 50) rfl ?_); refine gl_ (some 5) Tryd.func50 #[.slice A0 l0.length c0] ?_; (with_reducible refine (spec_l1New.calls k _ _ l0 t334 t335 t336 w _ ?side1 ?side2 ?side3 A2.out).mono ?_); (case side1 => repeat (first | (with_reducible first | exact HB.out | apply b1 | apply b2 | apply b3) | exact HB.out)); (case side2 => exact HR0.out); (case side3 => exact HC0.out); rintro e w6 ⟨g337, rfl, hi, hb, hb2⟩; refine ⟨_, rfl, ?_⟩; have n0_ := am (hb); have n1_ := am (hi); clear HB; have HB := n0_; have HI337 := n1_; clear n0_ n1_; (try clear hb); (try clear hb2); (try clear hk); (try clear hi)) | ((with_reducible refine gate_dst (N := 6) rfl ?_); refine Kd.R_lit (Kd.int .u8) _ 5 ?hg (N := 6) ?hd (xs := ([0, 127, 128, 191, 192, 255] : List Int)) (inner := [.int .u8 0, .int .u8 127, .int .u8 128, .int .u8 191, .int .u8 192, .int .u8 255]) (ok := fun _ => True) (okp := fun _ => True) ?hr ?hp (fun _ hk => hk) trivial (Below.refl _ _) (Nat.le_refl _) (by simp) ?_; (case hd => rfl); (case hg => rfl); (case hr => first | (go_simp; done) | (go_simp; rfl)); (case hp => exact (Reps.one (show Kd.M (Kd.int .u8) _ _ _ 0 [.int .u8 0] from rfl) (Reps.one (show Kd.M (Kd.int .u8) _ _ _ 127 [.int .u8 127] from rfl) (Reps.one (show Kd.M (Kd.int .u8) _ _ _ 128 [.int .u8 128] from rfl) (Reps.one (show Kd.M (Kd.int .u8) _ _ _ 191 [.int .u8 191] from rfl) (Reps.one (show Kd.M (Kd.int .u8) _ _ _ 192 [.int .u8 192] from rfl) (Reps.one (show Kd.M (Kd.int .u8) _ _ _ 255 [.int .u8 255] from rfl) (Reps.none _ _)))))))); intro v339 w7 ho8 hb hg_ hnew_; clear hg_ hnew_; (first | rw [← Ny338.out] at ho8 | (simp only [Int.reduceToNat] at ho8; rw [← Ny338.out] at ho8)); have n0_ := am (Kd.R_lower ho8 (below_size (rbi83 HB HI337 IsS83.ge))); have n1_ := am (IsS83.below (ri83 HI337) hb); have n2_ := am (below_step (rbi83 HB HI337 IsS83.ge) hb); clear HI337; clear HB; have HO340 := n0_; have HI337 := n1_; have HB := n2_; clear n0_ n1_ n2_; clear hb ho8) | ((with_reducible refine gate_callee (f := 53) rfl ?_); refine gl_ (some 8) Tryd.func53 #[.pointer (some ⟨g337, 0, none⟩), .int .i64 6] ?_; (with_reducible refine (spec_l1Below.calls g337 t334 t335 t336 6 t341 t342 t343 w _ ?side1 ?side2 A3.out).mono ?_); (case side1 => exact ri83 HI337); (case side2 => exact rbi83 HB HI337 IsS83.ge); rintro e w9 ⟨rfl, hi, hb, hk⟩; refine ⟨_, rfl, ?_⟩; have n0_ := am (Kd.R_mono (Kd.R_keep (IsS83.apart (show IsS83 w _ g337 t334 t335 t336 from ri83 HI337) (rr HO340) (by decide)) hk (fun _ h => h.2)) (fun _ h => h.1)); have n1_ := am (hb); have n2_ := am (hi); clear HO340; clear HB; clear HI337; have HO340 := n0_; have HB := n1_; have HI337 := n2_; clear n0_ n1_ n2_; (try clear hb); (try clear hb2); (try clear hk); (try clear hi); obtain ⟨Ao10, co10, eo10⟩ := Kd.R_slice HO340.out; subst eo10; have p344 : 0 ≤ (t341 : Int) := dt_; have q344 : t341 < (y338.length : Int) := dt_; obtain ⟨ad344, e344, hx344_0⟩ := Kd.at_int (Kd.R_reads' HO340.out).2.2 t341 p344 q344; cases e344; replace p344 := eq_true p344; replace q344 := eq_true q344))
   go_ret
   exact ⟨by first | rfl | (simp [errW_none, errW_some] <;> rfl) | (simp [*, errW_none, errW_some] <;> rfl), rbi83 HB HI337 IsS83.ge⟩
  ·rw [if_neg c5] at H
   exact absurd H (by simp)
 ·rw [if_neg c4] at H
  exact absurd H (by simp)

/-! ### spec_Put: function 17 -/
def spec_Put.f (a0 : Int) : Option (ByteArray) := (spec_RuneOk.f a0).bind fun t345 => (if t345 = true then ((spec_l1Put.f a0).bind fun t346 => (some (strOfNums t346))) else (some (⟨#[]⟩ : ByteArray)))
set_option maxHeartbeats 8000000 in
set_option maxRecDepth 100000 in
theorem spec_Put.calls (a0 : Int) (r : ByteArray) (w : World) (h : spec_Put.f a0 = some r) :
  Calls Tryd.prog 17 #[.int .i64 a0] w fun e w' => e = .returned (.string r) ∧ Below w.heap.size w w' := by
 have HB := am (Below.refl w.heap.size w)
 have H := h
 unfold spec_Put.f at H
 clear h
 replace H := Option.bind_eq_some_iff.mp H
 obtain ⟨t345, A20, H⟩ := H
 (try dsimp only at H)
 have A2 := am A20
 clear A20
 by_cases c3 : t345 = true
 ·subst c3
  have H1 : ((spec_l1Put.f a0).bind fun t346 => (some (strOfNums t346))) = some r := by rw [if_pos rfl] at H; exact H
  clear H
  have H := H1
  clear H1
  replace H := Option.bind_eq_some_iff.mp H
  obtain ⟨t346, A40, H⟩ := H
  replace H : (some (strOfNums t346)) = some r := H
  have A4 := am A40
  clear A40
  obtain rfl := Option.some.inj H
  go_enter Tryd.func17, Tryd.ntmps17
  go_wp2_with (first | ((with_reducible refine gate_callee (f := 24) rfl ?_); refine gl_ (some 4) Tryd.func24 #[.int .i64 a0] ?_; (with_reducible refine (spec_RuneOk.calls a0 true _ A2.out).mono ?_); rintro e w' ⟨rfl, ⟨nd, rfl⟩⟩; refine ⟨_, rfl, ?_⟩) | ((with_reducible refine gate_callee (f := 57) rfl ?_); refine gl_ (some 7) Tryd.func57 #[.int .i64 a0] ?_; (with_reducible refine (spec_l1Put.calls a0 t346 _ A4.out).mono ?_); rintro e w5 ⟨v347, rfl, ho0, hb⟩; refine ⟨_, rfl, ?_⟩; have n0_ := am (Kd.R_lower ho0 (below_size (rb HB))); have n1_ := am (below_step (rb HB) hb); clear HB; have HO348 := n0_; have HB := n1_; clear n0_ n1_; (try clear hb); (try clear hb2); (try clear hk); (try clear hi); (try clear ho0); have hcv6 := own_string (P := Tryd.prog) Tryd.underlying22 Tryd.underlying5 Tryd.underlying9 (Kd.own_of_R HO348.out)))
  go_ret
  exact ⟨by first | rfl | (simp [errW_none, errW_some] <;> rfl) | (simp [*, errW_none, errW_some] <;> rfl), by repeat (first | (with_reducible first | exact HB.out | apply b1 | apply b2 | apply b3) | exact HB.out)⟩
 ·replace c3 := Bool.eq_false_iff.mpr c3
  subst c3
  have H1 : (some (⟨#[]⟩ : ByteArray)) = some r := by rw [if_neg (show ¬ (false = true) by decide)] at H; exact H
  clear H
  have H := H1
  clear H1
  obtain rfl := Option.some.inj H
  go_enter Tryd.func17, Tryd.ntmps17
  go_wp2_with (first | ((with_reducible refine gate_callee (f := 24) rfl ?_); refine gl_ (some 4) Tryd.func24 #[.int .i64 a0] ?_; (with_reducible refine (spec_RuneOk.calls a0 false _ A2.out).mono ?_); rintro e w' ⟨rfl, ⟨nd, rfl⟩⟩; refine ⟨_, rfl, ?_⟩))
  go_ret
  exact ⟨by first | rfl | (simp [errW_none, errW_some] <;> rfl) | (simp [*, errW_none, errW_some] <;> rfl), by repeat (first | (with_reducible first | exact HB.out | apply b1 | apply b2 | apply b3) | exact HB.out)⟩

end Go.Proofs.YtfhkpneffmcdbaaDoor.QB
