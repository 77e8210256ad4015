/- Contracts of Go functions that laws of this seat reach: each Lean function answers as its Go function does. No condition. Written by wip/tools/inj.py, over the kit's print. -/
import Derived.Test.YtfhkpneffmcdbaaDoorQCx0
import Derived.Test.YtfhkpneffmcdbaaDoorQCx1
import Derived.Test.YtfhkpneffmcdbaaDoorQCx2
import Derived.Test.YtfhkpneffmcdbaaDoorQCx4
import Derived.Test.YtfhkpneffmcdbaaDoorQCx6
import Derived.Test.YtfhkpneffmcdbaaDoorQCx7
import Derived.Test.YtfhkpneffmcdbaaDoorQCx8
import Derived.Test.YtfhkpneffmcdbaaDoorQCx9
import Derived.Test.YtfhkpneffmcdbaaDoorQCx11
import Derived.Test.YtfhkpneffmcdbaaDoorQCx13
import Derived.Test.YtfhkpneffmcdbaaDoorQCx17
namespace Go.Proofs.YtfhkpneffmcdbaaDoor.QC
open Go.RowKit Go.Proofs.YtfhkpneffmcdbaaDoorW.PrintWords Go.Proofs.YtfhkpneffmcdbaaDoorW.PrintLast Go.Proofs.YtfhkpneffmcdbaaDoorW.PrintMore
attribute [local go_sem] max2_int min2_int max_two min_two max_three min_three max_four min_four   -- for this text's walks alone
set_option linter.unusedVariables false
set_option linter.unusedSimpArgs false

attribute [local go_sem high] eqA50
/-! ### laws_FnPressed: function 6 -/
mutual
def laws_FnPressed.j0 : Nat → ByteArray → ByteArray → List (S50) → ByteArray → Bool → Int → Int → Bool → Option (Bool)
 | 0, _, _, _, _, _, _, _, _ => none
 | k + 1, x4, x5, x6, x7, x60, x389000, x389001, x389002 => if x60 = true then (some false) else (laws_FnPressed.l0 k x4 x5 x6 x7 (⟨#[]⟩ : ByteArray) 0 x389000 x389001 x389002)
def laws_FnPressed.l0 : Nat → ByteArray → ByteArray → List (S50) → ByteArray → ByteArray → Int → Int → Int → Bool → Option (Bool)
 | 0, _, _, _, _, _, _, _, _, _ => none
 | k + 1, x4, x5, x6, x7, x10, x11, x389000, x389001, x389002 => if x11 < (x6.length : Int) then (if 0 ≤ x11 then ((impl_KeyOk.f ((rd_T50 x6 x11).f0) ((rd_T50 x6 x11).f1) ((rd_T50 x6 x11).f2)).bind fun t405 => (if t405 = true then ((impl_Sent.f k ((rd_T50 x6 x11).f0) ((rd_T50 x6 x11).f1) ((rd_T50 x6 x11).f2)).bind fun t407 => (if x10.size + t407.size ≤ 9223372036854775807 then (laws_FnPressed.l0 k x4 x5 x6 x7 (x10 ++ t407) (wrap64 (x11 + 1)) x389000 x389001 x389002) else (none))) else (some false))) else (none)) else (if x10.size + x7.size ≤ 9223372036854775807 then (if (x10 ++ x7).toList = x5.toList then (if x4.toList = ([] : List UInt8) then (some true) else (if x4.size + x4.size ≤ 9223372036854775807 then (if (x4 ++ x4).size + x10.size ≤ 9223372036854775807 then ((impl_Pressed.f k ((x4 ++ x4) ++ x10)).bind fun bt408 => (if bt408.2.toList = ([] : List UInt8) then (if (bt408.1.length : Int) = (wrap64 ((x6.length : Int) + 2)) then (if 0 < (bt408.1.length : Int) then (if (((rd_T50 bt408.1 0).f0) == x389000 && (((rd_T50 bt408.1 0).f1) == x389001 && (((rd_T50 bt408.1 0).f2) == x389002))) = true then (if 1 < (bt408.1.length : Int) then (if (((rd_T50 bt408.1 1).f0) == x389000 && (((rd_T50 bt408.1 1).f1) == x389001 && (((rd_T50 bt408.1 1).f2) == x389002))) = true then (if 2 ≤ (bt408.1.length : Int) then ((laws_likeKeys.f k (bt408.1.drop 2) x6).bind fun t418 => (some t418)) else (none)) else (some false)) else (none)) else (some false)) else (none)) else (some false)) else (some false))) else (none)) else (none))) else (some false)) else (none))
end
def laws_FnPressed.f (k : Nat) (l0 : List Int) : Option (Bool) := (laws_big.f l0).bind fun t384 => (if t384 = true then (some true) else ((spec_DrawSent.f k l0).bind fun bt385 => ((impl_Sent.f k bt385.1 bt385.2.1 bt385.2.2).bind fun t389 => ((spec_DrawPressed.f k l0).bind fun t390 => ((impl_Pressed.f k t390).bind fun bt391 => ((spec_Pressed.f k t390).bind fun bt395 => ((laws_likeKeys.f k bt391.1 bt395.1).bind fun t399 => (if t399 = true then (if bt391.2.toList = bt395.2.toList then ((spec_Sent.f k bt385.1 bt385.2.1 bt385.2.2).bind fun t400 => (if t389.toList = t400.toList then ((impl_KeyOk.f bt385.1 bt385.2.1 bt385.2.2).bind fun t401 => ((spec_KeyOk.f bt385.1 bt385.2.1 bt385.2.2).bind fun t402 => (if (t401 != t402) = true then (laws_FnPressed.j0 k t389 t390 bt391.1 bt391.2 true bt385.1 bt385.2.1 bt385.2.2) else ((impl_KeyOk.f bt385.1 bt385.2.1 bt385.2.2).bind fun t403 => (laws_FnPressed.j0 k t389 t390 bt391.1 bt391.2 ((t389.toList != ([] : List UInt8)) != t403) bt385.1 bt385.2.1 bt385.2.2))))) else (laws_FnPressed.j0 k t389 t390 bt391.1 bt391.2 true bt385.1 bt385.2.1 bt385.2.2))) else (laws_FnPressed.j0 k t389 t390 bt391.1 bt391.2 true bt385.1 bt385.2.1 bt385.2.2)) else (laws_FnPressed.j0 k t389 t390 bt391.1 bt391.2 true bt385.1 bt385.2.1 bt385.2.2)))))))))
theorem laws_FnPressed.mono_l : ∀ k, (∀ y0 y1 y2 y3 y4 y5 y6 y7, LeO (laws_FnPressed.j0 k y0 y1 y2 y3 y4 y5 y6 y7) (laws_FnPressed.j0 (k + 1) y0 y1 y2 y3 y4 y5 y6 y7)) ∧ (∀ y0 y1 y2 y3 y4 y5 y6 y7 y8, LeO (laws_FnPressed.l0 k y0 y1 y2 y3 y4 y5 y6 y7 y8) (laws_FnPressed.l0 (k + 1) y0 y1 y2 y3 y4 y5 y6 y7 y8))
 | 0 => ⟨fun _ _ _ _ _ _ _ _ r h => by simp [laws_FnPressed.j0] at h, fun _ _ _ _ _ _ _ _ _ r h => by simp [laws_FnPressed.l0] at h⟩
 | k + 1 => by
  obtain ⟨ih0, ih1⟩ := laws_FnPressed.mono_l k
  refine ⟨?_, ?_⟩
  ·intro y0 y1 y2 y3 y4 y5 y6 y7
   unfold laws_FnPressed.j0
   repeat' first
   | (with_reducible exact ih0 _ _ _ _ _ _ _ _)
   | (with_reducible exact ih1 _ _ _ _ _ _ _ _ _)
   | (with_reducible exact impl_Pressed.mono _ _)
   | (with_reducible exact impl_Sent.mono _ _ _ _)
   | (with_reducible exact laws_likeKeys.mono _ _ _)
   | (with_reducible exact spec_DrawPressed.mono _ _)
   | (with_reducible exact spec_DrawSent.mono _ _)
   | (with_reducible exact spec_Pressed.mono _ _)
   | (with_reducible exact spec_Sent.mono _ _ _ _)
   | (with_reducible exact LeO.refl _)
   | (with_reducible exact LeO.none _)
   | (with_reducible refine LeO.ite ?_ ?_)
   | (with_reducible refine LeO.bind ?_ (fun _ => ?_))
  ·intro y0 y1 y2 y3 y4 y5 y6 y7 y8
   unfold laws_FnPressed.l0
   repeat' first
   | (with_reducible exact ih0 _ _ _ _ _ _ _ _)
   | (with_reducible exact ih1 _ _ _ _ _ _ _ _ _)
   | (with_reducible exact impl_Pressed.mono _ _)
   | (with_reducible exact impl_Sent.mono _ _ _ _)
   | (with_reducible exact laws_likeKeys.mono _ _ _)
   | (with_reducible exact spec_DrawPressed.mono _ _)
   | (with_reducible exact spec_DrawSent.mono _ _)
   | (with_reducible exact spec_Pressed.mono _ _)
   | (with_reducible exact spec_Sent.mono _ _ _ _)
   | (with_reducible exact LeO.refl _)
   | (with_reducible exact LeO.none _)
   | (with_reducible refine LeO.ite ?_ ?_)
   | (with_reducible refine LeO.bind ?_ (fun _ => ?_))
theorem laws_FnPressed.mono : ∀ a0 k, LeO (laws_FnPressed.f k a0) (laws_FnPressed.f (k + 1) a0) := by
 intro a0 k
 obtain ⟨ih0, ih1⟩ := laws_FnPressed.mono_l k
 unfold laws_FnPressed.f
 repeat' first
   | (with_reducible exact ih0 _ _ _ _ _ _ _ _)
   | (with_reducible exact ih1 _ _ _ _ _ _ _ _ _)
   | (with_reducible exact impl_Pressed.mono _ _)
   | (with_reducible exact impl_Sent.mono _ _ _ _)
   | (with_reducible exact laws_likeKeys.mono _ _ _)
   | (with_reducible exact spec_DrawPressed.mono _ _)
   | (with_reducible exact spec_DrawSent.mono _ _)
   | (with_reducible exact spec_Pressed.mono _ _)
   | (with_reducible exact spec_Sent.mono _ _ _ _)
   | (with_reducible exact LeO.refl _)
   | (with_reducible exact LeO.none _)
   | (with_reducible refine LeO.ite ?_ ?_)
   | (with_reducible refine LeO.bind ?_ (fun _ => ?_))
def laws_FnPressed.T8 : Bool × List (List Nat × List Nat) := (true, [([], []), ([], []), ([0, 1], [0, 1]), ([2], [2]), ([3, 2], [3]), ([4], [4]), ([4], [4]), ([5, 6, 4], [4, 5, 6]), ([4, 7], [4, 7]), ([8, 4], [8]), ([9], [9]), ([9], [9]), ([11, 9, 9], [9, 11]), ([10, 12, 9], [9, 10, 12]), ([9, 13], [9, 13]), ([14, 12], [14]), ([15], [15]), ([16, 15, 15], [15, 16]), ([15], [15]), ([18, 17, 15], [15, 18]), ([17, 19, 15], [15, 17, 19]), ([15, 20], [15, 20]), ([21, 19], [21]), ([22], [22]), ([23, 22], [22, 23]), ([22], [22]), ([25, 22, 22], [22, 25]), ([24, 26, 22], [22, 24, 26]), ([22, 27], [22, 27])])
def laws_FnPressed.B8 : List Nat := [0, 0, 3, 7, 15, 31, 31, 127, 255, 511, 1023, 1023, 3071, 8191, 16383, 32767, 65535, 131071, 65535, 524287, 1048575, 2097151, 4194303, 8388607, 16777215, 8388607, 41943039, 134217727, 268435455]
theorem laws_FnPressed.tab8 : rtab .any (opsOf Tryd.f6 8) = laws_FnPressed.T8 := by kernel_rfl
theorem laws_FnPressed.bits8 : waitsOk laws_FnPressed.T8.2 laws_FnPressed.B8 = true := by kernel_rfl
def laws_FnPressed.T22 : Bool × List (List Nat × List Nat) := (true, [([], []), ([0], [0]), ([1], [1]), ([2], [2]), ([3, 2], [2, 3]), ([2], [2]), ([5, 2], [2, 5]), ([6, 2], [2, 6]), ([4, 7, 2], [2, 4, 7]), ([2, 8], [2, 8]), ([9, 2], [9]), ([10], [10]), ([11, 10], [10, 11]), ([12, 10], [10, 12]), ([10], [10]), ([13, 14, 10], [10, 13, 14]), ([10, 15], [10, 15]), ([16, 10], [16]), ([17], [17]), ([18, 17], [17, 18]), ([19, 17], [17, 19]), ([17], [17]), ([20, 21, 17], [17, 20, 21]), ([17, 22], [17, 22]), ([23, 17], [23]), ([24], [24]), ([25, 24], [24, 25]), ([24], [24]), ([26, 27, 24, 24], [24, 26, 27]), ([24, 28], [24, 28]), ([29, 28, 0, 1, 2, 3, 4, 5, 6, 7, 8, 9, 10, 11, 12, 13, 14, 15, 16, 17, 18, 19, 20, 21, 22, 23, 24, 25, 26, 27, 28, 29], [29])])
def laws_FnPressed.B22 : List Nat := [0, 1, 3, 7, 15, 7, 39, 103, 255, 511, 1023, 2047, 4095, 8191, 2047, 32767, 65535, 131071, 262143, 524287, 1048575, 262143, 4194303, 8388607, 16777215, 33554431, 67108863, 33554431, 268435455, 536870911, 1073741823]
theorem laws_FnPressed.tab22 : rtab .any (opsOf Tryd.f6 22) = laws_FnPressed.T22 := by kernel_rfl
theorem laws_FnPressed.bits22 : waitsOk laws_FnPressed.T22.2 laws_FnPressed.B22 = true := by kernel_rfl
set_option maxHeartbeats 8000000 in
set_option maxRecDepth 100000 in
theorem laws_FnPressed.calls (k : Nat) (A0 : Option Addr) (c0 : Nat) (l0 : List Int) (r : Bool) (w : World) (hr0 : Kd.C (Kd.int .u8) w A0 l0.length l0) (hc0 : l0.length ≤ c0) (h : laws_FnPressed.f k l0 = some r) (hT_ : r = true) (hT : TB w) :
  Calls Tryd.prog 6 #[.slice A0 l0.length c0] w fun e w' => e = .returned (.bool r) ∧ Below w.heap.size w w' := by
 have HT := am hT
 clear hT
 have hu50 := Tryd.underlying50
 have HR0 := am hr0
 have HC0 := am hc0
 clear hr0 hc0
 have HB := am (Below.refl w.heap.size w)
 have H := h
 unfold laws_FnPressed.f at H
 clear h
 replace H := Option.bind_eq_some_iff.mp H
 obtain ⟨t384, A20, H⟩ := H
 (try dsimp only at H)
 have A2 := am A20
 clear A20
 by_cases c3 : t384 = true
 ·subst c3
  have H1 : (some true) = some r := by rw [if_pos rfl] at H; exact H
  clear H
  have H := H1
  clear H1
  obtain rfl := Option.some.inj H
  go_enter Tryd.func6, Tryd.ntmps6
  go_wp2_with (first | ((with_reducible refine gate_callee (f := 7) rfl ?_); refine gl_ (some 15) Tryd.func7 #[.slice A0 l0.length c0] ?_; (with_reducible refine (laws_big.calls _ _ l0 true _ ?side1 ?side2 A2.out).mono ?_); (case side1 => exact rc (HR0.out)); (case side2 => exact HC0.out); rintro e w' ⟨rfl, ⟨nd, rfl⟩⟩; refine ⟨_, rfl, ?_⟩))
  go_ret
  exact ⟨by first | rfl | (simp [errW_none, errW_some] <;> rfl) | (simp [*, errW_none, errW_some] <;> rfl), by repeat (first | (with_reducible first | exact HB.out | apply b1 | apply b2 | apply b3) | exact HB.out)⟩
 ·replace c3 := Bool.eq_false_iff.mpr c3
  subst c3
  rw [if_neg (show ¬ (false = true) by decide)] at H
  replace H := Option.bind_eq_some_iff.mp H
  obtain ⟨⟨t385, t386, t387⟩, A40, H⟩ := H
  (try dsimp only at H)
  have A4 := am A40
  clear A40
  replace H := Option.bind_eq_some_iff.mp H
  obtain ⟨t389, A50, H⟩ := H
  (try dsimp only at H)
  have A5 := am A50
  clear A50
  replace H := Option.bind_eq_some_iff.mp H
  obtain ⟨t390, A60, H⟩ := H
  (try dsimp only at H)
  have A6 := am A60
  clear A60
  replace H := Option.bind_eq_some_iff.mp H
  obtain ⟨⟨t391, t392⟩, A70, H⟩ := H
  (try dsimp only at H)
  have A7 := am A70
  clear A70
  replace H := Option.bind_eq_some_iff.mp H
  obtain ⟨⟨t395, t396⟩, A80, H⟩ := H
  (try dsimp only at H)
  have A8 := am A80
  clear A80
  have HC9 := am H
  clear H
  go_enter Tryd.func6, Tryd.ntmps6
  go_upto_region 8 with (first | ((with_reducible refine gate_callee (f := 7) rfl ?_); refine gl_ (some 15) Tryd.func7 #[.slice A0 l0.length c0] ?_; (with_reducible refine (laws_big.calls _ _ l0 false _ ?side1 ?side2 A2.out).mono ?_); (case side1 => exact rc (HR0.out)); (case side2 => exact HC0.out); rintro e w' ⟨rfl, ⟨nd, rfl⟩⟩; refine ⟨_, rfl, ?_⟩) | ((with_reducible refine gate_callee (f := 39) rfl ?_); refine gl_ (some 17) Tryd.func39 #[.slice A0 l0.length c0] ?_; (with_reducible refine (spec_DrawSent.calls k _ _ l0 t385 t386 t387 _ ?side1 ?side2 A4.out).mono ?_); (case side1 => exact rc (HR0.out)); (case side2 => exact HC0.out); rintro e w10 ⟨rfl, hb⟩; refine ⟨_, rfl, ?_⟩; have n0_ := am (below_step (rb HB) hb); clear HB; have HB := n0_; clear n0_; (try clear hb); (try clear hb2); (try clear hk); (try clear hi)) | ((with_reducible refine gate_dst (N := 3) rfl ?_); (try (refine gate_guard (by rfl) ?_; dsimp only)); refine box_event ?hg (N := 3) ?hd (cs := #[.int .i64 0, .int .i64 0, .bool false]) (t := 50) ?hr ?_; (case hd => rfl); (case hg => rfl); (case hr => first | (go_simp; done) | (go_simp; rfl)); intro gb388 hg w11 hbox hb; have n0_ := am (below_step (rb HB) hb); have n1_ := am (hbox); have n2_ := am ((by rw [hg]; exact (below_size (rb HB)) : w.heap.size ≤ gb388)); have n3_ := am ((by rw [hg]; exact (below_size (rb HB)) : w.heap.size ≤ gb388)); clear HB; have HB := n0_; have BK388 := n1_; have GW388 := n2_; have GE388 := n3_; clear n0_ n1_ n2_ n3_; clear hb hbox hg; have hcz12_0 : w11.cell? ⟨gb388, 0, none⟩ = some (.int .i64 0) := (blk_cell BK388.out 0).trans rfl; have hcz12_1 : w11.cell? ⟨gb388, 1, none⟩ = some (.int .i64 0) := (blk_cell BK388.out 1).trans rfl; have hcz12_2 : w11.cell? ⟨gb388, 2, none⟩ = some (.bool false) := (blk_cell BK388.out 2).trans rfl; have hfz12_0 := blk_frozen BK388.out 0; have hfz12_1 := blk_frozen BK388.out 1; have hfz12_2 := blk_frozen BK388.out 2) | ((with_reducible refine gate_callee (f := 40) rfl ?_); refine gl_ (some 19) Tryd.func40 #[.agg #[.int .i64 t385, .int .i64 t386, .bool t387]] ?_; (with_reducible refine (impl_Sent.calls k t385 t386 t387 t389 _ A5.out).mono ?_); rintro e w13 ⟨rfl, hb⟩; refine ⟨_, rfl, ?_⟩; have n0_ := am (blk_below (g := gb388) (o := .cells #[.int .i64 t385, .int .i64 t386, .bool t387] 50 (0, 0)) (by (with_reducible repeat (first | apply k1 | apply k2 | apply k3)); refine blk_put (cs := #[.int .i64 t385, .int .i64 t386, .bool false]) ?_ 2 _ rfl; (with_reducible repeat (first | apply k1 | apply k2 | apply k3)); refine blk_put (cs := #[.int .i64 t385, .int .i64 0, .bool false]) ?_ 1 _ rfl; (with_reducible repeat (first | apply k1 | apply k2 | apply k3)); refine blk_put (cs := #[.int .i64 0, .int .i64 0, .bool false]) ?_ 0 _ rfl; (with_reducible repeat (first | apply k1 | apply k2 | apply k3)); exact BK388.out) hb); have n1_ := am (below_step (rb1 HB GE388) hb); clear BK388; clear HB; have BK388 := n0_; have HB := n1_; clear n0_ n1_; (try clear hb); (try clear hb2); (try clear hk); (try clear hi)) | ((with_reducible refine gate_callee (f := 41) rfl ?_); refine gl_ (some 21) Tryd.func41 #[.slice A0 l0.length c0] ?_; (with_reducible refine (spec_DrawPressed.calls k _ _ l0 t390 _ ?side1 ?side2 A6.out).mono ?_); (case side1 => exact rc ((Kd.C_below HR0.out HB.out))); (case side2 => exact HC0.out); rintro e w14 ⟨rfl, hb⟩; refine ⟨_, rfl, ?_⟩; have n0_ := am (blk_below (g := gb388) (o := .cells #[.int .i64 t385, .int .i64 t386, .bool t387] 50 (0, 0)) (rk BK388) hb); have n1_ := am (below_step (rb1 HB GE388) hb); clear BK388; clear HB; have BK388 := n0_; have HB := n1_; clear n0_ n1_; (try clear hb); (try clear hb2); (try clear hk); (try clear hi)) | ((with_reducible refine gate_callee (f := 42) rfl ?_); refine gl_ (some 24) Tryd.func42 #[.string t390] ?_; (with_reducible refine (impl_Pressed.calls k t390 t391 t392 _ A7.out ?sideT).mono ?_); (case sideT => exact TB.below HT.out (rb1 HB GE388)); rintro e w15 ⟨v393, rfl, ho0, hb⟩; refine ⟨_, rfl, ?_⟩; have n0_ := am (Kd.R_lower (Kd.R_newB ho0 (g := gb388) (o := .cells #[.int .i64 t385, .int .i64 t386, .bool t387] 50 (0, 0)) (rk BK388)) (below_size (rb1 HB GE388))); have n1_ := am (blk_below (g := gb388) (o := .cells #[.int .i64 t385, .int .i64 t386, .bool t387] 50 (0, 0)) (rk BK388) hb); have n2_ := am (below_step (rb1 HB GE388) hb); clear BK388; clear HB; have HO394 := n0_; have BK388 := n1_; have HB := n2_; clear n0_ n1_ n2_; (try clear hb); (try clear hb2); (try clear hk); (try clear hi); (try clear ho0)) | ((with_reducible refine gate_callee (f := 43) rfl ?_); refine gl_ (some 29) Tryd.func43 #[.string t390] ?_; (with_reducible refine (spec_Pressed.calls k t390 t395 t396 _ A8.out).mono ?_); rintro e w16 ⟨v397, rfl, ho0, hb⟩; refine ⟨_, rfl, ?_⟩; have n0_ := am (Kd.R_elder' (rr HO394) (Kd.R_base ho0) hb); have n1_ := am (Kd.R_lower (Kd.R_newB (Kd.R_new' ho0 (Kd.R_lt (rr HO394))) (g := gb388) (o := .cells #[.int .i64 t385, .int .i64 t386, .bool t387] 50 (0, 0)) (rk BK388)) (below_size (rb1 HB GE388))); have n2_ := am (blk_below (g := gb388) (o := .cells #[.int .i64 t385, .int .i64 t386, .bool t387] 50 (0, 0)) (rk BK388) hb); have n3_ := am (below_step (rb1 HB GE388) hb); clear HO394; clear BK388; clear HB; have HO394 := n0_; have HO398 := n1_; have BK388 := n2_; have HB := n3_; clear n0_ n1_ n2_ n3_; (try clear hb); (try clear hb2); (try clear hk); (try clear hi); (try clear ho0)))
  (try simp only [Act.put, List.setIfInBounds_toArray, List.set_cons_zero, List.set_cons_succ])
  go_cut [60] (fun v60 wc => ∃ (kq : Nat) (x60_8 : Bool), v60 = .bool x60_8 ∧ Aside0 (laws_FnPressed.j0 kq t389 t390 t391 t392 x60_8 t385 t386 t387 = some r) ∧ Aside0 (kq ≤ k) ∧ Aside0 (Kd.R k50 50 wc w.heap.size (fun k_ => k_ ≠ gb388) v393 t391) ∧ Aside0 (wc.heap[gb388]? = some (.cells #[.int .i64 t385, .int .i64 t386, .bool t387] 50 (0, 0))) ∧ Aside0 (Below w.heap.size w wc))
  case first =>
   have H := HC9.out
   clear HC9
   replace H := Option.bind_eq_some_iff.mp H
   obtain ⟨t399, A170, H⟩ := H
   (try dsimp only at H)
   have A17 := am A170
   clear A170
   refine em_ (p := t399 = true) (fun c18 => ?g3p) (fun c18 => ?g3n)
   case' g3p =>
    subst c18
    rw [if_pos rfl] at H
    refine em_ (p := t392.toList = t396.toList) (fun c19 => ?g2p) (fun c19 => ?g2n)
    case' g2p =>
     rw [if_pos c19] at H
     have c19b0 : (t392.toList == t396.toList) = true := beq_iff_eq.mpr c19
     have c19b1 : (t392.toList != t396.toList) = false := bne_eq_false_iff_eq.mpr c19
     clear c19
     (first | rw [c19b0] | rw [c19b1] | (simp only [i64_w, i32_w]; rw [c19b0]) | skip)
     replace H := Option.bind_eq_some_iff.mp H
     obtain ⟨t400, A200, H⟩ := H
     (try dsimp only at H)
     have A20 := am A200
     clear A200
     refine em_ (p := t389.toList = t400.toList) (fun c21 => ?g1p) (fun c21 => ?g1n)
     case' g1p =>
      rw [if_pos c21] at H
      have c21b0 : (t389.toList == t400.toList) = true := beq_iff_eq.mpr c21
      have c21b1 : (t389.toList != t400.toList) = false := bne_eq_false_iff_eq.mpr c21
      clear c21
      replace H := Option.bind_eq_some_iff.mp H
      obtain ⟨t401, A220, H⟩ := H
      (try dsimp only at H)
      have A22 := am A220
      clear A220
      replace H := Option.bind_eq_some_iff.mp H
      obtain ⟨t402, A230, H⟩ := H
      (try dsimp only at H)
      have A23 := am A230
      clear A230
      refine em_ (p := (t401 != t402) = true) (fun c24 => ?g0p) (fun c24 => ?g0n)
      case' g0p =>
       rw [if_pos c24] at H
       have c24b0 : (t401 != t402) = true := c24
       (try (have c24b1 : decide (t401 = t402) = false := by simpa using c24))
       (try (have c24b2 : (t401 == t402) = false := by simpa using c24))
       (try (have c24b3 : ¬ (t401 = t402) := by simpa using c24))
       clear c24
       have H' := am H
       clear H
       have lf3_ := trivial
      case' g0n =>
       rw [if_neg c24] at H
       have c24b0 : (t401 != t402) = false := by simpa using c24
       (try (have c24b1 : decide (t401 = t402) = true := by simpa using c24))
       (try (have c24b2 : (t401 == t402) = true := by simpa using c24))
       clear c24
       replace H := Option.bind_eq_some_iff.mp H
       obtain ⟨t403, A310, H⟩ := H
       (try dsimp only at H)
       have A31 := am A310
       clear A310
       have H' := am H
       clear H
       have lf4_ := trivial
     case' g1n =>
      rw [if_neg c21] at H
      have c21b0 : (t389.toList == t400.toList) = false := beq_eq_false_iff_ne.mpr c21
      have c21b1 : (t389.toList != t400.toList) = true := bne_iff_ne.mpr c21
      have H' := am H
      clear H
      have lf5_ := trivial
    case' g2n =>
     rw [if_neg c19] at H
     have c19b0 : (t392.toList == t396.toList) = false := beq_eq_false_iff_ne.mpr c19
     have c19b1 : (t392.toList != t396.toList) = true := bne_iff_ne.mpr c19
     (first | rw [c19b0] | rw [c19b1] | (simp only [i64_w, i32_w]; rw [c19b0]) | skip)
     have H' := am H
     clear H
     have lf6_ := trivial
   case' g3n =>
    replace c18 := Bool.eq_false_iff.mpr c18
    subst c18
    rw [if_neg (show ¬ (false = true) by decide)] at H
    have H' := am H
    clear H
    have lf7_ := trivial
   all_goals
    try go_wp2
    have n0_ := am (Kd.R_drew HO394.out)
    have n1_ := am (Kd.R_drew HO398.out)
    have n2_ := am (blk_drew BK388.out)
    have n3_ := am (below_drew1 HB.out)
    clear HO394
    clear HO398
    clear BK388
    clear HB
    have HO394 := n0_
    have HO398 := n1_
    have BK388 := n2_
    have HB := n3_
    clear n0_ n1_ n2_ n3_
    obtain ⟨Ao26, co26, eo26⟩ := Kd.R_slice HO394.out
    (first | subst eo26 | (injection eo26 with f1_ f2_ f3_; have f4_ := f1_.symm; have f5_ := f3_.symm; clear f1_ f2_ f3_; subst f4_; subst f5_))
    obtain ⟨Ao27, co27, eo27⟩ := Kd.R_slice HO398.out
    (first | subst eo27 | (injection eo27 with f1_ f2_ f3_; have f4_ := f1_.symm; have f5_ := f3_.symm; clear f1_ f2_ f3_; subst f4_; subst f5_))
    first
    | refine start_ (n := 29) (S := fun w' => w'.cell? ⟨gb388, 0, none⟩ = some (.int .i64 t385) ∧ w'.cell? ⟨gb388, 1, none⟩ = some (.int .i64 t386) ∧ w'.cell? ⟨gb388, 2, none⟩ = some (.bool t387)) (ds := []) (bm 29 0) (by kernel_rfl) rfl rfl ⟨(blk_cell BK388.out 0).trans rfl, (blk_cell BK388.out 1).trans rfl, (blk_cell BK388.out 2).trans rfl⟩ (fun hHeld => ?_); refine with_tabW laws_FnPressed.tab8 laws_FnPressed.bits8 (fun HT_ HW_ => ?_)
    | refine start_ (n := 29) (S := fun w' => True) (ds := []) (bm 29 0) (by kernel_rfl) rfl rfl trivial (fun hHeld => ?_); refine with_tabW laws_FnPressed.tab8 laws_FnPressed.bits8 (fun HT_ HW_ => ?_)
    generalize w16.drew = w25 at HO394 HO398 BK388 HB hHeld ⊢
    refine pu_ 0 32 (bm 29 1) HT_.out ?_
    refine pu_ 1 33 (bm 29 3) HT_.out ?_
    refine one_ (i := 2) (N := some 34) (bm 29 7) rfl rfl (one_of HT_.out (by kernel_rfl)) (by decide) (fun K hK => ?_)
    refine goes_ Tryd.func44 (by kernel_rfl) rfl #[.slice Ao26 t391.length co26, .slice Ao27 t395.length co27] (by rfl) rfl rfl (by (try simp only [List.map_toArray, List.map_cons, List.map_nil]); first | done | rfl | (simp only [List.length_drop, List.length_take]; rfl)) ?_
    first | with_reducible refine (laws_likeKeys.calls k _ _ t391 _ _ t395 false _ ?side1 ?side2 ?side3 ?side4 A17.out).mono ?_ | with_reducible refine (laws_likeKeys.calls k _ _ t391 _ _ t395 true _ ?side1 ?side2 ?side3 ?side4 A17.out).mono ?_
    (case side1 => repeat (first | exact (Kd.R_reads' HO394.out).2.2 | (with_reducible refine Kd.C_alloc ?_ _) | (with_reducible refine Kd.C_drewN ?_ _) | (with_reducible refine Kd.C_drew ?_)))
    (case side2 => exact (Kd.R_reads' HO394.out).2.1)
    (case side3 => repeat (first | exact (Kd.R_reads' HO398.out).2.2 | (with_reducible refine Kd.C_alloc ?_ _) | (with_reducible refine Kd.C_drewN ?_ _) | (with_reducible refine Kd.C_drew ?_)))
    (case side4 => exact (Kd.R_reads' HO398.out).2.1)
    rintro e w' ⟨rfl, ⟨nd, rfl⟩⟩
    refine ⟨_, rfl, ?_⟩
    first | refine hK.out _ _ ⟨(blk_cell BK388.out 0).trans rfl, (blk_cell BK388.out 1).trans rfl, (blk_cell BK388.out 2).trans rfl⟩ (fun hHeld => ?_) | refine hK.out _ _ trivial (fun hHeld => ?_)
    clear hK K
    refine norm_ (a' := ?_) ?_ ?_
    rotate_left
    ·show Act.put _ (some 34) _ = _
     simp only [Act.put, List.setIfInBounds_toArray, List.set_cons_zero, List.set_cons_succ, i64_w, i32_w]
     rfl
    refine pu_ 3 35 (bm 29 15) HT_.out ?_
    refine pu_ 4 36 (bm 29 31) HT_.out ?_
    first | refine pu_ 5 37 (bm 29 63) HT_.out ?_ | refine un_ 5 37 (bm 29 63) HT_.out ?_
    first | refine pu_ 6 38 (bm 29 127) HT_.out ?_ | refine un_ 6 38 (bm 29 127) HT_.out ?_
    first | refine pu_ 7 39 (bm 29 255) HT_.out ?_ | refine un_ 7 39 (bm 29 255) HT_.out ?_
    refine pu_ 8 40 (bm 29 511) HT_.out ?_
    refine pu_ 9 41 (bm 29 1023) HT_.out ?_
    first | refine pu_ 10 42 (bm 29 2047) HT_.out ?_ | refine un_ 10 42 (bm 29 2047) HT_.out ?_
    first
    | (
      refine take_ (i := 11) (N := some 43) (v := ?_) (a' := ?_) (bm 29 4095) rfl rfl (take_ofW HT_.out HW_.out (by kernel_rfl)) (fun _ _ _ h => h) (Or.inl ⟨by rfl, ?_⟩) hHeld ?_ ?_
      rotate_left
      ·rintro w' ⟨s0, s1, s2⟩
       go_simp
       with_reducible rfl
      rotate_left
      ·simp only [Act.put, List.setIfInBounds_toArray, List.set_cons_zero, List.set_cons_succ, i64_w, i32_w]
       rfl
      refine one_ (i := 12) (N := some 44) (bm 29 8191) rfl rfl (one_of HT_.out (by kernel_rfl)) (by decide) (fun K hK => ?_)
      refine goes_ Tryd.func45 (by kernel_rfl) rfl #[.agg #[.int .i64 t385, .int .i64 t386, .bool t387]] (by rfl) rfl rfl (by (try simp only [List.map_toArray, List.map_cons, List.map_nil]); first | done | rfl | (simp only [List.length_drop, List.length_take]; rfl)) ?_
      with_reducible refine (spec_Sent.calls k t385 t386 t387 t400 _ A20.out).mono ?_
      rintro e w28 ⟨rfl, hb⟩
      refine ⟨_, rfl, ?_⟩
      have n0_ := am (Kd.R_below (rr HO394) hb)
      have n1_ := am (Kd.R_below (rr HO398) hb)
      have n2_ := am (blk_below (g := gb388) (o := .cells #[.int .i64 t385, .int .i64 t386, .bool t387] 50 (0, 0)) (rk BK388) hb)
      have n3_ := am (below_step (rb1 HB GE388) hb)
      clear HO394
      clear HO398
      clear BK388
      clear HB
      have HO394 := n0_
      have HO398 := n1_
      have BK388 := n2_
      have HB := n3_
      clear n0_ n1_ n2_ n3_
      (try clear hb)
      (try clear hb2)
      (try clear hk)
      (try clear hi)
      refine hK.out _ _ ⟨(blk_cell BK388.out 0).trans rfl, (blk_cell BK388.out 1).trans rfl, (blk_cell BK388.out 2).trans rfl⟩ (fun hHeld => ?_)
      clear hK K
      refine norm_ (a' := ?_) ?_ ?_
      rotate_left
      ·show Act.put _ (some 44) _ = _
       simp only [Act.put, List.setIfInBounds_toArray, List.set_cons_zero, List.set_cons_succ, i64_w, i32_w]
       rfl
      )
    | (
      refine un_ 11 43 (bm 29 4095) HT_.out ?_
      refine un_ 12 44 (bm 29 8191) HT_.out ?_
      )
    first | refine pu_ 13 45 (bm 29 16383) HT_.out ?_ | refine un_ 13 45 (bm 29 16383) HT_.out ?_
    refine pu_ 14 46 (bm 29 32767) HT_.out ?_
    refine pu_ 15 47 (bm 29 65535) HT_.out ?_
    first
    | (
      refine take_ (i := 16) (N := some 48) (v := ?_) (a' := ?_) (bm 29 131071) rfl rfl (take_ofW HT_.out HW_.out (by kernel_rfl)) (fun _ _ _ h => h) (Or.inl ⟨by rfl, ?_⟩) hHeld ?_ ?_
      rotate_left
      ·rintro w' ⟨s0, s1, s2⟩
       go_simp
       with_reducible rfl
      rotate_left
      ·simp only [Act.put, List.setIfInBounds_toArray, List.set_cons_zero, List.set_cons_succ, i64_w, i32_w]
       rfl
      refine take_ (i := 18) (N := some 50) (v := ?_) (a' := ?_) (bm 29 393215) rfl rfl (take_ofW HT_.out HW_.out (by kernel_rfl)) (fun _ _ _ h => h) (Or.inl ⟨by rfl, ?_⟩) hHeld ?_ ?_
      rotate_left
      ·rintro w' ⟨s0, s1, s2⟩
       go_simp
       with_reducible rfl
      rotate_left
      ·simp only [Act.put, List.setIfInBounds_toArray, List.set_cons_zero, List.set_cons_succ, i64_w, i32_w]
       rfl
      refine one_ (i := 17) (N := some 49) (bm 29 524287) rfl rfl (one_of HT_.out (by kernel_rfl)) (by decide) (fun K hK => ?_)
      refine goes_ Tryd.func46 (by kernel_rfl) rfl #[.agg #[.int .i64 t385, .int .i64 t386, .bool t387]] (by rfl) rfl rfl (by (try simp only [List.map_toArray, List.map_cons, List.map_nil]); first | done | rfl | (simp only [List.length_drop, List.length_take]; rfl)) ?_
      with_reducible refine (impl_KeyOk.calls t385 t386 t387 t401 _ A22.out).mono ?_
      rintro e w29 ⟨rfl, hb⟩
      refine ⟨_, rfl, ?_⟩
      have n0_ := am (Kd.R_below (rr HO394) hb)
      have n1_ := am (Kd.R_below (rr HO398) hb)
      have n2_ := am (blk_below (g := gb388) (o := .cells #[.int .i64 t385, .int .i64 t386, .bool t387] 50 (0, 0)) (rk BK388) hb)
      have n3_ := am (below_step (rb1 HB GE388) hb)
      clear HO394
      clear HO398
      clear BK388
      clear HB
      have HO394 := n0_
      have HO398 := n1_
      have BK388 := n2_
      have HB := n3_
      clear n0_ n1_ n2_ n3_
      (try clear hb)
      (try clear hb2)
      (try clear hk)
      (try clear hi)
      refine hK.out _ _ ⟨(blk_cell BK388.out 0).trans rfl, (blk_cell BK388.out 1).trans rfl, (blk_cell BK388.out 2).trans rfl⟩ (fun hHeld => ?_)
      clear hK K
      refine norm_ (a' := ?_) ?_ ?_
      rotate_left
      ·show Act.put _ (some 49) _ = _
       simp only [Act.put, List.setIfInBounds_toArray, List.set_cons_zero, List.set_cons_succ, i64_w, i32_w]
       rfl
      refine one_ (i := 19) (N := some 51) (bm 29 1048575) rfl rfl (one_of HT_.out (by kernel_rfl)) (by decide) (fun K hK => ?_)
      refine goes_ Tryd.func47 (by kernel_rfl) rfl #[.agg #[.int .i64 t385, .int .i64 t386, .bool t387]] (by rfl) rfl rfl (by (try simp only [List.map_toArray, List.map_cons, List.map_nil]); first | done | rfl | (simp only [List.length_drop, List.length_take]; rfl)) ?_
      with_reducible refine (spec_KeyOk.calls t385 t386 t387 t402 _ A23.out).mono ?_
      rintro e w30 ⟨rfl, hb⟩
      refine ⟨_, rfl, ?_⟩
      have n0_ := am (Kd.R_below (rr HO394) hb)
      have n1_ := am (Kd.R_below (rr HO398) hb)
      have n2_ := am (blk_below (g := gb388) (o := .cells #[.int .i64 t385, .int .i64 t386, .bool t387] 50 (0, 0)) (rk BK388) hb)
      have n3_ := am (below_step (rb1 HB GE388) hb)
      clear HO394
      clear HO398
      clear BK388
      clear HB
      have HO394 := n0_
      have HO398 := n1_
      have BK388 := n2_
      have HB := n3_
      clear n0_ n1_ n2_ n3_
      (try clear hb)
      (try clear hb2)
      (try clear hk)
      (try clear hi)
      refine hK.out _ _ ⟨(blk_cell BK388.out 0).trans rfl, (blk_cell BK388.out 1).trans rfl, (blk_cell BK388.out 2).trans rfl⟩ (fun hHeld => ?_)
      clear hK K
      refine norm_ (a' := ?_) ?_ ?_
      rotate_left
      ·show Act.put _ (some 51) _ = _
       simp only [Act.put, List.setIfInBounds_toArray, List.set_cons_zero, List.set_cons_succ, i64_w, i32_w]
       rfl
      )
    | (
      refine un_ 16 48 (bm 29 131071) HT_.out ?_
      refine un_ 17 49 (bm 29 262143) HT_.out ?_
      refine un_ 18 50 (bm 29 524287) HT_.out ?_
      refine un_ 19 51 (bm 29 1048575) HT_.out ?_
      )
    first | refine pu_ 20 52 (bm 29 2097151) HT_.out ?_ | refine un_ 20 52 (bm 29 2097151) HT_.out ?_
    refine pu_ 21 53 (bm 29 4194303) HT_.out ?_
    refine pu_ 22 54 (bm 29 8388607) HT_.out ?_
    first | refine un_ 23 55 (bm 29 16777215) HT_.out ?_ | refine pu_ 23 55 (bm 29 16777215) HT_.out ?_
    first | refine un_ 24 56 (bm 29 33554431) HT_.out ?_ | refine pu_ 24 56 (bm 29 33554431) HT_.out ?_
    first
    | (
      refine take_ (i := 25) (N := some 57) (v := ?_) (a' := ?_) (bm 29 67108863) rfl rfl (take_ofW HT_.out HW_.out (by kernel_rfl)) (fun _ _ _ h => h) (Or.inl ⟨by rfl, ?_⟩) hHeld ?_ ?_
      rotate_left
      ·rintro w' ⟨s0, s1, s2⟩
       go_simp
       with_reducible rfl
      rotate_left
      ·simp only [Act.put, List.setIfInBounds_toArray, List.set_cons_zero, List.set_cons_succ, i64_w, i32_w]
       rfl
      refine one_ (i := 26) (N := some 58) (bm 29 134217727) rfl rfl (one_of HT_.out (by kernel_rfl)) (by decide) (fun K hK => ?_)
      refine goes_ Tryd.func46 (by kernel_rfl) rfl #[.agg #[.int .i64 t385, .int .i64 t386, .bool t387]] (by rfl) rfl rfl (by (try simp only [List.map_toArray, List.map_cons, List.map_nil]); first | done | rfl | (simp only [List.length_drop, List.length_take]; rfl)) ?_
      with_reducible refine (impl_KeyOk.calls t385 t386 t387 t403 _ A31.out).mono ?_
      rintro e w38 ⟨rfl, hb⟩
      refine ⟨_, rfl, ?_⟩
      have n0_ := am (Kd.R_below (rr HO394) hb)
      have n1_ := am (Kd.R_below (rr HO398) hb)
      have n2_ := am (blk_below (g := gb388) (o := .cells #[.int .i64 t385, .int .i64 t386, .bool t387] 50 (0, 0)) (rk BK388) hb)
      have n3_ := am (below_step (rb1 HB GE388) hb)
      clear HO394
      clear HO398
      clear BK388
      clear HB
      have HO394 := n0_
      have HO398 := n1_
      have BK388 := n2_
      have HB := n3_
      clear n0_ n1_ n2_ n3_
      (try clear hb)
      (try clear hb2)
      (try clear hk)
      (try clear hi)
      refine hK.out _ _ ⟨(blk_cell BK388.out 0).trans rfl, (blk_cell BK388.out 1).trans rfl, (blk_cell BK388.out 2).trans rfl⟩ (fun hHeld => ?_)
      clear hK K
      refine norm_ (a' := ?_) ?_ ?_
      rotate_left
      ·show Act.put _ (some 58) _ = _
       simp only [Act.put, List.setIfInBounds_toArray, List.set_cons_zero, List.set_cons_succ, i64_w, i32_w]
       rfl
      )
    | (
      refine un_ 25 57 (bm 29 67108863) HT_.out ?_
      refine un_ 26 58 (bm 29 134217727) HT_.out ?_
      )
    first | refine un_ 27 59 (bm 29 268435455) HT_.out ?_ | refine pu_ 27 59 (bm 29 268435455) HT_.out ?_
    refine pu_ 28 60 (bm 29 536870911) HT_.out ?_
    refine done_ (done_of HT_.out (by kernel_rfl)) ?_
    try go_wp2
    go_meet
    first
    | (
      first | have q_ := lf3_ | have q_ := lf5_ | have q_ := lf6_ | have q_ := lf7_
      case rel => exact ⟨_, (true), (by first | rfl | (simp; done) | (simp [*]; done)), H', ⟨by first | omega | exact Nat.le_refl _⟩, ⟨by (with_reducible repeat (first | apply r1 | apply r2 | apply r3)); exact Kd.R_mono HO394.out (fun _ hk => hk.1.2)⟩, ⟨rk BK388⟩, ⟨by repeat (first | (with_reducible first | exact HB.out | apply b1 | apply b2 | apply b3 | refine below_set ?_ GE388.out) | exact HB.out)⟩⟩
      )
    | (
      have q_ := lf4_
      case rel => exact ⟨_, (((t389.toList != ([] : List UInt8)) != t403)), (by first | rfl | (generalize t389.toList = q_; cases q_ <;> rfl) | (simp; done) | (simp [*]; done)), H', ⟨by first | omega | exact Nat.le_refl _⟩, ⟨by (with_reducible repeat (first | apply r1 | apply r2 | apply r3)); exact Kd.R_mono HO394.out (fun _ hk => hk.1.2)⟩, ⟨rk BK388⟩, ⟨by repeat (first | (with_reducible first | exact HB.out | apply b1 | apply b2 | apply b3 | refine below_set ?_ GE388.out) | exact HB.out)⟩⟩
      )
  case rest =>
   clear HC9
   try clear c1
   try clear p2
   try clear c4
   try clear c18
   try clear c19
   try clear c19b0
   try clear c19b1
   try clear c44
   try clear c45
   obtain ⟨kq, x60_8, rfl, HA, HJ8, HO_6, BK388, HB⟩ := hcut
   cases kq with
   | zero => exact absurd HA.out (by simp [laws_FnPressed.j0])
   | succ kj8 =>
    have H := HA.out
    clear HA
    simp only [laws_FnPressed.j0] at H
    refine em_ (p := x60_8 = true) (fun c49 => ?g4p) (fun c49 => ?g4n)
    case g4p =>
     subst c49
     have H1 : (some false) = some r := by rw [if_pos rfl] at H; exact H
     clear H
     have H := H1
     clear H1
     exact absurd (Option.some.inj (H.trans (congrArg some hT_))) Bool.false_ne_true
    case' g4n =>
     replace c49 := Bool.eq_false_iff.mpr c49
     subst c49
     rw [if_neg (show ¬ (false = true) by decide)] at H
     have H' := am H
     clear H
     have lf8_ := trivial
    all_goals
     go_wp2
     go_loopg [10, 11] kj8 (fun kq v10 v11 w' => ∃ (x10_2 : ByteArray) (x11_2 : Int), v10 = .string x10_2 ∧ v11 = .int .i64 x11_2 ∧ Aside0 (laws_FnPressed.l0 kq t389 t390 t391 t392 x10_2 x11_2 t385 t386 t387 = some r) ∧ Aside0 (kq ≤ kj8) ∧ Aside0 (Kd.R k50 50 w' w.heap.size (fun k_ => k_ ≠ gb388) v393 t391) ∧ Aside0 (w'.heap[gb388]? = some (.cells #[.int .i64 t385, .int .i64 t386, .bool t387] 50 (0, 0))) ∧ Aside0 (Below w.heap.size w w'))
     case atStart => exact ⟨((⟨#[]⟩ : ByteArray)), (0), (by first | rfl | (simp; done) | (simp [*]; done)), (by first | rfl | (simp; done) | (simp [*]; done)), H', ⟨Nat.le_refl _⟩, ⟨rr HO_6⟩, ⟨rk BK388⟩, ⟨by repeat (first | (with_reducible first | exact HB.out | apply b1 | apply b2 | apply b3 | refine below_set ?_ GE388.out) | exact HB.out)⟩⟩
     case round =>
      clear H'
      try clear c1
      try clear p2
      try clear c4
      try clear c18
      try clear c19
      try clear c19b0
      try clear c19b1
      try clear c44
      try clear c45
      try clear c49
      try clear p2
      obtain ⟨x10_2, x11_2, rfl, rfl, HA, HK2, HO_6, BK388, HB⟩ := hrel
      cases gk with
      | zero => exact absurd HA.out (by simp [laws_FnPressed.l0])
      | succ k2 =>
       have H := HA.out
       clear HA
       simp only [laws_FnPressed.l0] at H
       refine em_ (p := x11_2 < (t391.length : Int)) (fun c50 => ?g8p) (fun c50 => ?g8n)
       case' g8p =>
        rw [if_pos c50] at H
        have c50b0 : decide (x11_2 < (t391.length : Int)) = true := decide_eq_true c50
        clear c50
        refine em_ (p := 0 ≤ x11_2) (fun c51 => ?g7p) (fun c51 => ?g7n)
        case' g7p =>
         rw [if_pos c51] at H
         have c51b0 : decide (0 ≤ x11_2) = true := decide_eq_true c51
         clear c51
         replace H := Option.bind_eq_some_iff.mp H
         obtain ⟨t405, A520, H⟩ := H
         (try dsimp only at H)
         have A52 := am A520
         clear A520
         refine em_ (p := t405 = true) (fun c53 => ?g6p) (fun c53 => ?g6n)
         case' g6p =>
          subst c53
          rw [if_pos rfl] at H
          replace H := Option.bind_eq_some_iff.mp H
          obtain ⟨t407, A540, H⟩ := H
          (try dsimp only at H)
          have A54 := am A540
          clear A540
          refine em_ (p := x10_2.size + t407.size ≤ 9223372036854775807) (fun c55 => ?g5p) (fun c55 => ?g5n)
          case' g5p =>
           rw [if_pos c55] at H
           have c55b0 := eq_true c55
           have c55b1 : decide (x10_2.size + t407.size ≤ 9223372036854775807) = true := decide_eq_true c55
           try have c55b2 : (9223372036854775807 < x10_2.size + t407.size) = False := eq_false (Nat.not_lt.2 c55)
           have H' := am H
           clear H
           obtain ⟨Ao56, co56, eo56⟩ := Kd.R_slice HO_6.out
           subst eo56
           have lf9_ := trivial
          case g5n =>
           rw [if_neg c55] at H
           exact absurd H (by simp)
         case g6n =>
          replace c53 := Bool.eq_false_iff.mpr c53
          subst c53
          have H1 : (some false) = some r := by rw [if_neg (show ¬ (false = true) by decide)] at H; exact H
          clear H
          have H := H1
          clear H1
          exact absurd (Option.some.inj (H.trans (congrArg some hT_))) Bool.false_ne_true
        case g7n =>
         rw [if_neg c51] at H
         exact absurd H (by simp)
       case g8n =>
        rw [if_neg c50] at H
        have c50b0 : decide (x11_2 < (t391.length : Int)) = false := decide_eq_false c50
        clear c50
        by_cases c61 : x10_2.size + t392.size ≤ 9223372036854775807
        ·rw [if_pos c61] at H
         have c61b0 := eq_true c61
         have c61b1 : decide (x10_2.size + t392.size ≤ 9223372036854775807) = true := decide_eq_true c61
         try have c61b2 : (9223372036854775807 < x10_2.size + t392.size) = False := eq_false (Nat.not_lt.2 c61)
         by_cases c62 : (x10_2 ++ t392).toList = t390.toList
         ·rw [if_pos c62] at H
          have c62b0 : ((x10_2 ++ t392).toList == t390.toList) = true := beq_iff_eq.mpr c62
          have c62b1 : ((x10_2 ++ t392).toList != t390.toList) = false := bne_eq_false_iff_eq.mpr c62
          clear c62
          by_cases c63 : t389.toList = ([] : List UInt8)
          ·rw [if_pos c63] at H
           have c63b0 : (t389.toList == ([] : List UInt8)) = true := beq_iff_eq.mpr c63
           have c63b1 : (t389.toList != ([] : List UInt8)) = false := bne_eq_false_iff_eq.mpr c63
           clear c63
           first
           | with_reducible exact absurd (Option.some.inj (H.trans (congrArg some hT_))) Bool.false_ne_true
           | (
             obtain rfl := Option.some.inj H
             obtain ⟨Ao64, co64, eo64⟩ := Kd.R_slice HO_6.out
             subst eo64
             go_wp2
             go_ret
             exact ⟨by first | rfl | (simp [errW_none, errW_some] <;> rfl) | (simp [*, errW_none, errW_some] <;> rfl), by repeat (first | (with_reducible first | exact HB.out | apply b1 | apply b2 | apply b3 | refine below_set ?_ GE388.out) | exact HB.out)⟩)
          ·rw [if_neg c63] at H
           have c63b0 : (t389.toList == ([] : List UInt8)) = false := beq_eq_false_iff_ne.mpr c63
           have c63b1 : (t389.toList != ([] : List UInt8)) = true := bne_iff_ne.mpr c63
           by_cases c65 : t389.size + t389.size ≤ 9223372036854775807
           ·rw [if_pos c65] at H
            have c65b0 := eq_true c65
            have c65b1 : decide (t389.size + t389.size ≤ 9223372036854775807) = true := decide_eq_true c65
            try have c65b2 : (9223372036854775807 < t389.size + t389.size) = False := eq_false (Nat.not_lt.2 c65)
            by_cases c66 : (t389 ++ t389).size + x10_2.size ≤ 9223372036854775807
            ·rw [if_pos c66] at H
             have c66b0 := eq_true c66
             have c66b1 : decide ((t389 ++ t389).size + x10_2.size ≤ 9223372036854775807) = true := decide_eq_true c66
             try have c66b2 : (9223372036854775807 < (t389 ++ t389).size + x10_2.size) = False := eq_false (Nat.not_lt.2 c66)
             replace H := Option.bind_eq_some_iff.mp H
             obtain ⟨⟨t408, t409⟩, A670, H⟩ := H
             (try dsimp only at H)
             have A67 := am A670
             clear A670
             by_cases c68 : t409.toList = ([] : List UInt8)
             ·rw [if_pos c68] at H
              have c68b0 : (t409.toList == ([] : List UInt8)) = true := beq_iff_eq.mpr c68
              have c68b1 : (t409.toList != ([] : List UInt8)) = false := bne_eq_false_iff_eq.mpr c68
              clear c68
              by_cases c69 : (t408.length : Int) = (wrap64 ((t391.length : Int) + 2))
              ·rw [if_pos c69] at H
               have c69b0 : ((t408.length : Int) == (wrap64 ((t391.length : Int) + 2))) = true := beq_iff_eq.mpr c69
               have c69b1 : ((t408.length : Int) != (wrap64 ((t391.length : Int) + 2))) = false := bne_eq_false_iff_eq.mpr c69
               clear c69
               by_cases c70 : 0 < (t408.length : Int)
               ·rw [if_pos c70] at H
                have c70b0 : decide (0 < (t408.length : Int)) = true := decide_eq_true c70
                have c70b1 : decide (0 < t408.length) = true := decide_eq_true (by omega)
                clear c70
                by_cases c71 : (((rd_T50 t408 0).f0) == t385 && (((rd_T50 t408 0).f1) == t386 && (((rd_T50 t408 0).f2) == t387))) = true
                ·rw [if_pos c71] at H
                 have c71b0 : (((rd_T50 t408 0).f0) == t385 && (((rd_T50 t408 0).f1) == t386 && (((rd_T50 t408 0).f2) == t387))) = true := c71
                 (try (have c71b1 : decide (((rd_T50 t408 0).f0) = t385 && (((rd_T50 t408 0).f1) == t386 && (((rd_T50 t408 0).f2) == t387))) = true := by simpa using c71))
                 (try (have c71b2 : (((rd_T50 t408 0).f0) == t385 && (((rd_T50 t408 0).f1) == t386 && (((rd_T50 t408 0).f2) == t387))) = true := by simpa using c71))
                 clear c71
                 by_cases c72 : 1 < (t408.length : Int)
                 ·rw [if_pos c72] at H
                  have c72b0 : decide (1 < (t408.length : Int)) = true := decide_eq_true c72
                  have c72b1 : decide (1 < t408.length) = true := decide_eq_true (by omega)
                  clear c72
                  by_cases c73 : (((rd_T50 t408 1).f0) == t385 && (((rd_T50 t408 1).f1) == t386 && (((rd_T50 t408 1).f2) == t387))) = true
                  ·rw [if_pos c73] at H
                   have c73b0 : (((rd_T50 t408 1).f0) == t385 && (((rd_T50 t408 1).f1) == t386 && (((rd_T50 t408 1).f2) == t387))) = true := c73
                   (try (have c73b1 : decide (((rd_T50 t408 1).f0) = t385 && (((rd_T50 t408 1).f1) == t386 && (((rd_T50 t408 1).f2) == t387))) = true := by simpa using c73))
                   (try (have c73b2 : (((rd_T50 t408 1).f0) == t385 && (((rd_T50 t408 1).f1) == t386 && (((rd_T50 t408 1).f2) == t387))) = true := by simpa using c73))
                   clear c73
                   by_cases c74 : 2 ≤ (t408.length : Int)
                   ·rw [if_pos c74] at H
                    have c74b0 := eq_true c74
                    have c74b1 : decide (2 ≤ (t408.length : Int)) = true := decide_eq_true c74
                    clear c74
                    obtain ⟨y414, hy414⟩ : ∃ y_ : List (S50), y_ = (t408.drop 2) := ⟨_, rfl⟩
                    replace H : ((laws_likeKeys.f k2 y414 t391).bind fun t418 => (some t418)) = some r := by first | (rw [hy414]; with_reducible exact H) | (rw [hy414]; exact H) | exact H
                    have Ny414 := am hy414
                    clear hy414
                    replace H := Option.bind_eq_some_iff.mp H
                    obtain ⟨t418, A750, H⟩ := H
                    replace H : (some t418) = some r := H
                    have A75 := am A750
                    clear A750
                    first
                    | with_reducible exact absurd (Option.some.inj (H.trans (congrArg some hT_))) Bool.false_ne_true
                    | (
                      obtain rfl := Option.some.inj H
                      obtain ⟨Ao76, co76, eo76⟩ := Kd.R_slice HO_6.out
                      subst eo76
                      try go_wp2_with (first | ((with_reducible refine gate_callee (f := 42) rfl ?_); refine gl_ (some 93) Tryd.func42 #[.string ((t389 ++ t389) ++ x10_2)] ?_; (with_reducible refine (impl_Pressed.calls k2 ((t389 ++ t389) ++ x10_2) t408 t409 _ A67.out ?sideT).mono ?_); (case sideT => exact TB.below HT.out (rb1 HB GE388)); rintro e w77 ⟨v410, rfl, ho0, hb⟩; refine ⟨_, rfl, ?_⟩; have n0_ := am (Kd.R_elder' (rr HO_6) (Kd.R_base ho0) hb); have n1_ := am (Kd.R_lower (Kd.R_newB (Kd.R_new' ho0 (Kd.R_lt (rr HO_6))) (g := gb388) (o := .cells #[.int .i64 t385, .int .i64 t386, .bool t387] 50 (0, 0)) (rk BK388)) (below_size (rb1 HB GE388))); have n2_ := am (blk_below (g := gb388) (o := .cells #[.int .i64 t385, .int .i64 t386, .bool t387] 50 (0, 0)) (rk BK388) hb); have n3_ := am (below_step (rb1 HB GE388) hb); clear HO_6; clear BK388; clear HB; have HO_6 := n0_; have HO411 := n1_; have BK388 := n2_; have HB := n3_; clear n0_ n1_ n2_ n3_; (try clear hb); (try clear hb2); (try clear hk); (try clear hi); (try clear ho0)))
                      have n0_ := am (Kd.R_drew HO_6.out)
                      have n1_ := am (Kd.R_drew HO411.out)
                      have n2_ := am (blk_drew BK388.out)
                      have n3_ := am (below_drew1 HB.out)
                      clear HO_6
                      clear HO411
                      clear BK388
                      clear HB
                      have HO_6 := n0_
                      have HO411 := n1_
                      have BK388 := n2_
                      have HB := n3_
                      clear n0_ n1_ n2_ n3_
                      obtain ⟨Ao79, co79, eo79⟩ := Kd.R_slice HO411.out
                      (first | subst eo79 | (injection eo79 with f1_ f2_ f3_; have f4_ := f1_.symm; have f5_ := f3_.symm; clear f1_ f2_ f3_; subst f4_; subst f5_))
                      have p412 : 0 ≤ (0 : Int) := (by omega)
                      have q412 : 0 < (t408.length : Int) := dt_
                      obtain ⟨ad412, e412, hx412_0, hx412_1, hx412_2⟩ := at_T50 (Kd.R_reads' HO411.out).2.2 0 p412 q412
                      cases e412
                      have qi412 : (0 < t408.length) = True := eq_true (by omega)
                      (try rw [show ((0 : Int)).toNat = 0 from rfl] at hx412_0)
                      (try rw [show 0 * 3 = 0 from rfl] at hx412_0)
                      (try rw [Addr.add_zero'] at hx412_0)
                      (try rw [show ((0 : Int)).toNat = 0 from rfl] at hx412_1)
                      (try rw [show 0 * 3 = 0 from rfl] at hx412_1)
                      (try rw [Addr.add_zero'] at hx412_1)
                      (try rw [show ((0 : Int)).toNat = 0 from rfl] at hx412_2)
                      (try rw [show 0 * 3 = 0 from rfl] at hx412_2)
                      (try rw [Addr.add_zero'] at hx412_2)
                      replace p412 := eq_true p412
                      replace q412 := eq_true q412
                      have p413 : 0 ≤ (1 : Int) := (by omega)
                      have q413 : 1 < (t408.length : Int) := dt_
                      obtain ⟨ad413, e413, hx413_0, hx413_1, hx413_2⟩ := at_T50 (Kd.R_reads' HO411.out).2.2 1 p413 q413
                      obtain rfl : ad412 = ad413 := (by injection e413)
                      (try simp only [show (1 : Int).toNat = 1 from rfl, Nat.reduceMul, Nat.reduceEqDiff, Go.Addr.add, ↓reduceIte] at hx413_0)
                      (try simp only [show (1 : Int).toNat = 1 from rfl, Nat.reduceMul, Nat.reduceEqDiff, Go.Addr.add, ↓reduceIte] at hx413_1)
                      (try simp only [show (1 : Int).toNat = 1 from rfl, Nat.reduceMul, Nat.reduceEqDiff, Go.Addr.add, ↓reduceIte] at hx413_2)
                      have qi413 : (1 < t408.length) = True := eq_true (by omega)
                      (try rw [show ((1 : Int)).toNat = 1 from rfl] at hx413_0)
                      (try rw [show 1 * 3 = 3 from rfl] at hx413_0)
                      (try rw [show ((1 : Int)).toNat = 1 from rfl] at hx413_1)
                      (try rw [show 1 * 3 = 3 from rfl] at hx413_1)
                      (try rw [show ((1 : Int)).toNat = 1 from rfl] at hx413_2)
                      (try rw [show 1 * 3 = 3 from rfl] at hx413_2)
                      replace p413 := eq_true p413
                      replace q413 := eq_true q413
                      have q80 : (2 : Int) ≤ ((t408.length : Int) : Int) := dt_
                      obtain ⟨i080, hi080, _, hsz80, _⟩ := info_parts info50
                      have hroom80 : t408.length ≤ co79 := (Kd.R_reads' HO411.out).2.1
                      have hC80 : Kd.C k50 _ (some ad412) t408.length t408 := (Kd.R_reads' HO411.out).2.2
                      have hcut80 := cut_from (P := Tryd.prog) 53 50 .i64 Tryd.underlying53 hi080 3 hsz80 (some ad412) t408.length co79 2 (by omega) q80
                      have hr80 := Kd.C_drop (m := (2 : Int).toNat) (c := co79) hC80 (by omega) hroom80
                      obtain ⟨A80, hA80⟩ : ∃ A1, A1 = (if co79 = (2 : Int).toNat then (some ad412) else ((some ad412) : Option Addr).map (·.add ((2 : Int).toNat * 3))) := ⟨_, rfl⟩
                      obtain ⟨c80, hc80⟩ : ∃ c1, c1 = co79 - (2 : Int).toNat := ⟨_, rfl⟩
                      have hy80 : y414.length = t408.length - (2 : Int).toNat := (by rw [Ny414.out, List.length_drop] <;> omega)
                      rw [show (t408).drop (2 : Int).toNat = y414 from Ny414.out.symm] at hr80
                      replace hr80 : Kd.C k50 _ A80 y414.length y414 := (by rw [hA80]; exact hr80)
                      rw [← hy80, ← hA80, ← hc80] at hcut80
                      have HR417 := am hr80
                      have HC417 := am (show y414.length ≤ c80 from by rw [hy80, hc80]; exact Nat.sub_le_sub_right hroom80 _)
                      clear hr80 hC80 hroom80 hi080 hsz80 hc80
                      have KY80 := am hy80
                      have KA80 := am hA80
                      clear hy80 hA80
                      have KL80 := am (show 2 ≤ t408.length from by omega)
                      replace q80 := eq_true q80
                      refine start_ (n := 31) (S := fun w' => w'.cell? ⟨gb388, 0, none⟩ = some (.int .i64 t385) ∧ w'.cell? ⟨gb388, 1, none⟩ = some (.int .i64 t386) ∧ w'.cell? ⟨gb388, 2, none⟩ = some (.bool t387) ∧ w'.cell? ad412 = some (.int .i64 ((rd_T50 t408 0).f0)) ∧ w'.cell? ⟨ad412.block, ad412.off + 1, none⟩ = some (.int .i64 ((rd_T50 t408 0).f1)) ∧ w'.cell? ⟨ad412.block, ad412.off + 2, none⟩ = some (.bool ((rd_T50 t408 0).f2)) ∧ w'.cell? ⟨ad412.block, ad412.off + 3, none⟩ = some (.int .i64 ((rd_T50 t408 1).f0)) ∧ w'.cell? ⟨ad412.block, ad412.off + 3 + 1, none⟩ = some (.int .i64 ((rd_T50 t408 1).f1)) ∧ w'.cell? ⟨ad412.block, ad412.off + 3 + 2, none⟩ = some (.bool ((rd_T50 t408 1).f2))) (ds := []) (bm 31 0) (by kernel_rfl) rfl rfl ⟨(blk_cell BK388.out 0).trans rfl, (blk_cell BK388.out 1).trans rfl, (blk_cell BK388.out 2).trans rfl, hx412_0, hx412_1, hx412_2, hx413_0, hx413_1, hx413_2⟩ (fun hHeld => ?_); refine with_tabW laws_FnPressed.tab22 laws_FnPressed.bits22 (fun HT_ HW_ => ?_)
                      generalize w77.drew = w78 at HO_6 HO411 BK388 HB HR417 hx412_0 hx412_1 hx412_2 hx413_0 hx413_1 hx413_2 hHeld ⊢
                      refine pu_ 0 96 (bm 31 1) HT_.out ?_
                      refine pu_ 1 97 (bm 31 3) HT_.out ?_
                      refine pu_ 2 98 (bm 31 7) HT_.out ?_
                      refine pu_ 3 99 (bm 31 15) HT_.out ?_
                      refine pu_ 4 100 (bm 31 31) HT_.out ?_
                      refine pu_ 5 101 (bm 31 63) HT_.out ?_
                      refine pu_ 6 102 (bm 31 127) HT_.out ?_
                      refine pu_ 7 103 (bm 31 255) HT_.out ?_
                      refine pu_ 8 104 (bm 31 511) HT_.out ?_
                      refine pu_ 9 105 (bm 31 1023) HT_.out ?_
                      refine pu_ 10 106 (bm 31 2047) HT_.out ?_
                      refine pu_ 11 107 (bm 31 4095) HT_.out ?_
                      refine pu_ 12 108 (bm 31 8191) HT_.out ?_
                      refine take_ (i := 13) (N := some 109) (v := ?_) (a' := ?_) (bm 31 16383) rfl rfl (take_ofW HT_.out HW_.out (by kernel_rfl)) (fun _ _ _ h => h) (Or.inl ⟨by rfl, ?_⟩) hHeld ?_ ?_
                      rotate_left
                      ·rintro w' ⟨s0, s1, s2, s3, s4, s5, s6, s7, s8⟩
                       go_simp
                       with_reducible rfl
                      rotate_left
                      ·simp only [Act.put, List.setIfInBounds_toArray, List.set_cons_zero, List.set_cons_succ, i64_w, i32_w]
                       rfl
                      refine take_ (i := 14) (N := some 110) (v := ?_) (a' := ?_) (bm 31 32767) rfl rfl (take_ofW HT_.out HW_.out (by kernel_rfl)) (fun _ _ _ h => h) (Or.inl ⟨by rfl, ?_⟩) hHeld ?_ ?_
                      rotate_left
                      ·rintro w' ⟨s0, s1, s2, s3, s4, s5, s6, s7, s8⟩
                       go_simp
                       with_reducible rfl
                      rotate_left
                      ·simp only [Act.put, List.setIfInBounds_toArray, List.set_cons_zero, List.set_cons_succ, i64_w, i32_w]
                       rfl
                      refine pu_ 15 111 (bm 31 65535) HT_.out ?_
                      refine pu_ 16 112 (bm 31 131071) HT_.out ?_
                      refine pu_ 17 113 (bm 31 262143) HT_.out ?_
                      refine pu_ 18 114 (bm 31 524287) HT_.out ?_
                      refine pu_ 19 115 (bm 31 1048575) HT_.out ?_
                      refine take_ (i := 20) (N := some 116) (v := ?_) (a' := ?_) (bm 31 2097151) rfl rfl (take_ofW HT_.out HW_.out (by kernel_rfl)) (fun _ _ _ h => h) (Or.inl ⟨by rfl, ?_⟩) hHeld ?_ ?_
                      rotate_left
                      ·rintro w' ⟨s0, s1, s2, s3, s4, s5, s6, s7, s8⟩
                       go_simp
                       with_reducible rfl
                      rotate_left
                      ·simp only [Act.put, List.setIfInBounds_toArray, List.set_cons_zero, List.set_cons_succ, i64_w, i32_w]
                       rfl
                      refine take_ (i := 21) (N := some 117) (v := ?_) (a' := ?_) (bm 31 4194303) rfl rfl (take_ofW HT_.out HW_.out (by kernel_rfl)) (fun _ _ _ h => h) (Or.inl ⟨by rfl, ?_⟩) hHeld ?_ ?_
                      rotate_left
                      ·rintro w' ⟨s0, s1, s2, s3, s4, s5, s6, s7, s8⟩
                       go_simp
                       with_reducible rfl
                      rotate_left
                      ·simp only [Act.put, List.setIfInBounds_toArray, List.set_cons_zero, List.set_cons_succ, i64_w, i32_w]
                       rfl
                      refine pu_ 22 118 (bm 31 8388607) HT_.out ?_
                      refine pu_ 23 119 (bm 31 16777215) HT_.out ?_
                      refine pu_ 24 120 (bm 31 33554431) HT_.out ?_
                      refine pu_ 25 121 (bm 31 67108863) HT_.out ?_
                      refine pu_ 26 122 (bm 31 134217727) HT_.out ?_
                      refine pu_ 27 123 (bm 31 268435455) HT_.out ?_
                      refine one_ (i := 28) (N := some 124) (bm 31 536870911) rfl rfl (one_of HT_.out (by kernel_rfl)) (by decide) (fun K hK => ?_)
                      refine goes_ Tryd.func44 (by kernel_rfl) rfl #[.slice A80 y414.length c80, .slice Ao76 t391.length co76] (by rfl) rfl rfl (by (try simp only [List.map_toArray, List.map_cons, List.map_nil]); first | done | rfl | (simp only [List.length_drop, List.length_take]; rfl)) ?_
                      with_reducible refine (laws_likeKeys.calls k2 _ _ y414 _ _ t391 t418 _ ?side1 ?side2 ?side3 ?side4 A75.out).mono ?_
                      (case side1 => repeat (first | exact (by repeat (first | (with_reducible exact HR417.out) | (with_reducible refine Kd.C_alloc ?_ _) | (with_reducible refine Kd.C_drewN ?_ _) | (with_reducible refine Kd.C_drew ?_) | exact HR417.out)) | (with_reducible refine Kd.C_alloc ?_ _) | (with_reducible refine Kd.C_drewN ?_ _) | (with_reducible refine Kd.C_drew ?_)))
                      (case side2 => exact HC417.out)
                      (case side3 => repeat (first | exact (Kd.R_reads' HO_6.out).2.2 | (with_reducible refine Kd.C_alloc ?_ _) | (with_reducible refine Kd.C_drewN ?_ _) | (with_reducible refine Kd.C_drew ?_)))
                      (case side4 => exact (Kd.R_reads' HO_6.out).2.1)
                      rintro e w' ⟨rfl, ⟨nd, rfl⟩⟩
                      refine ⟨_, rfl, ?_⟩
                      refine hK.out _ _ ⟨(blk_cell BK388.out 0).trans rfl, (blk_cell BK388.out 1).trans rfl, (blk_cell BK388.out 2).trans rfl, hHeld.2.2.2.1, hHeld.2.2.2.2.1, hHeld.2.2.2.2.2.1, hHeld.2.2.2.2.2.2.1, hHeld.2.2.2.2.2.2.2.1, hHeld.2.2.2.2.2.2.2.2⟩ (fun hHeld => ?_)
                      clear hK K
                      refine norm_ (a' := ?_) ?_ ?_
                      rotate_left
                      ·show Act.put _ (some 124) _ = _
                       simp only [Act.put, List.setIfInBounds_toArray, List.set_cons_zero, List.set_cons_succ, i64_w, i32_w]
                       rfl
                      refine pu_ 29 125 (bm 31 1073741823) HT_.out ?_
                      refine pu_ 30 2 (bm 31 2147483647) HT_.out ?_
                      refine done_ (done_of HT_.out (by kernel_rfl)) ?_
                      try go_wp2
                      go_ret
                      exact ⟨by first | rfl | (simp [errW_none, errW_some] <;> rfl) | (simp [*, errW_none, errW_some] <;> rfl), by repeat (first | (with_reducible first | exact HB.out | apply b1 | apply b2 | apply b3 | refine below_set ?_ GE388.out) | exact HB.out)⟩)
                   ·rw [if_neg c74] at H
                    exact absurd H (by simp)
                  ·rw [if_neg c73] at H
                   have c73b0 : (((rd_T50 t408 1).f0) == t385 && (((rd_T50 t408 1).f1) == t386 && (((rd_T50 t408 1).f2) == t387))) = false := by simpa using c73
                   (try (have c73b1 : decide (((rd_T50 t408 1).f0) = t385 && (((rd_T50 t408 1).f1) == t386 && (((rd_T50 t408 1).f2) == t387))) = false := by simpa using c73))
                   (try (have c73b2 : (((rd_T50 t408 1).f0) == t385 && (((rd_T50 t408 1).f1) == t386 && (((rd_T50 t408 1).f2) == t387))) = false := by simpa using c73))
                   (try (have c73b3 : ¬ (((rd_T50 t408 1).f0) = t385 && (((rd_T50 t408 1).f1) == t386 && (((rd_T50 t408 1).f2) == t387))) := by simpa using c73))
                   clear c73
                   exact absurd (Option.some.inj (H.trans (congrArg some hT_))) Bool.false_ne_true
                 ·rw [if_neg c72] at H
                  exact absurd H (by simp)
                ·rw [if_neg c71] at H
                 have c71b0 : (((rd_T50 t408 0).f0) == t385 && (((rd_T50 t408 0).f1) == t386 && (((rd_T50 t408 0).f2) == t387))) = false := by simpa using c71
                 (try (have c71b1 : decide (((rd_T50 t408 0).f0) = t385 && (((rd_T50 t408 0).f1) == t386 && (((rd_T50 t408 0).f2) == t387))) = false := by simpa using c71))
                 (try (have c71b2 : (((rd_T50 t408 0).f0) == t385 && (((rd_T50 t408 0).f1) == t386 && (((rd_T50 t408 0).f2) == t387))) = false := by simpa using c71))
                 (try (have c71b3 : ¬ (((rd_T50 t408 0).f0) = t385 && (((rd_T50 t408 0).f1) == t386 && (((rd_T50 t408 0).f2) == t387))) := by simpa using c71))
                 clear c71
                 exact absurd (Option.some.inj (H.trans (congrArg some hT_))) Bool.false_ne_true
               ·rw [if_neg c70] at H
                exact absurd H (by simp)
              ·rw [if_neg c69] at H
               have c69b0 : ((t408.length : Int) == (wrap64 ((t391.length : Int) + 2))) = false := beq_eq_false_iff_ne.mpr c69
               have c69b1 : ((t408.length : Int) != (wrap64 ((t391.length : Int) + 2))) = true := bne_iff_ne.mpr c69
               exact absurd (Option.some.inj (H.trans (congrArg some hT_))) Bool.false_ne_true
             ·rw [if_neg c68] at H
              have c68b0 : (t409.toList == ([] : List UInt8)) = false := beq_eq_false_iff_ne.mpr c68
              have c68b1 : (t409.toList != ([] : List UInt8)) = true := bne_iff_ne.mpr c68
              exact absurd (Option.some.inj (H.trans (congrArg some hT_))) Bool.false_ne_true
            ·rw [if_neg c66] at H
             exact absurd H (by simp)
           ·rw [if_neg c65] at H
            exact absurd H (by simp)
         ·rw [if_neg c62] at H
          have c62b0 : ((x10_2 ++ t392).toList == t390.toList) = false := beq_eq_false_iff_ne.mpr c62
          have c62b1 : ((x10_2 ++ t392).toList != t390.toList) = true := bne_iff_ne.mpr c62
          first
          | with_reducible exact absurd (Option.some.inj (H.trans (congrArg some hT_))) Bool.false_ne_true
          | (
            obtain rfl := Option.some.inj H
            obtain ⟨Ao96, co96, eo96⟩ := Kd.R_slice HO_6.out
            subst eo96
            go_wp2
            go_ret
            exact ⟨by first | rfl | (simp [errW_none, errW_some] <;> rfl) | (simp [*, errW_none, errW_some] <;> rfl), by repeat (first | (with_reducible first | exact HB.out | apply b1 | apply b2 | apply b3 | refine below_set ?_ GE388.out) | exact HB.out)⟩)
        ·rw [if_neg c61] at H
         exact absurd H (by simp)
       all_goals
        have p404 : 0 ≤ (x11_2 : Int) := dt_
        have q404 : x11_2 < (t391.length : Int) := dt_
        obtain ⟨ad404, e404, hx404_0, hx404_1, hx404_2⟩ := at_T50 (Kd.R_reads' HO_6.out).2.2 x11_2 p404 q404
        cases e404
        replace p404 := eq_true p404
        replace q404 := eq_true q404
        go_wp2_with (first | ((with_reducible refine gate_callee (f := 46) rfl ?_); refine gl_ (some 71) Tryd.func46 #[.agg #[.int .i64 ((rd_T50 t391 x11_2).f0), .int .i64 ((rd_T50 t391 x11_2).f1), .bool ((rd_T50 t391 x11_2).f2)]] ?_; (with_reducible refine (impl_KeyOk.calls ((rd_T50 t391 x11_2).f0) ((rd_T50 t391 x11_2).f1) ((rd_T50 t391 x11_2).f2) true _ A52.out).mono ?_); rintro e w57 ⟨rfl, hb⟩; refine ⟨_, rfl, ?_⟩; have n0_ := am (Kd.R_below (rr HO_6) hb); have n1_ := am (blk_below (g := gb388) (o := .cells #[.int .i64 t385, .int .i64 t386, .bool t387] 50 (0, 0)) (rk BK388) hb); have n2_ := am (below_step (rb1 HB GE388) hb); clear HO_6; clear BK388; clear HB; have HO_6 := n0_; have BK388 := n1_; have HB := n2_; clear n0_ n1_ n2_; (try clear hb); (try clear hb2); (try clear hk); (try clear hi); have p406 : 0 ≤ (x11_2 : Int) := dt_; have q406 : x11_2 < (t391.length : Int) := dt_; obtain ⟨ad406, e406, hx406_0, hx406_1, hx406_2⟩ := at_T50 (Kd.R_reads' HO_6.out).2.2 x11_2 p406 q406; obtain rfl : ad404 = ad406 := (by injection e406); replace p406 := eq_true p406; replace q406 := eq_true q406) | ((with_reducible refine gate_callee (f := 40) rfl ?_); refine gl_ (some 78) Tryd.func40 #[.agg #[.int .i64 ((rd_T50 t391 x11_2).f0), .int .i64 ((rd_T50 t391 x11_2).f1), .bool ((rd_T50 t391 x11_2).f2)]] ?_; (with_reducible refine (impl_Sent.calls k2 ((rd_T50 t391 x11_2).f0) ((rd_T50 t391 x11_2).f1) ((rd_T50 t391 x11_2).f2) t407 _ A54.out).mono ?_); rintro e w58 ⟨rfl, hb⟩; refine ⟨_, rfl, ?_⟩; have n0_ := am (Kd.R_below (rr HO_6) hb); have n1_ := am (blk_below (g := gb388) (o := .cells #[.int .i64 t385, .int .i64 t386, .bool t387] 50 (0, 0)) (rk BK388) hb); have n2_ := am (below_step (rb1 HB GE388) hb); clear HO_6; clear BK388; clear HB; have HO_6 := n0_; have BK388 := n1_; have HB := n2_; clear n0_ n1_ n2_; (try clear hb); (try clear hb2); (try clear hk); (try clear hi)))
        go_roundg k2
        case measure => have := HJ8.out; have := HK2.out; omega
        case rel => exact ⟨(x10_2 ++ t407), (wrap64 (x11_2 + 1)), (by first | rfl | (simp; done) | (simp [*]; done)), (by first | rfl | (simp; done) | (simp [*]; done)), H', ⟨by have := HJ8.out; have := HK2.out; omega⟩, ⟨rr HO_6⟩, ⟨rk BK388⟩, ⟨by repeat (first | (with_reducible first | exact HB.out | apply b1 | apply b2 | apply b3 | refine below_set ?_ GE388.out) | exact HB.out)⟩⟩

/-- THE ONE PURE STATEMENT of laws_FnPressed: yours. -/
def laws_FnPressed.Pure : Prop := ∀ (l0 : List Int), l0.length ≤ maxLen → l0.length * 1 ≤ 140737488351232 → (∀ x ∈ l0, (Lit.int .u8 x).wf = true) → ∃ k, laws_FnPressed.f k l0 = some true

end Go.Proofs.YtfhkpneffmcdbaaDoor.QC
