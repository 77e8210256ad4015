/- Contracts of Go functions that laws of this seat reach: each Lean function answers as its Go function does. No condition. Written by wip/tools/inj.py, over the kit's print. -/
import Derived.Test.YtfhkpneffmcdbaaDoorQBx0
import Derived.Test.YtfhkpneffmcdbaaDoorQBx1
import Derived.Test.YtfhkpneffmcdbaaDoorQBx2
import Derived.Test.YtfhkpneffmcdbaaDoorQBx8
import Derived.Test.YtfhkpneffmcdbaaDoorQBx11
import Derived.Test.YtfhkpneffmcdbaaDoorQBx13
import Derived.Test.YtfhkpneffmcdbaaDoorQBx14
import Derived.Test.YtfhkpneffmcdbaaDoorQBx16
import Derived.Test.YtfhkpneffmcdbaaDoorQBx18
import Derived.Test.YtfhkpneffmcdbaaDoorQBx19
namespace Go.Proofs.YtfhkpneffmcdbaaDoor.QB
open Go.RowKit Go.Proofs.YtfhkpneffmcdbaaDoorW.PrintWords Go.Proofs.YtfhkpneffmcdbaaDoorW.PrintLast Go.Proofs.YtfhkpneffmcdbaaDoorW.PrintMore
attribute [local go_sem] max2_int min2_int max_two min_two max_three min_three max_four min_four   -- for this text's walks alone
set_option linter.unusedVariables false
set_option linter.unusedSimpArgs false

attribute [local go_sem high] eqA38
/-! ### laws_FnFed: function 4 -/
mutual
def laws_FnFed.j0 : Nat → List Int → List Int → Bool → ByteArray → ByteArray → Option (Bool)
 | 0, _, _, _, _, _ => none
 | k + 1, x0, x6, x49, x487000, x492000 => if x49 = true then (some false) else ((spec_FeederOk.f k x487000).bind fun t500 => (if t500 = true then ((spec_DrawRunes.f k x0).bind fun t501 => (laws_FnFed.l0 k t501 (([] : List Int)) 0 x492000 (⟨#[]⟩ : ByteArray))) else (if (x492000.toList == ([] : List UInt8)) = true then (some ((x6.length : Int) == 0)) else (some false))))
def laws_FnFed.l0 : Nat → ByteArray → List Int → Int → ByteArray → ByteArray → Option (Bool)
 | 0, _, _, _, _, _ => none
 | k + 1, x9, x11, x12, x492000, x503000 => if x12 < (x9.size : Int) then (if 0 ≤ x12 then ((impl_Feed.f k x503000 (bt x9 x12)).bind fun bt506 => (if x11.length + bt506.2.length < 17592186044416 then (laws_FnFed.l0 k x9 (x11 ++ bt506.2) (wrap64 (x12 + 1)) x492000 bt506.1) else (none))) else (none)) else ((impl_FeederOk.f x492000).bind fun t514 => (if t514 = true then ((impl_FeederOk.f x503000).bind fun t515 => (if t515 = true then ((spec_Runes.f k x503000).bind fun t516 => (if x11.length + t516.length < 17592186044416 then ((spec_Runes.f k x9).bind fun t522 => ((laws_likeInts.f k (x11 ++ t516) t522).bind fun t525 => (some t525))) else (none))) else (some false))) else (some false)))
end
def laws_FnFed.f (k : Nat) (l0 : List Int) : Option (Bool) := (laws_big.f l0).bind fun t483 => (if t483 = true then (some true) else ((spec_DrawFeed.f k l0).bind fun bt484 => ((impl_Feed.f k bt484.1 bt484.2).bind fun bt487 => ((spec_Feed.f k bt484.1 bt484.2).bind fun bt492 => (if (!(bt487.1.toList == bt492.1.toList)) = true then (laws_FnFed.j0 k l0 bt487.2 true bt484.1 bt487.1) else ((laws_likeInts.f k bt487.2 bt492.2).bind fun t497 => (if t497 = true then ((impl_FeederOk.f bt484.1).bind fun t498 => ((spec_FeederOk.f k bt484.1).bind fun t499 => (laws_FnFed.j0 k l0 bt487.2 (t498 != t499) bt484.1 bt487.1))) else (laws_FnFed.j0 k l0 bt487.2 true bt484.1 bt487.1))))))))
theorem laws_FnFed.mono_l : ∀ k, (∀ y0 y1 y2 y3 y4, LeO (laws_FnFed.j0 k y0 y1 y2 y3 y4) (laws_FnFed.j0 (k + 1) y0 y1 y2 y3 y4)) ∧ (∀ y0 y1 y2 y3 y4, LeO (laws_FnFed.l0 k y0 y1 y2 y3 y4) (laws_FnFed.l0 (k + 1) y0 y1 y2 y3 y4))
 | 0 => ⟨fun _ _ _ _ _ r h => by simp [laws_FnFed.j0] at h, fun _ _ _ _ _ r h => by simp [laws_FnFed.l0] at h⟩
 | k + 1 => by
  obtain ⟨ih0, ih1⟩ := laws_FnFed.mono_l k
  refine ⟨?_, ?_⟩
  ·intro y0 y1 y2 y3 y4
   unfold laws_FnFed.j0
   repeat' first
   | (with_reducible exact ih0 _ _ _ _ _)
   | (with_reducible exact ih1 _ _ _ _ _)
   | (with_reducible exact impl_Feed.mono _ _ _)
   | (with_reducible exact laws_likeInts.mono _ _ _)
   | (with_reducible exact spec_DrawFeed.mono _ _)
   | (with_reducible exact spec_DrawRunes.mono _ _)
   | (with_reducible exact spec_Feed.mono _ _ _)
   | (with_reducible exact spec_FeederOk.mono _ _)
   | (with_reducible exact spec_Runes.mono _ _)
   | (with_reducible exact LeO.refl _)
   | (with_reducible exact LeO.none _)
   | (with_reducible refine LeO.ite ?_ ?_)
   | (with_reducible refine LeO.bind ?_ (fun _ => ?_))
  ·intro y0 y1 y2 y3 y4
   unfold laws_FnFed.l0
   repeat' first
   | (with_reducible exact ih0 _ _ _ _ _)
   | (with_reducible exact ih1 _ _ _ _ _)
   | (with_reducible exact impl_Feed.mono _ _ _)
   | (with_reducible exact laws_likeInts.mono _ _ _)
   | (with_reducible exact spec_DrawFeed.mono _ _)
   | (with_reducible exact spec_DrawRunes.mono _ _)
   | (with_reducible exact spec_Feed.mono _ _ _)
   | (with_reducible exact spec_FeederOk.mono _ _)
   | (with_reducible exact spec_Runes.mono _ _)
   | (with_reducible exact LeO.refl _)
   | (with_reducible exact LeO.none _)
   | (with_reducible refine LeO.ite ?_ ?_)
   | (with_reducible refine LeO.bind ?_ (fun _ => ?_))
theorem laws_FnFed.mono : ∀ a0 k, LeO (laws_FnFed.f k a0) (laws_FnFed.f (k + 1) a0) := by
 intro a0 k
 obtain ⟨ih0, ih1⟩ := laws_FnFed.mono_l k
 unfold laws_FnFed.f
 repeat' first
   | (with_reducible exact ih0 _ _ _ _ _)
   | (with_reducible exact ih1 _ _ _ _ _)
   | (with_reducible exact impl_Feed.mono _ _ _)
   | (with_reducible exact laws_likeInts.mono _ _ _)
   | (with_reducible exact spec_DrawFeed.mono _ _)
   | (with_reducible exact spec_DrawRunes.mono _ _)
   | (with_reducible exact spec_Feed.mono _ _ _)
   | (with_reducible exact spec_FeederOk.mono _ _)
   | (with_reducible exact spec_Runes.mono _ _)
   | (with_reducible exact LeO.refl _)
   | (with_reducible exact LeO.none _)
   | (with_reducible refine LeO.ite ?_ ?_)
   | (with_reducible refine LeO.bind ?_ (fun _ => ?_))
def laws_FnFed.T6 : Bool × List (List Nat × List Nat) := (true, [([], []), ([], []), ([0, 1], [0, 1]), ([2], [2]), ([3], [3]), ([3], [3]), ([4, 5, 3, 3], [3, 4, 5]), ([6, 3], [3, 6]), ([3, 7], [3, 7]), ([8, 6], [8]), ([9], [9]), ([10, 9, 9], [9, 10]), ([9], [9]), ([12, 11, 9], [9, 12]), ([11, 13, 9], [9, 11, 13]), ([9, 14], [9, 14])])
def laws_FnFed.B6 : List Nat := [0, 0, 3, 7, 15, 15, 63, 127, 255, 511, 1023, 2047, 1023, 8191, 16383, 32767]
theorem laws_FnFed.tab6 : rtab .any (opsOf Tryd.f4 6) = laws_FnFed.T6 := by kernel_rfl
theorem laws_FnFed.bits6 : waitsOk laws_FnFed.T6.2 laws_FnFed.B6 = true := by kernel_rfl
def laws_FnFed.T16 : Bool × List (List Nat × List Nat) := (true, [([], []), ([], []), ([], []), ([1, 2], [1, 2]), ([0, 3], [0, 3]), ([4], [4]), ([5], [5]), ([5], [5]), ([], []), ([8, 6, 4, 0, 1, 2, 3, 4, 5, 6, 8], [6, 8]), ([7, 9, 0, 1, 2, 3, 4, 5, 6, 7, 8, 9], [7])])
def laws_FnFed.B16 : List Nat := [0, 0, 0, 6, 15, 31, 63, 63, 0, 383, 1023]
theorem laws_FnFed.tab16 : rtab .any (opsOf Tryd.f4 16) = laws_FnFed.T16 := by kernel_rfl
theorem laws_FnFed.bits16 : waitsOk laws_FnFed.T16.2 laws_FnFed.B16 = true := by kernel_rfl
set_option maxHeartbeats 8000000 in
set_option maxRecDepth 100000 in
theorem laws_FnFed.calls (k : Nat) (A0 : Option Addr) (c0 : Nat) (l0 : List Int) (r : Bool) (w : World) (hr0 : Kd.C (Kd.int .u8) w A0 l0.length l0) (hc0 : l0.length ≤ c0) (h : laws_FnFed.f k l0 = some r) (hT_ : r = true) (hT : TB w) :
  Calls Tryd.prog 4 #[.slice A0 l0.length c0] w fun e w' => e = .returned (.bool r) ∧ Below w.heap.size w w' := by
 have HT := am hT
 clear hT
 have hu38 := Tryd.underlying38
 have HR0 := am hr0
 have HC0 := am hc0
 clear hr0 hc0
 have HB := am (Below.refl w.heap.size w)
 have H := h
 unfold laws_FnFed.f at H
 clear h
 replace H := Option.bind_eq_some_iff.mp H
 obtain ⟨t483, A20, H⟩ := H
 (try dsimp only at H)
 have A2 := am A20
 clear A20
 by_cases c3 : t483 = true
 ·subst c3
  have H1 : (some true) = some r := by rw [if_pos rfl] at H; exact H
  clear H
  have H := H1
  clear H1
  obtain rfl := Option.some.inj H
  go_enter Tryd.func4, Tryd.ntmps4
  go_wp2_with (first | ((with_reducible refine gate_callee (f := 7) rfl ?_); refine gl_ (some 16) Tryd.func7 #[.slice A0 l0.length c0] ?_; (with_reducible refine (laws_big.calls _ _ l0 true _ ?side1 ?side2 A2.out).mono ?_); (case side1 => exact rc (HR0.out)); (case side2 => exact HC0.out); rintro e w' ⟨rfl, ⟨nd, rfl⟩⟩; refine ⟨_, rfl, ?_⟩))
  go_ret
  exact ⟨by first | rfl | (simp [errW_none, errW_some] <;> rfl) | (simp [*, errW_none, errW_some] <;> rfl), by repeat (first | (with_reducible first | exact HB.out | apply b1 | apply b2 | apply b3) | exact HB.out)⟩
 ·replace c3 := Bool.eq_false_iff.mpr c3
  subst c3
  rw [if_neg (show ¬ (false = true) by decide)] at H
  replace H := Option.bind_eq_some_iff.mp H
  obtain ⟨⟨t484, t485⟩, A40, H⟩ := H
  (try dsimp only at H)
  have A4 := am A40
  clear A40
  replace H := Option.bind_eq_some_iff.mp H
  obtain ⟨⟨t487, t488⟩, A50, H⟩ := H
  (try dsimp only at H)
  have A5 := am A50
  clear A50
  replace H := Option.bind_eq_some_iff.mp H
  obtain ⟨⟨t492, t493⟩, A60, H⟩ := H
  (try dsimp only at H)
  have A6 := am A60
  clear A60
  have HC7 := am H
  clear H
  go_enter Tryd.func4, Tryd.ntmps4
  go_upto_region 6 with (first | ((with_reducible refine gate_callee (f := 7) rfl ?_); refine gl_ (some 16) Tryd.func7 #[.slice A0 l0.length c0] ?_; (with_reducible refine (laws_big.calls _ _ l0 false _ ?side1 ?side2 A2.out).mono ?_); (case side1 => exact rc (HR0.out)); (case side2 => exact HC0.out); rintro e w' ⟨rfl, ⟨nd, rfl⟩⟩; refine ⟨_, rfl, ?_⟩) | ((with_reducible refine gate_callee (f := 25) rfl ?_); refine gl_ (some 19) Tryd.func25 #[.slice A0 l0.length c0] ?_; (with_reducible refine (spec_DrawFeed.calls k _ _ l0 t484 t485 _ ?side1 ?side2 A4.out).mono ?_); (case side1 => exact rc (HR0.out)); (case side2 => exact HC0.out); rintro e w8 ⟨rfl, hb⟩; refine ⟨_, rfl, ?_⟩; have n0_ := am (below_step (rb HB) hb); clear HB; have HB := n0_; clear n0_; (try clear hb); (try clear hb2); (try clear hk); (try clear hi)) | ((with_reducible refine gate_dst (N := 3) rfl ?_); (try (refine gate_guard (by rfl) ?_; dsimp only)); refine box_event ?hg (N := 3) ?hd (cs := #[.string (⟨#[]⟩ : ByteArray)]) (t := 38) ?hr ?_; (case hd => rfl); (case hg => rfl); (case hr => first | (go_simp; done) | (go_simp; rfl)); intro gb486 hg w9 hbox hb; have n0_ := am (below_step (rb HB) hb); have n1_ := am (hbox); have n2_ := am ((by rw [hg]; exact (below_size (rb HB)) : w.heap.size ≤ gb486)); have n3_ := am ((by rw [hg]; exact (below_size (rb HB)) : w.heap.size ≤ gb486)); clear HB; have HB := n0_; have BK486 := n1_; have GW486 := n2_; have GE486 := n3_; clear n0_ n1_ n2_ n3_; clear hb hbox hg; have hcz10_0 : w9.cell? ⟨gb486, 0, none⟩ = some (.string (⟨#[]⟩ : ByteArray)) := (blk_cell BK486.out 0).trans rfl; have hfz10_0 := blk_frozen BK486.out 0) | ((with_reducible refine gate_callee (f := 26) rfl ?_); refine gl_ (some 25) Tryd.func26 #[.agg #[.string t484], .int .u8 t485] ?_; (with_reducible refine (impl_Feed.calls k t484 t485 t487 t488 _ A5.out ?sideT).mono ?_); (case sideT => exact TB.below HT.out (rb1 HB GE486)); rintro e w11 ⟨v489, rfl, ho0, hb⟩; refine ⟨_, rfl, ?_⟩; have n0_ := am (Kd.R_lower ho0 (below_size (rb1 HB GE486))); have n1_ := am (blk_below (g := gb486) (o := .cells #[.string t484] 38 (0, 0)) (by (with_reducible repeat (first | apply k1 | apply k2 | apply k3)); refine blk_put (cs := #[.string (⟨#[]⟩ : ByteArray)]) ?_ 0 _ rfl; (with_reducible repeat (first | apply k1 | apply k2 | apply k3)); exact BK486.out) hb); have n2_ := am (below_step (rb1 HB GE486) hb); clear BK486; clear HB; have HO490 := n0_; have BK486 := n1_; have HB := n2_; clear n0_ n1_ n2_; (try clear hb); (try clear hb2); (try clear hk); (try clear hi); (try clear ho0)) | ((with_reducible refine gate_dst (N := 5) rfl ?_); (try (refine gate_guard (by rfl) ?_; dsimp only)); refine box_event ?hg (N := 5) ?hd (cs := #[.string (⟨#[]⟩ : ByteArray)]) (t := 38) ?hr ?_; (case hd => rfl); (case hg => rfl); (case hr => first | (go_simp; done) | (go_simp; rfl)); intro gb491 hg w12 hbox hb; have n0_ := am (Kd.R_below (rr HO490) hb); have n1_ := am (blk_below (g := gb486) (o := .cells #[.string t484] 38 (0, 0)) (rk BK486) hb); have n2_ := am (below_step (rb1 HB GE486) hb); have n3_ := am (hbox); have n4_ := am ((by rw [hg]; exact (below_size (rb1 HB GE486)) : w.heap.size ≤ gb491)); have n5_ := am ((by rw [hg]; exact (below_size (rb1 HB GE486)) : w.heap.size ≤ gb491)); have n6_ := am ((by rw [hg]; exact Nat.ne_of_lt (blk_lt (g := gb486) (o := .cells #[.string t484] 38 (0, 0)) (rk BK486)) : gb486 ≠ gb491)); have n7_ := am ((by rw [hg]; exact Nat.ne_of_gt (blk_lt (g := gb486) (o := .cells #[.string t484] 38 (0, 0)) (rk BK486)) : gb491 ≠ gb486)); clear HO490; clear BK486; clear HB; have HO490 := n0_; have BK486 := n1_; have HB := n2_; have BK491 := n3_; have GW491 := n4_; have GE491 := n5_; have NB486_491 := n6_; have NB491_486 := n7_; clear n0_ n1_ n2_ n3_ n4_ n5_ n6_ n7_; clear hb hbox hg; have hnb13 := NB491_486.out; have hnc13 := NB486_491.out; have hcz14_0 : w12.cell? ⟨gb491, 0, none⟩ = some (.string (⟨#[]⟩ : ByteArray)) := (blk_cell BK491.out 0).trans rfl; have hfz14_0 := blk_frozen BK491.out 0; have hcz15_0 : w12.cell? ⟨gb486, 0, none⟩ = some (.string t484) := (blk_cell BK486.out 0).trans rfl; have hfz15_0 := blk_frozen BK486.out 0) | ((with_reducible refine gate_callee (f := 27) rfl ?_); refine gl_ (some 31) Tryd.func27 #[.agg #[.string t484], .int .u8 t485] ?_; (with_reducible refine (spec_Feed.calls k t484 t485 t492 t493 _ A6.out).mono ?_); rintro e w16 ⟨v494, rfl, ho0, hb⟩; refine ⟨_, rfl, ?_⟩; have n0_ := am (Kd.R_elder' (by (with_reducible repeat (first | apply r1 | apply r2 | apply r3)); exact (Kd.R_mono (Kd.R_far (p := ⟨gb491, 0, none⟩) (Kd.R_types HO490.out BK491.out (by decide)) (fun _ hk => hk.2) (.string t487)) (fun _ h_ => h_.1))) (Kd.R_base ho0) hb); have n1_ := am (Kd.R_lower (Kd.R_new' ho0 (Kd.R_lt (by (with_reducible repeat (first | apply r1 | apply r2 | apply r3)); exact (Kd.R_mono (Kd.R_far (p := ⟨gb491, 0, none⟩) (Kd.R_types HO490.out BK491.out (by decide)) (fun _ hk => hk.2) (.string t487)) (fun _ h_ => h_.1))))) (below_size (rb2 HB GE486 GE491))); have n2_ := am (blk_below (g := gb486) (o := .cells #[.string t484] 38 (0, 0)) (by (with_reducible repeat (first | apply k1 | apply k2 | apply k3)); refine blk_far ?_ NB486_491.out _; (with_reducible repeat (first | apply k1 | apply k2 | apply k3)); exact BK486.out) hb); have n3_ := am (blk_below (g := gb491) (o := .cells #[.string t487] 38 (0, 0)) (by (with_reducible repeat (first | apply k1 | apply k2 | apply k3)); refine blk_put (cs := #[.string (⟨#[]⟩ : ByteArray)]) ?_ 0 _ rfl; (with_reducible repeat (first | apply k1 | apply k2 | apply k3)); exact BK491.out) hb); have n4_ := am (below_step (rb2 HB GE486 GE491) hb); clear HO490; clear BK486; clear BK491; clear HB; have HO490 := n0_; have HO495 := n1_; have BK486 := n2_; have BK491 := n3_; have HB := n4_; clear n0_ n1_ n2_ n3_ n4_; (try clear hb); (try clear hb2); (try clear hk); (try clear hi); (try clear ho0)) | ((with_reducible refine gate_dst (N := 7) rfl ?_); (try (refine gate_guard (by rfl) ?_; dsimp only)); refine box_event ?hg (N := 7) ?hd (cs := #[.string (⟨#[]⟩ : ByteArray)]) (t := 38) ?hr ?_; (case hd => rfl); (case hg => rfl); (case hr => first | (go_simp; done) | (go_simp; rfl)); intro gb496 hg w17 hbox hb; have n0_ := am (Kd.R_below (rr HO490) hb); have n1_ := am (Kd.R_below (rr HO495) hb); have n2_ := am (blk_below (g := gb486) (o := .cells #[.string t484] 38 (0, 0)) (rk BK486) hb); have n3_ := am (blk_below (g := gb491) (o := .cells #[.string t487] 38 (0, 0)) (rk BK491) hb); have n4_ := am (below_step (rb2 HB GE486 GE491) hb); have n5_ := am (hbox); have n6_ := am ((by rw [hg]; exact (below_size (rb2 HB GE486 GE491)) : w.heap.size ≤ gb496)); have n7_ := am ((by rw [hg]; exact (below_size (rb2 HB GE486 GE491)) : w.heap.size ≤ gb496)); have n8_ := am ((by rw [hg]; exact Nat.ne_of_lt (blk_lt (g := gb486) (o := .cells #[.string t484] 38 (0, 0)) (rk BK486)) : gb486 ≠ gb496)); have n9_ := am ((by rw [hg]; exact Nat.ne_of_gt (blk_lt (g := gb486) (o := .cells #[.string t484] 38 (0, 0)) (rk BK486)) : gb496 ≠ gb486)); have n10_ := am ((by rw [hg]; exact Nat.ne_of_lt (blk_lt (g := gb491) (o := .cells #[.string t487] 38 (0, 0)) (rk BK491)) : gb491 ≠ gb496)); have n11_ := am ((by rw [hg]; exact Nat.ne_of_gt (blk_lt (g := gb491) (o := .cells #[.string t487] 38 (0, 0)) (rk BK491)) : gb496 ≠ gb491)); clear HO490; clear HO495; clear BK486; clear BK491; clear HB; have HO490 := n0_; have HO495 := n1_; have BK486 := n2_; have BK491 := n3_; have HB := n4_; have BK496 := n5_; have GW496 := n6_; have GE496 := n7_; have NB486_496 := n8_; have NB496_486 := n9_; have NB491_496 := n10_; have NB496_491 := n11_; clear n0_ n1_ n2_ n3_ n4_ n5_ n6_ n7_ n8_ n9_ n10_ n11_; clear hb hbox hg; have hnb18 := NB496_486.out; have hnc18 := NB486_496.out; have hnb19 := NB496_491.out; have hnc19 := NB491_496.out; have hcz20_0 : w17.cell? ⟨gb496, 0, none⟩ = some (.string (⟨#[]⟩ : ByteArray)) := (blk_cell BK496.out 0).trans rfl; have hfz20_0 := blk_frozen BK496.out 0))
  (try simp only [Act.put, List.setIfInBounds_toArray, List.set_cons_zero, List.set_cons_succ])
  go_cut [49] (fun v49 wc => ∃ (kq : Nat) (x49_6 : Bool), v49 = .bool x49_6 ∧ Aside0 (laws_FnFed.j0 kq l0 t488 x49_6 t484 t487 = some r) ∧ Aside0 (kq ≤ k) ∧ Aside0 (Kd.R (Kd.int .i64) 2 wc w.heap.size (fun _ => True) v489 t488) ∧ Aside0 (wc.heap[gb486]? = some (.cells #[.string t484] 38 (0, 0))) ∧ Aside0 (wc.heap[gb491]? = some (.cells #[.string t487] 38 (0, 0))) ∧ Aside0 (wc.heap[gb496]? = some (.cells #[.string t492] 38 (0, 0))) ∧ Aside0 (Below w.heap.size w wc))
  case first =>
   have H := HC7.out
   clear HC7
   refine em_ (p := (!(t487.toList == t492.toList)) = true) (fun c21 => ?g1p) (fun c21 => ?g1n)
   case' g1p =>
    rw [if_pos c21] at H
    have c21b0 : (!(t487.toList == t492.toList)) = true := c21
    clear c21
    (first | rw [c21b0] | (simp only [i64_w, i32_w]; rw [c21b0]) | skip)
    have H' := am H
    clear H
    have lf3_ := trivial
   case' g1n =>
    rw [if_neg c21] at H
    have c21b0 : (!(t487.toList == t492.toList)) = false := by simpa using c21
    clear c21
    (first | rw [c21b0] | (simp only [i64_w, i32_w]; rw [c21b0]) | skip)
    replace H := Option.bind_eq_some_iff.mp H
    obtain ⟨t497, A240, H⟩ := H
    (try dsimp only at H)
    have A24 := am A240
    clear A240
    refine em_ (p := t497 = true) (fun c25 => ?g0p) (fun c25 => ?g0n)
    case' g0p =>
     subst c25
     rw [if_pos rfl] at H
     replace H := Option.bind_eq_some_iff.mp H
     obtain ⟨t498, A260, H⟩ := H
     (try dsimp only at H)
     have A26 := am A260
     clear A260
     replace H := Option.bind_eq_some_iff.mp H
     obtain ⟨t499, A270, H⟩ := H
     (try dsimp only at H)
     have A27 := am A270
     clear A270
     have H' := am H
     clear H
     have lf4_ := trivial
    case' g0n =>
     replace c25 := Bool.eq_false_iff.mpr c25
     subst c25
     rw [if_neg (show ¬ (false = true) by decide)] at H
     have H' := am H
     clear H
     have lf5_ := trivial
   all_goals
    try go_wp2
    have n0_ : Aside0 (Kd.R (Kd.int .i64) 2 (w17.setCell ⟨gb496, 0, none⟩ (.string t492)) w.heap.size (fun k_ => some k_ ≠ (v494 : Value).ownBlock) v489 t488) := ⟨by (with_reducible repeat (first | apply r1 | apply r2 | apply r3)); exact Kd.R_mono (Kd.R_far (p := ⟨gb496, 0, none⟩) (Kd.R_types HO490.out BK496.out (by decide)) (fun _ hk => hk.2) (.string t492)) (fun _ hk => hk.1.2)⟩
    have n1_ : Aside0 (Kd.R (Kd.int .i64) 2 (w17.setCell ⟨gb496, 0, none⟩ (.string t492)) w.heap.size (fun k_ => some k_ ≠ (v489 : Value).ownBlock) v494 t493) := ⟨by (with_reducible repeat (first | apply r1 | apply r2 | apply r3)); exact Kd.R_mono (Kd.R_far (p := ⟨gb496, 0, none⟩) (Kd.R_types HO495.out BK496.out (by decide)) (fun _ hk => hk.2) (.string t492)) (fun _ hk => hk.1.2)⟩
    have n2_ : Aside0 ((w17.setCell ⟨gb496, 0, none⟩ (.string t492)).heap[gb486]? = some (.cells #[.string t484] 38 (0, 0))) := ⟨by (with_reducible repeat (first | apply k1 | apply k2 | apply k3)); refine blk_far ?_ NB486_496.out _; (with_reducible repeat (first | apply k1 | apply k2 | apply k3)); exact BK486.out⟩
    have n3_ : Aside0 ((w17.setCell ⟨gb496, 0, none⟩ (.string t492)).heap[gb491]? = some (.cells #[.string t487] 38 (0, 0))) := ⟨by (with_reducible repeat (first | apply k1 | apply k2 | apply k3)); refine blk_far ?_ NB491_496.out _; (with_reducible repeat (first | apply k1 | apply k2 | apply k3)); exact BK491.out⟩
    have n4_ : Aside0 ((w17.setCell ⟨gb496, 0, none⟩ (.string t492)).heap[gb496]? = some (.cells #[.string t492] 38 (0, 0))) := ⟨by (with_reducible repeat (first | apply k1 | apply k2 | apply k3)); refine blk_put (cs := #[.string (⟨#[]⟩ : ByteArray)]) ?_ 0 _ rfl; (with_reducible repeat (first | apply k1 | apply k2 | apply k3)); exact BK496.out⟩
    have n5_ : Aside0 (Below w.heap.size w (w17.setCell ⟨gb496, 0, none⟩ (.string t492))) := ⟨rb3 HB GE486 GE491 GE496⟩
    (try clear HO490)
    (try clear HO495)
    (try clear BK486)
    (try clear BK491)
    (try clear BK496)
    (try clear HB)
    generalize (w17.setCell ⟨gb496, 0, none⟩ (.string t492)) = w22 at n0_ n1_ n2_ n3_ n4_ n5_ ⊢
    have HO490 := n0_
    have HO495 := n1_
    have BK486 := n2_
    have BK491 := n3_
    have BK496 := n4_
    have HB := n5_
    clear n0_ n1_ n2_ n3_ n4_ n5_
    have n0_ := am (Kd.R_drew HO490.out)
    have n1_ := am (Kd.R_drew HO495.out)
    have n2_ := am (blk_drew BK486.out)
    have n3_ := am (blk_drew BK491.out)
    have n4_ := am (blk_drew BK496.out)
    have n5_ := am (below_drew1 HB.out)
    clear HO490
    clear HO495
    clear BK486
    clear BK491
    clear BK496
    clear HB
    have HO490 := n0_
    have HO495 := n1_
    have BK486 := n2_
    have BK491 := n3_
    have BK496 := n4_
    have HB := n5_
    clear n0_ n1_ n2_ n3_ n4_ n5_
    first
    | (
      obtain ⟨Ao30, co30, eo30⟩ := Kd.R_slice HO490.out
      (first | subst eo30 | (injection eo30 with f1_ f2_ f3_; have f4_ := f1_.symm; have f5_ := f3_.symm; clear f1_ f2_ f3_; subst f4_; subst f5_))
      obtain ⟨Ao31, co31, eo31⟩ := Kd.R_slice HO495.out
      (first | subst eo31 | (injection eo31 with f1_ f2_ f3_; have f4_ := f1_.symm; have f5_ := f3_.symm; clear f1_ f2_ f3_; subst f4_; subst f5_))
      )
    | skip
    first
    | refine start_ (n := 16) (S := fun w' => w'.cell? ⟨gb491, 0, none⟩ = some (.string t487) ∧ w'.cell? ⟨gb496, 0, none⟩ = some (.string t492) ∧ w'.cell? ⟨gb486, 0, none⟩ = some (.string t484)) (ds := []) (bm 16 0) (by kernel_rfl) rfl rfl ⟨(blk_cell BK491.out 0).trans rfl, (blk_cell BK496.out 0).trans rfl, (blk_cell BK486.out 0).trans rfl⟩ (fun hHeld => ?_); refine with_tabW laws_FnFed.tab6 laws_FnFed.bits6 (fun HT_ HW_ => ?_)
    | refine start_ (n := 16) (S := fun w' => w'.cell? ⟨gb491, 0, none⟩ = some (.string t487) ∧ w'.cell? ⟨gb496, 0, none⟩ = some (.string t492)) (ds := []) (bm 16 0) (by kernel_rfl) rfl rfl ⟨(blk_cell BK491.out 0).trans rfl, (blk_cell BK496.out 0).trans rfl⟩ (fun hHeld => ?_); refine with_tabW laws_FnFed.tab6 laws_FnFed.bits6 (fun HT_ HW_ => ?_)
    generalize w22.drew = w23 at HO490 HO495 BK486 BK491 BK496 HB hHeld ⊢
    refine take_ (i := 0) (N := some 34) (v := ?_) (a' := ?_) (bm 16 1) rfl rfl (take_ofW HT_.out HW_.out (by kernel_rfl)) (fun _ _ _ h => h) (Or.inl ⟨by rfl, ?_⟩) hHeld ?_ ?_
    rotate_left
    first
    | (
      ·rintro w' ⟨s0, s1, s2⟩
       go_simp
       with_reducible rfl
      )
    | (
      ·rintro w' ⟨s0, s1⟩
       go_simp
       with_reducible rfl
      )
    rotate_left
    ·simp only [Act.put, List.setIfInBounds_toArray, List.set_cons_zero, List.set_cons_succ, i64_w, i32_w]
     rfl
    refine take_ (i := 1) (N := some 35) (v := ?_) (a' := ?_) (bm 16 3) rfl rfl (take_ofW HT_.out HW_.out (by kernel_rfl)) (fun _ _ _ h => h) (Or.inl ⟨by rfl, ?_⟩) hHeld ?_ ?_
    rotate_left
    first
    | (
      ·rintro w' ⟨s0, s1, s2⟩
       go_simp
       with_reducible rfl
      )
    | (
      ·rintro w' ⟨s0, s1⟩
       go_simp
       with_reducible rfl
      )
    rotate_left
    ·simp only [Act.put, List.setIfInBounds_toArray, List.set_cons_zero, List.set_cons_succ, i64_w, i32_w]
     rfl
    refine pu_ 2 36 (bm 16 7) HT_.out ?_
    refine pu_ 3 37 (bm 16 15) HT_.out ?_
    first | refine un_ 4 38 (bm 16 31) HT_.out ?_ | refine pu_ 4 38 (bm 16 31) HT_.out ?_
    first | refine un_ 5 39 (bm 16 63) HT_.out ?_ | refine pu_ 5 39 (bm 16 63) HT_.out ?_
    first
    | (
      refine one_ (i := 6) (N := some 40) (bm 16 127) rfl rfl (one_of HT_.out (by kernel_rfl)) (by decide) (fun K hK => ?_)
      refine goes_ Tryd.func19 (by kernel_rfl) rfl #[.slice Ao30 t488.length co30, .slice Ao31 t493.length co31] (by rfl) rfl rfl (by (try simp only [List.map_toArray, List.map_cons, List.map_nil]); first | done | rfl | (simp only [List.length_drop, List.length_take]; rfl)) ?_
      first | with_reducible refine (laws_likeInts.calls k _ _ t488 _ _ t493 false _ ?side1 ?side2 ?side3 ?side4 A24.out).mono ?_ | with_reducible refine (laws_likeInts.calls k _ _ t488 _ _ t493 true _ ?side1 ?side2 ?side3 ?side4 A24.out).mono ?_
      (case side1 => repeat (first | exact (Kd.R_reads' HO490.out).2.2 | (with_reducible refine Kd.C_alloc ?_ _) | (with_reducible refine Kd.C_drewN ?_ _) | (with_reducible refine Kd.C_drew ?_)))
      (case side2 => exact (Kd.R_reads' HO490.out).2.1)
      (case side3 => repeat (first | exact (Kd.R_reads' HO495.out).2.2 | (with_reducible refine Kd.C_alloc ?_ _) | (with_reducible refine Kd.C_drewN ?_ _) | (with_reducible refine Kd.C_drew ?_)))
      (case side4 => exact (Kd.R_reads' HO495.out).2.1)
      rintro e w' ⟨rfl, ⟨nd, rfl⟩⟩
      refine ⟨_, rfl, ?_⟩
      first | refine hK.out _ _ ⟨(blk_cell BK491.out 0).trans rfl, (blk_cell BK496.out 0).trans rfl, (blk_cell BK486.out 0).trans rfl⟩ (fun hHeld => ?_) | refine hK.out _ _ ⟨(blk_cell BK491.out 0).trans rfl, (blk_cell BK496.out 0).trans rfl⟩ (fun hHeld => ?_)
      clear hK K
      refine norm_ (a' := ?_) ?_ ?_
      rotate_left
      ·show Act.put _ (some 40) _ = _
       simp only [Act.put, List.setIfInBounds_toArray, List.set_cons_zero, List.set_cons_succ, i64_w, i32_w]
       rfl
      )
    | refine un_ 6 40 (bm 16 127) HT_.out ?_
    first | refine un_ 7 41 (bm 16 255) HT_.out ?_ | refine pu_ 7 41 (bm 16 255) HT_.out ?_
    refine pu_ 8 42 (bm 16 511) HT_.out ?_
    refine pu_ 9 43 (bm 16 1023) HT_.out ?_
    first
    | (
      have q_ := lf4_
      refine take_ (i := 10) (N := some 44) (v := ?_) (a' := ?_) (bm 16 2047) rfl rfl (take_ofW HT_.out HW_.out (by kernel_rfl)) (fun _ _ _ h => h) (Or.inl ⟨by rfl, ?_⟩) hHeld ?_ ?_
      rotate_left
      ·rintro w' ⟨s0, s1, s2⟩
       go_simp
       with_reducible rfl
      rotate_left
      ·simp only [Act.put, List.setIfInBounds_toArray, List.set_cons_zero, List.set_cons_succ, i64_w, i32_w]
       rfl
      refine take_ (i := 12) (N := some 46) (v := ?_) (a' := ?_) (bm 16 6143) rfl rfl (take_ofW HT_.out HW_.out (by kernel_rfl)) (fun _ _ _ h => h) (Or.inl ⟨by rfl, ?_⟩) hHeld ?_ ?_
      rotate_left
      ·rintro w' ⟨s0, s1, s2⟩
       go_simp
       with_reducible rfl
      rotate_left
      ·simp only [Act.put, List.setIfInBounds_toArray, List.set_cons_zero, List.set_cons_succ, i64_w, i32_w]
       rfl
      refine one_ (i := 11) (N := some 45) (bm 16 8191) rfl rfl (one_of HT_.out (by kernel_rfl)) (by decide) (fun K hK => ?_)
      refine goes_ Tryd.func28 (by kernel_rfl) rfl #[.agg #[.string t484]] (by rfl) rfl rfl (by (try simp only [List.map_toArray, List.map_cons, List.map_nil]); first | done | rfl | (simp only [List.length_drop, List.length_take]; rfl)) ?_
      with_reducible refine (impl_FeederOk.calls t484 t498 _ A26.out ?sideT).mono ?_
      case sideT => exact TB.below HT.out (rb3 HB GE486 GE491 GE496)
      rintro e w32 ⟨rfl, hb⟩
      refine ⟨_, rfl, ?_⟩
      have n0_ := am (Kd.R_below (rr HO490) hb)
      have n1_ := am (Kd.R_below (rr HO495) hb)
      have n2_ := am (blk_below (g := gb486) (o := .cells #[.string t484] 38 (0, 0)) (rk BK486) hb)
      have n3_ := am (blk_below (g := gb491) (o := .cells #[.string t487] 38 (0, 0)) (rk BK491) hb)
      have n4_ := am (blk_below (g := gb496) (o := .cells #[.string t492] 38 (0, 0)) (rk BK496) hb)
      have n5_ := am (below_step (rb3 HB GE486 GE491 GE496) hb)
      clear HO490
      clear HO495
      clear BK486
      clear BK491
      clear BK496
      clear HB
      have HO490 := n0_
      have HO495 := n1_
      have BK486 := n2_
      have BK491 := n3_
      have BK496 := n4_
      have HB := n5_
      clear n0_ n1_ n2_ n3_ n4_ n5_
      (try clear hb)
      (try clear hb2)
      (try clear hk)
      (try clear hi)
      refine hK.out _ _ ⟨(blk_cell BK491.out 0).trans rfl, (blk_cell BK496.out 0).trans rfl, (blk_cell BK486.out 0).trans rfl⟩ (fun hHeld => ?_)
      clear hK K
      refine norm_ (a' := ?_) ?_ ?_
      rotate_left
      ·show Act.put _ (some 45) _ = _
       simp only [Act.put, List.setIfInBounds_toArray, List.set_cons_zero, List.set_cons_succ, i64_w, i32_w]
       rfl
      refine one_ (i := 13) (N := some 47) (bm 16 16383) rfl rfl (one_of HT_.out (by kernel_rfl)) (by decide) (fun K hK => ?_)
      refine goes_ Tryd.func29 (by kernel_rfl) rfl #[.agg #[.string t484]] (by rfl) rfl rfl (by (try simp only [List.map_toArray, List.map_cons, List.map_nil]); first | done | rfl | (simp only [List.length_drop, List.length_take]; rfl)) ?_
      with_reducible refine (spec_FeederOk.calls k t484 t499 _ A27.out).mono ?_
      rintro e w33 ⟨rfl, hb⟩
      refine ⟨_, rfl, ?_⟩
      have n0_ := am (Kd.R_below (rr HO490) hb)
      have n1_ := am (Kd.R_below (rr HO495) hb)
      have n2_ := am (blk_below (g := gb486) (o := .cells #[.string t484] 38 (0, 0)) (rk BK486) hb)
      have n3_ := am (blk_below (g := gb491) (o := .cells #[.string t487] 38 (0, 0)) (rk BK491) hb)
      have n4_ := am (blk_below (g := gb496) (o := .cells #[.string t492] 38 (0, 0)) (rk BK496) hb)
      have n5_ := am (below_step (rb3 HB GE486 GE491 GE496) hb)
      clear HO490
      clear HO495
      clear BK486
      clear BK491
      clear BK496
      clear HB
      have HO490 := n0_
      have HO495 := n1_
      have BK486 := n2_
      have BK491 := n3_
      have BK496 := n4_
      have HB := n5_
      clear n0_ n1_ n2_ n3_ n4_ n5_
      (try clear hb)
      (try clear hb2)
      (try clear hk)
      (try clear hi)
      refine hK.out _ _ ⟨(blk_cell BK491.out 0).trans rfl, (blk_cell BK496.out 0).trans rfl, (blk_cell BK486.out 0).trans rfl⟩ (fun hHeld => ?_)
      clear hK K
      refine norm_ (a' := ?_) ?_ ?_
      rotate_left
      ·show Act.put _ (some 47) _ = _
       simp only [Act.put, List.setIfInBounds_toArray, List.set_cons_zero, List.set_cons_succ, i64_w, i32_w]
       rfl
      refine pu_ 14 48 (bm 16 32767) HT_.out ?_
      refine pu_ 15 49 (bm 16 65535) HT_.out ?_
      refine done_ (done_of HT_.out (by kernel_rfl)) ?_
      try go_wp2
      go_meet
      case rel => exact ⟨_, ((t498 != t499)), (by first | rfl | (simp; done) | (simp [*]; done)), H', ⟨by first | omega | exact Nat.le_refl _⟩, ⟨by (with_reducible repeat (first | apply r1 | apply r2 | apply r3)); exact Kd.R_mono HO490.out (fun _ hk => trivial)⟩, ⟨rk BK486⟩, ⟨rk BK491⟩, ⟨rk BK496⟩, ⟨rb3 HB GE486 GE491 GE496⟩⟩
      )
    | (
      first | have q_ := lf3_ | have q_ := lf5_
      refine un_ 10 44 (bm 16 2047) HT_.out ?_
      refine un_ 11 45 (bm 16 4095) HT_.out ?_
      refine un_ 12 46 (bm 16 8191) HT_.out ?_
      refine un_ 13 47 (bm 16 16383) HT_.out ?_
      refine un_ 14 48 (bm 16 32767) HT_.out ?_
      refine pu_ 15 49 (bm 16 65535) HT_.out ?_
      refine done_ (done_of HT_.out (by kernel_rfl)) ?_
      try go_wp2
      go_meet
      case rel => exact ⟨_, (true), (by first | rfl | (simp; done) | (simp [*]; done)), H', ⟨by first | omega | exact Nat.le_refl _⟩, ⟨by (with_reducible repeat (first | apply r1 | apply r2 | apply r3)); exact Kd.R_mono HO490.out (fun _ hk => trivial)⟩, ⟨rk BK486⟩, ⟨rk BK491⟩, ⟨rk BK496⟩, ⟨rb3 HB GE486 GE491 GE496⟩⟩
      )
  case rest =>
   clear HC7
   try clear c1
   try clear c2
   try clear p2
   try clear c4
   try clear c7
   try clear c13
   try clear c18
   try clear c19
   try clear c21
   try clear c21b0
   try clear c25
   try clear c26
   try clear c27
   try clear c28
   try clear c29
   try clear hcz10_0
   try clear hcz14_0
   try clear hcz15_0
   try clear hcz20_0
   try clear hfz10_0
   try clear hfz14_0
   try clear hfz15_0
   try clear hfz20_0
   obtain ⟨kq, x49_6, rfl, HA, HJ6, HO_6, BK486, BK491, BK496, HB⟩ := hcut
   cases kq with
   | zero => exact absurd HA.out (by simp [laws_FnFed.j0])
   | succ kj6 =>
    have H := HA.out
    clear HA
    simp only [laws_FnFed.j0] at H
    refine em_ (p := x49_6 = true) (fun c38 => ?g3p) (fun c38 => ?g3n)
    case g3p =>
     subst c38
     have H1 : (some false) = some r := by rw [if_pos rfl] at H; exact H
     clear H
     have H := H1
     clear H1
     exact absurd (Option.some.inj (H.trans (congrArg some hT_))) Bool.false_ne_true
    case' g3n =>
     replace c38 := Bool.eq_false_iff.mpr c38
     subst c38
     rw [if_neg (show ¬ (false = true) by decide)] at H
     replace H := Option.bind_eq_some_iff.mp H
     obtain ⟨t500, A390, H⟩ := H
     (try dsimp only at H)
     have A39 := am A390
     clear A390
     refine em_ (p := t500 = true) (fun c40 => ?g2p) (fun c40 => ?g2n)
     case' g2p =>
      subst c40
      rw [if_pos rfl] at H
      replace H := Option.bind_eq_some_iff.mp H
      obtain ⟨t501, A410, H⟩ := H
      (try dsimp only at H)
      have A41 := am A410
      clear A410
      obtain ⟨y503, hy503⟩ : ∃ y_ : List Int, y_ = (([] : List Int)) := ⟨_, rfl⟩
      replace H : (laws_FnFed.l0 kj6 t501 y503 0 t487 (⟨#[]⟩ : ByteArray)) = some r := by first | (rw [hy503]; with_reducible exact H) | (rw [hy503]; exact H) | exact H
      have Ny503 := am hy503
      clear hy503
      have H' := am H
      clear H
      have lf6_ := trivial
     case g2n =>
      replace c40 := Bool.eq_false_iff.mpr c40
      subst c40
      rw [if_neg (show ¬ (false = true) by decide)] at H
      by_cases c113 : (t487.toList == ([] : List UInt8)) = true
      ·rw [if_pos c113] at H
       have c113b0 : (t487.toList == ([] : List UInt8)) = true := c113
       (try (have c113b1 : decide (t487.toList = ([] : List UInt8)) = true := by simpa using c113))
       (try (have c113b2 : (t487.toList == ([] : List UInt8)) = true := by simpa using c113))
       clear c113
       first
       | with_reducible exact absurd (Option.some.inj (H.trans (congrArg some hT_))) Bool.false_ne_true
       | (
        obtain rfl := Option.some.inj H
        have hnb114 := NB486_491.out
        have hnc114 := NB491_486.out
        have hnb115 := NB486_496.out
        have hnc115 := NB496_486.out
        have hcz116_0 : wc.cell? ⟨gb486, 0, none⟩ = some (.string t484) := (blk_cell BK486.out 0).trans rfl
        have hfz116_0 := blk_frozen BK486.out 0
        go_wp2_with (first | ((with_reducible refine gate_callee (f := 29) rfl ?_); refine gl_ (some 51) Tryd.func29 #[.agg #[.string t484]] ?_; (with_reducible refine (spec_FeederOk.calls kj6 t484 false _ A39.out).mono ?_); rintro e w117 ⟨rfl, hb⟩; refine ⟨_, rfl, ?_⟩; have n0_ := am (Kd.R_below (rr HO_6) hb); have n1_ := am (blk_below (g := gb486) (o := .cells #[.string t484] 38 (0, 0)) (rk BK486) hb); have n2_ := am (blk_below (g := gb491) (o := .cells #[.string t487] 38 (0, 0)) (rk BK491) hb); have n3_ := am (blk_below (g := gb496) (o := .cells #[.string t492] 38 (0, 0)) (rk BK496) hb); have n4_ := am (below_step (rb3 HB GE486 GE491 GE496) hb); clear HO_6; clear BK486; clear BK491; clear BK496; clear HB; have HO_6 := n0_; have BK486 := n1_; have BK491 := n2_; have BK496 := n3_; have HB := n4_; clear n0_ n1_ n2_ n3_ n4_; (try clear hb); (try clear hb2); (try clear hk); (try clear hi); have hnb118 := NB491_496.out; have hnc118 := NB496_491.out; have hcz119_0 : w117.cell? ⟨gb491, 0, none⟩ = some (.string t487) := (blk_cell BK491.out 0).trans rfl; have hfz119_0 := blk_frozen BK491.out 0; obtain ⟨Ao120, co120, eo120⟩ := Kd.R_slice HO_6.out; subst eo120))
        go_ret
        exact ⟨by first | rfl | (simp [errW_none, errW_some] <;> rfl) | (simp [*, errW_none, errW_some] <;> rfl), rb3 HB GE486 GE491 GE496⟩)
      ·rw [if_neg c113] at H
       have c113b0 : (t487.toList == ([] : List UInt8)) = false := by simpa using c113
       (try (have c113b1 : decide (t487.toList = ([] : List UInt8)) = false := by simpa using c113))
       (try (have c113b2 : (t487.toList == ([] : List UInt8)) = false := by simpa using c113))
       (try (have c113b3 : ¬ (t487.toList = ([] : List UInt8)) := by simpa using c113))
       clear c113
       exact absurd (Option.some.inj (H.trans (congrArg some hT_))) Bool.false_ne_true
    all_goals
     have hnb42 := NB486_491.out
     have hnc42 := NB491_486.out
     have hnb43 := NB486_496.out
     have hnc43 := NB496_486.out
     have hcz44_0 : wc.cell? ⟨gb486, 0, none⟩ = some (.string t484) := (blk_cell BK486.out 0).trans rfl
     have hfz44_0 := blk_frozen BK486.out 0
     go_wp2_with (first | ((with_reducible refine gate_callee (f := 29) rfl ?_); refine gl_ (some 51) Tryd.func29 #[.agg #[.string t484]] ?_; (with_reducible refine (spec_FeederOk.calls kj6 t484 true _ A39.out).mono ?_); rintro e w45 ⟨rfl, hb⟩; refine ⟨_, rfl, ?_⟩; have n0_ := am (Kd.R_below (rr HO_6) hb); have n1_ := am (blk_below (g := gb486) (o := .cells #[.string t484] 38 (0, 0)) (rk BK486) hb); have n2_ := am (blk_below (g := gb491) (o := .cells #[.string t487] 38 (0, 0)) (rk BK491) hb); have n3_ := am (blk_below (g := gb496) (o := .cells #[.string t492] 38 (0, 0)) (rk BK496) hb); have n4_ := am (below_step (rb3 HB GE486 GE491 GE496) hb); clear HO_6; clear BK486; clear BK491; clear BK496; clear HB; have HO_6 := n0_; have BK486 := n1_; have BK491 := n2_; have BK496 := n3_; have HB := n4_; clear n0_ n1_ n2_ n3_ n4_; (try clear hb); (try clear hb2); (try clear hk); (try clear hi)) | ((with_reducible refine gate_callee (f := 12) rfl ?_); refine gl_ (some 62) Tryd.func12 #[.slice A0 l0.length c0] ?_; (with_reducible refine (spec_DrawRunes.calls kj6 _ _ l0 t501 _ ?side1 ?side2 A41.out).mono ?_); (case side1 => exact rc ((Kd.C_below HR0.out HB.out))); (case side2 => exact HC0.out); rintro e w46 ⟨rfl, hb⟩; refine ⟨_, rfl, ?_⟩; have n0_ := am (Kd.R_below (rr HO_6) hb); have n1_ := am (blk_below (g := gb486) (o := .cells #[.string t484] 38 (0, 0)) (rk BK486) hb); have n2_ := am (blk_below (g := gb491) (o := .cells #[.string t487] 38 (0, 0)) (rk BK491) hb); have n3_ := am (blk_below (g := gb496) (o := .cells #[.string t492] 38 (0, 0)) (rk BK496) hb); have n4_ := am (below_step (rb3 HB GE486 GE491 GE496) hb); clear HO_6; clear BK486; clear BK491; clear BK496; clear HB; have HO_6 := n0_; have BK486 := n1_; have BK491 := n2_; have BK496 := n3_; have HB := n4_; clear n0_ n1_ n2_ n3_ n4_; (try clear hb); (try clear hb2); (try clear hk); (try clear hi)) | ((with_reducible refine gate_dst (N := 10) rfl ?_); (try (refine gate_guard (by rfl) ?_; dsimp only)); refine box_event ?hg (N := 10) ?hd (cs := #[.string (⟨#[]⟩ : ByteArray)]) (t := 38) ?hr ?_; (case hd => rfl); (case hg => rfl); (case hr => first | (go_simp; done) | (go_simp; rfl)); intro gb502 hg w47 hbox hb; have n0_ := am (Kd.R_below (rr HO_6) hb); have n1_ := am (blk_below (g := gb486) (o := .cells #[.string t484] 38 (0, 0)) (rk BK486) hb); have n2_ := am (blk_below (g := gb491) (o := .cells #[.string t487] 38 (0, 0)) (rk BK491) hb); have n3_ := am (blk_below (g := gb496) (o := .cells #[.string t492] 38 (0, 0)) (rk BK496) hb); have n4_ := am (below_step (rb3 HB GE486 GE491 GE496) hb); have n5_ := am (hbox); have n6_ := am ((by rw [hg]; exact (below_size (rb3 HB GE486 GE491 GE496)) : w.heap.size ≤ gb502)); have n7_ := am ((by rw [hg]; exact (below_size (rb3 HB GE486 GE491 GE496)) : w.heap.size ≤ gb502)); have n8_ := am ((by rw [hg]; exact Nat.ne_of_lt (blk_lt (g := gb486) (o := .cells #[.string t484] 38 (0, 0)) (rk BK486)) : gb486 ≠ gb502)); have n9_ := am ((by rw [hg]; exact Nat.ne_of_gt (blk_lt (g := gb486) (o := .cells #[.string t484] 38 (0, 0)) (rk BK486)) : gb502 ≠ gb486)); have n10_ := am ((by rw [hg]; exact Nat.ne_of_lt (blk_lt (g := gb491) (o := .cells #[.string t487] 38 (0, 0)) (rk BK491)) : gb491 ≠ gb502)); have n11_ := am ((by rw [hg]; exact Nat.ne_of_gt (blk_lt (g := gb491) (o := .cells #[.string t487] 38 (0, 0)) (rk BK491)) : gb502 ≠ gb491)); have n12_ := am ((by rw [hg]; exact Nat.ne_of_lt (blk_lt (g := gb496) (o := .cells #[.string t492] 38 (0, 0)) (rk BK496)) : gb496 ≠ gb502)); have n13_ := am ((by rw [hg]; exact Nat.ne_of_gt (blk_lt (g := gb496) (o := .cells #[.string t492] 38 (0, 0)) (rk BK496)) : gb502 ≠ gb496)); clear HO_6; clear BK486; clear BK491; clear BK496; clear HB; have HO_6 := n0_; have BK486 := n1_; have BK491 := n2_; have BK496 := n3_; have HB := n4_; have BK502 := n5_; have GW502 := n6_; have GE502 := n7_; have NB486_502 := n8_; have NB502_486 := n9_; have NB491_502 := n10_; have NB502_491 := n11_; have NB496_502 := n12_; have NB502_496 := n13_; clear n0_ n1_ n2_ n3_ n4_ n5_ n6_ n7_ n8_ n9_ n10_ n11_ n12_ n13_; clear hb hbox hg; have hnb48 := NB502_486.out; have hnc48 := NB486_502.out; have hnb49 := NB502_491.out; have hnc49 := NB491_502.out; have hnb50 := NB502_496.out; have hnc50 := NB496_502.out; have hcz51_0 : w47.cell? ⟨gb502, 0, none⟩ = some (.string (⟨#[]⟩ : ByteArray)) := (blk_cell BK502.out 0).trans rfl; have hfz51_0 := blk_frozen BK502.out 0) | ((with_reducible refine gate_dst (N := 64) rfl ?_); (try (refine gate_guard (by rfl) ?_; dsimp only)); refine Kd.R_lit (Kd.int .i64) _ 2 ?hg (N := 64) ?hd (xs := ([] : List Int)) (inner := []) (ok := fun _ => True) (okp := fun _ => True) ?hr ?hp (fun _ hk => hk) trivial (Below.refl _ _) (Nat.le_refl _) (by simp) ?_; (case hd => rfl); (case hg => rfl); (case hr => first | (go_simp; done) | (go_simp; rfl)); (case hp => exact (Reps.none _ _)); intro v504 w52 ho53 hb hg_ hnew_; clear hg_ hnew_; (first | rw [← Ny503.out] at ho53 | (simp only [Int.reduceToNat] at ho53; rw [← Ny503.out] at ho53)); have n0_ := am (Kd.R_elder' (by (with_reducible repeat (first | apply r1 | apply r2 | apply r3)); exact (Kd.R_mono (Kd.R_far (p := ⟨gb502, 0, none⟩) (Kd.R_types HO_6.out BK502.out (by decide)) (fun _ hk => hk.2) (.string (⟨#[]⟩ : ByteArray))) (fun _ h_ => h_.1))) (Kd.R_base ho53) hb); have n1_ := am (Kd.R_lower (Kd.R_new' ho53 (Kd.R_lt (by (with_reducible repeat (first | apply r1 | apply r2 | apply r3)); exact (Kd.R_mono (Kd.R_far (p := ⟨gb502, 0, none⟩) (Kd.R_types HO_6.out BK502.out (by decide)) (fun _ hk => hk.2) (.string (⟨#[]⟩ : ByteArray))) (fun _ h_ => h_.1))))) (below_size (rb4 HB GE486 GE491 GE496 GE502))); have n2_ := am (blk_below (g := gb486) (o := .cells #[.string t484] 38 (0, 0)) (by (with_reducible repeat (first | apply k1 | apply k2 | apply k3)); refine blk_far ?_ NB486_502.out _; (with_reducible repeat (first | apply k1 | apply k2 | apply k3)); exact BK486.out) hb); have n3_ := am (blk_below (g := gb491) (o := .cells #[.string t487] 38 (0, 0)) (by (with_reducible repeat (first | apply k1 | apply k2 | apply k3)); refine blk_far ?_ NB491_502.out _; (with_reducible repeat (first | apply k1 | apply k2 | apply k3)); exact BK491.out) hb); have n4_ := am (blk_below (g := gb496) (o := .cells #[.string t492] 38 (0, 0)) (by (with_reducible repeat (first | apply k1 | apply k2 | apply k3)); refine blk_far ?_ NB496_502.out _; (with_reducible repeat (first | apply k1 | apply k2 | apply k3)); exact BK496.out) hb); have n5_ := am (blk_below (g := gb502) (o := .cells #[.string (⟨#[]⟩ : ByteArray)] 38 (0, 0)) (by (with_reducible repeat (first | apply k1 | apply k2 | apply k3)); refine blk_put (cs := #[.string (⟨#[]⟩ : ByteArray)]) ?_ 0 _ rfl; (with_reducible repeat (first | apply k1 | apply k2 | apply k3)); exact BK502.out) hb); have n6_ := am (below_step (rb4 HB GE486 GE491 GE496 GE502) hb); clear HO_6; clear BK486; clear BK491; clear BK496; clear BK502; clear HB; have HO_6 := n0_; have HO505 := n1_; have BK486 := n2_; have BK491 := n3_; have BK496 := n4_; have BK502 := n5_; have HB := n6_; clear n0_ n1_ n2_ n3_ n4_ n5_ n6_; clear hb ho53))
     go_loopg [11, 12] kj6 (fun kq v11 v12 w' => ∃ (x11_2 : List Int) (x12_2 : Int) (x503000_2 : ByteArray), v12 = .int .i64 x12_2 ∧ Aside0 (laws_FnFed.l0 kq t501 x11_2 x12_2 t487 x503000_2 = some r) ∧ Aside0 (kq ≤ kj6) ∧ Aside0 (Kd.R (Kd.int .i64) 2 w' w.heap.size (fun _ => True) v11 x11_2) ∧ Aside0 (w'.heap[gb486]? = some (.cells #[.string t484] 38 (0, 0))) ∧ Aside0 (w'.heap[gb491]? = some (.cells #[.string t487] 38 (0, 0))) ∧ Aside0 (w'.heap[gb496]? = some (.cells #[.string t492] 38 (0, 0))) ∧ Aside0 (w'.heap[gb502]? = some (.cells #[.string x503000_2] 38 (0, 0))) ∧ Aside0 (Below w.heap.size w w'))
     case atStart => exact ⟨(y503), (0), ((⟨#[]⟩ : ByteArray)), (by first | rfl | (simp; done) | (simp [*]; done)), H', ⟨Nat.le_refl _⟩, ⟨by (with_reducible repeat (first | apply r1 | apply r2 | apply r3)); exact Kd.R_mono HO505.out (fun _ hk => trivial)⟩, ⟨rk BK486⟩, ⟨rk BK491⟩, ⟨rk BK496⟩, ⟨rk BK502⟩, ⟨rb4 HB GE486 GE491 GE496 GE502⟩⟩
     case round =>
      clear H'
      try clear c1
      try clear c2
      try clear p2
      try clear c3
      try clear c4
      try clear c5
      try clear c7
      try clear c12
      try clear c13
      try clear c18
      try clear c19
      try clear c21
      try clear c21b0
      try clear c25
      try clear c26
      try clear c27
      try clear c28
      try clear c29
      try clear c38
      try clear c40
      try clear c42
      try clear c43
      try clear c48
      try clear c49
      try clear c50
      try clear hcz10_0
      try clear hcz14_0
      try clear hcz15_0
      try clear hcz20_0
      try clear hcz44_0
      try clear hcz51_0
      try clear hfz10_0
      try clear hfz14_0
      try clear hfz15_0
      try clear hfz20_0
      try clear hfz44_0
      try clear hfz51_0
      try clear p2
      obtain ⟨x11_2, x12_2, x503000_2, rfl, HA, HK2, HO_11, BK486, BK491, BK496, BK502, HB⟩ := hrel
      cases gk with
      | zero => exact absurd HA.out (by simp [laws_FnFed.l0])
      | succ k2 =>
       have H := HA.out
       clear HA
       simp only [laws_FnFed.l0] at H
       refine em_ (p := x12_2 < (t501.size : Int)) (fun c54 => ?g6p) (fun c54 => ?g6n)
       case' g6p =>
        rw [if_pos c54] at H
        have c54b0 : decide (x12_2 < (t501.size : Int)) = true := decide_eq_true c54
        clear c54
        refine em_ (p := 0 ≤ x12_2) (fun c55 => ?g5p) (fun c55 => ?g5n)
        case' g5p =>
         rw [if_pos c55] at H
         have c55b0 : decide (0 ≤ x12_2) = true := decide_eq_true c55
         clear c55
         replace H := Option.bind_eq_some_iff.mp H
         obtain ⟨⟨t506, t507⟩, A570, H⟩ := H
         (try dsimp only at H)
         have A57 := am A570
         clear A570
         refine em_ (p := x11_2.length + t507.length < 17592186044416) (fun c58 => ?g4p) (fun c58 => ?g4n)
         case' g4p =>
          rw [if_pos c58] at H
          have LMc58 := am c58
          clear c58
          obtain ⟨y511, hy511⟩ : ∃ y_ : List Int, y_ = (x11_2 ++ t507) := ⟨_, rfl⟩
          replace H : (laws_FnFed.l0 k2 t501 y511 (wrap64 (x12_2 + 1)) t487 t506) = some r := by first | (rw [hy511]; with_reducible exact H) | (rw [hy511]; exact H) | exact H
          have Ny511 := am hy511
          clear hy511
          have H' := am H
          clear H
          have lf7_ := trivial
         case g4n =>
          rw [if_neg c58] at H
          exact absurd H (by simp)
        case g5n =>
         rw [if_neg c55] at H
         exact absurd H (by simp)
       case g6n =>
        rw [if_neg c54] at H
        have c54b0 : decide (x12_2 < (t501.size : Int)) = false := decide_eq_false c54
        clear c54
        replace H := Option.bind_eq_some_iff.mp H
        obtain ⟨t514, A750, H⟩ := H
        (try dsimp only at H)
        have A75 := am A750
        clear A750
        by_cases c76 : t514 = true
        ·subst c76
         rw [if_pos rfl] at H
         replace H := Option.bind_eq_some_iff.mp H
         obtain ⟨t515, A770, H⟩ := H
         (try dsimp only at H)
         have A77 := am A770
         clear A770
         by_cases c78 : t515 = true
         ·subst c78
          rw [if_pos rfl] at H
          replace H := Option.bind_eq_some_iff.mp H
          obtain ⟨t516, A790, H⟩ := H
          (try dsimp only at H)
          have A79 := am A790
          clear A790
          by_cases c80 : x11_2.length + t516.length < 17592186044416
          ·rw [if_pos c80] at H
           have LMc80 := am c80
           clear c80
           obtain ⟨y519, hy519⟩ : ∃ y_ : List Int, y_ = (x11_2 ++ t516) := ⟨_, rfl⟩
           replace H : ((spec_Runes.f k2 t501).bind fun t522 => ((laws_likeInts.f k2 y519 t522).bind fun t525 => (some t525))) = some r := by first | (rw [hy519]; with_reducible exact H) | (rw [hy519]; exact H) | exact H
           have Ny519 := am hy519
           clear hy519
           replace H := Option.bind_eq_some_iff.mp H
           obtain ⟨t522, A810, H⟩ := H
           (try dsimp only at H)
           have A81 := am A810
           clear A810
           replace H := Option.bind_eq_some_iff.mp H
           obtain ⟨t525, A820, H⟩ := H
           replace H : (some t525) = some r := H
           have A82 := am A820
           clear A820
           first
           | with_reducible exact absurd (Option.some.inj (H.trans (congrArg some hT_))) Bool.false_ne_true
           | (
            obtain rfl := Option.some.inj H
            have hnb83 := NB491_486.out
            have hnc83 := NB486_491.out
            have hnb84 := NB491_496.out
            have hnc84 := NB496_491.out
            have hnb85 := NB491_502.out
            have hnc85 := NB502_491.out
            have hcz86_0 : wr.cell? ⟨gb491, 0, none⟩ = some (.string t487) := (blk_cell BK491.out 0).trans rfl
            have hfz86_0 := blk_frozen BK491.out 0
            go_wp2_with (first | ((with_reducible refine gate_callee (f := 28) rfl ?_); refine gl_ (some 84) Tryd.func28 #[.agg #[.string t487]] ?_; (with_reducible refine (impl_FeederOk.calls t487 true _ A75.out ?sideT).mono ?_); (case sideT => exact TB.below HT.out (rb4 HB GE486 GE491 GE496 GE502)); rintro e w87 ⟨rfl, hb⟩; refine ⟨_, rfl, ?_⟩; have n0_ := am (Kd.R_below (rr HO_11) hb); have n1_ := am (blk_below (g := gb486) (o := .cells #[.string t484] 38 (0, 0)) (rk BK486) hb); have n2_ := am (blk_below (g := gb491) (o := .cells #[.string t487] 38 (0, 0)) (rk BK491) hb); have n3_ := am (blk_below (g := gb496) (o := .cells #[.string t492] 38 (0, 0)) (rk BK496) hb); have n4_ := am (blk_below (g := gb502) (o := .cells #[.string x503000_2] 38 (0, 0)) (rk BK502) hb); have n5_ := am (below_step (rb4 HB GE486 GE491 GE496 GE502) hb); clear HO_11; clear BK486; clear BK491; clear BK496; clear BK502; clear HB; have HO_11 := n0_; have BK486 := n1_; have BK491 := n2_; have BK496 := n3_; have BK502 := n4_; have HB := n5_; clear n0_ n1_ n2_ n3_ n4_ n5_; (try clear hb); (try clear hb2); (try clear hk); (try clear hi); have hnb88 := NB502_486.out; have hnc88 := NB486_502.out; have hnb89 := NB502_496.out; have hnc89 := NB496_502.out; have hcz90_0 : w87.cell? ⟨gb502, 0, none⟩ = some (.string x503000_2) := (blk_cell BK502.out 0).trans rfl; have hfz90_0 := blk_frozen BK502.out 0) | (go_at_call 28; (with_reducible refine (impl_FeederOk.calls x503000_2 true _ A77.out ?sideT).mono ?_); (case sideT => exact TB.below HT.out (rb4 HB GE486 GE491 GE496 GE502)); rintro e w91 ⟨rfl, hb⟩; have n0_ := am (Kd.R_below (rr HO_11) hb); have n1_ := am (blk_below (g := gb486) (o := .cells #[.string t484] 38 (0, 0)) (rk BK486) hb); have n2_ := am (blk_below (g := gb491) (o := .cells #[.string t487] 38 (0, 0)) (rk BK491) hb); have n3_ := am (blk_below (g := gb496) (o := .cells #[.string t492] 38 (0, 0)) (rk BK496) hb); have n4_ := am (blk_below (g := gb502) (o := .cells #[.string x503000_2] 38 (0, 0)) (rk BK502) hb); have n5_ := am (below_step (rb4 HB GE486 GE491 GE496 GE502) hb); clear HO_11; clear BK486; clear BK491; clear BK496; clear BK502; clear HB; have HO_11 := n0_; have BK486 := n1_; have BK491 := n2_; have BK496 := n3_; have BK502 := n4_; have HB := n5_; clear n0_ n1_ n2_ n3_ n4_ n5_; (try clear hb); (try clear hb2); (try clear hk); (try clear hi); have hcz92_0 : w91.cell? ⟨gb502, 0, none⟩ = some (.string x503000_2) := (blk_cell BK502.out 0).trans rfl; have hfz92_0 := blk_frozen BK502.out 0) | (go_at_call 20; (with_reducible refine (spec_Runes.calls k2 x503000_2 t516 _ A79.out).mono ?_); rintro e w93 ⟨v517, rfl, ho0, hb⟩; have n0_ := am (Kd.R_elder' (rr HO_11) (Kd.R_base ho0) hb); have n1_ := am (Kd.R_lower (Kd.R_new' ho0 (Kd.R_lt (rr HO_11))) (below_size (rb4 HB GE486 GE491 GE496 GE502))); have n2_ := am (blk_below (g := gb486) (o := .cells #[.string t484] 38 (0, 0)) (rk BK486) hb); have n3_ := am (blk_below (g := gb491) (o := .cells #[.string t487] 38 (0, 0)) (rk BK491) hb); have n4_ := am (blk_below (g := gb496) (o := .cells #[.string t492] 38 (0, 0)) (rk BK496) hb); have n5_ := am (blk_below (g := gb502) (o := .cells #[.string x503000_2] 38 (0, 0)) (rk BK502) hb); have n6_ := am (below_step (rb4 HB GE486 GE491 GE496 GE502) hb); clear HO_11; clear BK486; clear BK491; clear BK496; clear BK502; clear HB; have HO_11 := n0_; have HO518 := n1_; have BK486 := n2_; have BK491 := n3_; have BK496 := n4_; have BK502 := n5_; have HB := n6_; clear n0_ n1_ n2_ n3_ n4_ n5_ n6_; (try clear hb); (try clear hb2); (try clear hk); (try clear hi); (try clear ho0); obtain ⟨Ao95, co95, eo95⟩ := Kd.R_slice HO518.out; subst eo95) | ((with_reducible refine gate_builtin (b := .append) (xs := #[.tmp 90, .tmp 93]) rfl ?_); (try (refine gate_guard (by rfl) ?_; dsimp only)); at_builtin; refine Kd.R_append_rows (Kd.int .i64) (w0 := w) w.heap.size rfl (.tmp 90) (.tmp 93) 26 2 (.int .i64 0) 8 rfl Tryd.underlying26 info2 rfl (by decide) (by omega) u11 x11_2 t516 _ _ _ (fun k_ => some k_ ≠ (.slice Ao95 t516.length co95 : Value).ownBlock) (fun _ => False) rfl rfl ?aO ?aR (fun _ _ h => h) (fun _ h => h.elim) ?aF ?aB ?aS ?aL ?_; (case aR => repeat (first | exact (Kd.R_reads' HO518.out).2.2 | (with_reducible refine Kd.C_alloc ?_ _) | (with_reducible refine Kd.C_drewN ?_ _) | (with_reducible refine Kd.C_drew ?_))); (case aB => exact (rb4 HB GE486 GE491 GE496 GE502)); (case aF => exact (fun k_ hk => Kd.fresh' (Kd.R_lt (rr HO518)) k_ hk)); (case aO => exact (by (with_reducible repeat (first | apply r1 | apply r2 | apply r3)); exact Kd.R_mono HO_11.out (fun _ hk => hk.2))); (case aS => exact (below_size (rb4 HB GE486 GE491 GE496 GE502))); (case aL => have := LMc80.out; omega); intro v520 w94 ho hb hg hat; rw [← Ny519.out] at ho; have n0_ := am (blk_grown (g := gb486) (o := .cells #[.string t484] 38 (0, 0)) (rk BK486) hg (Kd.R_ne HO_11.out BK486.out (by decide))); have n1_ := am (blk_grown (g := gb491) (o := .cells #[.string t487] 38 (0, 0)) (rk BK491) hg (Kd.R_ne HO_11.out BK491.out (by decide))); have n2_ := am (blk_grown (g := gb496) (o := .cells #[.string t492] 38 (0, 0)) (rk BK496) hg (Kd.R_ne HO_11.out BK496.out (by decide))); have n3_ := am (blk_grown (g := gb502) (o := .cells #[.string x503000_2] 38 (0, 0)) (rk BK502) hg (Kd.R_ne HO_11.out BK502.out (by decide))); have n4_ := am (Kd.R_after (ok := (fun _ => True)) (rr HO518) hg hat); have n5_ := am (hb); have n6_ := am (ho); clear BK486; clear BK491; clear BK496; clear BK502; clear HO518; clear HB; clear HO_11; have BK486 := n0_; have BK491 := n1_; have BK496 := n2_; have BK502 := n3_; have HO518 := n4_; have HB := n5_; have HO521 := n6_; clear n0_ n1_ n2_ n3_ n4_ n5_ n6_; clear ho hb hg hat) | (go_at_call 20; (with_reducible refine (spec_Runes.calls k2 t501 t522 _ A81.out).mono ?_); rintro e w96 ⟨v523, rfl, ho0, hb⟩; have n0_ := am (Kd.R_elder' (rr HO518) (Kd.R_base ho0) hb); have n1_ := am (Kd.R_elder' (rr HO521) (Kd.R_base ho0) hb); have n2_ := am (Kd.R_lower (Kd.R_new' (Kd.R_new' ho0 (Kd.R_lt (rr HO518))) (Kd.R_lt (rr HO521))) (below_size (rb4 HB GE486 GE491 GE496 GE502))); have n3_ := am (blk_below (g := gb486) (o := .cells #[.string t484] 38 (0, 0)) (rk BK486) hb); have n4_ := am (blk_below (g := gb491) (o := .cells #[.string t487] 38 (0, 0)) (rk BK491) hb); have n5_ := am (blk_below (g := gb496) (o := .cells #[.string t492] 38 (0, 0)) (rk BK496) hb); have n6_ := am (blk_below (g := gb502) (o := .cells #[.string x503000_2] 38 (0, 0)) (rk BK502) hb); have n7_ := am (below_step (rb4 HB GE486 GE491 GE496 GE502) hb); clear HO518; clear HO521; clear BK486; clear BK491; clear BK496; clear BK502; clear HB; have HO518 := n0_; have HO521 := n1_; have HO524 := n2_; have BK486 := n3_; have BK491 := n4_; have BK496 := n5_; have BK502 := n6_; have HB := n7_; clear n0_ n1_ n2_ n3_ n4_ n5_ n6_ n7_; (try clear hb); (try clear hb2); (try clear hk); (try clear hi); (try clear ho0); obtain ⟨Ao97, co97, eo97⟩ := Kd.R_slice HO521.out; subst eo97; obtain ⟨Ao98, co98, eo98⟩ := Kd.R_slice HO524.out; subst eo98) | (go_at_call 19; (with_reducible refine (laws_likeInts.calls k2 _ _ y519 _ _ t522 t525 _ ?side1 ?side2 ?side3 ?side4 A82.out).mono ?_); (case side1 => repeat (first | exact (Kd.R_reads' HO521.out).2.2 | (with_reducible refine Kd.C_alloc ?_ _) | (with_reducible refine Kd.C_drewN ?_ _) | (with_reducible refine Kd.C_drew ?_))); (case side2 => exact (Kd.R_reads' HO521.out).2.1); (case side3 => repeat (first | exact (Kd.R_reads' HO524.out).2.2 | (with_reducible refine Kd.C_alloc ?_ _) | (with_reducible refine Kd.C_drewN ?_ _) | (with_reducible refine Kd.C_drew ?_))); (case side4 => exact (Kd.R_reads' HO524.out).2.1); rintro e w' ⟨rfl, ⟨nd, rfl⟩⟩))
            go_ret
            exact ⟨by first | rfl | (simp [errW_none, errW_some] <;> rfl) | (simp [*, errW_none, errW_some] <;> rfl), rb4 HB GE486 GE491 GE496 GE502⟩)
          ·rw [if_neg c80] at H
           exact absurd H (by simp)
         ·replace c78 := Bool.eq_false_iff.mpr c78
          subst c78
          have H1 : (some false) = some r := by rw [if_neg (show ¬ (false = true) by decide)] at H; exact H
          clear H
          have H := H1
          clear H1
          exact absurd (Option.some.inj (H.trans (congrArg some hT_))) Bool.false_ne_true
        ·replace c76 := Bool.eq_false_iff.mpr c76
         subst c76
         have H1 : (some false) = some r := by rw [if_neg (show ¬ (false = true) by decide)] at H; exact H
         clear H
         have H := H1
         clear H1
         exact absurd (Option.some.inj (H.trans (congrArg some hT_))) Bool.false_ne_true
       all_goals
        try go_wp2
        have n0_ := am (Kd.R_drew HO_11.out)
        have n1_ := am (blk_drew BK486.out)
        have n2_ := am (blk_drew BK491.out)
        have n3_ := am (blk_drew BK496.out)
        have n4_ := am (blk_drew BK502.out)
        have n5_ := am (below_drew1 HB.out)
        clear HO_11
        clear BK486
        clear BK491
        clear BK496
        clear BK502
        clear HB
        have HO_11 := n0_
        have BK486 := n1_
        have BK491 := n2_
        have BK496 := n3_
        have BK502 := n4_
        have HB := n5_
        clear n0_ n1_ n2_ n3_ n4_ n5_
        have p56 : 0 ≤ (x12_2 : Int) := dt_
        have q56 : x12_2 < (t501.size : Int) := dt_
        have hx56 := bt_at t501 x12_2
        replace p56 := eq_true p56
        replace q56 := eq_true q56
        refine start_ (n := 11) (S := fun w' => w'.cell? ⟨gb502, 0, none⟩ = some (.string x503000_2)) (ds := []) (bm 11 0) (by kernel_rfl) rfl rfl ((blk_cell BK502.out 0).trans rfl) (fun hHeld => ?_); refine with_tabW laws_FnFed.tab16 laws_FnFed.bits16 (fun HT_ HW_ => ?_)
        generalize wr.drew = w59 at HO_11 BK486 BK491 BK496 BK502 HB hHeld ⊢
        refine pu_ 1 73 (bm 11 2) HT_.out ?_
        refine pu_ 2 74 (bm 11 6) HT_.out ?_
        refine take_ (i := 0) (N := some 72) (v := ?_) (a' := ?_) (bm 11 7) rfl rfl (take_ofW HT_.out HW_.out (by kernel_rfl)) (fun _ _ _ h => h) (Or.inl ⟨by rfl, ?_⟩) hHeld ?_ ?_
        rotate_left
        ·intro w' s0
         go_simp
         with_reducible rfl
        rotate_left
        ·simp only [Act.put, List.setIfInBounds_toArray, List.set_cons_zero, List.set_cons_succ, i64_w, i32_w]
         rfl
        refine take_ (i := 3) (N := some 75) (v := ?_) (a' := ?_) (bm 11 15) rfl rfl (take_ofW HT_.out HW_.out (by kernel_rfl)) (fun _ _ _ h => h) (Or.inl ⟨by rfl, ?_⟩) hHeld ?_ ?_
        rotate_left
        ·intro w' s0
         go_simp
         with_reducible rfl
        rotate_left
        ·simp only [Act.put, List.setIfInBounds_toArray, List.set_cons_zero, List.set_cons_succ, i64_w, i32_w]
         rfl
        refine join_ (σ := Value × Nat) 2 (bm 11 511) (fun s_ => [(76, .tuple #[.agg #[.string t506], s_.1]), (13, .pointer (some ⟨s_.2, 0, none⟩)), (71, .tuple #[.agg #[.string t506], s_.1]), (77, .agg #[.string t506]), (78, s_.1)]) (fun s_ w' => (w'.cell? ⟨gb502, 0, none⟩ = some (.string x503000_2)) ∧ (Kd.R (Kd.int .i64) 2 w' w.heap.size (fun k_ => some k_ ≠ (u11 : Value).ownBlock) s_.1 t507) ∧ (Kd.R (Kd.int .i64) 2 w' w.heap.size (fun k_ => some k_ ≠ (s_.1 : Value).ownBlock) u11 x11_2) ∧ (w'.heap[gb486]? = some (.cells #[.string t484] 38 (0, 0))) ∧ (w'.heap[gb491]? = some (.cells #[.string t487] 38 (0, 0))) ∧ (w'.heap[gb496]? = some (.cells #[.string t492] 38 (0, 0))) ∧ (w'.heap[gb502]? = some (.cells #[.string x503000_2] 38 (0, 0))) ∧ (w'.heap[s_.2]? = some (.cells #[.string (⟨#[]⟩ : ByteArray)] 38 (0, 0))) ∧ (w.heap.size ≤ s_.2) ∧ (w.heap.size ≤ s_.2) ∧ (gb486 ≠ s_.2) ∧ (s_.2 ≠ gb486) ∧ (gb491 ≠ s_.2) ∧ (s_.2 ≠ gb491) ∧ (gb496 ≠ s_.2) ∧ (s_.2 ≠ gb496) ∧ (gb502 ≠ s_.2) ∧ (s_.2 ≠ gb502) ∧ (Below w.heap.size w w')) ?_ ?_
        rotate_left
        ·intro hCont
         refine two_ (i := 4) (j := 8) (Ni := some 76) (Nj := some 13) (bm 11 31) (bm 11 271) rfl rfl rfl rfl (two_of HT_.out (by kernel_rfl)) (by decide) (by decide) (fun K hK => ?_) (fun K hK => ?_)
         ·skip
          refine goes_ Tryd.func26 (by kernel_rfl) rfl #[.agg #[.string x503000_2], .int .u8 (bt t501 x12_2)] (by rfl) rfl rfl (by (try simp only [List.map_toArray, List.map_cons, List.map_nil]); first | done | rfl | (simp only [List.length_drop, List.length_take]; rfl)) ?_
          with_reducible refine (impl_Feed.calls k2 x503000_2 (bt t501 x12_2) t506 t507 _ A57.out ?sideT).mono ?_
          case sideT => exact TB.below HT.out (rb4 HB GE486 GE491 GE496 GE502)
          rintro e w60 ⟨v508, rfl, ho0, hb⟩
          refine ⟨_, rfl, ?_⟩
          have n0_ := am (Kd.R_elder' (rr HO_11) (Kd.R_base ho0) hb)
          have n1_ := am (Kd.R_lower (Kd.R_new' ho0 (Kd.R_lt (rr HO_11))) (below_size (rb4 HB GE486 GE491 GE496 GE502)))
          have n2_ := am (blk_below (g := gb486) (o := .cells #[.string t484] 38 (0, 0)) (rk BK486) hb)
          have n3_ := am (blk_below (g := gb491) (o := .cells #[.string t487] 38 (0, 0)) (rk BK491) hb)
          have n4_ := am (blk_below (g := gb496) (o := .cells #[.string t492] 38 (0, 0)) (rk BK496) hb)
          have n5_ := am (blk_below (g := gb502) (o := .cells #[.string x503000_2] 38 (0, 0)) (rk BK502) hb)
          have n6_ := am (below_step (rb4 HB GE486 GE491 GE496 GE502) hb)
          clear HO_11
          clear BK486
          clear BK491
          clear BK496
          clear BK502
          clear HB
          have HO_11 := n0_
          have HO509 := n1_
          have BK486 := n2_
          have BK491 := n3_
          have BK496 := n4_
          have BK502 := n5_
          have HB := n6_
          clear n0_ n1_ n2_ n3_ n4_ n5_ n6_
          (try clear hb)
          (try clear hb2)
          (try clear hk)
          (try clear hi)
          (try clear ho0)
          refine hK.out _ _ ((blk_cell BK502.out 0).trans rfl) (fun hHeld => ?_)
          clear hK K
          refine norm_ (a' := ?_) ?_ ?_
          rotate_left
          ·show Act.put _ (some 76) _ = _
           simp only [Act.put, List.setIfInBounds_toArray, List.set_cons_zero, List.set_cons_succ, i64_w, i32_w]
           rfl
          refine pu_ 5 71 (bm 11 63) HT_.out ?_
          refine pu_ 6 77 (bm 11 127) HT_.out ?_
          refine pu_ 7 78 (bm 11 255) HT_.out ?_
          refine one_ (i := 8) (N := some 13) (bm 11 511) rfl rfl (one_of HT_.out (by kernel_rfl)) (by decide) (fun K hK => ?_)
          refine box_step ?hg (N := 13) ?hd (cs := #[.string (⟨#[]⟩ : ByteArray)]) (t := 38) ?hr ?_; (case hd => rfl); (case hg => rfl); (case hr => first | (go_simp; done) | (go_simp; rfl))
          intro gb510 hg w61 hbox hb
          have n0_ := am (Kd.R_below (rr HO_11) hb)
          have n1_ := am (Kd.R_below (rr HO509) hb)
          have n2_ := am (blk_below (g := gb486) (o := .cells #[.string t484] 38 (0, 0)) (rk BK486) hb)
          have n3_ := am (blk_below (g := gb491) (o := .cells #[.string t487] 38 (0, 0)) (rk BK491) hb)
          have n4_ := am (blk_below (g := gb496) (o := .cells #[.string t492] 38 (0, 0)) (rk BK496) hb)
          have n5_ := am (blk_below (g := gb502) (o := .cells #[.string x503000_2] 38 (0, 0)) (rk BK502) hb)
          have n6_ := am (below_step (rb4 HB GE486 GE491 GE496 GE502) hb)
          have n7_ := am (hbox)
          have n8_ := am ((by rw [hg]; exact (below_size (rb4 HB GE486 GE491 GE496 GE502)) : w.heap.size ≤ gb510))
          have n9_ := am ((by rw [hg]; exact (below_size (rb4 HB GE486 GE491 GE496 GE502)) : w.heap.size ≤ gb510))
          have n10_ := am ((by rw [hg]; exact Nat.ne_of_lt (blk_lt (g := gb486) (o := .cells #[.string t484] 38 (0, 0)) (rk BK486)) : gb486 ≠ gb510))
          have n11_ := am ((by rw [hg]; exact Nat.ne_of_gt (blk_lt (g := gb486) (o := .cells #[.string t484] 38 (0, 0)) (rk BK486)) : gb510 ≠ gb486))
          have n12_ := am ((by rw [hg]; exact Nat.ne_of_lt (blk_lt (g := gb491) (o := .cells #[.string t487] 38 (0, 0)) (rk BK491)) : gb491 ≠ gb510))
          have n13_ := am ((by rw [hg]; exact Nat.ne_of_gt (blk_lt (g := gb491) (o := .cells #[.string t487] 38 (0, 0)) (rk BK491)) : gb510 ≠ gb491))
          have n14_ := am ((by rw [hg]; exact Nat.ne_of_lt (blk_lt (g := gb496) (o := .cells #[.string t492] 38 (0, 0)) (rk BK496)) : gb496 ≠ gb510))
          have n15_ := am ((by rw [hg]; exact Nat.ne_of_gt (blk_lt (g := gb496) (o := .cells #[.string t492] 38 (0, 0)) (rk BK496)) : gb510 ≠ gb496))
          have n16_ := am ((by rw [hg]; exact Nat.ne_of_lt (blk_lt (g := gb502) (o := .cells #[.string x503000_2] 38 (0, 0)) (rk BK502)) : gb502 ≠ gb510))
          have n17_ := am ((by rw [hg]; exact Nat.ne_of_gt (blk_lt (g := gb502) (o := .cells #[.string x503000_2] 38 (0, 0)) (rk BK502)) : gb510 ≠ gb502))
          clear HO_11
          clear HO509
          clear BK486
          clear BK491
          clear BK496
          clear BK502
          clear HB
          have HO_11 := n0_
          have HO509 := n1_
          have BK486 := n2_
          have BK491 := n3_
          have BK496 := n4_
          have BK502 := n5_
          have HB := n6_
          have BK510 := n7_
          have GW510 := n8_
          have GE510 := n9_
          have NB486_510 := n10_
          have NB510_486 := n11_
          have NB491_510 := n12_
          have NB510_491 := n13_
          have NB496_510 := n14_
          have NB510_496 := n15_
          have NB502_510 := n16_
          have NB510_502 := n17_
          clear n0_ n1_ n2_ n3_ n4_ n5_ n6_ n7_ n8_ n9_ n10_ n11_ n12_ n13_ n14_ n15_ n16_ n17_
          clear hb hbox hg
          refine hK.out _ _ ((blk_cell BK502.out 0).trans rfl) (fun hHeld => ?_)
          clear hK K
          refine norm_ (a' := ?_) ?_ ?_
          rotate_left
          ·show Act.put _ (some 13) _ = _
           simp only [Act.put, List.setIfInBounds_toArray, List.set_cons_zero, List.set_cons_succ, i64_w, i32_w]
           rfl
          exact norm_ (by simp only [putAll, Act.put, List.setIfInBounds_toArray, List.set_cons_zero, List.set_cons_succ]) (hCont (v508, gb510) _ ⟨hHeld, (by (with_reducible repeat (first | apply r1 | apply r2 | apply r3)); exact Kd.R_mono HO509.out (fun _ hk => hk.2)), (by (with_reducible repeat (first | apply r1 | apply r2 | apply r3)); exact Kd.R_mono HO_11.out (fun _ hk => hk.2)), (rk BK486), (rk BK491), (rk BK496), (rk BK502), (rk BK510), GW510.out, GE510.out, NB486_510.out, NB510_486.out, NB491_510.out, NB510_491.out, NB496_510.out, NB510_496.out, NB502_510.out, NB510_502.out, (by repeat (first | (with_reducible first | exact HB.out | apply b1 | apply b2 | apply b3 | refine below_set ?_ GE486.out | refine below_set ?_ GE491.out | refine below_set ?_ GE496.out | refine below_set ?_ GE502.out | refine below_set ?_ GE510.out) | exact HB.out))⟩)
         ·skip
          refine box_step ?hg (N := 13) ?hd (cs := #[.string (⟨#[]⟩ : ByteArray)]) (t := 38) ?hr ?_; (case hd => rfl); (case hg => rfl); (case hr => first | (go_simp; done) | (go_simp; rfl))
          intro gb510 hg w60 hbox hb
          have n0_ := am (Kd.R_below (rr HO_11) hb)
          have n1_ := am (blk_below (g := gb486) (o := .cells #[.string t484] 38 (0, 0)) (rk BK486) hb)
          have n2_ := am (blk_below (g := gb491) (o := .cells #[.string t487] 38 (0, 0)) (rk BK491) hb)
          have n3_ := am (blk_below (g := gb496) (o := .cells #[.string t492] 38 (0, 0)) (rk BK496) hb)
          have n4_ := am (blk_below (g := gb502) (o := .cells #[.string x503000_2] 38 (0, 0)) (rk BK502) hb)
          have n5_ := am (below_step (rb4 HB GE486 GE491 GE496 GE502) hb)
          have n6_ := am (hbox)
          have n7_ := am ((by rw [hg]; exact (below_size (rb4 HB GE486 GE491 GE496 GE502)) : w.heap.size ≤ gb510))
          have n8_ := am ((by rw [hg]; exact (below_size (rb4 HB GE486 GE491 GE496 GE502)) : w.heap.size ≤ gb510))
          have n9_ := am ((by rw [hg]; exact Nat.ne_of_lt (blk_lt (g := gb486) (o := .cells #[.string t484] 38 (0, 0)) (rk BK486)) : gb486 ≠ gb510))
          have n10_ := am ((by rw [hg]; exact Nat.ne_of_gt (blk_lt (g := gb486) (o := .cells #[.string t484] 38 (0, 0)) (rk BK486)) : gb510 ≠ gb486))
          have n11_ := am ((by rw [hg]; exact Nat.ne_of_lt (blk_lt (g := gb491) (o := .cells #[.string t487] 38 (0, 0)) (rk BK491)) : gb491 ≠ gb510))
          have n12_ := am ((by rw [hg]; exact Nat.ne_of_gt (blk_lt (g := gb491) (o := .cells #[.string t487] 38 (0, 0)) (rk BK491)) : gb510 ≠ gb491))
          have n13_ := am ((by rw [hg]; exact Nat.ne_of_lt (blk_lt (g := gb496) (o := .cells #[.string t492] 38 (0, 0)) (rk BK496)) : gb496 ≠ gb510))
          have n14_ := am ((by rw [hg]; exact Nat.ne_of_gt (blk_lt (g := gb496) (o := .cells #[.string t492] 38 (0, 0)) (rk BK496)) : gb510 ≠ gb496))
          have n15_ := am ((by rw [hg]; exact Nat.ne_of_lt (blk_lt (g := gb502) (o := .cells #[.string x503000_2] 38 (0, 0)) (rk BK502)) : gb502 ≠ gb510))
          have n16_ := am ((by rw [hg]; exact Nat.ne_of_gt (blk_lt (g := gb502) (o := .cells #[.string x503000_2] 38 (0, 0)) (rk BK502)) : gb510 ≠ gb502))
          clear HO_11
          clear BK486
          clear BK491
          clear BK496
          clear BK502
          clear HB
          have HO_11 := n0_
          have BK486 := n1_
          have BK491 := n2_
          have BK496 := n3_
          have BK502 := n4_
          have HB := n5_
          have BK510 := n6_
          have GW510 := n7_
          have GE510 := n8_
          have NB486_510 := n9_
          have NB510_486 := n10_
          have NB491_510 := n11_
          have NB510_491 := n12_
          have NB496_510 := n13_
          have NB510_496 := n14_
          have NB502_510 := n15_
          have NB510_502 := n16_
          clear n0_ n1_ n2_ n3_ n4_ n5_ n6_ n7_ n8_ n9_ n10_ n11_ n12_ n13_ n14_ n15_ n16_
          clear hb hbox hg
          refine hK.out _ _ ((blk_cell BK502.out 0).trans rfl) (fun hHeld => ?_)
          clear hK K
          refine norm_ (a' := ?_) ?_ ?_
          rotate_left
          ·show Act.put _ (some 13) _ = _
           simp only [Act.put, List.setIfInBounds_toArray, List.set_cons_zero, List.set_cons_succ, i64_w, i32_w]
           rfl
          refine one_ (i := 4) (N := some 76) (bm 11 287) rfl rfl (one_of HT_.out (by kernel_rfl)) (by decide) (fun K hK => ?_)
          refine goes_ Tryd.func26 (by kernel_rfl) rfl #[.agg #[.string x503000_2], .int .u8 (bt t501 x12_2)] (by rfl) rfl rfl (by (try simp only [List.map_toArray, List.map_cons, List.map_nil]); first | done | rfl | (simp only [List.length_drop, List.length_take]; rfl)) ?_
          with_reducible refine (impl_Feed.calls k2 x503000_2 (bt t501 x12_2) t506 t507 _ A57.out ?sideT).mono ?_
          case sideT => exact TB.below HT.out (by repeat (first | (with_reducible first | exact HB.out | apply b1 | apply b2 | apply b3 | refine below_set ?_ GE486.out | refine below_set ?_ GE491.out | refine below_set ?_ GE496.out | refine below_set ?_ GE502.out | refine below_set ?_ GE510.out) | exact HB.out))
          rintro e w61 ⟨v508, rfl, ho0, hb⟩
          refine ⟨_, rfl, ?_⟩
          have n0_ := am (Kd.R_elder' (rr HO_11) (Kd.R_base ho0) hb)
          have n1_ := am (Kd.R_lower (Kd.R_new' ho0 (Kd.R_lt (rr HO_11))) (below_size (by repeat (first | (with_reducible first | exact HB.out | apply b1 | apply b2 | apply b3 | refine below_set ?_ GE486.out | refine below_set ?_ GE491.out | refine below_set ?_ GE496.out | refine below_set ?_ GE502.out | refine below_set ?_ GE510.out) | exact HB.out))))
          have n2_ := am (blk_below (g := gb486) (o := .cells #[.string t484] 38 (0, 0)) (rk BK486) hb)
          have n3_ := am (blk_below (g := gb491) (o := .cells #[.string t487] 38 (0, 0)) (rk BK491) hb)
          have n4_ := am (blk_below (g := gb496) (o := .cells #[.string t492] 38 (0, 0)) (rk BK496) hb)
          have n5_ := am (blk_below (g := gb502) (o := .cells #[.string x503000_2] 38 (0, 0)) (rk BK502) hb)
          have n6_ := am (blk_below (g := gb510) (o := .cells #[.string (⟨#[]⟩ : ByteArray)] 38 (0, 0)) (rk BK510) hb)
          have n7_ := am (below_step (by repeat (first | (with_reducible first | exact HB.out | apply b1 | apply b2 | apply b3 | refine below_set ?_ GE486.out | refine below_set ?_ GE491.out | refine below_set ?_ GE496.out | refine below_set ?_ GE502.out | refine below_set ?_ GE510.out) | exact HB.out)) hb)
          clear HO_11
          clear BK486
          clear BK491
          clear BK496
          clear BK502
          clear BK510
          clear HB
          have HO_11 := n0_
          have HO509 := n1_
          have BK486 := n2_
          have BK491 := n3_
          have BK496 := n4_
          have BK502 := n5_
          have BK510 := n6_
          have HB := n7_
          clear n0_ n1_ n2_ n3_ n4_ n5_ n6_ n7_
          (try clear hb)
          (try clear hb2)
          (try clear hk)
          (try clear hi)
          (try clear ho0)
          refine hK.out _ _ ((blk_cell BK502.out 0).trans rfl) (fun hHeld => ?_)
          clear hK K
          refine norm_ (a' := ?_) ?_ ?_
          rotate_left
          ·show Act.put _ (some 76) _ = _
           simp only [Act.put, List.setIfInBounds_toArray, List.set_cons_zero, List.set_cons_succ, i64_w, i32_w]
           rfl
          refine pu_ 5 71 (bm 11 319) HT_.out ?_
          refine pu_ 6 77 (bm 11 383) HT_.out ?_
          refine pu_ 7 78 (bm 11 511) HT_.out ?_
          exact norm_ (by simp only [putAll, Act.put, List.setIfInBounds_toArray, List.set_cons_zero, List.set_cons_succ]) (hCont (v508, gb510) _ ⟨hHeld, (by (with_reducible repeat (first | apply r1 | apply r2 | apply r3)); exact Kd.R_mono HO509.out (fun _ hk => hk.2)), (by (with_reducible repeat (first | apply r1 | apply r2 | apply r3)); exact Kd.R_mono HO_11.out (fun _ hk => hk.2)), (rk BK486), (rk BK491), (rk BK496), (rk BK502), (rk BK510), GW510.out, GE510.out, NB486_510.out, NB510_486.out, NB491_510.out, NB510_491.out, NB496_510.out, NB510_496.out, NB502_510.out, NB510_502.out, (by repeat (first | (with_reducible first | exact HB.out | apply b1 | apply b2 | apply b3 | refine below_set ?_ GE486.out | refine below_set ?_ GE491.out | refine below_set ?_ GE496.out | refine below_set ?_ GE502.out | refine below_set ?_ GE510.out) | exact HB.out))⟩)
        rintro ⟨v508, gb510⟩ w62 ⟨hS_, h0_, h1_, h2_, h3_, h4_, h5_, h6_, h7_, h8_, h9_, h10_, h11_, h12_, h13_, h14_, h15_, h16_, h17_⟩
        have n0_ : Aside0 (Kd.R (Kd.int .i64) 2 w62 w.heap.size (fun k_ => some k_ ≠ (u11 : Value).ownBlock) v508 t507) := ⟨h0_⟩
        have n1_ : Aside0 (Kd.R (Kd.int .i64) 2 w62 w.heap.size (fun k_ => some k_ ≠ (v508 : Value).ownBlock) u11 x11_2) := ⟨h1_⟩
        have n2_ : Aside0 (w62.heap[gb486]? = some (.cells #[.string t484] 38 (0, 0))) := ⟨h2_⟩
        have n3_ : Aside0 (w62.heap[gb491]? = some (.cells #[.string t487] 38 (0, 0))) := ⟨h3_⟩
        have n4_ : Aside0 (w62.heap[gb496]? = some (.cells #[.string t492] 38 (0, 0))) := ⟨h4_⟩
        have n5_ : Aside0 (w62.heap[gb502]? = some (.cells #[.string x503000_2] 38 (0, 0))) := ⟨h5_⟩
        have n6_ : Aside0 (w62.heap[gb510]? = some (.cells #[.string (⟨#[]⟩ : ByteArray)] 38 (0, 0))) := ⟨h6_⟩
        have n7_ : Aside0 (w.heap.size ≤ gb510) := ⟨h7_⟩
        have n8_ : Aside0 (w.heap.size ≤ gb510) := ⟨h8_⟩
        have n9_ : Aside0 (gb486 ≠ gb510) := ⟨h9_⟩
        have n10_ : Aside0 (gb510 ≠ gb486) := ⟨h10_⟩
        have n11_ : Aside0 (gb491 ≠ gb510) := ⟨h11_⟩
        have n12_ : Aside0 (gb510 ≠ gb491) := ⟨h12_⟩
        have n13_ : Aside0 (gb496 ≠ gb510) := ⟨h13_⟩
        have n14_ : Aside0 (gb510 ≠ gb496) := ⟨h14_⟩
        have n15_ : Aside0 (gb502 ≠ gb510) := ⟨h15_⟩
        have n16_ : Aside0 (gb510 ≠ gb502) := ⟨h16_⟩
        have n17_ : Aside0 (Below w.heap.size w w62) := ⟨h17_⟩
        clear HO_11
        clear BK486
        clear BK491
        clear BK496
        clear BK502
        clear HB
        clear h0_ h1_ h2_ h3_ h4_ h5_ h6_ h7_ h8_ h9_ h10_ h11_ h12_ h13_ h14_ h15_ h16_ h17_
        have HO509 := n0_
        have HO_11 := n1_
        have BK486 := n2_
        have BK491 := n3_
        have BK496 := n4_
        have BK502 := n5_
        have BK510 := n6_
        have GW510 := n7_
        have GE510 := n8_
        have NB486_510 := n9_
        have NB510_486 := n10_
        have NB491_510 := n11_
        have NB510_491 := n12_
        have NB496_510 := n13_
        have NB510_496 := n14_
        have NB502_510 := n15_
        have NB510_502 := n16_
        have HB := n17_
        clear n0_ n1_ n2_ n3_ n4_ n5_ n6_ n7_ n8_ n9_ n10_ n11_ n12_ n13_ n14_ n15_ n16_ n17_
        have hHeld : w62.cell? ⟨gb502, 0, none⟩ = some (.string x503000_2) := hS_
        refine norm_ (a' := ?_) ?_ ?_
        rotate_left
        ·simp only [putAll, Act.put, List.setIfInBounds_toArray, List.set_cons_zero, List.set_cons_succ]
         rfl
        refine one_ (i := 9) (N := none) (bm 11 1023) rfl rfl (one_of HT_.out (by kernel_rfl)) (by decide) (fun K hK => ?_)
        have hs63 : w62.cell? ⟨gb510, 0, none⟩ = some (.string (⟨#[]⟩ : ByteArray)) := (blk_cell BK510.out 0).trans rfl
        have hfs63 := blk_frozen BK510.out 0
        have hns63_0 := NB486_510.out
        have hns63_1 := NB491_510.out
        have hns63_2 := NB496_510.out
        have hns63_3 := NB502_510.out
        have hms63_0 := NB510_486.out
        have hms63_1 := NB510_491.out
        have hms63_2 := NB510_496.out
        have hms63_3 := NB510_502.out
        refine skip_ (w1 := ?_) (by rfl) rfl ?_ ?_
        rotate_left
        ·go_simp
         rfl
        refine hK.out _ _ (((cell_far (p := ⟨gb510, _, none⟩) NB502_510.out _).trans (hHeld))) (fun hHeld => ?_)
        clear hK K
        refine pu_ 10 14 (bm 11 2047) HT_.out ?_
        refine done_ (done_of HT_.out (by kernel_rfl)) ?_
        have hnb64 := NB510_486.out
        have hnc64 := NB486_510.out
        have hnb65 := NB510_491.out
        have hnc65 := NB491_510.out
        have hnb66 := NB510_496.out
        have hnc66 := NB496_510.out
        have hnb67 := NB510_502.out
        have hnc67 := NB502_510.out
        have hcz68_0 : w62.cell? ⟨gb510, 0, none⟩ = some (.string (⟨#[]⟩ : ByteArray)) := (blk_cell BK510.out 0).trans rfl
        have hfz68_0 := blk_frozen BK510.out 0
        have hnb69 := NB502_486.out
        have hnc69 := NB486_502.out
        have hnb70 := NB502_491.out
        have hnc70 := NB491_502.out
        have hnb71 := NB502_496.out
        have hnc71 := NB496_502.out
        have hcz72_0 : w62.cell? ⟨gb502, 0, none⟩ = some (.string x503000_2) := (blk_cell BK502.out 0).trans rfl
        have hfz72_0 := blk_frozen BK502.out 0
        obtain ⟨Ao74, co74, eo74⟩ := Kd.R_slice HO509.out
        subst eo74
        try go_wp2_with (first | ((with_reducible refine gate_builtin (b := .append) (xs := #[.tmp 80, .tmp 81]) rfl ?_); (try (refine gate_guard (by rfl) ?_; dsimp only)); at_builtin; refine Kd.R_append_rows (Kd.int .i64) (w0 := w) w.heap.size rfl (.tmp 80) (.tmp 81) 26 2 (.int .i64 0) 8 rfl Tryd.underlying26 info2 rfl (by decide) (by omega) u11 x11_2 t507 _ _ _ (fun k_ => some k_ ≠ (.slice Ao74 t507.length co74 : Value).ownBlock) (fun _ => False) rfl rfl ?aO ?aR (fun _ _ h => h) (fun _ h => h.elim) ?aF ?aB ?aS ?aL ?_; (case aR => refine (Kd.R_reads' (e := 2) (base := w.heap.size) (ok := fun k_ => some k_ ≠ (u11 : Value).ownBlock) (n := t507.length) (c := co74) ?_).2.2; exact (by (with_reducible repeat (first | apply r1 | apply r2 | apply r3)); exact (Kd.R_mono (Kd.R_mono (Kd.R_far (p := ⟨gb502, 0, none⟩) (Kd.R_far (p := ⟨gb510, 0, none⟩) (Kd.R_types (Kd.R_types HO509.out BK510.out (by decide)) BK502.out (by decide)) (fun _ hk => hk.1.2) (.string t506)) (fun _ hk => hk.2) (.string t506)) (fun _ h_ => h_.1)) (fun _ h_ => h_.1)))); (case aB => exact (by repeat (first | (with_reducible first | exact HB.out | apply b1 | apply b2 | apply b3 | refine below_set ?_ GE486.out | refine below_set ?_ GE491.out | refine below_set ?_ GE496.out | refine below_set ?_ GE502.out | refine below_set ?_ GE510.out) | exact HB.out))); (case aF => exact (fun k_ hk => Kd.fresh' (Kd.R_lt (by (with_reducible repeat (first | apply r1 | apply r2 | apply r3)); exact (Kd.R_mono (Kd.R_mono (Kd.R_far (p := ⟨gb502, 0, none⟩) (Kd.R_far (p := ⟨gb510, 0, none⟩) (Kd.R_types (Kd.R_types HO509.out BK510.out (by decide)) BK502.out (by decide)) (fun _ hk => hk.1.2) (.string t506)) (fun _ hk => hk.2) (.string t506)) (fun _ h_ => h_.1)) (fun _ h_ => h_.1)))) k_ hk)); (case aO => exact (by (with_reducible repeat (first | apply r1 | apply r2 | apply r3)); exact Kd.R_mono (Kd.R_far (p := ⟨gb502, 0, none⟩) (Kd.R_far (p := ⟨gb510, 0, none⟩) (Kd.R_types (Kd.R_types HO_11.out BK510.out (by decide)) BK502.out (by decide)) (fun _ hk => hk.1.2) (.string t506)) (fun _ hk => hk.2) (.string t506)) (fun _ hk => hk.1.1))); (case aS => exact (below_size (by repeat (first | (with_reducible first | exact HB.out | apply b1 | apply b2 | apply b3 | refine below_set ?_ GE486.out | refine below_set ?_ GE491.out | refine below_set ?_ GE496.out | refine below_set ?_ GE502.out | refine below_set ?_ GE510.out) | exact HB.out)))); (case aL => have := LMc58.out; omega); intro v512 w73 ho hb hg hat; rw [← Ny511.out] at ho; have n0_ := am (blk_grown (g := gb486) (o := .cells #[.string t484] 38 (0, 0)) (by (with_reducible repeat (first | apply k1 | apply k2 | apply k3)); refine blk_far ?_ NB486_502.out _; (with_reducible repeat (first | apply k1 | apply k2 | apply k3)); refine blk_far ?_ NB486_510.out _; (with_reducible repeat (first | apply k1 | apply k2 | apply k3)); exact BK486.out) hg (Kd.R_ne HO_11.out BK486.out (by decide))); have n1_ := am (blk_grown (g := gb491) (o := .cells #[.string t487] 38 (0, 0)) (by (with_reducible repeat (first | apply k1 | apply k2 | apply k3)); refine blk_far ?_ NB491_502.out _; (with_reducible repeat (first | apply k1 | apply k2 | apply k3)); refine blk_far ?_ NB491_510.out _; (with_reducible repeat (first | apply k1 | apply k2 | apply k3)); exact BK491.out) hg (Kd.R_ne HO_11.out BK491.out (by decide))); have n2_ := am (blk_grown (g := gb496) (o := .cells #[.string t492] 38 (0, 0)) (by (with_reducible repeat (first | apply k1 | apply k2 | apply k3)); refine blk_far ?_ NB496_502.out _; (with_reducible repeat (first | apply k1 | apply k2 | apply k3)); refine blk_far ?_ NB496_510.out _; (with_reducible repeat (first | apply k1 | apply k2 | apply k3)); exact BK496.out) hg (Kd.R_ne HO_11.out BK496.out (by decide))); have n3_ := am (blk_grown (g := gb502) (o := .cells #[.string t506] 38 (0, 0)) (by (with_reducible repeat (first | apply k1 | apply k2 | apply k3)); refine blk_put (cs := #[.string x503000_2]) ?_ 0 _ rfl; (with_reducible repeat (first | apply k1 | apply k2 | apply k3)); refine blk_far ?_ NB502_510.out _; (with_reducible repeat (first | apply k1 | apply k2 | apply k3)); exact BK502.out) hg (Kd.R_ne HO_11.out BK502.out (by decide))); have n4_ := am (Kd.R_after (ok := (fun _ => True)) (by (with_reducible repeat (first | apply r1 | apply r2 | apply r3)); exact Kd.R_mono (Kd.R_far (p := ⟨gb502, 0, none⟩) (Kd.R_far (p := ⟨gb510, 0, none⟩) (Kd.R_types (Kd.R_types HO509.out BK510.out (by decide)) BK502.out (by decide)) (fun _ hk => hk.1.2) (.string t506)) (fun _ hk => hk.2) (.string t506)) (fun _ hk => ⟨trivial, hk.1.1⟩)) hg hat); have n5_ := am (blk_grown (g := gb510) (o := .cells #[.string t506] 38 (0, 0)) (by (with_reducible repeat (first | apply k1 | apply k2 | apply k3)); refine blk_far ?_ NB510_502.out _; (with_reducible repeat (first | apply k1 | apply k2 | apply k3)); refine blk_put (cs := #[.string (⟨#[]⟩ : ByteArray)]) ?_ 0 _ rfl; (with_reducible repeat (first | apply k1 | apply k2 | apply k3)); exact BK510.out) hg (Kd.R_ne HO_11.out BK510.out (by decide))); have n6_ := am (hb); have n7_ := am (ho); clear BK486; clear BK491; clear BK496; clear BK502; clear HO509; clear BK510; clear HB; clear HO_11; have BK486 := n0_; have BK491 := n1_; have BK496 := n2_; have BK502 := n3_; have HO509 := n4_; have BK510 := n5_; have HB := n6_; have HO513 := n7_; clear n0_ n1_ n2_ n3_ n4_ n5_ n6_ n7_; clear ho hb hg hat))
        go_roundg k2
        case measure => have := HJ6.out; have := HK2.out; omega
        case rel => exact ⟨(y511), (wrap64 (x12_2 + 1)), (t506), (by first | rfl | (simp; done) | (simp [*]; done)), H', ⟨by have := HJ6.out; have := HK2.out; omega⟩, ⟨by (with_reducible repeat (first | apply r1 | apply r2 | apply r3)); exact Kd.R_mono HO513.out (fun _ hk => trivial)⟩, ⟨rk BK486⟩, ⟨rk BK491⟩, ⟨rk BK496⟩, ⟨rk BK502⟩, ⟨by repeat (first | (with_reducible first | exact HB.out | apply b1 | apply b2 | apply b3 | refine below_set ?_ GE486.out | refine below_set ?_ GE491.out | refine below_set ?_ GE496.out | refine below_set ?_ GE502.out | refine below_set ?_ GE510.out) | exact HB.out)⟩⟩

/-- THE ONE PURE STATEMENT of laws_FnFed: yours. -/
def laws_FnFed.Pure : Prop := ∀ (l0 : List Int), l0.length ≤ maxLen → l0.length * 1 ≤ 140737488351232 → (∀ x ∈ l0, (Lit.int .u8 x).wf = true) → ∃ k, laws_FnFed.f k l0 = some true

end Go.Proofs.YtfhkpneffmcdbaaDoor.QB
