/- Contracts of Go functions that laws of this seat reach: each Lean function answers as its Go function does. No condition. Written by wip/tools/inj.py, over the kit's print. -/
import Derived.Test.YtfhkpneffmcdbaaQDx0
import Derived.Test.YtfhkpneffmcdbaaQDx2
import Derived.Test.YtfhkpneffmcdbaaQDx7
import Derived.Test.YtfhkpneffmcdbaaQDx10
import Derived.Test.YtfhkpneffmcdbaaQDx14
import Derived.Test.YtfhkpneffmcdbaaQDx20
import Derived.Test.YtfhkpneffmcdbaaQDx23
import Derived.Test.YtfhkpneffmcdbaaQDx25
import Derived.Test.YtfhkpneffmcdbaaQDx28
namespace Go.Proofs.Ytfhkpneffmcdbaa.QD
open Go.RowKit Go.Proofs.YtfhkpneffmcdbaaW.PrintWords Go.Proofs.YtfhkpneffmcdbaaW.PrintLast Go.Proofs.YtfhkpneffmcdbaaW.PrintMore
attribute [local go_sem] max2_int min2_int max_two min_two max_three min_three max_four min_four   -- for this text's walks alone
set_option linter.unusedVariables false
set_option linter.unusedSimpArgs false

attribute [local go_sem high] eqA40
/-! ### laws_FnMoved: function 5 -/
mutual
def laws_FnMoved.j0 : Nat → List (S40) → Int → Int → List (S40) → List (S40) → Bool → Int → Int → Bool → Bool → Bool → Option (Bool)
 | 0, _, _, _, _, _, _, _, _, _, _, _ => none
 | k + 1, x3, x4, x5, x7, x8, x48, x795000, x795001, x795002, x795003, x795004 => if x48 = true then (some false) else (if (x7.length : Int) = 0 then (some ((x8.length : Int) == 0)) else ((impl_RowOk.f k x7).bind fun t809 => (if t809 = true then ((impl_RowOk.f k x8).bind fun t810 => (if t810 = true then (if (x7.length : Int) = (x3.length : Int) then (laws_FnMoved.j1 k x3 x4 x5 x7 ((x8.length : Int) != (x3.length : Int)) x795000 x795001 x795002 x795003 x795004) else (laws_FnMoved.j1 k x3 x4 x5 x7 true x795000 x795001 x795002 x795003 x795004)) else (laws_FnMoved.j1 k x3 x4 x5 x7 true x795000 x795001 x795002 x795003 x795004))) else (laws_FnMoved.j1 k x3 x4 x5 x7 true x795000 x795001 x795002 x795003 x795004))))
def laws_FnMoved.j1 : Nat → List (S40) → Int → Int → List (S40) → Bool → Int → Int → Bool → Bool → Bool → Option (Bool)
 | 0, _, _, _, _, _, _, _, _, _, _ => none
 | k + 1, x3, x4, x5, x7, x76, x795000, x795001, x795002, x795003, x795004 => if x76 = true then (some false) else (laws_FnMoved.l0 k x3 x4 x5 x7 (x3.length : Int) x4 x795000 x795001 x795002 x795003 x795004)
def laws_FnMoved.l0 : Nat → List (S40) → Int → Int → List (S40) → Int → Int → Int → Int → Bool → Bool → Bool → Option (Bool)
 | 0, _, _, _, _, _, _, _, _, _, _, _ => none
 | k + 1, x3, x4, x5, x7, x9, x10, x795000, x795001, x795002, x795003, x795004 => if x10 < (wrap64 (x4 + x5)) then (laws_FnMoved.j3 k x3 x4 x5 x7 x9 x10 (decide (x10 < x9)) x795000 x795001 x795002 x795003 x795004) else (laws_FnMoved.j3 k x3 x4 x5 x7 x9 x10 false x795000 x795001 x795002 x795003 x795004)
def laws_FnMoved.j3 : Nat → List (S40) → Int → Int → List (S40) → Int → Int → Bool → Int → Int → Bool → Bool → Bool → Option (Bool)
 | 0, _, _, _, _, _, _, _, _, _, _, _, _ => none
 | k + 1, x3, x4, x5, x7, x9, x10, x89, x795000, x795001, x795002, x795003, x795004 => if x89 = true then (if 0 ≤ x10 then (if x10 < (x7.length : Int) then (if (!(((rd_T40 x7 x10).f0) == 32) || ((!(((rd_T40 x7 x10).f1.f0) == x795000) || (!(((rd_T40 x7 x10).f1.f1) == x795001) || (!(((rd_T40 x7 x10).f1.f2) == x795002) || (!(((rd_T40 x7 x10).f1.f3) == x795003) || (!(((rd_T40 x7 x10).f1.f4) == x795004)))))) || (!(((rd_T40 x7 x10).f2) == 0)))) = true then (some false) else (laws_FnMoved.l0 k x3 x4 x5 x7 x9 (wrap64 (x10 + 1)) x795000 x795001 x795002 x795003 x795004)) else (none)) else (none)) else ((impl_Pulled.f k x7 x4 x5 x795000 x795001 x795002 x795003 x795004).bind fun t812 => (if (wrap64 (x4 + x5)) ≥ x9 then (laws_FnMoved.j4 k x3 x4 x5 x9 t812 true x795000 x795001 x795002 x795003 x795004) else (if 0 ≤ x4 then (if x4 < (x3.length : Int) then (if ((rd_T40 x3 x4).f2) = 2 then (laws_FnMoved.j4 k x3 x4 x5 x9 t812 true x795000 x795001 x795002 x795003 x795004) else (if 0 ≤ (wrap64 (x9 - 1)) then (if (wrap64 (x9 - 1)) < (x7.length : Int) then (if 0 ≤ (wrap64 ((wrap64 (x9 - 1)) - x5)) then (if (wrap64 ((wrap64 (x9 - 1)) - x5)) < (x3.length : Int) then (laws_FnMoved.j4 k x3 x4 x5 x9 t812 (((rd_T40 x7 (wrap64 (x9 - 1))).f2) != ((rd_T40 x3 (wrap64 ((wrap64 (x9 - 1)) - x5))).f2)) x795000 x795001 x795002 x795003 x795004) else (none)) else (none)) else (none)) else (none))) else (none)) else (none))))
def laws_FnMoved.j4 : Nat → List (S40) → Int → Int → Int → List (S40) → Bool → Int → Int → Bool → Bool → Bool → Option (Bool)
 | 0, _, _, _, _, _, _, _, _, _, _, _ => none
 | k + 1, x3, x4, x5, x9, x11, x133, x795000, x795001, x795002, x795003, x795004 => if x133 = true then ((impl_RowOk.f k x11).bind fun t818 => (some t818)) else (if 0 ≤ (wrap64 (x9 - x5)) then (if (wrap64 (x9 - x5)) ≤ (x11.length : Int) then (if (wrap64 (x9 - x5)) ≤ (x3.length : Int) then ((laws_likeRow.f k (x11.take ((wrap64 (x9 - x5)) : Int).toNat) (x3.take ((wrap64 (x9 - x5)) : Int).toNat)).bind fun t827 => (if t827 = true then ((impl_Pushed.f k x3 x4 0 x795000 x795001 x795002 x795003 x795004).bind fun t828 => ((laws_likeRow.f k t828 x3).bind fun t831 => (some t831))) else (some false))) else (none)) else (none)) else (none))
end
def laws_FnMoved.f (k : Nat) (l0 : List Int) : Option (Bool) := (laws_big.f l0).bind fun t783 => (if t783 = true then (some true) else ((spec_DrawPushed.f k l0).bind fun bt784 => ((impl_Pushed.f k bt784.1 bt784.2.1 bt784.2.2.1 bt784.2.2.2.1 bt784.2.2.2.2.1 bt784.2.2.2.2.2.1 bt784.2.2.2.2.2.2.1 bt784.2.2.2.2.2.2.2).bind fun t795 => ((impl_Pulled.f k bt784.1 bt784.2.1 bt784.2.2.1 bt784.2.2.2.1 bt784.2.2.2.2.1 bt784.2.2.2.2.2.1 bt784.2.2.2.2.2.2.1 bt784.2.2.2.2.2.2.2).bind fun t798 => ((spec_Pushed.f k bt784.1 bt784.2.1 bt784.2.2.1 bt784.2.2.2.1 bt784.2.2.2.2.1 bt784.2.2.2.2.2.1 bt784.2.2.2.2.2.2.1 bt784.2.2.2.2.2.2.2).bind fun t801 => ((laws_likeRow.f k t795 t801).bind fun t804 => (if t804 = true then ((spec_Pulled.f k bt784.1 bt784.2.1 bt784.2.2.1 bt784.2.2.2.1 bt784.2.2.2.2.1 bt784.2.2.2.2.2.1 bt784.2.2.2.2.2.2.1 bt784.2.2.2.2.2.2.2).bind fun t805 => ((laws_likeRow.f k t798 t805).bind fun t808 => (laws_FnMoved.j0 k bt784.1 bt784.2.1 bt784.2.2.1 t795 t798 (!t808) bt784.2.2.2.1 bt784.2.2.2.2.1 bt784.2.2.2.2.2.1 bt784.2.2.2.2.2.2.1 bt784.2.2.2.2.2.2.2))) else (laws_FnMoved.j0 k bt784.1 bt784.2.1 bt784.2.2.1 t795 t798 true bt784.2.2.2.1 bt784.2.2.2.2.1 bt784.2.2.2.2.2.1 bt784.2.2.2.2.2.2.1 bt784.2.2.2.2.2.2.2))))))))
theorem laws_FnMoved.mono_l : ∀ k, (∀ y0 y1 y2 y3 y4 y5 y6 y7 y8 y9 y10, LeO (laws_FnMoved.j0 k y0 y1 y2 y3 y4 y5 y6 y7 y8 y9 y10) (laws_FnMoved.j0 (k + 1) y0 y1 y2 y3 y4 y5 y6 y7 y8 y9 y10)) ∧ (∀ y0 y1 y2 y3 y4 y5 y6 y7 y8 y9, LeO (laws_FnMoved.j1 k y0 y1 y2 y3 y4 y5 y6 y7 y8 y9) (laws_FnMoved.j1 (k + 1) y0 y1 y2 y3 y4 y5 y6 y7 y8 y9)) ∧ (∀ y0 y1 y2 y3 y4 y5 y6 y7 y8 y9 y10, LeO (laws_FnMoved.l0 k y0 y1 y2 y3 y4 y5 y6 y7 y8 y9 y10) (laws_FnMoved.l0 (k + 1) y0 y1 y2 y3 y4 y5 y6 y7 y8 y9 y10)) ∧ (∀ y0 y1 y2 y3 y4 y5 y6 y7 y8 y9 y10 y11, LeO (laws_FnMoved.j3 k y0 y1 y2 y3 y4 y5 y6 y7 y8 y9 y10 y11) (laws_FnMoved.j3 (k + 1) y0 y1 y2 y3 y4 y5 y6 y7 y8 y9 y10 y11)) ∧ (∀ y0 y1 y2 y3 y4 y5 y6 y7 y8 y9 y10, LeO (laws_FnMoved.j4 k y0 y1 y2 y3 y4 y5 y6 y7 y8 y9 y10) (laws_FnMoved.j4 (k + 1) y0 y1 y2 y3 y4 y5 y6 y7 y8 y9 y10))
 | 0 => ⟨fun _ _ _ _ _ _ _ _ _ _ _ r h => by simp [laws_FnMoved.j0] at h, fun _ _ _ _ _ _ _ _ _ _ r h => by simp [laws_FnMoved.j1] at h, fun _ _ _ _ _ _ _ _ _ _ _ r h => by simp [laws_FnMoved.l0] at h, fun _ _ _ _ _ _ _ _ _ _ _ _ r h => by simp [laws_FnMoved.j3] at h, fun _ _ _ _ _ _ _ _ _ _ _ r h => by simp [laws_FnMoved.j4] at h⟩
 | k + 1 => by
  obtain ⟨ih0, ih1, ih2, ih3, ih4⟩ := laws_FnMoved.mono_l k
  refine ⟨?_, ?_, ?_, ?_, ?_⟩
  ·intro y0 y1 y2 y3 y4 y5 y6 y7 y8 y9 y10
   unfold laws_FnMoved.j0
   repeat' first
   | (with_reducible exact ih0 _ _ _ _ _ _ _ _ _ _ _)
   | (with_reducible exact ih1 _ _ _ _ _ _ _ _ _ _)
   | (with_reducible exact ih2 _ _ _ _ _ _ _ _ _ _ _)
   | (with_reducible exact ih3 _ _ _ _ _ _ _ _ _ _ _ _)
   | (with_reducible exact ih4 _ _ _ _ _ _ _ _ _ _ _)
   | (with_reducible exact impl_Pulled.mono _ _ _ _ _ _ _ _ _)
   | (with_reducible exact impl_Pushed.mono _ _ _ _ _ _ _ _ _)
   | (with_reducible exact impl_RowOk.mono _ _)
   | (with_reducible exact laws_likeRow.mono _ _ _)
   | (with_reducible exact spec_DrawPushed.mono _ _)
   | (with_reducible exact spec_Pulled.mono _ _ _ _ _ _ _ _ _)
   | (with_reducible exact spec_Pushed.mono _ _ _ _ _ _ _ _ _)
   | (with_reducible exact LeO.refl _)
   | (with_reducible exact LeO.none _)
   | (with_reducible refine LeO.ite ?_ ?_)
   | (with_reducible refine LeO.bind ?_ (fun _ => ?_))
  ·intro y0 y1 y2 y3 y4 y5 y6 y7 y8 y9
   unfold laws_FnMoved.j1
   repeat' first
   | (with_reducible exact ih0 _ _ _ _ _ _ _ _ _ _ _)
   | (with_reducible exact ih1 _ _ _ _ _ _ _ _ _ _)
   | (with_reducible exact ih2 _ _ _ _ _ _ _ _ _ _ _)
   | (with_reducible exact ih3 _ _ _ _ _ _ _ _ _ _ _ _)
   | (with_reducible exact ih4 _ _ _ _ _ _ _ _ _ _ _)
   | (with_reducible exact impl_Pulled.mono _ _ _ _ _ _ _ _ _)
   | (with_reducible exact impl_Pushed.mono _ _ _ _ _ _ _ _ _)
   | (with_reducible exact impl_RowOk.mono _ _)
   | (with_reducible exact laws_likeRow.mono _ _ _)
   | (with_reducible exact spec_DrawPushed.mono _ _)
   | (with_reducible exact spec_Pulled.mono _ _ _ _ _ _ _ _ _)
   | (with_reducible exact spec_Pushed.mono _ _ _ _ _ _ _ _ _)
   | (with_reducible exact LeO.refl _)
   | (with_reducible exact LeO.none _)
   | (with_reducible refine LeO.ite ?_ ?_)
   | (with_reducible refine LeO.bind ?_ (fun _ => ?_))
  ·intro y0 y1 y2 y3 y4 y5 y6 y7 y8 y9 y10
   unfold laws_FnMoved.l0
   repeat' first
   | (with_reducible exact ih0 _ _ _ _ _ _ _ _ _ _ _)
   | (with_reducible exact ih1 _ _ _ _ _ _ _ _ _ _)
   | (with_reducible exact ih2 _ _ _ _ _ _ _ _ _ _ _)
   | (with_reducible exact ih3 _ _ _ _ _ _ _ _ _ _ _ _)
   | (with_reducible exact ih4 _ _ _ _ _ _ _ _ _ _ _)
   | (with_reducible exact impl_Pulled.mono _ _ _ _ _ _ _ _ _)
   | (with_reducible exact impl_Pushed.mono _ _ _ _ _ _ _ _ _)
   | (with_reducible exact impl_RowOk.mono _ _)
   | (with_reducible exact laws_likeRow.mono _ _ _)
   | (with_reducible exact spec_DrawPushed.mono _ _)
   | (with_reducible exact spec_Pulled.mono _ _ _ _ _ _ _ _ _)
   | (with_reducible exact spec_Pushed.mono _ _ _ _ _ _ _ _ _)
   | (with_reducible exact LeO.refl _)
   | (with_reducible exact LeO.none _)
   | (with_reducible refine LeO.ite ?_ ?_)
   | (with_reducible refine LeO.bind ?_ (fun _ => ?_))
  ·intro y0 y1 y2 y3 y4 y5 y6 y7 y8 y9 y10 y11
   unfold laws_FnMoved.j3
   repeat' first
   | (with_reducible exact ih0 _ _ _ _ _ _ _ _ _ _ _)
   | (with_reducible exact ih1 _ _ _ _ _ _ _ _ _ _)
   | (with_reducible exact ih2 _ _ _ _ _ _ _ _ _ _ _)
   | (with_reducible exact ih3 _ _ _ _ _ _ _ _ _ _ _ _)
   | (with_reducible exact ih4 _ _ _ _ _ _ _ _ _ _ _)
   | (with_reducible exact impl_Pulled.mono _ _ _ _ _ _ _ _ _)
   | (with_reducible exact impl_Pushed.mono _ _ _ _ _ _ _ _ _)
   | (with_reducible exact impl_RowOk.mono _ _)
   | (with_reducible exact laws_likeRow.mono _ _ _)
   | (with_reducible exact spec_DrawPushed.mono _ _)
   | (with_reducible exact spec_Pulled.mono _ _ _ _ _ _ _ _ _)
   | (with_reducible exact spec_Pushed.mono _ _ _ _ _ _ _ _ _)
   | (with_reducible exact LeO.refl _)
   | (with_reducible exact LeO.none _)
   | (with_reducible refine LeO.ite ?_ ?_)
   | (with_reducible refine LeO.bind ?_ (fun _ => ?_))
  ·intro y0 y1 y2 y3 y4 y5 y6 y7 y8 y9 y10
   unfold laws_FnMoved.j4
   repeat' first
   | (with_reducible exact ih0 _ _ _ _ _ _ _ _ _ _ _)
   | (with_reducible exact ih1 _ _ _ _ _ _ _ _ _ _)
   | (with_reducible exact ih2 _ _ _ _ _ _ _ _ _ _ _)
   | (with_reducible exact ih3 _ _ _ _ _ _ _ _ _ _ _ _)
   | (with_reducible exact ih4 _ _ _ _ _ _ _ _ _ _ _)
   | (with_reducible exact impl_Pulled.mono _ _ _ _ _ _ _ _ _)
   | (with_reducible exact impl_Pushed.mono _ _ _ _ _ _ _ _ _)
   | (with_reducible exact impl_RowOk.mono _ _)
   | (with_reducible exact laws_likeRow.mono _ _ _)
   | (with_reducible exact spec_DrawPushed.mono _ _)
   | (with_reducible exact spec_Pulled.mono _ _ _ _ _ _ _ _ _)
   | (with_reducible exact spec_Pushed.mono _ _ _ _ _ _ _ _ _)
   | (with_reducible exact LeO.refl _)
   | (with_reducible exact LeO.none _)
   | (with_reducible refine LeO.ite ?_ ?_)
   | (with_reducible refine LeO.bind ?_ (fun _ => ?_))
theorem laws_FnMoved.mono : ∀ a0 k, LeO (laws_FnMoved.f k a0) (laws_FnMoved.f (k + 1) a0) := by
 intro a0 k
 obtain ⟨ih0, ih1, ih2, ih3, ih4⟩ := laws_FnMoved.mono_l k
 unfold laws_FnMoved.f
 repeat' first
   | (with_reducible exact ih0 _ _ _ _ _ _ _ _ _ _ _)
   | (with_reducible exact ih1 _ _ _ _ _ _ _ _ _ _)
   | (with_reducible exact ih2 _ _ _ _ _ _ _ _ _ _ _)
   | (with_reducible exact ih3 _ _ _ _ _ _ _ _ _ _ _ _)
   | (with_reducible exact ih4 _ _ _ _ _ _ _ _ _ _ _)
   | (with_reducible exact impl_Pulled.mono _ _ _ _ _ _ _ _ _)
   | (with_reducible exact impl_Pushed.mono _ _ _ _ _ _ _ _ _)
   | (with_reducible exact impl_RowOk.mono _ _)
   | (with_reducible exact laws_likeRow.mono _ _ _)
   | (with_reducible exact spec_DrawPushed.mono _ _)
   | (with_reducible exact spec_Pulled.mono _ _ _ _ _ _ _ _ _)
   | (with_reducible exact spec_Pushed.mono _ _ _ _ _ _ _ _ _)
   | (with_reducible exact LeO.refl _)
   | (with_reducible exact LeO.none _)
   | (with_reducible refine LeO.ite ?_ ?_)
   | (with_reducible refine LeO.bind ?_ (fun _ => ?_))
def laws_FnMoved.T19 : Bool × List (List Nat × List Nat) := (true, [([], []), ([], []), ([0, 1], [0, 1]), ([], []), ([2, 3], [2, 3]), ([4], [4]), ([5], [5]), ([5], [5]), ([6, 7, 5], [5, 6, 7]), ([8, 5], [5, 8]), ([9, 5], [5, 9]), ([10, 5], [5, 10]), ([5, 11], [5, 11]), ([12, 5], [12]), ([13], [13]), ([13], [13]), ([15, 13], [13, 15]), ([14, 16, 13], [13, 14, 16]), ([17, 13], [13, 17]), ([18, 13], [13, 18]), ([13], [13]), ([13], [13]), ([21, 13], [13, 21]), ([13], [13]), ([22, 23, 13], [13, 22, 23]), ([20, 24, 13], [13, 20, 24]), ([25, 13], [13, 25]), ([26, 13], [13, 26]), ([19, 27, 13], [13, 19, 27]), ([13, 28], [13, 28])])
def laws_FnMoved.B19 : List Nat := [0, 0, 3, 0, 15, 31, 63, 63, 255, 511, 1023, 2047, 4095, 8191, 16383, 16383, 49151, 131071, 262143, 524287, 16383, 16383, 2113535, 16383, 14696447, 32522239, 66076671, 133185535, 268435455, 536870911]
theorem laws_FnMoved.tab19 : rtab .any (opsOf Try.f5 19) = laws_FnMoved.T19 := by kernel_rfl
theorem laws_FnMoved.bits19 : waitsOk laws_FnMoved.T19.2 laws_FnMoved.B19 = true := by kernel_rfl
def laws_FnMoved.T21 : Bool × List (List Nat × List Nat) := (true, [([], []), ([], []), ([], []), ([1, 2], [1, 2]), ([0, 3], [0, 3]), ([], []), ([], []), ([], []), ([6, 7], [6, 7]), ([5, 8], [5, 8]), ([4, 9], [4, 9]), ([10, 10], [10]), ([11], [11]), ([11], [11]), ([11], [11]), ([12, 13, 14, 11, 11], [11, 12, 13, 14]), ([11], [11]), ([15, 16, 15, 11], [11, 15, 16]), ([11, 17], [11, 17]), ([18, 17, 0, 1, 2, 3, 4, 5, 6, 7, 8, 9, 10, 11, 12, 13, 14, 15, 16, 17, 18], [18])])
def laws_FnMoved.B21 : List Nat := [0, 0, 0, 6, 15, 0, 0, 0, 192, 480, 1023, 2047, 4095, 4095, 4095, 32767, 4095, 131071, 262143, 524287]
theorem laws_FnMoved.tab21 : rtab .any (opsOf Try.f5 21) = laws_FnMoved.T21 := by kernel_rfl
theorem laws_FnMoved.bits21 : waitsOk laws_FnMoved.T21.2 laws_FnMoved.B21 = true := by kernel_rfl
set_option maxHeartbeats 8000000 in
set_option maxRecDepth 100000 in
theorem laws_FnMoved.calls (k : Nat) (A0 : Option Addr) (c0 : Nat) (l0 : List Int) (r : Bool) (w : World) (hr0 : Kd.C (Kd.int .u8) w A0 l0.length l0) (hc0 : l0.length ≤ c0) (h : laws_FnMoved.f k l0 = some r) (hT_ : r = true) :
  Calls Try.prog 5 #[.slice A0 l0.length c0] w fun e w' => e = .returned (.bool r) ∧ Below w.heap.size w w' := by
 have hu29 := Try.underlying29
 have hu40 := Try.underlying40
 have HR0 := am hr0
 have HC0 := am hc0
 clear hr0 hc0
 have HB := am (Below.refl w.heap.size w)
 have H := h
 unfold laws_FnMoved.f at H
 clear h
 replace H := Option.bind_eq_some_iff.mp H
 obtain ⟨t783, A20, H⟩ := H
 (try dsimp only at H)
 have A2 := am A20
 clear A20
 by_cases c3 : t783 = true
 ·subst c3
  have H1 : (some true) = some r := by rw [if_pos rfl] at H; exact H
  clear H
  have H := H1
  clear H1
  obtain rfl := Option.some.inj H
  go_enter Try.func5, Try.ntmps5
  go_wp2_with (first | ((with_reducible refine gate_callee (f := 18) rfl ?_); refine gl_ (some 13) Try.func18 #[.slice A0 l0.length c0] ?_; (with_reducible refine (laws_big.calls _ _ l0 true _ ?side1 ?side2 A2.out).mono ?_); (case side1 => exact rc (HR0.out)); (case side2 => exact HC0.out); rintro e w' ⟨rfl, ⟨nd, rfl⟩⟩; refine ⟨_, rfl, ?_⟩))
  go_ret
  exact ⟨by first | rfl | (simp [errW_none, errW_some] <;> rfl) | (simp [*, errW_none, errW_some] <;> rfl), by repeat (first | (with_reducible first | exact HB.out | apply b1 | apply b2 | apply b3) | exact HB.out)⟩
 ·replace c3 := Bool.eq_false_iff.mpr c3
  subst c3
  rw [if_neg (show ¬ (false = true) by decide)] at H
  replace H := Option.bind_eq_some_iff.mp H
  obtain ⟨⟨t784, t787, t788, t789, t790, t791, t792, t793⟩, A40, H⟩ := H
  (try dsimp only at H)
  have A4 := am A40
  clear A40
  replace H := Option.bind_eq_some_iff.mp H
  obtain ⟨t795, A50, H⟩ := H
  (try dsimp only at H)
  have A5 := am A50
  clear A50
  replace H := Option.bind_eq_some_iff.mp H
  obtain ⟨t798, A60, H⟩ := H
  (try dsimp only at H)
  have A6 := am A60
  clear A60
  have HC7 := am H
  clear H
  go_enter Try.func5, Try.ntmps5
  go_upto_region 6 with (first | ((with_reducible refine gate_callee (f := 18) rfl ?_); refine gl_ (some 13) Try.func18 #[.slice A0 l0.length c0] ?_; (with_reducible refine (laws_big.calls _ _ l0 false _ ?side1 ?side2 A2.out).mono ?_); (case side1 => exact rc (HR0.out)); (case side2 => exact HC0.out); rintro e w' ⟨rfl, ⟨nd, rfl⟩⟩; refine ⟨_, rfl, ?_⟩) | ((with_reducible refine gate_callee (f := 19) rfl ?_); refine gl_ (some 16) Try.func19 #[.slice A0 l0.length c0] ?_; (with_reducible refine (spec_DrawPushed.calls k _ _ l0 t784 t787 t788 t789 t790 t791 t792 t793 _ ?side1 ?side2 A4.out).mono ?_); (case side1 => exact rc (HR0.out)); (case side2 => exact HC0.out); rintro e w8 ⟨v785, rfl, ho0, hb⟩; refine ⟨_, rfl, ?_⟩; have n0_ := am (Kd.R_lower ho0 (below_size (rb HB))); have n1_ := am (below_step (rb HB) hb); clear HB; have HO786 := n0_; have HB := n1_; clear n0_ n1_; (try clear hb); (try clear hb2); (try clear hk); (try clear hi); (try clear ho0)) | ((with_reducible refine gate_dst (N := 6) rfl ?_); (try (refine gate_guard (by rfl) ?_; dsimp only)); refine box_event ?hg (N := 6) ?hd (cs := #[.int .i64 0, .int .i64 0, .bool false, .bool false, .bool false]) (t := 29) ?hr ?_; (case hd => rfl); (case hg => rfl); (case hr => first | (go_simp; done) | (go_simp; rfl)); intro gb794 hg w9 hbox hb; have n0_ := am (Kd.R_below (rr HO786) hb); have n1_ := am (below_step (rb HB) hb); have n2_ := am (hbox); have n3_ := am ((by rw [hg]; exact (below_size (rb HB)) : w.heap.size ≤ gb794)); have n4_ := am ((by rw [hg]; exact (below_size (rb HB)) : w.heap.size ≤ gb794)); clear HO786; clear HB; have HO786 := n0_; have HB := n1_; have BK794 := n2_; have GW794 := n3_; have GE794 := n4_; clear n0_ n1_ n2_ n3_ n4_; clear hb hbox hg; have hcz10_0 : w9.cell? ⟨gb794, 0, none⟩ = some (.int .i64 0) := (blk_cell BK794.out 0).trans rfl; have hcz10_1 : w9.cell? ⟨gb794, 1, none⟩ = some (.int .i64 0) := (blk_cell BK794.out 1).trans rfl; have hcz10_2 : w9.cell? ⟨gb794, 2, none⟩ = some (.bool false) := (blk_cell BK794.out 2).trans rfl; have hcz10_3 : w9.cell? ⟨gb794, 3, none⟩ = some (.bool false) := (blk_cell BK794.out 3).trans rfl; have hcz10_4 : w9.cell? ⟨gb794, 4, none⟩ = some (.bool false) := (blk_cell BK794.out 4).trans rfl; have hfz10_0 := blk_frozen BK794.out 0; have hfz10_1 := blk_frozen BK794.out 1; have hfz10_2 := blk_frozen BK794.out 2; have hfz10_3 := blk_frozen BK794.out 3; have hfz10_4 := blk_frozen BK794.out 4; obtain ⟨Ao11, co11, eo11⟩ := Kd.R_slice HO786.out; subst eo11) | ((with_reducible refine gate_callee (f := 17) rfl ?_); refine gl_ (some 25) Try.func17 #[.slice Ao11 t784.length co11, .int .i64 t787, .int .i64 t788, .agg #[.int .i64 t789, .int .i64 t790, .bool t791, .bool t792, .bool t793]] ?_; (with_reducible refine (impl_Pushed.calls k _ _ t784 t787 t788 t789 t790 t791 t792 t793 t795 _ ?side1 ?side2 A5.out).mono ?_); (case side1 => refine (Kd.R_reads' (e := 40) (base := w.heap.size) (ok := fun k_ => True) (n := t784.length) (c := co11) ?_).2.2; exact (by (with_reducible repeat (first | apply r1 | apply r2 | apply r3)); exact (Kd.R_mono (Kd.R_far (p := ⟨gb794, 4, none⟩) (Kd.R_far (p := ⟨gb794, 3, none⟩) (Kd.R_far (p := ⟨gb794, 2, none⟩) (Kd.R_far (p := ⟨gb794, 1, none⟩) (Kd.R_far (p := ⟨gb794, 0, none⟩) (Kd.R_types HO786.out BK794.out (by decide)) (fun _ hk => hk.2) (.int .i64 t789)) (fun _ hk => hk.2) (.int .i64 t790)) (fun _ hk => hk.2) (.bool t791)) (fun _ hk => hk.2) (.bool t792)) (fun _ hk => hk.2) (.bool t793)) (fun _ h_ => h_.1)))); (case side2 => exact (Kd.R_reads' HO786.out).2.1); rintro e w12 ⟨v796, rfl, ho0, hb⟩; refine ⟨_, rfl, ?_⟩; have n0_ := am (Kd.R_elder' (by (with_reducible repeat (first | apply r1 | apply r2 | apply r3)); exact (Kd.R_mono (Kd.R_far (p := ⟨gb794, 4, none⟩) (Kd.R_far (p := ⟨gb794, 3, none⟩) (Kd.R_far (p := ⟨gb794, 2, none⟩) (Kd.R_far (p := ⟨gb794, 1, none⟩) (Kd.R_far (p := ⟨gb794, 0, none⟩) (Kd.R_types HO786.out BK794.out (by decide)) (fun _ hk => hk.2) (.int .i64 t789)) (fun _ hk => hk.2) (.int .i64 t790)) (fun _ hk => hk.2) (.bool t791)) (fun _ hk => hk.2) (.bool t792)) (fun _ hk => hk.2) (.bool t793)) (fun _ h_ => h_.1))) (Kd.R_base ho0) hb); have n1_ := am (Kd.R_lower (Kd.R_new' ho0 (Kd.R_lt (by (with_reducible repeat (first | apply r1 | apply r2 | apply r3)); exact (Kd.R_mono (Kd.R_far (p := ⟨gb794, 4, none⟩) (Kd.R_far (p := ⟨gb794, 3, none⟩) (Kd.R_far (p := ⟨gb794, 2, none⟩) (Kd.R_far (p := ⟨gb794, 1, none⟩) (Kd.R_far (p := ⟨gb794, 0, none⟩) (Kd.R_types HO786.out BK794.out (by decide)) (fun _ hk => hk.2) (.int .i64 t789)) (fun _ hk => hk.2) (.int .i64 t790)) (fun _ hk => hk.2) (.bool t791)) (fun _ hk => hk.2) (.bool t792)) (fun _ hk => hk.2) (.bool t793)) (fun _ h_ => h_.1))))) (below_size (rb1 HB GE794))); have n2_ := am (blk_below (g := gb794) (o := .cells #[.int .i64 t789, .int .i64 t790, .bool t791, .bool t792, .bool t793] 29 (0, 0)) (by (with_reducible repeat (first | apply k1 | apply k2 | apply k3)); refine blk_put (cs := #[.int .i64 t789, .int .i64 t790, .bool t791, .bool t792, .bool false]) ?_ 4 _ rfl; (with_reducible repeat (first | apply k1 | apply k2 | apply k3)); refine blk_put (cs := #[.int .i64 t789, .int .i64 t790, .bool t791, .bool false, .bool false]) ?_ 3 _ rfl; (with_reducible repeat (first | apply k1 | apply k2 | apply k3)); refine blk_put (cs := #[.int .i64 t789, .int .i64 t790, .bool false, .bool false, .bool false]) ?_ 2 _ rfl; (with_reducible repeat (first | apply k1 | apply k2 | apply k3)); refine blk_put (cs := #[.int .i64 t789, .int .i64 0, .bool false, .bool false, .bool false]) ?_ 1 _ rfl; (with_reducible repeat (first | apply k1 | apply k2 | apply k3)); refine blk_put (cs := #[.int .i64 0, .int .i64 0, .bool false, .bool false, .bool false]) ?_ 0 _ rfl; (with_reducible repeat (first | apply k1 | apply k2 | apply k3)); exact BK794.out) hb); have n3_ := am (below_step (rb1 HB GE794) hb); clear HO786; clear BK794; clear HB; have HO786 := n0_; have HO797 := n1_; have BK794 := n2_; have HB := n3_; clear n0_ n1_ n2_ n3_; (try clear hb); (try clear hb2); (try clear hk); (try clear hi); (try clear ho0); have hcz13_0 : w12.cell? ⟨gb794, 0, none⟩ = some (.int .i64 t789) := (blk_cell BK794.out 0).trans rfl; have hcz13_1 : w12.cell? ⟨gb794, 1, none⟩ = some (.int .i64 t790) := (blk_cell BK794.out 1).trans rfl; have hcz13_2 : w12.cell? ⟨gb794, 2, none⟩ = some (.bool t791) := (blk_cell BK794.out 2).trans rfl; have hcz13_3 : w12.cell? ⟨gb794, 3, none⟩ = some (.bool t792) := (blk_cell BK794.out 3).trans rfl; have hcz13_4 : w12.cell? ⟨gb794, 4, none⟩ = some (.bool t793) := (blk_cell BK794.out 4).trans rfl; have hfz13_0 := blk_frozen BK794.out 0; have hfz13_1 := blk_frozen BK794.out 1; have hfz13_2 := blk_frozen BK794.out 2; have hfz13_3 := blk_frozen BK794.out 3; have hfz13_4 := blk_frozen BK794.out 4) | ((with_reducible refine gate_callee (f := 12) rfl ?_); refine gl_ (some 30) Try.func12 #[.slice Ao11 t784.length co11, .int .i64 t787, .int .i64 t788, .agg #[.int .i64 t789, .int .i64 t790, .bool t791, .bool t792, .bool t793]] ?_; (with_reducible refine (impl_Pulled.calls k _ _ t784 t787 t788 t789 t790 t791 t792 t793 t798 _ ?side1 ?side2 A6.out).mono ?_); (case side1 => repeat (first | exact (Kd.R_reads' HO786.out).2.2 | (with_reducible refine Kd.C_alloc ?_ _) | (with_reducible refine Kd.C_drewN ?_ _) | (with_reducible refine Kd.C_drew ?_))); (case side2 => exact (Kd.R_reads' HO786.out).2.1); rintro e w14 ⟨v799, rfl, ho0, hb⟩; refine ⟨_, rfl, ?_⟩; have n0_ := am (Kd.R_elder' (rr HO786) (Kd.R_base ho0) hb); have n1_ := am (Kd.R_elder' (rr HO797) (Kd.R_base ho0) hb); have n2_ := am (Kd.R_lower (Kd.R_new' (Kd.R_new' ho0 (Kd.R_lt (rr HO786))) (Kd.R_lt (rr HO797))) (below_size (rb1 HB GE794))); have n3_ := am (blk_below (g := gb794) (o := .cells #[.int .i64 t789, .int .i64 t790, .bool t791, .bool t792, .bool t793] 29 (0, 0)) (rk BK794) hb); have n4_ := am (below_step (rb1 HB GE794) hb); clear HO786; clear HO797; clear BK794; clear HB; have HO786 := n0_; have HO797 := n1_; have HO800 := n2_; have BK794 := n3_; have HB := n4_; clear n0_ n1_ n2_ n3_ n4_; (try clear hb); (try clear hb2); (try clear hk); (try clear hi); (try clear ho0)))
  (try simp only [Act.put, List.setIfInBounds_toArray, List.set_cons_zero, List.set_cons_succ])
  go_cut [48] (fun v48 wc => ∃ (kq : Nat) (x48_6 : Bool), v48 = .bool x48_6 ∧ Aside0 (laws_FnMoved.j0 kq t784 t787 t788 t795 t798 x48_6 t789 t790 t791 t792 t793 = some r) ∧ Aside0 (kq ≤ k) ∧ Aside0 (Kd.R k40 40 wc w.heap.size (fun k_ => some k_ ≠ (v796 : Value).ownBlock ∧ some k_ ≠ (v799 : Value).ownBlock) (.slice Ao11 t784.length co11) t784) ∧ Aside0 (Kd.R k40 40 wc w.heap.size (fun k_ => some k_ ≠ ((.slice Ao11 t784.length co11) : Value).ownBlock ∧ some k_ ≠ (v799 : Value).ownBlock) v796 t795) ∧ Aside0 (Kd.R k40 40 wc w.heap.size (fun k_ => some k_ ≠ ((.slice Ao11 t784.length co11) : Value).ownBlock ∧ some k_ ≠ (v796 : Value).ownBlock) v799 t798) ∧ Aside0 (wc.heap[gb794]? = some (.cells #[.int .i64 t789, .int .i64 t790, .bool t791, .bool t792, .bool t793] 29 (0, 0))) ∧ Aside0 (Below w.heap.size w wc))
  case first =>
   have H := HC7.out
   clear HC7
   replace H := Option.bind_eq_some_iff.mp H
   obtain ⟨t801, A150, H⟩ := H
   (try dsimp only at H)
   have A15 := am A150
   clear A150
   replace H := Option.bind_eq_some_iff.mp H
   obtain ⟨t804, A160, H⟩ := H
   (try dsimp only at H)
   have A16 := am A160
   clear A160
   refine em_ (p := t804 = true) (fun c17 => ?g0p) (fun c17 => ?g0n)
   case' g0p =>
    subst c17
    rw [if_pos rfl] at H
    replace H := Option.bind_eq_some_iff.mp H
    obtain ⟨t805, A180, H⟩ := H
    (try dsimp only at H)
    have A18 := am A180
    clear A180
    replace H := Option.bind_eq_some_iff.mp H
    obtain ⟨t808, A190, H⟩ := H
    (try dsimp only at H)
    have A19 := am A190
    clear A190
    have H' := am H
    clear H
    have lf3_ := trivial
   case' g0n =>
    replace c17 := Bool.eq_false_iff.mpr c17
    subst c17
    rw [if_neg (show ¬ (false = true) by decide)] at H
    have H' := am H
    clear H
    have lf4_ := trivial
   all_goals
    have hcz20_0 : w14.cell? ⟨gb794, 0, none⟩ = some (.int .i64 t789) := (blk_cell BK794.out 0).trans rfl
    have hcz20_1 : w14.cell? ⟨gb794, 1, none⟩ = some (.int .i64 t790) := (blk_cell BK794.out 1).trans rfl
    have hcz20_2 : w14.cell? ⟨gb794, 2, none⟩ = some (.bool t791) := (blk_cell BK794.out 2).trans rfl
    have hcz20_3 : w14.cell? ⟨gb794, 3, none⟩ = some (.bool t792) := (blk_cell BK794.out 3).trans rfl
    have hcz20_4 : w14.cell? ⟨gb794, 4, none⟩ = some (.bool t793) := (blk_cell BK794.out 4).trans rfl
    have hfz20_0 := blk_frozen BK794.out 0
    have hfz20_1 := blk_frozen BK794.out 1
    have hfz20_2 := blk_frozen BK794.out 2
    have hfz20_3 := blk_frozen BK794.out 3
    have hfz20_4 := blk_frozen BK794.out 4
    go_wp2_with (first | ((with_reducible refine gate_callee (f := 16) rfl ?_); refine gl_ (some 36) Try.func16 #[.slice Ao11 t784.length co11, .int .i64 t787, .int .i64 t788, .agg #[.int .i64 t789, .int .i64 t790, .bool t791, .bool t792, .bool t793]] ?_; (with_reducible refine (spec_Pushed.calls k _ _ t784 t787 t788 t789 t790 t791 t792 t793 t801 _ ?side1 ?side2 A15.out).mono ?_); (case side1 => repeat (first | exact (Kd.R_reads' HO786.out).2.2 | (with_reducible refine Kd.C_alloc ?_ _) | (with_reducible refine Kd.C_drewN ?_ _) | (with_reducible refine Kd.C_drew ?_))); (case side2 => exact (Kd.R_reads' HO786.out).2.1); rintro e w21 ⟨v802, rfl, ho0, hb⟩; refine ⟨_, rfl, ?_⟩; have n0_ := am (Kd.R_elder' (rr HO786) (Kd.R_base ho0) hb); have n1_ := am (Kd.R_elder' (rr HO797) (Kd.R_base ho0) hb); have n2_ := am (Kd.R_elder' (rr HO800) (Kd.R_base ho0) hb); have n3_ := am (Kd.R_lower (Kd.R_new' (Kd.R_new' (Kd.R_new' ho0 (Kd.R_lt (rr HO786))) (Kd.R_lt (rr HO797))) (Kd.R_lt (rr HO800))) (below_size (rb1 HB GE794))); have n4_ := am (blk_below (g := gb794) (o := .cells #[.int .i64 t789, .int .i64 t790, .bool t791, .bool t792, .bool t793] 29 (0, 0)) (rk BK794) hb); have n5_ := am (below_step (rb1 HB GE794) hb); clear HO786; clear HO797; clear HO800; clear BK794; clear HB; have HO786 := n0_; have HO797 := n1_; have HO800 := n2_; have HO803 := n3_; have BK794 := n4_; have HB := n5_; clear n0_ n1_ n2_ n3_ n4_ n5_; (try clear hb); (try clear hb2); (try clear hk); (try clear hi); (try clear ho0); obtain ⟨Ao22, co22, eo22⟩ := Kd.R_slice HO797.out; subst eo22; obtain ⟨Ao23, co23, eo23⟩ := Kd.R_slice HO803.out; subst eo23) | ((with_reducible refine gate_callee (f := 20) rfl ?_); refine gl_ (some 37) Try.func20 #[.slice Ao22 t795.length co22, .slice Ao23 t801.length co23] ?_; (with_reducible refine (laws_likeRow.calls k _ _ t795 _ _ t801 true _ ?side1 ?side2 ?side3 ?side4 A16.out).mono ?_); (case side1 => repeat (first | exact (Kd.R_reads' HO797.out).2.2 | (with_reducible refine Kd.C_alloc ?_ _) | (with_reducible refine Kd.C_drewN ?_ _) | (with_reducible refine Kd.C_drew ?_))); (case side2 => exact (Kd.R_reads' HO797.out).2.1); (case side3 => repeat (first | exact (Kd.R_reads' HO803.out).2.2 | (with_reducible refine Kd.C_alloc ?_ _) | (with_reducible refine Kd.C_drewN ?_ _) | (with_reducible refine Kd.C_drew ?_))); (case side4 => exact (Kd.R_reads' HO803.out).2.1); rintro e w' ⟨rfl, ⟨nd, rfl⟩⟩; refine ⟨_, rfl, ?_⟩; have hcz24_0 : w21.cell? ⟨gb794, 0, none⟩ = some (.int .i64 t789) := (blk_cell BK794.out 0).trans rfl; have hcz24_1 : w21.cell? ⟨gb794, 1, none⟩ = some (.int .i64 t790) := (blk_cell BK794.out 1).trans rfl; have hcz24_2 : w21.cell? ⟨gb794, 2, none⟩ = some (.bool t791) := (blk_cell BK794.out 2).trans rfl; have hcz24_3 : w21.cell? ⟨gb794, 3, none⟩ = some (.bool t792) := (blk_cell BK794.out 3).trans rfl; have hcz24_4 : w21.cell? ⟨gb794, 4, none⟩ = some (.bool t793) := (blk_cell BK794.out 4).trans rfl; have hfz24_0 := blk_frozen BK794.out 0; have hfz24_1 := blk_frozen BK794.out 1; have hfz24_2 := blk_frozen BK794.out 2; have hfz24_3 := blk_frozen BK794.out 3; have hfz24_4 := blk_frozen BK794.out 4) | (go_at_call 9; (with_reducible refine (spec_Pulled.calls k _ _ t784 t787 t788 t789 t790 t791 t792 t793 t805 _ ?side1 ?side2 A18.out).mono ?_); (case side1 => repeat (first | exact (Kd.R_reads' HO786.out).2.2 | (with_reducible refine Kd.C_alloc ?_ _) | (with_reducible refine Kd.C_drewN ?_ _) | (with_reducible refine Kd.C_drew ?_))); (case side2 => exact (Kd.R_reads' HO786.out).2.1); rintro e w25 ⟨v806, rfl, ho0, hb⟩; have n0_ := am (Kd.R_elder' (rr HO786) (Kd.R_base ho0) hb); have n1_ := am (Kd.R_elder' (rr HO797) (Kd.R_base ho0) hb); have n2_ := am (Kd.R_elder' (rr HO800) (Kd.R_base ho0) hb); have n3_ := am (Kd.R_elder' (rr HO803) (Kd.R_base ho0) hb); have n4_ := am (Kd.R_lower (Kd.R_new' (Kd.R_new' (Kd.R_new' (Kd.R_new' ho0 (Kd.R_lt (rr HO786))) (Kd.R_lt (rr HO797))) (Kd.R_lt (rr HO800))) (Kd.R_lt (rr HO803))) (below_size (rb1 HB GE794))); have n5_ := am (blk_below (g := gb794) (o := .cells #[.int .i64 t789, .int .i64 t790, .bool t791, .bool t792, .bool t793] 29 (0, 0)) (rk BK794) hb); have n6_ := am (below_step (rb1 HB GE794) hb); clear HO786; clear HO797; clear HO800; clear HO803; clear BK794; clear HB; have HO786 := n0_; have HO797 := n1_; have HO800 := n2_; have HO803 := n3_; have HO807 := n4_; have BK794 := n5_; have HB := n6_; clear n0_ n1_ n2_ n3_ n4_ n5_ n6_; (try clear hb); (try clear hb2); (try clear hk); (try clear hi); (try clear ho0); obtain ⟨Ao26, co26, eo26⟩ := Kd.R_slice HO800.out; subst eo26; obtain ⟨Ao27, co27, eo27⟩ := Kd.R_slice HO807.out; subst eo27) | ((with_reducible refine gate_callee (f := 20) rfl ?_); refine gl_ (some 37) Try.func20 #[.slice Ao22 t795.length co22, .slice Ao23 t801.length co23] ?_; (with_reducible refine (laws_likeRow.calls k _ _ t795 _ _ t801 false _ ?side1 ?side2 ?side3 ?side4 A16.out).mono ?_); (case side1 => repeat (first | exact (Kd.R_reads' HO797.out).2.2 | (with_reducible refine Kd.C_alloc ?_ _) | (with_reducible refine Kd.C_drewN ?_ _) | (with_reducible refine Kd.C_drew ?_))); (case side2 => exact (Kd.R_reads' HO797.out).2.1); (case side3 => repeat (first | exact (Kd.R_reads' HO803.out).2.2 | (with_reducible refine Kd.C_alloc ?_ _) | (with_reducible refine Kd.C_drewN ?_ _) | (with_reducible refine Kd.C_drew ?_))); (case side4 => exact (Kd.R_reads' HO803.out).2.1); rintro e w' ⟨rfl, ⟨nd, rfl⟩⟩; refine ⟨_, rfl, ?_⟩) | (go_at_call 20; (with_reducible refine (laws_likeRow.calls k _ _ t798 _ _ t805 t808 _ ?side1 ?side2 ?side3 ?side4 A19.out).mono ?_); (case side1 => repeat (first | exact (Kd.R_reads' HO800.out).2.2 | (with_reducible refine Kd.C_alloc ?_ _) | (with_reducible refine Kd.C_drewN ?_ _) | (with_reducible refine Kd.C_drew ?_))); (case side2 => exact (Kd.R_reads' HO800.out).2.1); (case side3 => repeat (first | exact (Kd.R_reads' HO807.out).2.2 | (with_reducible refine Kd.C_alloc ?_ _) | (with_reducible refine Kd.C_drewN ?_ _) | (with_reducible refine Kd.C_drew ?_))); (case side4 => exact (Kd.R_reads' HO807.out).2.1); rintro e w' ⟨rfl, ⟨nd, rfl⟩⟩))
    go_meet
    first
    | (
      have q_ := lf3_
      case rel => exact ⟨_, (!t808), (by first | rfl | (simp; done) | (simp [*]; done)), H', ⟨by first | omega | exact Nat.le_refl _⟩, ⟨by (with_reducible repeat (first | apply r1 | apply r2 | apply r3)); exact Kd.R_mono HO786.out (fun _ hk => ⟨hk.1.1.1.2, hk.1.1.2⟩)⟩, ⟨by (with_reducible repeat (first | apply r1 | apply r2 | apply r3)); exact Kd.R_mono HO797.out (fun _ hk => ⟨hk.1.1.1.2, hk.1.1.2⟩)⟩, ⟨by (with_reducible repeat (first | apply r1 | apply r2 | apply r3)); exact Kd.R_mono HO800.out (fun _ hk => ⟨hk.1.1.1.2, hk.1.1.2⟩)⟩, ⟨rk BK794⟩, ⟨by repeat (first | (with_reducible first | exact HB.out | apply b1 | apply b2 | apply b3 | refine below_set ?_ GE794.out) | exact HB.out)⟩⟩
      )
    | (
      have q_ := lf4_
      case rel => exact ⟨_, (true), (by first | rfl | (simp; done) | (simp [*]; done)), H', ⟨by first | omega | exact Nat.le_refl _⟩, ⟨by (with_reducible repeat (first | apply r1 | apply r2 | apply r3)); exact Kd.R_mono HO786.out (fun _ hk => ⟨hk.1.1.2, hk.1.2⟩)⟩, ⟨by (with_reducible repeat (first | apply r1 | apply r2 | apply r3)); exact Kd.R_mono HO797.out (fun _ hk => ⟨hk.1.1.2, hk.1.2⟩)⟩, ⟨by (with_reducible repeat (first | apply r1 | apply r2 | apply r3)); exact Kd.R_mono HO800.out (fun _ hk => ⟨hk.1.1.2, hk.1.2⟩)⟩, ⟨rk BK794⟩, ⟨by repeat (first | (with_reducible first | exact HB.out | apply b1 | apply b2 | apply b3 | refine below_set ?_ GE794.out) | exact HB.out)⟩⟩
      )
  case rest =>
   clear HC7
   try clear c1
   try clear c2
   try clear p2
   try clear c3
   try clear c5
   try clear c12
   try clear c16
   try clear c17
   try clear c18
   try clear c19
   try clear c20
   try clear hcz10_0
   try clear hcz10_1
   try clear hcz10_2
   try clear hcz10_3
   try clear hcz10_4
   try clear hcz13_0
   try clear hcz13_1
   try clear hcz13_2
   try clear hcz13_3
   try clear hcz13_4
   try clear hcz20_0
   try clear hcz20_1
   try clear hcz20_2
   try clear hcz20_3
   try clear hcz20_4
   try clear hcz24_0
   try clear hcz24_1
   try clear hcz24_2
   try clear hcz24_3
   try clear hcz24_4
   try clear hcz28_0
   try clear hcz28_1
   try clear hcz28_2
   try clear hcz28_3
   try clear hcz28_4
   try clear hfz10_0
   try clear hfz10_1
   try clear hfz10_2
   try clear hfz10_3
   try clear hfz10_4
   try clear hfz13_0
   try clear hfz13_1
   try clear hfz13_2
   try clear hfz13_3
   try clear hfz13_4
   try clear hfz20_0
   try clear hfz20_1
   try clear hfz20_2
   try clear hfz20_3
   try clear hfz20_4
   try clear hfz24_0
   try clear hfz24_1
   try clear hfz24_2
   try clear hfz24_3
   try clear hfz24_4
   try clear hfz28_0
   try clear hfz28_1
   try clear hfz28_2
   try clear hfz28_3
   try clear hfz28_4
   obtain ⟨kq, x48_6, rfl, HA, HJ6, HO_3, HO_7, HO_8, BK794, HB⟩ := hcut
   cases kq with
   | zero => exact absurd HA.out (by simp [laws_FnMoved.j0])
   | succ kj6 =>
    have H := HA.out
    clear HA
    simp only [laws_FnMoved.j0] at H
    refine em_ (p := x48_6 = true) (fun c32 => ?g2p) (fun c32 => ?g2n)
    case g2p =>
     subst c32
     have H1 : (some false) = some r := by rw [if_pos rfl] at H; exact H
     clear H
     have H := H1
     clear H1
     exact absurd (Option.some.inj (H.trans (congrArg some hT_))) Bool.false_ne_true
    case' g2n =>
     replace c32 := Bool.eq_false_iff.mpr c32
     subst c32
     rw [if_neg (show ¬ (false = true) by decide)] at H
     refine em_ (p := (t795.length : Int) = 0) (fun c33 => ?g1p) (fun c33 => ?g1n)
     case g1p =>
      rw [if_pos c33] at H
      have c33b0 : ((t795.length : Int) == 0) = true := beq_iff_eq.mpr c33
      have c33b1 : ((t795.length : Int) != 0) = false := bne_eq_false_iff_eq.mpr c33
      clear c33
      first
      | with_reducible exact absurd (Option.some.inj (H.trans (congrArg some hT_))) Bool.false_ne_true
      | (
        obtain rfl := Option.some.inj H
        obtain ⟨Ao34, co34, eo34⟩ := Kd.R_slice HO_7.out
        subst eo34
        obtain ⟨Ao35, co35, eo35⟩ := Kd.R_slice HO_8.out
        subst eo35
        go_wp2
        go_ret
        exact ⟨by first | rfl | (simp [errW_none, errW_some] <;> rfl) | (simp [*, errW_none, errW_some] <;> rfl), by repeat (first | (with_reducible first | exact HB.out | apply b1 | apply b2 | apply b3 | refine below_set ?_ GE794.out) | exact HB.out)⟩)
     case' g1n =>
      rw [if_neg c33] at H
      have c33b0 : ((t795.length : Int) == 0) = false := beq_eq_false_iff_ne.mpr c33
      have c33b1 : ((t795.length : Int) != 0) = true := bne_iff_ne.mpr c33
      have c33b2 : ¬ (t795 = []) := fun h_ => c33 (by rw [h_]; rfl)
      have HC36 := am H
      clear H
      obtain ⟨Ao37, co37, eo37⟩ := Kd.R_slice HO_7.out
      subst eo37
      have lf5_ := trivial
    all_goals
     go_upto_region 10 with (fail)
     go_cut [76] (fun v76 wc => ∃ (kq : Nat) (x76_35 : Bool), v76 = .bool x76_35 ∧ Aside0 (laws_FnMoved.j1 kq t784 t787 t788 t795 x76_35 t789 t790 t791 t792 t793 = some r) ∧ Aside0 (kq ≤ kj6) ∧ Aside0 (Kd.R k40 40 wc w.heap.size (fun k_ => some k_ ≠ ((.slice Ao37 t795.length co37) : Value).ownBlock) (.slice Ao11 t784.length co11) t784) ∧ Aside0 (Kd.R k40 40 wc w.heap.size (fun k_ => some k_ ≠ ((.slice Ao11 t784.length co11) : Value).ownBlock) (.slice Ao37 t795.length co37) t795) ∧ Aside0 (wc.heap[gb794]? = some (.cells #[.int .i64 t789, .int .i64 t790, .bool t791, .bool t792, .bool t793] 29 (0, 0))) ∧ Aside0 (Below w.heap.size w wc))
     case first =>
      have H := HC36.out
      clear HC36
      replace H := Option.bind_eq_some_iff.mp H
      obtain ⟨t809, A380, H⟩ := H
      (try dsimp only at H)
      have A38 := am A380
      clear A380
      by_cases c39 : t809 = true
      ·subst c39
       rw [if_pos rfl] at H
       replace H := Option.bind_eq_some_iff.mp H
       obtain ⟨t810, A400, H⟩ := H
       (try dsimp only at H)
       have A40 := am A400
       clear A400
       refine em_ (p := t810 = true) (fun c41 => ?g4p) (fun c41 => ?g4n)
       case' g4p =>
        subst c41
        rw [if_pos rfl] at H
        refine em_ (p := (t795.length : Int) = (t784.length : Int)) (fun c42 => ?g3p) (fun c42 => ?g3n)
        case' g3p =>
         rw [if_pos c42] at H
         have c42b0 : ((t795.length : Int) == (t784.length : Int)) = true := beq_iff_eq.mpr c42
         have c42b1 : ((t795.length : Int) != (t784.length : Int)) = false := bne_eq_false_iff_eq.mpr c42
         have c42b2 : (t795.length == t784.length) = true := by first | simpa using c42 | (simp at c42 ⊢; omega)
         clear c42
         (first | rw [c42b0] | rw [c42b1] | (simp only [i64_w, i32_w]; rw [c42b0]) | skip)
         have H' := am H
         clear H
         have lf6_ := trivial
        case' g3n =>
         rw [if_neg c42] at H
         have c42b0 : ((t795.length : Int) == (t784.length : Int)) = false := beq_eq_false_iff_ne.mpr c42
         have c42b1 : ((t795.length : Int) != (t784.length : Int)) = true := bne_iff_ne.mpr c42
         have c42b2 : (t795.length == t784.length) = false := by first | simpa using c42 | (simp at c42 ⊢; omega)
         (first | rw [c42b0] | rw [c42b1] | (simp only [i64_w, i32_w]; rw [c42b0]) | skip)
         have H' := am H
         clear H
         have lf7_ := trivial
       case' g4n =>
        replace c41 := Bool.eq_false_iff.mpr c41
        subst c41
        rw [if_neg (show ¬ (false = true) by decide)] at H
        have H' := am H
        clear H
        have lf8_ := trivial
       all_goals
        go_wp2_with (first | ((with_reducible refine gate_callee (f := 21) rfl ?_); refine gl_ (some 56) Try.func21 #[.slice Ao37 t795.length co37] ?_; (with_reducible refine (impl_RowOk.calls kj6 _ _ t795 true _ ?side1 ?side2 A38.out).mono ?_); (case side1 => repeat (first | exact (Kd.R_reads' HO_7.out).2.2 | (with_reducible refine Kd.C_alloc ?_ _) | (with_reducible refine Kd.C_drewN ?_ _) | (with_reducible refine Kd.C_drew ?_))); (case side2 => exact (Kd.R_reads' HO_7.out).2.1); rintro e w43 ⟨rfl, hb⟩; refine ⟨_, rfl, ?_⟩; have n0_ := am (Kd.R_below (rr HO_3) hb); have n1_ := am (Kd.R_below (rr HO_7) hb); have n2_ := am (Kd.R_below (rr HO_8) hb); have n3_ := am (blk_below (g := gb794) (o := .cells #[.int .i64 t789, .int .i64 t790, .bool t791, .bool t792, .bool t793] 29 (0, 0)) (rk BK794) hb); have n4_ := am (below_step (rb1 HB GE794) hb); clear HO_3; clear HO_7; clear HO_8; clear BK794; clear HB; have HO_3 := n0_; have HO_7 := n1_; have HO_8 := n2_; have BK794 := n3_; have HB := n4_; clear n0_ n1_ n2_ n3_ n4_; (try clear hb); (try clear hb2); (try clear hk); (try clear hi); obtain ⟨Ao44, co44, eo44⟩ := Kd.R_slice HO_8.out; subst eo44) | (go_at_call 21; (with_reducible refine (impl_RowOk.calls kj6 _ _ t798 false _ ?side1 ?side2 A40.out).mono ?_); (case side1 => repeat (first | exact (Kd.R_reads' HO_8.out).2.2 | (with_reducible refine Kd.C_alloc ?_ _) | (with_reducible refine Kd.C_drewN ?_ _) | (with_reducible refine Kd.C_drew ?_))); (case side2 => exact (Kd.R_reads' HO_8.out).2.1); rintro e w51 ⟨rfl, hb⟩; have n0_ := am (Kd.R_below (rr HO_3) hb); have n1_ := am (Kd.R_below (rr HO_7) hb); have n2_ := am (Kd.R_below (rr HO_8) hb); have n3_ := am (blk_below (g := gb794) (o := .cells #[.int .i64 t789, .int .i64 t790, .bool t791, .bool t792, .bool t793] 29 (0, 0)) (rk BK794) hb); have n4_ := am (below_step (rb1 HB GE794) hb); clear HO_3; clear HO_7; clear HO_8; clear BK794; clear HB; have HO_3 := n0_; have HO_7 := n1_; have HO_8 := n2_; have BK794 := n3_; have HB := n4_; clear n0_ n1_ n2_ n3_ n4_; (try clear hb); (try clear hb2); (try clear hk); (try clear hi)) | (go_at_call 21; (with_reducible refine (impl_RowOk.calls kj6 _ _ t798 true _ ?side1 ?side2 A40.out).mono ?_); (case side1 => repeat (first | exact (Kd.R_reads' HO_8.out).2.2 | (with_reducible refine Kd.C_alloc ?_ _) | (with_reducible refine Kd.C_drewN ?_ _) | (with_reducible refine Kd.C_drew ?_))); (case side2 => exact (Kd.R_reads' HO_8.out).2.1); rintro e w45 ⟨rfl, hb⟩; have n0_ := am (Kd.R_below (rr HO_3) hb); have n1_ := am (Kd.R_below (rr HO_7) hb); have n2_ := am (Kd.R_below (rr HO_8) hb); have n3_ := am (blk_below (g := gb794) (o := .cells #[.int .i64 t789, .int .i64 t790, .bool t791, .bool t792, .bool t793] 29 (0, 0)) (rk BK794) hb); have n4_ := am (below_step (rb1 HB GE794) hb); clear HO_3; clear HO_7; clear HO_8; clear BK794; clear HB; have HO_3 := n0_; have HO_7 := n1_; have HO_8 := n2_; have BK794 := n3_; have HB := n4_; clear n0_ n1_ n2_ n3_ n4_; (try clear hb); (try clear hb2); (try clear hk); (try clear hi)))
        go_meet
        first
        | (
          first | have q_ := lf7_ | have q_ := lf8_ | have q_ := lf9_
          case rel => exact ⟨_, (true), (by first | rfl | (simp; done) | (simp [*]; done)), H', ⟨by have := HJ6.out; first | omega | exact Nat.le_refl _⟩, ⟨by (with_reducible repeat (first | apply r1 | apply r2 | apply r3)); exact Kd.R_mono HO_3.out (fun _ hk => hk.1)⟩, ⟨by (with_reducible repeat (first | apply r1 | apply r2 | apply r3)); exact Kd.R_mono HO_7.out (fun _ hk => hk.1)⟩, ⟨rk BK794⟩, ⟨by repeat (first | (with_reducible first | exact HB.out | apply b1 | apply b2 | apply b3 | refine below_set ?_ GE794.out) | exact HB.out)⟩⟩
          )
        | (
          have q_ := lf6_
          case rel => exact ⟨_, (((t798.length : Int) != (t784.length : Int))), (by first | rfl | (simp; done) | (simp [*]; done)), H', ⟨by have := HJ6.out; first | omega | exact Nat.le_refl _⟩, ⟨by (with_reducible repeat (first | apply r1 | apply r2 | apply r3)); exact Kd.R_mono HO_3.out (fun _ hk => hk.1)⟩, ⟨by (with_reducible repeat (first | apply r1 | apply r2 | apply r3)); exact Kd.R_mono HO_7.out (fun _ hk => hk.1)⟩, ⟨rk BK794⟩, ⟨by repeat (first | (with_reducible first | exact HB.out | apply b1 | apply b2 | apply b3 | refine below_set ?_ GE794.out) | exact HB.out)⟩⟩
          )
      ·replace c39 := Bool.eq_false_iff.mpr c39
       subst c39
       rw [if_neg (show ¬ (false = true) by decide)] at H
       have H' := am H
       clear H
       go_wp2_with (first | ((with_reducible refine gate_callee (f := 21) rfl ?_); refine gl_ (some 56) Try.func21 #[.slice Ao37 t795.length co37] ?_; (with_reducible refine (impl_RowOk.calls kj6 _ _ t795 false _ ?side1 ?side2 A38.out).mono ?_); (case side1 => repeat (first | exact (Kd.R_reads' HO_7.out).2.2 | (with_reducible refine Kd.C_alloc ?_ _) | (with_reducible refine Kd.C_drewN ?_ _) | (with_reducible refine Kd.C_drew ?_))); (case side2 => exact (Kd.R_reads' HO_7.out).2.1); rintro e w52 ⟨rfl, hb⟩; refine ⟨_, rfl, ?_⟩; have n0_ := am (Kd.R_below (rr HO_3) hb); have n1_ := am (Kd.R_below (rr HO_7) hb); have n2_ := am (Kd.R_below (rr HO_8) hb); have n3_ := am (blk_below (g := gb794) (o := .cells #[.int .i64 t789, .int .i64 t790, .bool t791, .bool t792, .bool t793] 29 (0, 0)) (rk BK794) hb); have n4_ := am (below_step (rb1 HB GE794) hb); clear HO_3; clear HO_7; clear HO_8; clear BK794; clear HB; have HO_3 := n0_; have HO_7 := n1_; have HO_8 := n2_; have BK794 := n3_; have HB := n4_; clear n0_ n1_ n2_ n3_ n4_; (try clear hb); (try clear hb2); (try clear hk); (try clear hi)))
       go_meet
       case rel => exact ⟨_, (true), (by first | rfl | (simp; done) | (simp [*]; done)), H', ⟨by have := HJ6.out; first | omega | exact Nat.le_refl _⟩, ⟨by (with_reducible repeat (first | apply r1 | apply r2 | apply r3)); exact Kd.R_mono HO_3.out (fun _ hk => hk.1)⟩, ⟨by (with_reducible repeat (first | apply r1 | apply r2 | apply r3)); exact Kd.R_mono HO_7.out (fun _ hk => hk.1)⟩, ⟨rk BK794⟩, ⟨by repeat (first | (with_reducible first | exact HB.out | apply b1 | apply b2 | apply b3 | refine below_set ?_ GE794.out) | exact HB.out)⟩⟩
     case rest =>
      clear HC36
      try clear c1
      try clear c2
      try clear p2
      try clear c3
      try clear c4
      try clear c5
      try clear c12
      try clear c16
      try clear c17
      try clear c18
      try clear c19
      try clear c20
      try clear c21
      try clear c32
      try clear c33
      try clear c33b0
      try clear c33b1
      try clear c33b2
      try clear c39
      try clear c41
      try clear c42
      try clear c42b0
      try clear c42b1
      try clear c42b2
      try clear hcz10_0
      try clear hcz10_1
      try clear hcz10_2
      try clear hcz10_3
      try clear hcz10_4
      try clear hcz13_0
      try clear hcz13_1
      try clear hcz13_2
      try clear hcz13_3
      try clear hcz13_4
      try clear hcz20_0
      try clear hcz20_1
      try clear hcz20_2
      try clear hcz20_3
      try clear hcz20_4
      try clear hcz24_0
      try clear hcz24_1
      try clear hcz24_2
      try clear hcz24_3
      try clear hcz24_4
      try clear hcz28_0
      try clear hcz28_1
      try clear hcz28_2
      try clear hcz28_3
      try clear hcz28_4
      try clear hfz10_0
      try clear hfz10_1
      try clear hfz10_2
      try clear hfz10_3
      try clear hfz10_4
      try clear hfz13_0
      try clear hfz13_1
      try clear hfz13_2
      try clear hfz13_3
      try clear hfz13_4
      try clear hfz20_0
      try clear hfz20_1
      try clear hfz20_2
      try clear hfz20_3
      try clear hfz20_4
      try clear hfz24_0
      try clear hfz24_1
      try clear hfz24_2
      try clear hfz24_3
      try clear hfz24_4
      try clear hfz28_0
      try clear hfz28_1
      try clear hfz28_2
      try clear hfz28_3
      try clear hfz28_4
      try clear p2
      obtain ⟨kq, x76_35, rfl, HA, HJ35, HO_3, HO_7, BK794, HB⟩ := hcut
      cases kq with
      | zero => exact absurd HA.out (by simp [laws_FnMoved.j1])
      | succ kj35 =>
       have H := HA.out
       clear HA
       simp only [laws_FnMoved.j1] at H
       refine em_ (p := x76_35 = true) (fun c53 => ?g5p) (fun c53 => ?g5n)
       case g5p =>
        subst c53
        have H1 : (some false) = some r := by rw [if_pos rfl] at H; exact H
        clear H
        have H := H1
        clear H1
        exact absurd (Option.some.inj (H.trans (congrArg some hT_))) Bool.false_ne_true
       case' g5n =>
        replace c53 := Bool.eq_false_iff.mpr c53
        subst c53
        rw [if_neg (show ¬ (false = true) by decide)] at H
        have H' := am H
        clear H
        have lf10_ := trivial
       all_goals
        go_wp2
        go_loopg [10] kj35 (fun kq v10 w' => ∃ (x10_3 : Int), v10 = .int .i64 x10_3 ∧ Aside0 (laws_FnMoved.l0 kq t784 t787 t788 t795 (t784.length : Int) x10_3 t789 t790 t791 t792 t793 = some r) ∧ Aside0 (kq ≤ kj35) ∧ Aside0 (Kd.R k40 40 w' w.heap.size (fun k_ => some k_ ≠ ((.slice Ao37 t795.length co37) : Value).ownBlock) (.slice Ao11 t784.length co11) t784) ∧ Aside0 (Kd.R k40 40 w' w.heap.size (fun k_ => some k_ ≠ ((.slice Ao11 t784.length co11) : Value).ownBlock) (.slice Ao37 t795.length co37) t795) ∧ Aside0 (w'.heap[gb794]? = some (.cells #[.int .i64 t789, .int .i64 t790, .bool t791, .bool t792, .bool t793] 29 (0, 0))) ∧ Aside0 (Below w.heap.size w w'))
        case atStart => exact ⟨(t787), (by first | rfl | (simp; done) | (simp [*]; done)), H', ⟨Nat.le_refl _⟩, ⟨rr HO_3⟩, ⟨rr HO_7⟩, ⟨rk BK794⟩, ⟨by repeat (first | (with_reducible first | exact HB.out | apply b1 | apply b2 | apply b3 | refine below_set ?_ GE794.out) | exact HB.out)⟩⟩
        case round =>
         clear H'
         try clear c1
         try clear c2
         try clear p2
         try clear c3
         try clear c4
         try clear c5
         try clear c12
         try clear c16
         try clear c17
         try clear c18
         try clear c19
         try clear c20
         try clear c21
         try clear c32
         try clear c33
         try clear c33b0
         try clear c33b1
         try clear c33b2
         try clear c39
         try clear c41
         try clear c42
         try clear c42b0
         try clear c42b1
         try clear c42b2
         try clear c53
         try clear hcz10_0
         try clear hcz10_1
         try clear hcz10_2
         try clear hcz10_3
         try clear hcz10_4
         try clear hcz13_0
         try clear hcz13_1
         try clear hcz13_2
         try clear hcz13_3
         try clear hcz13_4
         try clear hcz20_0
         try clear hcz20_1
         try clear hcz20_2
         try clear hcz20_3
         try clear hcz20_4
         try clear hcz24_0
         try clear hcz24_1
         try clear hcz24_2
         try clear hcz24_3
         try clear hcz24_4
         try clear hcz28_0
         try clear hcz28_1
         try clear hcz28_2
         try clear hcz28_3
         try clear hcz28_4
         try clear hfz10_0
         try clear hfz10_1
         try clear hfz10_2
         try clear hfz10_3
         try clear hfz10_4
         try clear hfz13_0
         try clear hfz13_1
         try clear hfz13_2
         try clear hfz13_3
         try clear hfz13_4
         try clear hfz20_0
         try clear hfz20_1
         try clear hfz20_2
         try clear hfz20_3
         try clear hfz20_4
         try clear hfz24_0
         try clear hfz24_1
         try clear hfz24_2
         try clear hfz24_3
         try clear hfz24_4
         try clear hfz28_0
         try clear hfz28_1
         try clear hfz28_2
         try clear hfz28_3
         try clear hfz28_4
         try clear p2
         obtain ⟨x10_3, rfl, HA, HK3, HO_3, HO_7, BK794, HB⟩ := hrel
         cases gk with
         | zero => exact absurd HA.out (by simp [laws_FnMoved.l0])
         | succ k3 =>
          have H := HA.out
          clear HA
          simp only [laws_FnMoved.l0] at H
          have HC54 := am H
          clear H
          go_upto_region 14 with (fail)
          go_cut [89] (fun v89 wc => ∃ (kq : Nat) (x89_53 : Bool), v89 = .bool x89_53 ∧ Aside0 (laws_FnMoved.j3 kq t784 t787 t788 t795 (t784.length : Int) x10_3 x89_53 t789 t790 t791 t792 t793 = some r) ∧ Aside0 (kq ≤ k3) ∧ Aside0 (Kd.R k40 40 wc w.heap.size (fun k_ => some k_ ≠ ((.slice Ao37 t795.length co37) : Value).ownBlock) (.slice Ao11 t784.length co11) t784) ∧ Aside0 (Kd.R k40 40 wc w.heap.size (fun k_ => some k_ ≠ ((.slice Ao11 t784.length co11) : Value).ownBlock) (.slice Ao37 t795.length co37) t795) ∧ Aside0 (wc.heap[gb794]? = some (.cells #[.int .i64 t789, .int .i64 t790, .bool t791, .bool t792, .bool t793] 29 (0, 0))) ∧ Aside0 (Below w.heap.size w wc))
          case first =>
           have H := HC54.out
           clear HC54
           by_cases c55 : x10_3 < (wrap64 (t787 + t788))
           ·rw [if_pos c55] at H
            have c55b0 : decide (x10_3 < (wrap64 (t787 + t788))) = true := decide_eq_true c55
            clear c55
            (first | rw [c55b0] | (simp only [i64_w, i32_w]; rw [c55b0]) | skip)
            have H' := am H
            clear H
            go_wp2
            go_meet
            case rel => exact ⟨_, (decide (x10_3 < (t784.length : Int))), (by first | rfl | (simp; done) | (simp [*]; done)), H', ⟨by have := HJ6.out; have := HJ35.out; have := HK3.out; first | omega | exact Nat.le_refl _⟩, ⟨rr HO_3⟩, ⟨rr HO_7⟩, ⟨rk BK794⟩, ⟨by repeat (first | (with_reducible first | exact HB.out | apply b1 | apply b2 | apply b3 | refine below_set ?_ GE794.out) | exact HB.out)⟩⟩
           ·rw [if_neg c55] at H
            have c55b0 : decide (x10_3 < (wrap64 (t787 + t788))) = false := decide_eq_false c55
            clear c55
            (first | rw [c55b0] | (simp only [i64_w, i32_w]; rw [c55b0]) | skip)
            have H' := am H
            clear H
            go_wp2
            go_meet
            case rel => exact ⟨_, (false), (by first | rfl | (simp; done) | (simp [*]; done)), H', ⟨by have := HJ6.out; have := HJ35.out; have := HK3.out; first | omega | exact Nat.le_refl _⟩, ⟨rr HO_3⟩, ⟨rr HO_7⟩, ⟨rk BK794⟩, ⟨by repeat (first | (with_reducible first | exact HB.out | apply b1 | apply b2 | apply b3 | refine below_set ?_ GE794.out) | exact HB.out)⟩⟩
          case rest =>
           clear HC54
           try clear c1
           try clear c2
           try clear p2
           try clear c3
           try clear c4
           try clear c5
           try clear p6
           try clear c12
           try clear c16
           try clear c17
           try clear c18
           try clear c19
           try clear c20
           try clear c21
           try clear c32
           try clear c33
           try clear c33b0
           try clear c33b1
           try clear c33b2
           try clear c39
           try clear c41
           try clear c42
           try clear c42b0
           try clear c42b1
           try clear c42b2
           try clear c53
           try clear c55
           try clear c55b0
           try clear hcz10_0
           try clear hcz10_1
           try clear hcz10_2
           try clear hcz10_3
           try clear hcz10_4
           try clear hcz13_0
           try clear hcz13_1
           try clear hcz13_2
           try clear hcz13_3
           try clear hcz13_4
           try clear hcz20_0
           try clear hcz20_1
           try clear hcz20_2
           try clear hcz20_3
           try clear hcz20_4
           try clear hcz24_0
           try clear hcz24_1
           try clear hcz24_2
           try clear hcz24_3
           try clear hcz24_4
           try clear hcz28_0
           try clear hcz28_1
           try clear hcz28_2
           try clear hcz28_3
           try clear hcz28_4
           try clear hfz10_0
           try clear hfz10_1
           try clear hfz10_2
           try clear hfz10_3
           try clear hfz10_4
           try clear hfz13_0
           try clear hfz13_1
           try clear hfz13_2
           try clear hfz13_3
           try clear hfz13_4
           try clear hfz20_0
           try clear hfz20_1
           try clear hfz20_2
           try clear hfz20_3
           try clear hfz20_4
           try clear hfz24_0
           try clear hfz24_1
           try clear hfz24_2
           try clear hfz24_3
           try clear hfz24_4
           try clear hfz28_0
           try clear hfz28_1
           try clear hfz28_2
           try clear hfz28_3
           try clear hfz28_4
           try clear p2
           obtain ⟨kq, x89_53, rfl, HA, HJ53, HO_3, HO_7, BK794, HB⟩ := hcut
           cases kq with
           | zero => exact absurd HA.out (by simp [laws_FnMoved.j3])
           | succ kj53 =>
            have H := HA.out
            clear HA
            simp only [laws_FnMoved.j3] at H
            by_cases c56 : x89_53 = true
            ·subst c56
             rw [if_pos rfl] at H
             refine em_ (p := 0 ≤ x10_3) (fun c57 => ?g8p) (fun c57 => ?g8n)
             case' g8p =>
              rw [if_pos c57] at H
              have c57b0 : decide (0 ≤ x10_3) = true := decide_eq_true c57
              clear c57
              refine em_ (p := x10_3 < (t795.length : Int)) (fun c58 => ?g7p) (fun c58 => ?g7n)
              case' g7p =>
               rw [if_pos c58] at H
               have c58b0 : decide (x10_3 < (t795.length : Int)) = true := decide_eq_true c58
               clear c58
               refine em_ (p := (!(((rd_T40 t795 x10_3).f0) == 32) || ((!(((rd_T40 t795 x10_3).f1.f0) == t789) || (!(((rd_T40 t795 x10_3).f1.f1) == t790) || (!(((rd_T40 t795 x10_3).f1.f2) == t791) || (!(((rd_T40 t795 x10_3).f1.f3) == t792) || (!(((rd_T40 t795 x10_3).f1.f4) == t793)))))) || (!(((rd_T40 t795 x10_3).f2) == 0)))) = true) (fun c59 => ?g6p) (fun c59 => ?g6n)
               case g6p =>
                rw [if_pos c59] at H
                have c59b0 : (!(((rd_T40 t795 x10_3).f0) == 32) || ((!(((rd_T40 t795 x10_3).f1.f0) == t789) || (!(((rd_T40 t795 x10_3).f1.f1) == t790) || (!(((rd_T40 t795 x10_3).f1.f2) == t791) || (!(((rd_T40 t795 x10_3).f1.f3) == t792) || (!(((rd_T40 t795 x10_3).f1.f4) == t793)))))) || (!(((rd_T40 t795 x10_3).f2) == 0)))) = true := c59
                clear c59
                exact absurd (Option.some.inj (H.trans (congrArg some hT_))) Bool.false_ne_true
               case' g6n =>
                rw [if_neg c59] at H
                have c59b0 : (!(((rd_T40 t795 x10_3).f0) == 32) || ((!(((rd_T40 t795 x10_3).f1.f0) == t789) || (!(((rd_T40 t795 x10_3).f1.f1) == t790) || (!(((rd_T40 t795 x10_3).f1.f2) == t791) || (!(((rd_T40 t795 x10_3).f1.f3) == t792) || (!(((rd_T40 t795 x10_3).f1.f4) == t793)))))) || (!(((rd_T40 t795 x10_3).f2) == 0)))) = false := by simpa using c59
                clear c59
                have H' := am H
                clear H
                have lf13_ := trivial
              case g7n =>
               rw [if_neg c58] at H
               exact absurd H (by simp)
             case g8n =>
              rw [if_neg c57] at H
              exact absurd H (by simp)
             all_goals
              try go_wp2
              have n0_ := am (Kd.R_drew HO_3.out)
              have n1_ := am (Kd.R_drew HO_7.out)
              have n2_ := am (blk_drew BK794.out)
              have n3_ := am (below_drew1 HB.out)
              clear HO_3
              clear HO_7
              clear BK794
              clear HB
              have HO_3 := n0_
              have HO_7 := n1_
              have BK794 := n2_
              have HB := n3_
              clear n0_ n1_ n2_ n3_
              have p811 : 0 ≤ (x10_3 : Int) := dt_
              have q811 : x10_3 < (t795.length : Int) := dt_
              obtain ⟨ad811, e811, hx811_0, hx811_1, hx811_2, hx811_3, hx811_4, hx811_5, hx811_6⟩ := at_T40 (Kd.R_reads' HO_7.out).2.2 x10_3 p811 q811
              cases e811
              replace p811 := eq_true p811
              replace q811 := eq_true q811
              refine start_ (n := 7) (S := fun w' => w'.cell? ⟨gb794, 0, none⟩ = some (.int .i64 t789) ∧ w'.cell? ⟨gb794, 1, none⟩ = some (.int .i64 t790) ∧ w'.cell? ⟨gb794, 2, none⟩ = some (.bool t791) ∧ w'.cell? ⟨gb794, 3, none⟩ = some (.bool t792) ∧ w'.cell? ⟨gb794, 4, none⟩ = some (.bool t793) ∧ w'.cell? (ad811.add ((x10_3).toNat * 7)) = some (.int .i64 ((rd_T40 t795 x10_3).f0)) ∧ w'.cell? ⟨(ad811.add ((x10_3).toNat * 7)).block, (ad811.add ((x10_3).toNat * 7)).off + 1, none⟩ = some (.int .i64 ((rd_T40 t795 x10_3).f1.f0)) ∧ w'.cell? ⟨(ad811.add ((x10_3).toNat * 7)).block, (ad811.add ((x10_3).toNat * 7)).off + 2, none⟩ = some (.int .i64 ((rd_T40 t795 x10_3).f1.f1)) ∧ w'.cell? ⟨(ad811.add ((x10_3).toNat * 7)).block, (ad811.add ((x10_3).toNat * 7)).off + 3, none⟩ = some (.bool ((rd_T40 t795 x10_3).f1.f2)) ∧ w'.cell? ⟨(ad811.add ((x10_3).toNat * 7)).block, (ad811.add ((x10_3).toNat * 7)).off + 4, none⟩ = some (.bool ((rd_T40 t795 x10_3).f1.f3)) ∧ w'.cell? ⟨(ad811.add ((x10_3).toNat * 7)).block, (ad811.add ((x10_3).toNat * 7)).off + 5, none⟩ = some (.bool ((rd_T40 t795 x10_3).f1.f4)) ∧ w'.cell? ⟨(ad811.add ((x10_3).toNat * 7)).block, (ad811.add ((x10_3).toNat * 7)).off + 6, none⟩ = some (.int .i64 ((rd_T40 t795 x10_3).f2))) (ds := []) (bm 7 0) (by kernel_rfl) rfl rfl ⟨(blk_cell BK794.out 0).trans rfl, (blk_cell BK794.out 1).trans rfl, (blk_cell BK794.out 2).trans rfl, (blk_cell BK794.out 3).trans rfl, (blk_cell BK794.out 4).trans rfl, hx811_0, hx811_1, hx811_2, hx811_3, hx811_4, hx811_5, hx811_6⟩ (fun hHeld => ?_)
              generalize wc.drew = w61 at HO_3 HO_7 BK794 HB hx811_0 hx811_1 hx811_2 hx811_3 hx811_4 hx811_5 hx811_6 hHeld ⊢
              refine pure_ (i := 0) (N := some 92) (v := ?_) (a' := ?_) (bm 7 1) rfl rfl (by kernel_rfl) (fun _ _ _ h => h) (Or.inl ⟨by rfl, ?_⟩) ?_ ?_
              rotate_left
              ·intro w'
               go_simp
               with_reducible rfl
              rotate_left
              ·simp only [Act.put, List.setIfInBounds_toArray, List.set_cons_zero, List.set_cons_succ, i64_w, i32_w]
               rfl
              refine pure_ (i := 1) (N := some 93) (v := ?_) (a' := ?_) (bm 7 3) rfl rfl (by kernel_rfl) (fun _ _ _ h => h) (Or.inl ⟨by rfl, ?_⟩) ?_ ?_
              rotate_left
              ·intro w'
               go_simp
               with_reducible rfl
              rotate_left
              ·simp only [Act.put, List.setIfInBounds_toArray, List.set_cons_zero, List.set_cons_succ, i64_w, i32_w]
               rfl
              refine pure_ (i := 2) (N := some 94) (v := ?_) (a' := ?_) (bm 7 7) rfl rfl (by kernel_rfl) (fun _ _ _ h => h) (Or.inl ⟨by rfl, ?_⟩) ?_ ?_
              rotate_left
              ·intro w'
               go_simp
               with_reducible rfl
              rotate_left
              ·simp only [Act.put, List.setIfInBounds_toArray, List.set_cons_zero, List.set_cons_succ, i64_w, i32_w]
               rfl
              refine take_ (i := 3) (N := some 95) (v := ?_) (a' := ?_) (bm 7 15) rfl rfl (by kernel_rfl) (fun _ _ _ h => h) (Or.inl ⟨by rfl, ?_⟩) hHeld ?_ ?_
              rotate_left
              ·rintro w' ⟨s0, s1, s2, s3, s4, s5, s6, s7, s8, s9, s10, s11⟩
               go_simp
               with_reducible rfl
              rotate_left
              ·simp only [Act.put, List.setIfInBounds_toArray, List.set_cons_zero, List.set_cons_succ, i64_w, i32_w]
               rfl
              refine take_ (i := 4) (N := some 96) (v := ?_) (a' := ?_) (bm 7 31) rfl rfl (by kernel_rfl) (fun _ _ _ h => h) (Or.inl ⟨by rfl, ?_⟩) hHeld ?_ ?_
              rotate_left
              ·rintro w' ⟨s0, s1, s2, s3, s4, s5, s6, s7, s8, s9, s10, s11⟩
               go_simp
               with_reducible rfl
              rotate_left
              ·simp only [Act.put, List.setIfInBounds_toArray, List.set_cons_zero, List.set_cons_succ, i64_w, i32_w]
               rfl
              refine pure_ (i := 5) (N := some 97) (v := ?_) (a' := ?_) (bm 7 63) rfl rfl (by kernel_rfl) (fun _ _ _ h => h) (Or.inl ⟨by rfl, ?_⟩) ?_ ?_
              rotate_left
              ·intro w'
               go_simp
               with_reducible rfl
              rotate_left
              ·simp only [Act.put, List.setIfInBounds_toArray, List.set_cons_zero, List.set_cons_succ, i64_w, i32_w]
               rfl
              refine pure_ (i := 6) (N := some 98) (v := ?_) (a' := ?_) (bm 7 127) rfl rfl (by kernel_rfl) (fun _ _ _ h => h) (Or.inl ⟨by rfl, ?_⟩) ?_ ?_
              rotate_left
              ·intro w'
               go_simp
               with_reducible rfl
              rotate_left
              ·simp only [Act.put, List.setIfInBounds_toArray, List.set_cons_zero, List.set_cons_succ, i64_w, i32_w]
               rfl
              refine done_ (by kernel_rfl) ?_
              try go_wp2
              go_roundg kj53
              case measure => have := HJ6.out; have := HJ35.out; have := HK3.out; have := HJ53.out; omega
              case rel => exact ⟨(wrap64 (x10_3 + 1)), (by first | rfl | (simp; done) | (simp [*]; done)), H', ⟨by have := HJ6.out; have := HJ35.out; have := HK3.out; have := HJ53.out; omega⟩, ⟨rr HO_3⟩, ⟨rr HO_7⟩, ⟨rk BK794⟩, ⟨by repeat (first | (with_reducible first | exact HB.out | apply b1 | apply b2 | apply b3 | refine below_set ?_ GE794.out) | exact HB.out)⟩⟩
            ·replace c56 := Bool.eq_false_iff.mpr c56
             subst c56
             rw [if_neg (show ¬ (false = true) by decide)] at H
             replace H := Option.bind_eq_some_iff.mp H
             obtain ⟨t812, A620, H⟩ := H
             (try dsimp only at H)
             have A62 := am A620
             clear A620
             have HC63 := am H
             clear H
             have hcz64_0 : wc.cell? ⟨gb794, 0, none⟩ = some (.int .i64 t789) := (blk_cell BK794.out 0).trans rfl
             have hcz64_1 : wc.cell? ⟨gb794, 1, none⟩ = some (.int .i64 t790) := (blk_cell BK794.out 1).trans rfl
             have hcz64_2 : wc.cell? ⟨gb794, 2, none⟩ = some (.bool t791) := (blk_cell BK794.out 2).trans rfl
             have hcz64_3 : wc.cell? ⟨gb794, 3, none⟩ = some (.bool t792) := (blk_cell BK794.out 3).trans rfl
             have hcz64_4 : wc.cell? ⟨gb794, 4, none⟩ = some (.bool t793) := (blk_cell BK794.out 4).trans rfl
             have hfz64_0 := blk_frozen BK794.out 0
             have hfz64_1 := blk_frozen BK794.out 1
             have hfz64_2 := blk_frozen BK794.out 2
             have hfz64_3 := blk_frozen BK794.out 3
             have hfz64_4 := blk_frozen BK794.out 4
             go_upto_region 19 with (first | ((with_reducible refine gate_callee (f := 12) rfl ?_); refine gl_ (some 103) Try.func12 #[.slice Ao37 t795.length co37, .int .i64 t787, .int .i64 t788, .agg #[.int .i64 t789, .int .i64 t790, .bool t791, .bool t792, .bool t793]] ?_; (with_reducible refine (impl_Pulled.calls kj53 _ _ t795 t787 t788 t789 t790 t791 t792 t793 t812 _ ?side1 ?side2 A62.out).mono ?_); (case side1 => repeat (first | exact (Kd.R_reads' HO_7.out).2.2 | (with_reducible refine Kd.C_alloc ?_ _) | (with_reducible refine Kd.C_drewN ?_ _) | (with_reducible refine Kd.C_drew ?_))); (case side2 => exact (Kd.R_reads' HO_7.out).2.1); rintro e w65 ⟨v813, rfl, ho0, hb⟩; refine ⟨_, rfl, ?_⟩; have n0_ := am (Kd.R_elder' (rr HO_3) (Kd.R_base ho0) hb); have n1_ := am (Kd.R_elder' (rr HO_7) (Kd.R_base ho0) hb); have n2_ := am (Kd.R_lower (Kd.R_new' (Kd.R_new' ho0 (Kd.R_lt (rr HO_3))) (Kd.R_lt (rr HO_7))) (below_size (rb1 HB GE794))); have n3_ := am (blk_below (g := gb794) (o := .cells #[.int .i64 t789, .int .i64 t790, .bool t791, .bool t792, .bool t793] 29 (0, 0)) (rk BK794) hb); have n4_ := am (below_step (rb1 HB GE794) hb); clear HO_3; clear HO_7; clear BK794; clear HB; have HO_3 := n0_; have HO_7 := n1_; have HO814 := n2_; have BK794 := n3_; have HB := n4_; clear n0_ n1_ n2_ n3_ n4_; (try clear hb); (try clear hb2); (try clear hk); (try clear hi); (try clear ho0)))
             (try simp only [Act.put, List.setIfInBounds_toArray, List.set_cons_zero, List.set_cons_succ])
             go_cut [133] (fun v133 wc => ∃ (kq : Nat) (x133_62 : Bool), v133 = .bool x133_62 ∧ Aside0 (laws_FnMoved.j4 kq t784 t787 t788 (t784.length : Int) t812 x133_62 t789 t790 t791 t792 t793 = some r) ∧ Aside0 (kq ≤ kj53) ∧ Aside0 (Kd.R k40 40 wc w.heap.size (fun k_ => some k_ ≠ (v813 : Value).ownBlock) (.slice Ao11 t784.length co11) t784) ∧ Aside0 (Kd.R k40 40 wc w.heap.size (fun k_ => some k_ ≠ ((.slice Ao11 t784.length co11) : Value).ownBlock) v813 t812) ∧ Aside0 (wc.heap[gb794]? = some (.cells #[.int .i64 t789, .int .i64 t790, .bool t791, .bool t792, .bool t793] 29 (0, 0))) ∧ Aside0 (Below w.heap.size w wc))
             case first =>
              have H := HC63.out
              clear HC63
              refine em_ (p := (wrap64 (t787 + t788)) ≥ (t784.length : Int)) (fun c66 => ?g16p) (fun c66 => ?g16n)
              case' g16p =>
               rw [if_pos c66] at H
               have c66b0 : decide ((t784.length : Int) ≤ (wrap64 (t787 + t788))) = true := decide_eq_true c66
               clear c66
               (first | rw [c66b0] | (simp only [i64_w, i32_w]; rw [c66b0]) | skip)
               have H' := am H
               clear H
               have lf15_ := trivial
              case' g16n =>
               rw [if_neg c66] at H
               have c66b0 : decide ((t784.length : Int) ≤ (wrap64 (t787 + t788))) = false := decide_eq_false c66
               clear c66
               (first | rw [c66b0] | (simp only [i64_w, i32_w]; rw [c66b0]) | skip)
               refine em_ (p := 0 ≤ t787) (fun c68 => ?g15p) (fun c68 => ?g15n)
               case' g15p =>
                rw [if_pos c68] at H
                have c68b0 : decide (0 ≤ t787) = true := decide_eq_true c68
                clear c68
                refine em_ (p := t787 < (t784.length : Int)) (fun c69 => ?g14p) (fun c69 => ?g14n)
                case' g14p =>
                 rw [if_pos c69] at H
                 have c69b0 : decide (t787 < (t784.length : Int)) = true := decide_eq_true c69
                 clear c69
                 refine em_ (p := ((rd_T40 t784 t787).f2) = 2) (fun c70 => ?g13p) (fun c70 => ?g13n)
                 case' g13p =>
                  rw [if_pos c70] at H
                  have c70b0 : (((rd_T40 t784 t787).f2) == 2) = true := beq_iff_eq.mpr c70
                  have c70b1 : (((rd_T40 t784 t787).f2) != 2) = false := bne_eq_false_iff_eq.mpr c70
                  clear c70
                  have H' := am H
                  clear H
                  have lf16_ := trivial
                 case' g13n =>
                  rw [if_neg c70] at H
                  have c70b0 : (((rd_T40 t784 t787).f2) == 2) = false := beq_eq_false_iff_ne.mpr c70
                  have c70b1 : (((rd_T40 t784 t787).f2) != 2) = true := bne_iff_ne.mpr c70
                  obtain ⟨ji72, hji72⟩ : ∃ j_ : Int, (wrap64 ((t784.length : Int) - 1)) = j_ := ⟨_, rfl⟩
                  replace H : (if 0 ≤ (ji72) then (if (ji72) < (t795.length : Int) then (if 0 ≤ (wrap64 ((ji72) - t788)) then (if (wrap64 ((ji72) - t788)) < (t784.length : Int) then (laws_FnMoved.j4 kj53 t784 t787 t788 (t784.length : Int) t812 (((rd_T40 t795 (ji72)).f2) != ((rd_T40 t784 (wrap64 ((ji72) - t788))).f2)) t789 t790 t791 t792 t793) else (none)) else (none)) else (none)) else (none)) = some r := by first | (rw [hji72] at H; exact H) | (simp only [hji72] at H ⊢; exact H)
                  have hji72w : (IntKind.i64.wrap ((t784.length : Int) - 1)) = ji72 := (i64_w _).trans hji72
                  refine em_ (p := 0 ≤ (ji72)) (fun c73 => ?g12p) (fun c73 => ?g12n)
                  case' g12p =>
                   rw [if_pos c73] at H
                   have c73b0 : decide (0 ≤ (ji72)) = true := decide_eq_true c73
                   clear c73
                   refine em_ (p := (ji72) < (t795.length : Int)) (fun c74 => ?g11p) (fun c74 => ?g11n)
                   case' g11p =>
                    rw [if_pos c74] at H
                    have c74b0 : decide ((ji72) < (t795.length : Int)) = true := decide_eq_true c74
                    clear c74
                    obtain ⟨ji75, hji75⟩ : ∃ j_ : Int, (wrap64 ((ji72) - t788)) = j_ := ⟨_, rfl⟩
                    replace H : (if 0 ≤ (ji75) then (if (ji75) < (t784.length : Int) then (laws_FnMoved.j4 kj53 t784 t787 t788 (t784.length : Int) t812 (((rd_T40 t795 (ji72)).f2) != ((rd_T40 t784 (ji75)).f2)) t789 t790 t791 t792 t793) else (none)) else (none)) = some r := by first | (rw [hji75] at H; exact H) | (simp only [hji75] at H ⊢; exact H)
                    have hji75w : (IntKind.i64.wrap ((ji72) - t788)) = ji75 := (i64_w _).trans hji75
                    refine em_ (p := 0 ≤ (ji75)) (fun c76 => ?g10p) (fun c76 => ?g10n)
                    case' g10p =>
                     rw [if_pos c76] at H
                     have c76b0 : decide (0 ≤ (ji75)) = true := decide_eq_true c76
                     clear c76
                     refine em_ (p := (ji75) < (t784.length : Int)) (fun c77 => ?g9p) (fun c77 => ?g9n)
                     case' g9p =>
                      rw [if_pos c77] at H
                      have c77b0 : decide ((ji75) < (t784.length : Int)) = true := decide_eq_true c77
                      clear c77
                      have H' := am H
                      clear H
                      have lf17_ := trivial
                     case g9n =>
                      rw [if_neg c77] at H
                      exact absurd H (by simp)
                    case g10n =>
                     rw [if_neg c76] at H
                     exact absurd H (by simp)
                   case g11n =>
                    rw [if_neg c74] at H
                    exact absurd H (by simp)
                  case g12n =>
                   rw [if_neg c73] at H
                   exact absurd H (by simp)
                case g14n =>
                 rw [if_neg c69] at H
                 exact absurd H (by simp)
               case g15n =>
                rw [if_neg c68] at H
                exact absurd H (by simp)
              all_goals
               try go_wp2
               have n0_ := am (Kd.R_drew HO_3.out)
               have n1_ := am (Kd.R_drew HO_7.out)
               have n2_ := am (Kd.R_drew HO814.out)
               have n3_ := am (blk_drew BK794.out)
               have n4_ := am (below_drew1 HB.out)
               clear HO_3
               clear HO_7
               clear HO814
               clear BK794
               clear HB
               have HO_3 := n0_
               have HO_7 := n1_
               have HO814 := n2_
               have BK794 := n3_
               have HB := n4_
               clear n0_ n1_ n2_ n3_ n4_
               first
               | (
                 have p815 : 0 ≤ (t787 : Int) := dt_
                 have q815 : t787 < (t784.length : Int) := dt_
                 obtain ⟨ad815, e815, hx815_0, hx815_1, hx815_2, hx815_3, hx815_4, hx815_5, hx815_6⟩ := at_T40 (Kd.R_reads' HO_3.out).2.2 t787 p815 q815
                 cases e815
                 replace p815 := eq_true p815
                 replace q815 := eq_true q815
                 first
                 | (
                   have p816 : 0 ≤ ((ji72) : Int) := dt_
                   have q816 : (ji72) < (t795.length : Int) := dt_
                   obtain ⟨ad816, e816, hx816_0, hx816_1, hx816_2, hx816_3, hx816_4, hx816_5, hx816_6⟩ := at_T40 (Kd.R_reads' HO_7.out).2.2 (ji72) p816 q816
                   cases e816
                   replace p816 := eq_true p816
                   replace q816 := eq_true q816
                   have p817 : 0 ≤ ((ji75) : Int) := dt_
                   have q817 : (ji75) < (t784.length : Int) := dt_
                   obtain ⟨ad817, e817, hx817_0, hx817_1, hx817_2, hx817_3, hx817_4, hx817_5, hx817_6⟩ := at_T40 (Kd.R_reads' HO_3.out).2.2 (ji75) p817 q817
                   obtain rfl : ad815 = ad817 := (by injection e817)
                   replace p817 := eq_true p817
                   replace q817 := eq_true q817
                   refine start_ (n := 30) (S := fun w' => w'.cell? (ad815.add ((t787).toNat * 7)) = some (.int .i64 ((rd_T40 t784 t787).f0)) ∧ w'.cell? ⟨(ad815.add ((t787).toNat * 7)).block, (ad815.add ((t787).toNat * 7)).off + 1, none⟩ = some (.int .i64 ((rd_T40 t784 t787).f1.f0)) ∧ w'.cell? ⟨(ad815.add ((t787).toNat * 7)).block, (ad815.add ((t787).toNat * 7)).off + 2, none⟩ = some (.int .i64 ((rd_T40 t784 t787).f1.f1)) ∧ w'.cell? ⟨(ad815.add ((t787).toNat * 7)).block, (ad815.add ((t787).toNat * 7)).off + 3, none⟩ = some (.bool ((rd_T40 t784 t787).f1.f2)) ∧ w'.cell? ⟨(ad815.add ((t787).toNat * 7)).block, (ad815.add ((t787).toNat * 7)).off + 4, none⟩ = some (.bool ((rd_T40 t784 t787).f1.f3)) ∧ w'.cell? ⟨(ad815.add ((t787).toNat * 7)).block, (ad815.add ((t787).toNat * 7)).off + 5, none⟩ = some (.bool ((rd_T40 t784 t787).f1.f4)) ∧ w'.cell? ⟨(ad815.add ((t787).toNat * 7)).block, (ad815.add ((t787).toNat * 7)).off + 6, none⟩ = some (.int .i64 ((rd_T40 t784 t787).f2)) ∧ w'.cell? (ad816.add (((ji72)).toNat * 7)) = some (.int .i64 ((rd_T40 t795 (ji72)).f0)) ∧ w'.cell? ⟨(ad816.add (((ji72)).toNat * 7)).block, (ad816.add (((ji72)).toNat * 7)).off + 1, none⟩ = some (.int .i64 ((rd_T40 t795 (ji72)).f1.f0)) ∧ w'.cell? ⟨(ad816.add (((ji72)).toNat * 7)).block, (ad816.add (((ji72)).toNat * 7)).off + 2, none⟩ = some (.int .i64 ((rd_T40 t795 (ji72)).f1.f1)) ∧ w'.cell? ⟨(ad816.add (((ji72)).toNat * 7)).block, (ad816.add (((ji72)).toNat * 7)).off + 3, none⟩ = some (.bool ((rd_T40 t795 (ji72)).f1.f2)) ∧ w'.cell? ⟨(ad816.add (((ji72)).toNat * 7)).block, (ad816.add (((ji72)).toNat * 7)).off + 4, none⟩ = some (.bool ((rd_T40 t795 (ji72)).f1.f3)) ∧ w'.cell? ⟨(ad816.add (((ji72)).toNat * 7)).block, (ad816.add (((ji72)).toNat * 7)).off + 5, none⟩ = some (.bool ((rd_T40 t795 (ji72)).f1.f4)) ∧ w'.cell? ⟨(ad816.add (((ji72)).toNat * 7)).block, (ad816.add (((ji72)).toNat * 7)).off + 6, none⟩ = some (.int .i64 ((rd_T40 t795 (ji72)).f2)) ∧ w'.cell? (ad815.add (((ji75)).toNat * 7)) = some (.int .i64 ((rd_T40 t784 (ji75)).f0)) ∧ w'.cell? ⟨(ad815.add (((ji75)).toNat * 7)).block, (ad815.add (((ji75)).toNat * 7)).off + 1, none⟩ = some (.int .i64 ((rd_T40 t784 (ji75)).f1.f0)) ∧ w'.cell? ⟨(ad815.add (((ji75)).toNat * 7)).block, (ad815.add (((ji75)).toNat * 7)).off + 2, none⟩ = some (.int .i64 ((rd_T40 t784 (ji75)).f1.f1)) ∧ w'.cell? ⟨(ad815.add (((ji75)).toNat * 7)).block, (ad815.add (((ji75)).toNat * 7)).off + 3, none⟩ = some (.bool ((rd_T40 t784 (ji75)).f1.f2)) ∧ w'.cell? ⟨(ad815.add (((ji75)).toNat * 7)).block, (ad815.add (((ji75)).toNat * 7)).off + 4, none⟩ = some (.bool ((rd_T40 t784 (ji75)).f1.f3)) ∧ w'.cell? ⟨(ad815.add (((ji75)).toNat * 7)).block, (ad815.add (((ji75)).toNat * 7)).off + 5, none⟩ = some (.bool ((rd_T40 t784 (ji75)).f1.f4)) ∧ w'.cell? ⟨(ad815.add (((ji75)).toNat * 7)).block, (ad815.add (((ji75)).toNat * 7)).off + 6, none⟩ = some (.int .i64 ((rd_T40 t784 (ji75)).f2))) (ds := []) (bm 30 0) (by kernel_rfl) rfl rfl ⟨hx815_0, hx815_1, hx815_2, hx815_3, hx815_4, hx815_5, hx815_6, hx816_0, hx816_1, hx816_2, hx816_3, hx816_4, hx816_5, hx816_6, hx817_0, hx817_1, hx817_2, hx817_3, hx817_4, hx817_5, hx817_6⟩ (fun hHeld => ?_); refine with_tabW laws_FnMoved.tab19 laws_FnMoved.bits19 (fun HT_ HW_ => ?_)
                   generalize w65.drew = w78 at HO_3 HO_7 HO814 BK794 HB hx815_0 hx815_1 hx815_2 hx815_3 hx815_4 hx815_5 hx815_6 hx816_0 hx816_1 hx816_2 hx816_3 hx816_4 hx816_5 hx816_6 hx817_0 hx817_1 hx817_2 hx817_3 hx817_4 hx817_5 hx817_6 hHeld ⊢
                   )
                 | (
                   refine start_ (n := 30) (S := fun w' => w'.cell? (ad815.add ((t787).toNat * 7)) = some (.int .i64 ((rd_T40 t784 t787).f0)) ∧ w'.cell? ⟨(ad815.add ((t787).toNat * 7)).block, (ad815.add ((t787).toNat * 7)).off + 1, none⟩ = some (.int .i64 ((rd_T40 t784 t787).f1.f0)) ∧ w'.cell? ⟨(ad815.add ((t787).toNat * 7)).block, (ad815.add ((t787).toNat * 7)).off + 2, none⟩ = some (.int .i64 ((rd_T40 t784 t787).f1.f1)) ∧ w'.cell? ⟨(ad815.add ((t787).toNat * 7)).block, (ad815.add ((t787).toNat * 7)).off + 3, none⟩ = some (.bool ((rd_T40 t784 t787).f1.f2)) ∧ w'.cell? ⟨(ad815.add ((t787).toNat * 7)).block, (ad815.add ((t787).toNat * 7)).off + 4, none⟩ = some (.bool ((rd_T40 t784 t787).f1.f3)) ∧ w'.cell? ⟨(ad815.add ((t787).toNat * 7)).block, (ad815.add ((t787).toNat * 7)).off + 5, none⟩ = some (.bool ((rd_T40 t784 t787).f1.f4)) ∧ w'.cell? ⟨(ad815.add ((t787).toNat * 7)).block, (ad815.add ((t787).toNat * 7)).off + 6, none⟩ = some (.int .i64 ((rd_T40 t784 t787).f2))) (ds := []) (bm 30 0) (by kernel_rfl) rfl rfl ⟨hx815_0, hx815_1, hx815_2, hx815_3, hx815_4, hx815_5, hx815_6⟩ (fun hHeld => ?_); refine with_tabW laws_FnMoved.tab19 laws_FnMoved.bits19 (fun HT_ HW_ => ?_)
                   generalize w65.drew = w71 at HO_3 HO_7 HO814 BK794 HB hx815_0 hx815_1 hx815_2 hx815_3 hx815_4 hx815_5 hx815_6 hHeld ⊢
                   )
                 )
               | (
                 refine start_ (n := 30) (S := fun w' => True) (ds := []) (bm 30 0) (by kernel_rfl) rfl rfl trivial (fun hHeld => ?_); refine with_tabW laws_FnMoved.tab19 laws_FnMoved.bits19 (fun HT_ HW_ => ?_)
                 generalize w65.drew = w67 at HO_3 HO_7 HO814 BK794 HB hHeld ⊢
                 )
               refine pu_ 0 104 (bm 30 1) HT_.out ?_
               refine pu_ 1 105 (bm 30 3) HT_.out ?_
               refine pu_ 2 106 (bm 30 7) HT_.out ?_
               refine pu_ 3 107 (bm 30 15) HT_.out ?_
               refine pu_ 4 108 (bm 30 31) HT_.out ?_
               refine pu_ 5 109 (bm 30 63) HT_.out ?_
               first | refine un_ 6 110 (bm 30 127) HT_.out ?_ | refine pu_ 6 110 (bm 30 127) HT_.out ?_
               first | refine un_ 7 111 (bm 30 255) HT_.out ?_ | refine pu_ 7 111 (bm 30 255) HT_.out ?_
               first | refine un_ 8 112 (bm 30 511) HT_.out ?_ | refine pu_ 8 112 (bm 30 511) HT_.out ?_
               first | refine un_ 9 113 (bm 30 1023) HT_.out ?_ | refine pu_ 9 113 (bm 30 1023) HT_.out ?_
               first
               | (
                 refine take_ (i := 10) (N := some 114) (v := ?_) (a' := ?_) (bm 30 2047) rfl rfl (take_ofW HT_.out HW_.out (by kernel_rfl)) (fun _ _ _ h => h) (Or.inl ⟨by rfl, ?_⟩) hHeld ?_ ?_
                 rotate_left
                 first
                 | (
                   ·rintro w' ⟨s0, s1, s2, s3, s4, s5, s6, s7, s8, s9, s10, s11, s12, s13, s14, s15, s16, s17, s18, s19, s20⟩
                    go_simp
                    with_reducible rfl
                   )
                 | (
                   ·rintro w' ⟨s0, s1, s2, s3, s4, s5, s6⟩
                    go_simp
                    with_reducible rfl
                   )
                 rotate_left
                 ·simp only [Act.put, List.setIfInBounds_toArray, List.set_cons_zero, List.set_cons_succ, i64_w, i32_w]
                  rfl
                 )
               | refine un_ 10 114 (bm 30 2047) HT_.out ?_
               first | refine un_ 11 115 (bm 30 4095) HT_.out ?_ | refine pu_ 11 115 (bm 30 4095) HT_.out ?_
               refine pu_ 12 116 (bm 30 8191) HT_.out ?_
               refine pu_ 13 117 (bm 30 16383) HT_.out ?_
               first | refine un_ 14 118 (bm 30 32767) HT_.out ?_ | refine pu_ 14 118 (bm 30 32767) HT_.out ?_
               first | refine un_ 15 119 (bm 30 65535) HT_.out ?_ | refine pu_ 15 119 (bm 30 65535) HT_.out ?_
               first | refine un_ 16 120 (bm 30 131071) HT_.out ?_ | refine pu_ 16 120 (bm 30 131071) HT_.out ?_
               first | refine un_ 17 121 (bm 30 262143) HT_.out ?_ | refine pu_ 17 121 (bm 30 262143) HT_.out ?_
               first | refine un_ 18 122 (bm 30 524287) HT_.out ?_ | refine pu_ 18 122 (bm 30 524287) HT_.out ?_
               first
               | (
                 refine pu_ 20 124 (bm 30 1572863) HT_.out ?_
                 refine pu_ 21 125 (bm 30 3670015) HT_.out ?_
                 refine pu_ 22 126 (bm 30 7864319) HT_.out ?_
                 refine pu_ 23 127 (bm 30 16252927) HT_.out ?_
                 refine pu_ 24 128 (bm 30 33030143) HT_.out ?_
                 refine pu_ 25 129 (bm 30 66584575) HT_.out ?_
                 refine pu_ 26 130 (bm 30 133693439) HT_.out ?_
                 refine take_ (i := 19) (N := some 123) (v := ?_) (a' := ?_) (bm 30 134217727) rfl rfl (take_ofW HT_.out HW_.out (by kernel_rfl)) (fun _ _ _ h => h) (Or.inl ⟨by rfl, ?_⟩) hHeld ?_ ?_
                 rotate_left
                 ·rintro w' ⟨s0, s1, s2, s3, s4, s5, s6, s7, s8, s9, s10, s11, s12, s13, s14, s15, s16, s17, s18, s19, s20⟩
                  go_simp
                  with_reducible rfl
                 rotate_left
                 ·simp only [Act.put, List.setIfInBounds_toArray, List.set_cons_zero, List.set_cons_succ, i64_w, i32_w]
                  rfl
                 refine take_ (i := 27) (N := some 131) (v := ?_) (a' := ?_) (bm 30 268435455) rfl rfl (take_ofW HT_.out HW_.out (by kernel_rfl)) (fun _ _ _ h => h) (Or.inl ⟨by rfl, ?_⟩) hHeld ?_ ?_
                 rotate_left
                 ·rintro w' ⟨s0, s1, s2, s3, s4, s5, s6, s7, s8, s9, s10, s11, s12, s13, s14, s15, s16, s17, s18, s19, s20⟩
                  go_simp
                  with_reducible rfl
                 rotate_left
                 ·simp only [Act.put, List.setIfInBounds_toArray, List.set_cons_zero, List.set_cons_succ, i64_w, i32_w]
                  rfl
                 )
               | (
                 refine un_ 19 123 (bm 30 1048575) HT_.out ?_
                 refine un_ 20 124 (bm 30 2097151) HT_.out ?_
                 refine un_ 21 125 (bm 30 4194303) HT_.out ?_
                 refine un_ 22 126 (bm 30 8388607) HT_.out ?_
                 refine un_ 23 127 (bm 30 16777215) HT_.out ?_
                 refine un_ 24 128 (bm 30 33554431) HT_.out ?_
                 refine un_ 25 129 (bm 30 67108863) HT_.out ?_
                 refine un_ 26 130 (bm 30 134217727) HT_.out ?_
                 refine un_ 27 131 (bm 30 268435455) HT_.out ?_
                 )
               first | refine un_ 28 132 (bm 30 536870911) HT_.out ?_ | refine pu_ 28 132 (bm 30 536870911) HT_.out ?_
               refine pu_ 29 133 (bm 30 1073741823) HT_.out ?_
               refine done_ (done_of HT_.out (by kernel_rfl)) ?_
               try go_wp2
               go_meet
               first
               | (
                 have q_ := lf17_
                 case rel => exact ⟨_, ((((rd_T40 t795 (ji72)).f2) != ((rd_T40 t784 (ji75)).f2))), (by first | rfl | (simp; done) | (simp only [← hji72, ← hji75] <;> (first | rfl | simp)) | (simp [*]; done)), H', ⟨by have := HJ6.out; have := HJ35.out; have := HK3.out; have := HJ53.out; first | omega | exact Nat.le_refl _⟩, ⟨by (with_reducible repeat (first | apply r1 | apply r2 | apply r3)); exact Kd.R_mono HO_3.out (fun _ hk => hk.2)⟩, ⟨by (with_reducible repeat (first | apply r1 | apply r2 | apply r3)); exact Kd.R_mono HO814.out (fun _ hk => hk.1.2)⟩, ⟨rk BK794⟩, ⟨by repeat (first | (with_reducible first | exact HB.out | apply b1 | apply b2 | apply b3 | refine below_set ?_ GE794.out) | exact HB.out)⟩⟩
                 )
               | (
                 first | have q_ := lf15_ | have q_ := lf16_
                 case rel => exact ⟨_, (true), (by first | rfl | (simp; done) | (simp [*]; done)), H', ⟨by have := HJ6.out; have := HJ35.out; have := HK3.out; have := HJ53.out; first | omega | exact Nat.le_refl _⟩, ⟨by (with_reducible repeat (first | apply r1 | apply r2 | apply r3)); exact Kd.R_mono HO_3.out (fun _ hk => hk.2)⟩, ⟨by (with_reducible repeat (first | apply r1 | apply r2 | apply r3)); exact Kd.R_mono HO814.out (fun _ hk => hk.1.2)⟩, ⟨rk BK794⟩, ⟨by repeat (first | (with_reducible first | exact HB.out | apply b1 | apply b2 | apply b3 | refine below_set ?_ GE794.out) | exact HB.out)⟩⟩
                 )
             case rest =>
              clear HC63
              try clear p2
              try clear c6
              try clear p6
              try clear c7
              try clear p8
              try clear q8
              try clear hx8
              try clear p64
              try clear c66
              try clear c66b0
              try clear c68
              try clear c68b0
              try clear c69
              try clear c69b0
              try clear c70
              try clear c70b0
              try clear c70b1
              try clear c73
              try clear c73b0
              try clear c74
              try clear c74b0
              try clear c76
              try clear c76b0
              try clear c77
              try clear c77b0
              try clear hx815_0
              try clear hx815_1
              try clear hx815_2
              try clear hx815_3
              try clear hx815_4
              try clear hx815_5
              try clear hx815_6
              try clear hx816_0
              try clear hx816_1
              try clear hx816_2
              try clear hx816_3
              try clear hx816_4
              try clear hx816_5
              try clear hx816_6
              try clear hx817_0
              try clear hx817_1
              try clear hx817_2
              try clear hx817_3
              try clear hx817_4
              try clear hx817_5
              try clear hx817_6
              try clear p815
              try clear p816
              try clear p817
              try clear q815
              try clear q816
              try clear q817
              obtain ⟨kq, x133_62, rfl, HA, HJ62, HO_3, HO_11, BK794, HB⟩ := hcut
              cases kq with
              | zero => exact absurd HA.out (by simp [laws_FnMoved.j4])
              | succ kj62 =>
               have H := HA.out
               clear HA
               simp only [laws_FnMoved.j4] at H
               by_cases c79 : x133_62 = true
               ·subst c79
                rw [if_pos rfl] at H
                replace H := Option.bind_eq_some_iff.mp H
                obtain ⟨t818, A800, H⟩ := H
                replace H : (some t818) = some r := H
                have A80 := am A800
                clear A800
                first
                | with_reducible exact absurd (Option.some.inj (H.trans (congrArg some hT_))) Bool.false_ne_true
                | (
                  obtain rfl := Option.some.inj H
                  obtain ⟨Ao81, co81, eo81⟩ := Kd.R_slice HO_11.out
                  subst eo81
                  go_wp2_with (first | ((with_reducible refine gate_callee (f := 21) rfl ?_); refine gl_ (some 135) Try.func21 #[.slice Ao81 t812.length co81] ?_; (with_reducible refine (impl_RowOk.calls kj62 _ _ t812 t818 _ ?side1 ?side2 A80.out).mono ?_); (case side1 => repeat (first | exact (Kd.R_reads' HO_11.out).2.2 | (with_reducible refine Kd.C_alloc ?_ _) | (with_reducible refine Kd.C_drewN ?_ _) | (with_reducible refine Kd.C_drew ?_))); (case side2 => exact (Kd.R_reads' HO_11.out).2.1); rintro e w82 ⟨rfl, hb⟩; refine ⟨_, rfl, ?_⟩; have n0_ := am (Kd.R_below (rr HO_3) hb); have n1_ := am (Kd.R_below (rr HO_11) hb); have n2_ := am (blk_below (g := gb794) (o := .cells #[.int .i64 t789, .int .i64 t790, .bool t791, .bool t792, .bool t793] 29 (0, 0)) (rk BK794) hb); have n3_ := am (below_step (rb1 HB GE794) hb); clear HO_3; clear HO_11; clear BK794; clear HB; have HO_3 := n0_; have HO_11 := n1_; have BK794 := n2_; have HB := n3_; clear n0_ n1_ n2_ n3_; (try clear hb); (try clear hb2); (try clear hk); (try clear hi)))
                  go_ret
                  exact ⟨by first | rfl | (simp [errW_none, errW_some] <;> rfl) | (simp [*, errW_none, errW_some] <;> rfl), by repeat (first | (with_reducible first | exact HB.out | apply b1 | apply b2 | apply b3 | refine below_set ?_ GE794.out) | exact HB.out)⟩)
               ·replace c79 := Bool.eq_false_iff.mpr c79
                subst c79
                rw [if_neg (show ¬ (false = true) by decide)] at H
                obtain ⟨ji83, hji83⟩ : ∃ j_ : Int, (wrap64 ((t784.length : Int) - t788)) = j_ := ⟨_, rfl⟩
                replace H : (if 0 ≤ (ji83) then (if (ji83) ≤ (t812.length : Int) then (if (ji83) ≤ (t784.length : Int) then ((laws_likeRow.f kj62 (t812.take ((ji83) : Int).toNat) (t784.take ((ji83) : Int).toNat)).bind fun t827 => (if t827 = true then ((impl_Pushed.f kj62 t784 t787 0 t789 t790 t791 t792 t793).bind fun t828 => ((laws_likeRow.f kj62 t828 t784).bind fun t831 => (some t831))) else (some false))) else (none)) else (none)) else (none)) = some r := by first | (rw [hji83] at H; exact H) | (simp only [hji83] at H ⊢; exact H)
                have hji83w : (IntKind.i64.wrap ((t784.length : Int) - t788)) = ji83 := (i64_w _).trans hji83
                by_cases c84 : 0 ≤ (ji83)
                ·rw [if_pos c84] at H
                 have c84b0 := eq_true c84
                 have c84b1 : decide (0 ≤ (ji83)) = true := decide_eq_true c84
                 clear c84
                 by_cases c85 : (ji83) ≤ (t812.length : Int)
                 ·rw [if_pos c85] at H
                  have c85b0 := eq_true c85
                  have c85b1 : decide ((ji83) ≤ (t812.length : Int)) = true := decide_eq_true c85
                  clear c85
                  obtain ⟨y819, hy819⟩ : ∃ y_ : List (S40), y_ = (t812.take ((ji83) : Int).toNat) := ⟨_, rfl⟩
                  replace H : (if (ji83) ≤ (t784.length : Int) then ((laws_likeRow.f kj62 y819 (t784.take ((ji83) : Int).toNat)).bind fun t827 => (if t827 = true then ((impl_Pushed.f kj62 t784 t787 0 t789 t790 t791 t792 t793).bind fun t828 => ((laws_likeRow.f kj62 t828 t784).bind fun t831 => (some t831))) else (some false))) else (none)) = some r := by first | (rw [hy819]; with_reducible exact H) | (rw [hy819]; exact H) | exact H
                  have Ny819 := am hy819
                  clear hy819
                  have c86b0 := eq_true (dt_ : 0 ≤ (ji83))
                  by_cases c87 : (ji83) ≤ (t784.length : Int)
                  ·rw [if_pos c87] at H
                   have c87b0 := eq_true c87
                   have c87b1 : decide ((ji83) ≤ (t784.length : Int)) = true := decide_eq_true c87
                   clear c87
                   obtain ⟨y823, hy823⟩ : ∃ y_ : List (S40), y_ = (t784.take ((ji83) : Int).toNat) := ⟨_, rfl⟩
                   replace H : ((laws_likeRow.f kj62 y819 y823).bind fun t827 => (if t827 = true then ((impl_Pushed.f kj62 t784 t787 0 t789 t790 t791 t792 t793).bind fun t828 => ((laws_likeRow.f kj62 t828 t784).bind fun t831 => (some t831))) else (some false))) = some r := by first | (rw [hy823]; with_reducible exact H) | (rw [hy823]; exact H) | exact H
                   have Ny823 := am hy823
                   clear hy823
                   replace H := Option.bind_eq_some_iff.mp H
                   obtain ⟨t827, A880, H⟩ := H
                   (try dsimp only at H)
                   have A88 := am A880
                   clear A880
                   by_cases c89 : t827 = true
                   ·subst c89
                    rw [if_pos rfl] at H
                    replace H := Option.bind_eq_some_iff.mp H
                    obtain ⟨t828, A900, H⟩ := H
                    (try dsimp only at H)
                    have A90 := am A900
                    clear A900
                    replace H := Option.bind_eq_some_iff.mp H
                    obtain ⟨t831, A910, H⟩ := H
                    replace H : (some t831) = some r := H
                    have A91 := am A910
                    clear A910
                    first
                    | with_reducible exact absurd (Option.some.inj (H.trans (congrArg some hT_))) Bool.false_ne_true
                    | (
                      obtain rfl := Option.some.inj H
                      try go_wp2
                      have n0_ := am (Kd.R_drew HO_3.out)
                      have n1_ := am (Kd.R_drew HO_11.out)
                      have n2_ := am (blk_drew BK794.out)
                      have n3_ := am (below_drew1 HB.out)
                      clear HO_3
                      clear HO_11
                      clear BK794
                      clear HB
                      have HO_3 := n0_
                      have HO_11 := n1_
                      have BK794 := n2_
                      have HB := n3_
                      clear n0_ n1_ n2_ n3_
                      obtain ⟨Ao94, co94, eo94⟩ := Kd.R_slice HO_11.out
                      (first | subst eo94 | (injection eo94 with f1_ f2_ f3_; have f4_ := f1_.symm; have f5_ := f3_.symm; clear f1_ f2_ f3_; subst f4_; subst f5_))
                      have q93 : ((ji83) : Int) ≤ ((t812.length : Int) : Int) := dt_
                      obtain ⟨i093, hi093, _, hsz93, _⟩ := info_parts info40
                      have hroom93 : t812.length ≤ co94 := (Kd.R_reads' HO_11.out).2.1
                      have hC93 : Kd.C k40 _ Ao94 t812.length t812 := (Kd.R_reads' HO_11.out).2.2
                      have hcut93 := cut_to (P := Try.prog) 26 40 .i64 Try.underlying26 hi093 Ao94 t812.length co94 (ji83) dt_ q93 hroom93
                      have hr93 := Kd.C_take (m := ((ji83) : Int).toNat) hC93 (by omega)
                      have hy93 : y819.length = ((ji83) : Int).toNat := (by rw [Ny819.out, List.length_take]; omega)
                      rw [← Ny819.out] at hr93
                      rw [← hy93] at hcut93
                      have HR822 := am hr93
                      have HC822 := am (show y819.length ≤ co94 from by omega)
                      clear hr93 hC93 hroom93 hi093 hsz93
                      have KY93 := am hy93
                      clear hy93
                      have KL93 := am (show ((ji83) : Int).toNat ≤ t812.length from by omega)
                      replace q93 := eq_true q93
                      have q95 : ((ji83) : Int) ≤ ((t784.length : Int) : Int) := dt_
                      obtain ⟨i095, hi095, _, hsz95, _⟩ := info_parts info40
                      have hroom95 : t784.length ≤ co11 := (Kd.R_reads' HO_3.out).2.1
                      have hC95 : Kd.C k40 _ Ao11 t784.length t784 := (Kd.R_reads' HO_3.out).2.2
                      have hcut95 := cut_to (P := Try.prog) 26 40 .i64 Try.underlying26 hi095 Ao11 t784.length co11 (ji83) dt_ q95 hroom95
                      have hr95 := Kd.C_take (m := ((ji83) : Int).toNat) hC95 (by omega)
                      have hy95 : y823.length = ((ji83) : Int).toNat := (by rw [Ny823.out, List.length_take]; omega)
                      rw [← Ny823.out] at hr95
                      rw [← hy95] at hcut95
                      have HR826 := am hr95
                      have HC826 := am (show y823.length ≤ co11 from by omega)
                      clear hr95 hC95 hroom95 hi095 hsz95
                      have KY95 := am hy95
                      clear hy95
                      have KL95 := am (show ((ji83) : Int).toNat ≤ t784.length from by omega)
                      replace q95 := eq_true q95
                      refine start_ (n := 20) (S := fun w' => w'.cell? ⟨gb794, 0, none⟩ = some (.int .i64 t789) ∧ w'.cell? ⟨gb794, 1, none⟩ = some (.int .i64 t790) ∧ w'.cell? ⟨gb794, 2, none⟩ = some (.bool t791) ∧ w'.cell? ⟨gb794, 3, none⟩ = some (.bool t792) ∧ w'.cell? ⟨gb794, 4, none⟩ = some (.bool t793)) (ds := []) (bm 20 0) (by kernel_rfl) rfl rfl ⟨(blk_cell BK794.out 0).trans rfl, (blk_cell BK794.out 1).trans rfl, (blk_cell BK794.out 2).trans rfl, (blk_cell BK794.out 3).trans rfl, (blk_cell BK794.out 4).trans rfl⟩ (fun hHeld => ?_); refine with_tabW laws_FnMoved.tab21 laws_FnMoved.bits21 (fun HT_ HW_ => ?_)
                      generalize wc.drew = w92 at HO_3 HO_11 BK794 HB HR822 HR826 hHeld ⊢
                      refine pu_ 0 136 (bm 20 1) HT_.out ?_
                      refine pu_ 1 137 (bm 20 3) HT_.out ?_
                      refine pu_ 2 138 (bm 20 7) HT_.out ?_
                      refine pu_ 3 139 (bm 20 15) HT_.out ?_
                      refine pu_ 4 140 (bm 20 31) HT_.out ?_
                      refine pu_ 5 141 (bm 20 63) HT_.out ?_
                      refine pu_ 6 142 (bm 20 127) HT_.out ?_
                      refine pu_ 7 143 (bm 20 255) HT_.out ?_
                      refine pu_ 8 144 (bm 20 511) HT_.out ?_
                      refine pu_ 9 145 (bm 20 1023) HT_.out ?_
                      refine one_ (i := 10) (N := some 146) (bm 20 2047) rfl rfl (one_of HT_.out (by kernel_rfl)) (by decide) (fun K hK => ?_)
                      refine goes_ Try.func20 (by kernel_rfl) rfl #[.slice Ao94 y819.length co94, .slice Ao11 y823.length co11] (by rfl) rfl rfl (by (try simp only [List.map_toArray, List.map_cons, List.map_nil]); first | done | rfl | (simp only [List.length_drop, List.length_take]; rfl)) ?_
                      with_reducible refine (laws_likeRow.calls kj62 _ _ y819 _ _ y823 true _ ?side1 ?side2 ?side3 ?side4 A88.out).mono ?_
                      (case side1 => repeat (first | exact (by repeat (first | (with_reducible exact HR822.out) | (with_reducible refine Kd.C_alloc ?_ _) | (with_reducible refine Kd.C_drewN ?_ _) | (with_reducible refine Kd.C_drew ?_) | exact HR822.out)) | (with_reducible refine Kd.C_alloc ?_ _) | (with_reducible refine Kd.C_drewN ?_ _) | (with_reducible refine Kd.C_drew ?_)))
                      (case side2 => exact HC822.out)
                      (case side3 => repeat (first | exact (by repeat (first | (with_reducible exact HR826.out) | (with_reducible refine Kd.C_alloc ?_ _) | (with_reducible refine Kd.C_drewN ?_ _) | (with_reducible refine Kd.C_drew ?_) | exact HR826.out)) | (with_reducible refine Kd.C_alloc ?_ _) | (with_reducible refine Kd.C_drewN ?_ _) | (with_reducible refine Kd.C_drew ?_)))
                      (case side4 => exact HC826.out)
                      rintro e w' ⟨rfl, ⟨nd, rfl⟩⟩
                      refine ⟨_, rfl, ?_⟩
                      refine hK.out _ _ ⟨(blk_cell BK794.out 0).trans rfl, (blk_cell BK794.out 1).trans rfl, (blk_cell BK794.out 2).trans rfl, (blk_cell BK794.out 3).trans rfl, (blk_cell BK794.out 4).trans rfl⟩ (fun hHeld => ?_)
                      clear hK K
                      refine norm_ (a' := ?_) ?_ ?_
                      rotate_left
                      ·show Act.put _ (some 146) _ = _
                       simp only [Act.put, List.setIfInBounds_toArray, List.set_cons_zero, List.set_cons_succ, i64_w, i32_w]
                       rfl
                      refine pu_ 11 147 (bm 20 4095) HT_.out ?_
                      refine pu_ 12 148 (bm 20 8191) HT_.out ?_
                      refine pu_ 13 149 (bm 20 16383) HT_.out ?_
                      refine pu_ 16 152 (bm 20 81919) HT_.out ?_
                      refine take_ (i := 14) (N := some 150) (v := ?_) (a' := ?_) (bm 20 98303) rfl rfl (take_ofW HT_.out HW_.out (by kernel_rfl)) (fun _ _ _ h => h) (Or.inl ⟨by rfl, ?_⟩) hHeld ?_ ?_
                      rotate_left
                      ·rintro w' ⟨s0, s1, s2, s3, s4⟩
                       go_simp
                       with_reducible rfl
                      rotate_left
                      ·simp only [Act.put, List.setIfInBounds_toArray, List.set_cons_zero, List.set_cons_succ, i64_w, i32_w]
                       rfl
                      refine one_ (i := 15) (N := some 151) (bm 20 131071) rfl rfl (one_of HT_.out (by kernel_rfl)) (by decide) (fun K hK => ?_)
                      refine goes_ Try.func17 (by kernel_rfl) rfl #[.slice Ao11 t784.length co11, .int .i64 t787, .int .i64 0, .agg #[.int .i64 t789, .int .i64 t790, .bool t791, .bool t792, .bool t793]] (by rfl) rfl rfl (by (try simp only [List.map_toArray, List.map_cons, List.map_nil]); first | done | rfl | (simp only [List.length_drop, List.length_take]; rfl)) ?_
                      with_reducible refine (impl_Pushed.calls kj62 _ _ t784 t787 0 t789 t790 t791 t792 t793 t828 _ ?side1 ?side2 A90.out).mono ?_
                      (case side1 => repeat (first | exact (Kd.R_reads' HO_3.out).2.2 | (with_reducible refine Kd.C_alloc ?_ _) | (with_reducible refine Kd.C_drewN ?_ _) | (with_reducible refine Kd.C_drew ?_)))
                      (case side2 => exact (Kd.R_reads' HO_3.out).2.1)
                      rintro e w96 ⟨v829, rfl, ho0, hb⟩
                      refine ⟨_, rfl, ?_⟩
                      have n0_ := am (Kd.R_elder' (rr HO_3) (Kd.R_base ho0) hb)
                      have n1_ := am (Kd.R_elder' (rr HO_11) (Kd.R_base ho0) hb)
                      have n2_ := am (Kd.R_lower (Kd.R_new' (Kd.R_new' ho0 (Kd.R_lt (rr HO_3))) (Kd.R_lt (rr HO_11))) (below_size (rb1 HB GE794)))
                      have n3_ := am (blk_below (g := gb794) (o := .cells #[.int .i64 t789, .int .i64 t790, .bool t791, .bool t792, .bool t793] 29 (0, 0)) (rk BK794) hb)
                      have n4_ := am (Kd.C_below (by repeat (first | (with_reducible exact HR822.out) | (with_reducible refine Kd.C_alloc ?_ _) | (with_reducible refine Kd.C_drewN ?_ _) | (with_reducible refine Kd.C_drew ?_) | exact HR822.out)) hb)
                      have n5_ := am (Kd.C_below (by repeat (first | (with_reducible exact HR826.out) | (with_reducible refine Kd.C_alloc ?_ _) | (with_reducible refine Kd.C_drewN ?_ _) | (with_reducible refine Kd.C_drew ?_) | exact HR826.out)) hb)
                      have n6_ := am (below_step (rb1 HB GE794) hb)
                      clear HO_3
                      clear HO_11
                      clear BK794
                      clear HR822
                      clear HR826
                      clear HB
                      have HO_3 := n0_
                      have HO_11 := n1_
                      have HO830 := n2_
                      have BK794 := n3_
                      have HR822 := n4_
                      have HR826 := n5_
                      have HB := n6_
                      clear n0_ n1_ n2_ n3_ n4_ n5_ n6_
                      (try clear hb)
                      (try clear hb2)
                      (try clear hk)
                      (try clear hi)
                      (try clear ho0)
                      obtain ⟨Ao97, co97, eo97⟩ := Kd.R_slice HO830.out
                      (first | subst eo97 | (injection eo97 with f1_ f2_ f3_; have f4_ := f1_.symm; have f5_ := f3_.symm; clear f1_ f2_ f3_; subst f4_; subst f5_))
                      refine hK.out _ _ ⟨(blk_cell BK794.out 0).trans rfl, (blk_cell BK794.out 1).trans rfl, (blk_cell BK794.out 2).trans rfl, (blk_cell BK794.out 3).trans rfl, (blk_cell BK794.out 4).trans rfl⟩ (fun hHeld => ?_)
                      clear hK K
                      refine norm_ (a' := ?_) ?_ ?_
                      rotate_left
                      ·show Act.put _ (some 151) _ = _
                       simp only [Act.put, List.setIfInBounds_toArray, List.set_cons_zero, List.set_cons_succ, i64_w, i32_w]
                       rfl
                      refine one_ (i := 17) (N := some 153) (bm 20 262143) rfl rfl (one_of HT_.out (by kernel_rfl)) (by decide) (fun K hK => ?_)
                      refine goes_ Try.func20 (by kernel_rfl) rfl #[.slice Ao97 t828.length co97, .slice Ao11 t784.length co11] (by rfl) rfl rfl (by (try simp only [List.map_toArray, List.map_cons, List.map_nil]); first | done | rfl | (simp only [List.length_drop, List.length_take]; rfl)) ?_
                      with_reducible refine (laws_likeRow.calls kj62 _ _ t828 _ _ t784 t831 _ ?side1 ?side2 ?side3 ?side4 A91.out).mono ?_
                      (case side1 => repeat (first | exact (Kd.R_reads' HO830.out).2.2 | (with_reducible refine Kd.C_alloc ?_ _) | (with_reducible refine Kd.C_drewN ?_ _) | (with_reducible refine Kd.C_drew ?_)))
                      (case side2 => exact (Kd.R_reads' HO830.out).2.1)
                      (case side3 => repeat (first | exact (Kd.R_reads' HO_3.out).2.2 | (with_reducible refine Kd.C_alloc ?_ _) | (with_reducible refine Kd.C_drewN ?_ _) | (with_reducible refine Kd.C_drew ?_)))
                      (case side4 => exact (Kd.R_reads' HO_3.out).2.1)
                      rintro e w' ⟨rfl, ⟨nd, rfl⟩⟩
                      refine ⟨_, rfl, ?_⟩
                      refine hK.out _ _ ⟨(blk_cell BK794.out 0).trans rfl, (blk_cell BK794.out 1).trans rfl, (blk_cell BK794.out 2).trans rfl, (blk_cell BK794.out 3).trans rfl, (blk_cell BK794.out 4).trans rfl⟩ (fun hHeld => ?_)
                      clear hK K
                      refine norm_ (a' := ?_) ?_ ?_
                      rotate_left
                      ·show Act.put _ (some 153) _ = _
                       simp only [Act.put, List.setIfInBounds_toArray, List.set_cons_zero, List.set_cons_succ, i64_w, i32_w]
                       rfl
                      refine pu_ 18 154 (bm 20 524287) HT_.out ?_
                      refine pu_ 19 2 (bm 20 1048575) HT_.out ?_
                      refine done_ (done_of HT_.out (by kernel_rfl)) ?_
                      try go_wp2
                      go_ret
                      exact ⟨by first | rfl | (simp [errW_none, errW_some] <;> rfl) | (simp only [← hji83]; first | rfl | (simp [errW_none, errW_some] <;> rfl)) | (simp [*, errW_none, errW_some] <;> rfl), by repeat (first | (with_reducible first | exact HB.out | apply b1 | apply b2 | apply b3 | refine below_set ?_ GE794.out) | exact HB.out)⟩)
                   ·replace c89 := Bool.eq_false_iff.mpr c89
                    subst c89
                    have H1 : (some false) = some r := by rw [if_neg (show ¬ (false = true) by decide)] at H; exact H
                    clear H
                    have H := H1
                    clear H1
                    exact absurd (Option.some.inj (H.trans (congrArg some hT_))) Bool.false_ne_true
                  ·rw [if_neg c87] at H
                   exact absurd H (by simp)
                 ·rw [if_neg c85] at H
                  exact absurd H (by simp)
                ·rw [if_neg c84] at H
                 exact absurd H (by simp)

/-- THE ONE PURE STATEMENT of laws_FnMoved: yours. -/
def laws_FnMoved.Pure : Prop := ∀ (l0 : List Int), l0.length ≤ maxLen → l0.length * 1 ≤ 140737488351232 → (∀ x ∈ l0, (Lit.int .u8 x).wf = true) → ∃ k, laws_FnMoved.f k l0 = some true
theorem laws_FnMoved.walk (P : laws_FnMoved.Pure) (a0 : Option Addr) (len0 cap0 : Nat) (z0 : List Int) (w : World) (w0 : (a0 = none ∧ len0 = 0 ∧ cap0 = 0 ∧ z0 = []) ∨ ∃ x, a0 = some x ∧ len0 ≤ cap0 ∧ cap0 ≤ maxLen ∧ z0.length = cap0 ∧ (∀ i, i < z0.length → w.cell? (x.add i) = some (.int .u8 (z0.getD i 0))) ∧ ∀ n ∈ z0, (Lit.int .u8 n).wf = true) (y0 : len0 * 1 ≤ 140737488351232) :
  Calls Try.prog 5 #[.slice a0 len0 cap0] w fun e w' => e = .returned (.bool true) ∧ Below w.heap.size w w' := by
 obtain ⟨l0, rfl, hr0, hm0, hw0, hc0⟩ := ReadsInt.ofRowC w0
 obtain ⟨k, h⟩ := P l0 hm0 y0 hw0
 refine (laws_FnMoved.calls k _ _ l0 true w (Kd.C_of_reads (d := (0 : Int)) (h1 := fun _ => rfl) hr0) hc0 h rfl).mono ?_
 rintro e w' ⟨rfl, hd⟩
 exact ⟨rfl, hd⟩

end Go.Proofs.Ytfhkpneffmcdbaa.QD
