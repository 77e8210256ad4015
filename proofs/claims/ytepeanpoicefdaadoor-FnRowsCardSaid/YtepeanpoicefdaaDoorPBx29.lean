/- Contracts of Go functions that laws of this seat reach: each Lean function answers as its Go function does. No condition. Written by wip/tools/inj.py, over the kit's print. -/
import Derived.Test.YtepeanpoicefdaaDoorPBx0
import Derived.Test.YtepeanpoicefdaaDoorPBx1
import Derived.Test.YtepeanpoicefdaaDoorPBx2
import Derived.Test.YtepeanpoicefdaaDoorPBx3
import Derived.Test.YtepeanpoicefdaaDoorPBx5
import Derived.Test.YtepeanpoicefdaaDoorPBx8
import Derived.Test.YtepeanpoicefdaaDoorPBx11
import Derived.Test.YtepeanpoicefdaaDoorPBx16
import Derived.Test.YtepeanpoicefdaaDoorPBx17
import Derived.Test.YtepeanpoicefdaaDoorPBx18
import Derived.Test.YtepeanpoicefdaaDoorPBx19
import Derived.Test.YtepeanpoicefdaaDoorPBx20
import Derived.Test.YtepeanpoicefdaaDoorPBx21
import Derived.Test.YtepeanpoicefdaaDoorPBx22
import Derived.Test.YtepeanpoicefdaaDoorPBx26
import Derived.Test.YtepeanpoicefdaaDoorPBx28
namespace Go.Proofs.YtepeanpoicefdaaDoor.PB
open Go.RowKit Go.Proofs.YtepeanpoicefdaaDoorW.PrintWords Go.Proofs.YtepeanpoicefdaaDoorW.PrintLast Go.Proofs.YtepeanpoicefdaaDoorW.PrintMore
attribute [local go_sem] max2_int min2_int max_two min_two max_three min_three max_four min_four   -- for this text's walks alone
set_option linter.unusedVariables false
set_option linter.unusedSimpArgs false

attribute [local go_sem high] eqA37 eqA48
/-! ### laws_FnRows: function 4 -/
mutual
def laws_FnRows.j0 : Nat → List (S48) → Int → Int → List (S48) → List (S48) → Int → Int → List (S48) → List (S48) → Bool → Int → Int → Bool → Bool → Bool → Int → Int → Bool → Bool → Bool → Option (Bool)
 | 0, _, _, _, _, _, _, _, _, _, _, _, _, _, _, _, _, _, _, _, _ => none
 | k + 1, x3, x4, x5, x7, x8, x9, x10, x12, x15, x92, x724000, x724001, x724002, x724003, x724004, x738000, x738001, x738002, x738003, x738004 => if x92 = true then (some false) else (if (x15.length : Int) > 0 then ((impl_RowOk.f k x15).bind fun t767 => (if t767 = true then ((impl_RowText.f k x15).bind fun t768 => (laws_FnRows.j1 k x3 x4 x5 x7 x8 x9 x10 x12 (t768.toList != ([] : List UInt8)) x724000 x724001 x724002 x724003 x724004 x738000 x738001 x738002 x738003 x738004)) else (laws_FnRows.j1 k x3 x4 x5 x7 x8 x9 x10 x12 true x724000 x724001 x724002 x724003 x724004 x738000 x738001 x738002 x738003 x738004))) else (laws_FnRows.j1 k x3 x4 x5 x7 x8 x9 x10 x12 false x724000 x724001 x724002 x724003 x724004 x738000 x738001 x738002 x738003 x738004))
def laws_FnRows.j1 : Nat → List (S48) → Int → Int → List (S48) → List (S48) → Int → Int → List (S48) → Bool → Int → Int → Bool → Bool → Bool → Int → Int → Bool → Bool → Bool → Option (Bool)
 | 0, _, _, _, _, _, _, _, _, _, _, _, _, _, _, _, _, _, _, _ => none
 | k + 1, x3, x4, x5, x7, x8, x9, x10, x12, x105, x724000, x724001, x724002, x724003, x724004, x738000, x738001, x738002, x738003, x738004 => if x105 = true then (some false) else (if (x12.length : Int) > 0 then (laws_FnRows.l0 k x3 x4 x5 x7 x8 x9 x10 x12 x9 x724000 x724001 x724002 x724003 x724004 x738000 x738001 x738002 x738003 x738004) else (laws_FnRows.j3 k x3 x4 x5 x7 x724000 x724001 x724002 x724003 x724004))
def laws_FnRows.j3 : Nat → List (S48) → Int → Int → List (S48) → Int → Int → Bool → Bool → Bool → Option (Bool)
 | 0, _, _, _, _, _, _, _, _, _ => none
 | k + 1, x3, x4, x5, x7, x724000, x724001, x724002, x724003, x724004 => if (x7.length : Int) = 0 then (some true) else ((spec_Width.f k x5).bind fun t775 => (laws_FnRows.l1 k x3 x4 x5 x7 t775 0 x724000 x724001 x724002 x724003 x724004))
def laws_FnRows.l1 : Nat → List (S48) → Int → Int → List (S48) → Int → Int → Int → Int → Bool → Bool → Bool → Option (Bool)
 | 0, _, _, _, _, _, _, _, _, _, _, _ => none
 | k + 1, x3, x4, x5, x7, x17, x18, x724000, x724001, x724002, x724003, x724004 => if x18 < (x7.length : Int) then (if x18 < (wrap64 (x4 - 1)) then (laws_FnRows.j5 k x3 x4 x5 x7 x17 x18 true x724000 x724001 x724002 x724003 x724004) else (laws_FnRows.j5 k x3 x4 x5 x7 x17 x18 (decide (x18 > (wrap64 (x4 + x17)))) x724000 x724001 x724002 x724003 x724004)) else ((impl_RowOk.f k x7).bind fun t776 => (if t776 = true then (if (x7.length : Int) = (x3.length : Int) then (if 0 ≤ x4 then (if x4 < (x7.length : Int) then (if ((rd_T48 x7 x4).f0) = x5 then (if (((rd_T48 x7 x4).f1.f0) == x724000 && (((rd_T48 x7 x4).f1.f1) == x724001 && (((rd_T48 x7 x4).f1.f2) == x724002 && (((rd_T48 x7 x4).f1.f3) == x724003 && (((rd_T48 x7 x4).f1.f4) == x724004))))) = true then ((impl_Written.f k x7 x4 x5 x724000 x724001 x724002 x724003 x724004).bind fun t779 => ((laws_likeRow.f k t779 x7).bind fun t782 => (some t782))) else (some false)) else (some false)) else (none)) else (none)) else (some false)) else (some false)))
def laws_FnRows.j5 : Nat → List (S48) → Int → Int → List (S48) → Int → Int → Bool → Int → Int → Bool → Bool → Bool → Option (Bool)
 | 0, _, _, _, _, _, _, _, _, _, _, _, _ => none
 | k + 1, x3, x4, x5, x7, x17, x18, x163, x724000, x724001, x724002, x724003, x724004 => if x163 = true then (if 0 ≤ x18 then (if x18 < (x7.length : Int) then (if x18 < (x3.length : Int) then (if (!(((rd_T48 x7 x18).f0) == ((rd_T48 x3 x18).f0)) || ((!(((rd_T48 x7 x18).f1.f0) == ((rd_T48 x3 x18).f1.f0)) || (!(((rd_T48 x7 x18).f1.f1) == ((rd_T48 x3 x18).f1.f1)) || (!(((rd_T48 x7 x18).f1.f2) == ((rd_T48 x3 x18).f1.f2)) || (!(((rd_T48 x7 x18).f1.f3) == ((rd_T48 x3 x18).f1.f3)) || (!(((rd_T48 x7 x18).f1.f4) == ((rd_T48 x3 x18).f1.f4))))))) || (!(((rd_T48 x7 x18).f2) == ((rd_T48 x3 x18).f2))))) = true then (some false) else (laws_FnRows.l1 k x3 x4 x5 x7 x17 (wrap64 (x18 + 1)) x724000 x724001 x724002 x724003 x724004)) else (none)) else (none)) else (none)) else (laws_FnRows.l1 k x3 x4 x5 x7 x17 (wrap64 (x18 + 1)) x724000 x724001 x724002 x724003 x724004)
def laws_FnRows.l0 : Nat → List (S48) → Int → Int → List (S48) → List (S48) → Int → Int → List (S48) → Int → Int → Int → Bool → Bool → Bool → Int → Int → Bool → Bool → Bool → Option (Bool)
 | 0, _, _, _, _, _, _, _, _, _, _, _, _, _, _, _, _, _, _, _ => none
 | k + 1, x3, x4, x5, x7, x8, x9, x10, x12, x16, x724000, x724001, x724002, x724003, x724004, x738000, x738001, x738002, x738003, x738004 => if x16 < x10 then (if 0 ≤ x16 then (if x16 < (x12.length : Int) then (if (!(((rd_T48 x12 x16).f0) == 32) || ((!(((rd_T48 x12 x16).f1.f0) == x738000) || (!(((rd_T48 x12 x16).f1.f1) == x738001) || (!(((rd_T48 x12 x16).f1.f2) == x738002) || (!(((rd_T48 x12 x16).f1.f3) == x738003) || (!(((rd_T48 x12 x16).f1.f4) == x738004)))))) || (!(((rd_T48 x12 x16).f2) == 0)))) = true then (some false) else (laws_FnRows.l0 k x3 x4 x5 x7 x8 x9 x10 x12 (wrap64 (x16 + 1)) x724000 x724001 x724002 x724003 x724004 x738000 x738001 x738002 x738003 x738004)) else (none)) else (none)) else ((impl_RowOk.f k x12).bind fun t770 => (if t770 = true then (if (x12.length : Int) = (x8.length : Int) then ((impl_Cleared.f k x12 x9 x10 x738000 x738001 x738002 x738003 x738004).bind fun t771 => ((laws_likeRow.f k t771 x12).bind fun t774 => (if t774 = true then (laws_FnRows.j3 k x3 x4 x5 x7 x724000 x724001 x724002 x724003 x724004) else (some false)))) else (some false)) else (some false)))
end
def laws_FnRows.f (k : Nat) (l0 : List Int) : Option (Bool) := (laws_big.f l0).bind fun t712 => (if t712 = true then (some true) else ((spec_DrawWritten.f k l0).bind fun bt713 => ((impl_Written.f k bt713.1 bt713.2.1 bt713.2.2.1 bt713.2.2.2.1 bt713.2.2.2.2.1 bt713.2.2.2.2.2.1 bt713.2.2.2.2.2.2.1 bt713.2.2.2.2.2.2.2).bind fun t724 => ((spec_DrawCleared.f k l0).bind fun bt727 => ((impl_Cleared.f k bt727.1 bt727.2.1 bt727.2.2.1 bt727.2.2.2.1 bt727.2.2.2.2.1 bt727.2.2.2.2.2.1 bt727.2.2.2.2.2.2.1 bt727.2.2.2.2.2.2.2).bind fun t738 => ((spec_DrawBlank.f k l0).bind fun bt741 => ((impl_Blank.f k bt741.1 bt741.2.1 bt741.2.2.1 bt741.2.2.2.1 bt741.2.2.2.2.1 bt741.2.2.2.2.2).bind fun t748 => ((spec_Written.f k bt713.1 bt713.2.1 bt713.2.2.1 bt713.2.2.2.1 bt713.2.2.2.2.1 bt713.2.2.2.2.2.1 bt713.2.2.2.2.2.2.1 bt713.2.2.2.2.2.2.2).bind fun t751 => ((laws_likeRow.f k t724 t751).bind fun t754 => (if t754 = true then ((spec_Cleared.f k bt727.1 bt727.2.1 bt727.2.2.1 bt727.2.2.2.1 bt727.2.2.2.2.1 bt727.2.2.2.2.2.1 bt727.2.2.2.2.2.2.1 bt727.2.2.2.2.2.2.2).bind fun t755 => ((laws_likeRow.f k t738 t755).bind fun t758 => (if t758 = true then ((spec_Blank.f k bt741.1 bt741.2.1 bt741.2.2.1 bt741.2.2.2.1 bt741.2.2.2.2.1 bt741.2.2.2.2.2).bind fun t759 => ((laws_likeRow.f k t748 t759).bind fun t762 => (if t762 = true then ((impl_RowOk.f k bt713.1).bind fun t763 => ((spec_RowOk.f k bt713.1).bind fun t764 => (if (t763 != t764) = true then (laws_FnRows.j0 k bt713.1 bt713.2.1 bt713.2.2.1 t724 bt727.1 bt727.2.1 bt727.2.2.1 t738 t748 true bt713.2.2.2.1 bt713.2.2.2.2.1 bt713.2.2.2.2.2.1 bt713.2.2.2.2.2.2.1 bt713.2.2.2.2.2.2.2 bt727.2.2.2.1 bt727.2.2.2.2.1 bt727.2.2.2.2.2.1 bt727.2.2.2.2.2.2.1 bt727.2.2.2.2.2.2.2) else ((impl_RowText.f k bt713.1).bind fun t765 => ((spec_RowText.f k bt713.1).bind fun t766 => (laws_FnRows.j0 k bt713.1 bt713.2.1 bt713.2.2.1 t724 bt727.1 bt727.2.1 bt727.2.2.1 t738 t748 (t765.toList != t766.toList) bt713.2.2.2.1 bt713.2.2.2.2.1 bt713.2.2.2.2.2.1 bt713.2.2.2.2.2.2.1 bt713.2.2.2.2.2.2.2 bt727.2.2.2.1 bt727.2.2.2.2.1 bt727.2.2.2.2.2.1 bt727.2.2.2.2.2.2.1 bt727.2.2.2.2.2.2.2)))))) else (laws_FnRows.j0 k bt713.1 bt713.2.1 bt713.2.2.1 t724 bt727.1 bt727.2.1 bt727.2.2.1 t738 t748 true bt713.2.2.2.1 bt713.2.2.2.2.1 bt713.2.2.2.2.2.1 bt713.2.2.2.2.2.2.1 bt713.2.2.2.2.2.2.2 bt727.2.2.2.1 bt727.2.2.2.2.1 bt727.2.2.2.2.2.1 bt727.2.2.2.2.2.2.1 bt727.2.2.2.2.2.2.2)))) else (laws_FnRows.j0 k bt713.1 bt713.2.1 bt713.2.2.1 t724 bt727.1 bt727.2.1 bt727.2.2.1 t738 t748 true bt713.2.2.2.1 bt713.2.2.2.2.1 bt713.2.2.2.2.2.1 bt713.2.2.2.2.2.2.1 bt713.2.2.2.2.2.2.2 bt727.2.2.2.1 bt727.2.2.2.2.1 bt727.2.2.2.2.2.1 bt727.2.2.2.2.2.2.1 bt727.2.2.2.2.2.2.2)))) else (laws_FnRows.j0 k bt713.1 bt713.2.1 bt713.2.2.1 t724 bt727.1 bt727.2.1 bt727.2.2.1 t738 t748 true bt713.2.2.2.1 bt713.2.2.2.2.1 bt713.2.2.2.2.2.1 bt713.2.2.2.2.2.2.1 bt713.2.2.2.2.2.2.2 bt727.2.2.2.1 bt727.2.2.2.2.1 bt727.2.2.2.2.2.1 bt727.2.2.2.2.2.2.1 bt727.2.2.2.2.2.2.2)))))))))))
theorem laws_FnRows.mono_l : ∀ k, (∀ y0 y1 y2 y3 y4 y5 y6 y7 y8 y9 y10 y11 y12 y13 y14 y15 y16 y17 y18 y19, LeO (laws_FnRows.j0 k y0 y1 y2 y3 y4 y5 y6 y7 y8 y9 y10 y11 y12 y13 y14 y15 y16 y17 y18 y19) (laws_FnRows.j0 (k + 1) y0 y1 y2 y3 y4 y5 y6 y7 y8 y9 y10 y11 y12 y13 y14 y15 y16 y17 y18 y19)) ∧ (∀ y0 y1 y2 y3 y4 y5 y6 y7 y8 y9 y10 y11 y12 y13 y14 y15 y16 y17 y18, LeO (laws_FnRows.j1 k y0 y1 y2 y3 y4 y5 y6 y7 y8 y9 y10 y11 y12 y13 y14 y15 y16 y17 y18) (laws_FnRows.j1 (k + 1) y0 y1 y2 y3 y4 y5 y6 y7 y8 y9 y10 y11 y12 y13 y14 y15 y16 y17 y18)) ∧ (∀ y0 y1 y2 y3 y4 y5 y6 y7 y8, LeO (laws_FnRows.j3 k y0 y1 y2 y3 y4 y5 y6 y7 y8) (laws_FnRows.j3 (k + 1) y0 y1 y2 y3 y4 y5 y6 y7 y8)) ∧ (∀ y0 y1 y2 y3 y4 y5 y6 y7 y8 y9 y10, LeO (laws_FnRows.l1 k y0 y1 y2 y3 y4 y5 y6 y7 y8 y9 y10) (laws_FnRows.l1 (k + 1) y0 y1 y2 y3 y4 y5 y6 y7 y8 y9 y10)) ∧ (∀ y0 y1 y2 y3 y4 y5 y6 y7 y8 y9 y10 y11, LeO (laws_FnRows.j5 k y0 y1 y2 y3 y4 y5 y6 y7 y8 y9 y10 y11) (laws_FnRows.j5 (k + 1) y0 y1 y2 y3 y4 y5 y6 y7 y8 y9 y10 y11)) ∧ (∀ y0 y1 y2 y3 y4 y5 y6 y7 y8 y9 y10 y11 y12 y13 y14 y15 y16 y17 y18, LeO (laws_FnRows.l0 k y0 y1 y2 y3 y4 y5 y6 y7 y8 y9 y10 y11 y12 y13 y14 y15 y16 y17 y18) (laws_FnRows.l0 (k + 1) y0 y1 y2 y3 y4 y5 y6 y7 y8 y9 y10 y11 y12 y13 y14 y15 y16 y17 y18))
 | 0 => ⟨fun _ _ _ _ _ _ _ _ _ _ _ _ _ _ _ _ _ _ _ _ r h => by simp [laws_FnRows.j0] at h, fun _ _ _ _ _ _ _ _ _ _ _ _ _ _ _ _ _ _ _ r h => by simp [laws_FnRows.j1] at h, fun _ _ _ _ _ _ _ _ _ r h => by simp [laws_FnRows.j3] at h, fun _ _ _ _ _ _ _ _ _ _ _ r h => by simp [laws_FnRows.l1] at h, fun _ _ _ _ _ _ _ _ _ _ _ _ r h => by simp [laws_FnRows.j5] at h, fun _ _ _ _ _ _ _ _ _ _ _ _ _ _ _ _ _ _ _ r h => by simp [laws_FnRows.l0] at h⟩
 | k + 1 => by
  obtain ⟨ih0, ih1, ih2, ih3, ih4, ih5⟩ := laws_FnRows.mono_l k
  refine ⟨?_, ?_, ?_, ?_, ?_, ?_⟩
  ·intro y0 y1 y2 y3 y4 y5 y6 y7 y8 y9 y10 y11 y12 y13 y14 y15 y16 y17 y18 y19
   unfold laws_FnRows.j0
   repeat' first
   | (with_reducible exact ih0 _ _ _ _ _ _ _ _ _ _ _ _ _ _ _ _ _ _ _ _)
   | (with_reducible exact ih1 _ _ _ _ _ _ _ _ _ _ _ _ _ _ _ _ _ _ _)
   | (with_reducible exact ih2 _ _ _ _ _ _ _ _ _)
   | (with_reducible exact ih3 _ _ _ _ _ _ _ _ _ _ _)
   | (with_reducible exact ih4 _ _ _ _ _ _ _ _ _ _ _ _)
   | (with_reducible exact ih5 _ _ _ _ _ _ _ _ _ _ _ _ _ _ _ _ _ _ _)
   | (with_reducible exact impl_Blank.mono _ _ _ _ _ _ _)
   | (with_reducible exact impl_Cleared.mono _ _ _ _ _ _ _ _ _)
   | (with_reducible exact impl_RowOk.mono _ _)
   | (with_reducible exact impl_RowText.mono _ _)
   | (with_reducible exact impl_Written.mono _ _ _ _ _ _ _ _ _)
   | (with_reducible exact laws_likeRow.mono _ _ _)
   | (with_reducible exact spec_Blank.mono _ _ _ _ _ _ _)
   | (with_reducible exact spec_Cleared.mono _ _ _ _ _ _ _ _ _)
   | (with_reducible exact spec_DrawBlank.mono _ _)
   | (with_reducible exact spec_DrawCleared.mono _ _)
   | (with_reducible exact spec_DrawWritten.mono _ _)
   | (with_reducible exact spec_RowOk.mono _ _)
   | (with_reducible exact spec_RowText.mono _ _)
   | (with_reducible exact spec_Width.mono _ _)
   | (with_reducible exact spec_Written.mono _ _ _ _ _ _ _ _ _)
   | (with_reducible exact LeO.refl _)
   | (with_reducible exact LeO.none _)
   | (with_reducible refine LeO.ite ?_ ?_)
   | (with_reducible refine LeO.bind ?_ (fun _ => ?_))
  ·intro y0 y1 y2 y3 y4 y5 y6 y7 y8 y9 y10 y11 y12 y13 y14 y15 y16 y17 y18
   unfold laws_FnRows.j1
   repeat' first
   | (with_reducible exact ih0 _ _ _ _ _ _ _ _ _ _ _ _ _ _ _ _ _ _ _ _)
   | (with_reducible exact ih1 _ _ _ _ _ _ _ _ _ _ _ _ _ _ _ _ _ _ _)
   | (with_reducible exact ih2 _ _ _ _ _ _ _ _ _)
   | (with_reducible exact ih3 _ _ _ _ _ _ _ _ _ _ _)
   | (with_reducible exact ih4 _ _ _ _ _ _ _ _ _ _ _ _)
   | (with_reducible exact ih5 _ _ _ _ _ _ _ _ _ _ _ _ _ _ _ _ _ _ _)
   | (with_reducible exact impl_Blank.mono _ _ _ _ _ _ _)
   | (with_reducible exact impl_Cleared.mono _ _ _ _ _ _ _ _ _)
   | (with_reducible exact impl_RowOk.mono _ _)
   | (with_reducible exact impl_RowText.mono _ _)
   | (with_reducible exact impl_Written.mono _ _ _ _ _ _ _ _ _)
   | (with_reducible exact laws_likeRow.mono _ _ _)
   | (with_reducible exact spec_Blank.mono _ _ _ _ _ _ _)
   | (with_reducible exact spec_Cleared.mono _ _ _ _ _ _ _ _ _)
   | (with_reducible exact spec_DrawBlank.mono _ _)
   | (with_reducible exact spec_DrawCleared.mono _ _)
   | (with_reducible exact spec_DrawWritten.mono _ _)
   | (with_reducible exact spec_RowOk.mono _ _)
   | (with_reducible exact spec_RowText.mono _ _)
   | (with_reducible exact spec_Width.mono _ _)
   | (with_reducible exact spec_Written.mono _ _ _ _ _ _ _ _ _)
   | (with_reducible exact LeO.refl _)
   | (with_reducible exact LeO.none _)
   | (with_reducible refine LeO.ite ?_ ?_)
   | (with_reducible refine LeO.bind ?_ (fun _ => ?_))
  ·intro y0 y1 y2 y3 y4 y5 y6 y7 y8
   unfold laws_FnRows.j3
   repeat' first
   | (with_reducible exact ih0 _ _ _ _ _ _ _ _ _ _ _ _ _ _ _ _ _ _ _ _)
   | (with_reducible exact ih1 _ _ _ _ _ _ _ _ _ _ _ _ _ _ _ _ _ _ _)
   | (with_reducible exact ih2 _ _ _ _ _ _ _ _ _)
   | (with_reducible exact ih3 _ _ _ _ _ _ _ _ _ _ _)
   | (with_reducible exact ih4 _ _ _ _ _ _ _ _ _ _ _ _)
   | (with_reducible exact ih5 _ _ _ _ _ _ _ _ _ _ _ _ _ _ _ _ _ _ _)
   | (with_reducible exact impl_Blank.mono _ _ _ _ _ _ _)
   | (with_reducible exact impl_Cleared.mono _ _ _ _ _ _ _ _ _)
   | (with_reducible exact impl_RowOk.mono _ _)
   | (with_reducible exact impl_RowText.mono _ _)
   | (with_reducible exact impl_Written.mono _ _ _ _ _ _ _ _ _)
   | (with_reducible exact laws_likeRow.mono _ _ _)
   | (with_reducible exact spec_Blank.mono _ _ _ _ _ _ _)
   | (with_reducible exact spec_Cleared.mono _ _ _ _ _ _ _ _ _)
   | (with_reducible exact spec_DrawBlank.mono _ _)
   | (with_reducible exact spec_DrawCleared.mono _ _)
   | (with_reducible exact spec_DrawWritten.mono _ _)
   | (with_reducible exact spec_RowOk.mono _ _)
   | (with_reducible exact spec_RowText.mono _ _)
   | (with_reducible exact spec_Width.mono _ _)
   | (with_reducible exact spec_Written.mono _ _ _ _ _ _ _ _ _)
   | (with_reducible exact LeO.refl _)
   | (with_reducible exact LeO.none _)
   | (with_reducible refine LeO.ite ?_ ?_)
   | (with_reducible refine LeO.bind ?_ (fun _ => ?_))
  ·intro y0 y1 y2 y3 y4 y5 y6 y7 y8 y9 y10
   unfold laws_FnRows.l1
   repeat' first
   | (with_reducible exact ih0 _ _ _ _ _ _ _ _ _ _ _ _ _ _ _ _ _ _ _ _)
   | (with_reducible exact ih1 _ _ _ _ _ _ _ _ _ _ _ _ _ _ _ _ _ _ _)
   | (with_reducible exact ih2 _ _ _ _ _ _ _ _ _)
   | (with_reducible exact ih3 _ _ _ _ _ _ _ _ _ _ _)
   | (with_reducible exact ih4 _ _ _ _ _ _ _ _ _ _ _ _)
   | (with_reducible exact ih5 _ _ _ _ _ _ _ _ _ _ _ _ _ _ _ _ _ _ _)
   | (with_reducible exact impl_Blank.mono _ _ _ _ _ _ _)
   | (with_reducible exact impl_Cleared.mono _ _ _ _ _ _ _ _ _)
   | (with_reducible exact impl_RowOk.mono _ _)
   | (with_reducible exact impl_RowText.mono _ _)
   | (with_reducible exact impl_Written.mono _ _ _ _ _ _ _ _ _)
   | (with_reducible exact laws_likeRow.mono _ _ _)
   | (with_reducible exact spec_Blank.mono _ _ _ _ _ _ _)
   | (with_reducible exact spec_Cleared.mono _ _ _ _ _ _ _ _ _)
   | (with_reducible exact spec_DrawBlank.mono _ _)
   | (with_reducible exact spec_DrawCleared.mono _ _)
   | (with_reducible exact spec_DrawWritten.mono _ _)
   | (with_reducible exact spec_RowOk.mono _ _)
   | (with_reducible exact spec_RowText.mono _ _)
   | (with_reducible exact spec_Width.mono _ _)
   | (with_reducible exact spec_Written.mono _ _ _ _ _ _ _ _ _)
   | (with_reducible exact LeO.refl _)
   | (with_reducible exact LeO.none _)
   | (with_reducible refine LeO.ite ?_ ?_)
   | (with_reducible refine LeO.bind ?_ (fun _ => ?_))
  ·intro y0 y1 y2 y3 y4 y5 y6 y7 y8 y9 y10 y11
   unfold laws_FnRows.j5
   repeat' first
   | (with_reducible exact ih0 _ _ _ _ _ _ _ _ _ _ _ _ _ _ _ _ _ _ _ _)
   | (with_reducible exact ih1 _ _ _ _ _ _ _ _ _ _ _ _ _ _ _ _ _ _ _)
   | (with_reducible exact ih2 _ _ _ _ _ _ _ _ _)
   | (with_reducible exact ih3 _ _ _ _ _ _ _ _ _ _ _)
   | (with_reducible exact ih4 _ _ _ _ _ _ _ _ _ _ _ _)
   | (with_reducible exact ih5 _ _ _ _ _ _ _ _ _ _ _ _ _ _ _ _ _ _ _)
   | (with_reducible exact impl_Blank.mono _ _ _ _ _ _ _)
   | (with_reducible exact impl_Cleared.mono _ _ _ _ _ _ _ _ _)
   | (with_reducible exact impl_RowOk.mono _ _)
   | (with_reducible exact impl_RowText.mono _ _)
   | (with_reducible exact impl_Written.mono _ _ _ _ _ _ _ _ _)
   | (with_reducible exact laws_likeRow.mono _ _ _)
   | (with_reducible exact spec_Blank.mono _ _ _ _ _ _ _)
   | (with_reducible exact spec_Cleared.mono _ _ _ _ _ _ _ _ _)
   | (with_reducible exact spec_DrawBlank.mono _ _)
   | (with_reducible exact spec_DrawCleared.mono _ _)
   | (with_reducible exact spec_DrawWritten.mono _ _)
   | (with_reducible exact spec_RowOk.mono _ _)
   | (with_reducible exact spec_RowText.mono _ _)
   | (with_reducible exact spec_Width.mono _ _)
   | (with_reducible exact spec_Written.mono _ _ _ _ _ _ _ _ _)
   | (with_reducible exact LeO.refl _)
   | (with_reducible exact LeO.none _)
   | (with_reducible refine LeO.ite ?_ ?_)
   | (with_reducible refine LeO.bind ?_ (fun _ => ?_))
  ·intro y0 y1 y2 y3 y4 y5 y6 y7 y8 y9 y10 y11 y12 y13 y14 y15 y16 y17 y18
   unfold laws_FnRows.l0
   repeat' first
   | (with_reducible exact ih0 _ _ _ _ _ _ _ _ _ _ _ _ _ _ _ _ _ _ _ _)
   | (with_reducible exact ih1 _ _ _ _ _ _ _ _ _ _ _ _ _ _ _ _ _ _ _)
   | (with_reducible exact ih2 _ _ _ _ _ _ _ _ _)
   | (with_reducible exact ih3 _ _ _ _ _ _ _ _ _ _ _)
   | (with_reducible exact ih4 _ _ _ _ _ _ _ _ _ _ _ _)
   | (with_reducible exact ih5 _ _ _ _ _ _ _ _ _ _ _ _ _ _ _ _ _ _ _)
   | (with_reducible exact impl_Blank.mono _ _ _ _ _ _ _)
   | (with_reducible exact impl_Cleared.mono _ _ _ _ _ _ _ _ _)
   | (with_reducible exact impl_RowOk.mono _ _)
   | (with_reducible exact impl_RowText.mono _ _)
   | (with_reducible exact impl_Written.mono _ _ _ _ _ _ _ _ _)
   | (with_reducible exact laws_likeRow.mono _ _ _)
   | (with_reducible exact spec_Blank.mono _ _ _ _ _ _ _)
   | (with_reducible exact spec_Cleared.mono _ _ _ _ _ _ _ _ _)
   | (with_reducible exact spec_DrawBlank.mono _ _)
   | (with_reducible exact spec_DrawCleared.mono _ _)
   | (with_reducible exact spec_DrawWritten.mono _ _)
   | (with_reducible exact spec_RowOk.mono _ _)
   | (with_reducible exact spec_RowText.mono _ _)
   | (with_reducible exact spec_Width.mono _ _)
   | (with_reducible exact spec_Written.mono _ _ _ _ _ _ _ _ _)
   | (with_reducible exact LeO.refl _)
   | (with_reducible exact LeO.none _)
   | (with_reducible refine LeO.ite ?_ ?_)
   | (with_reducible refine LeO.bind ?_ (fun _ => ?_))
theorem laws_FnRows.mono : ∀ a0 k, LeO (laws_FnRows.f k a0) (laws_FnRows.f (k + 1) a0) := by
 intro a0 k
 obtain ⟨ih0, ih1, ih2, ih3, ih4, ih5⟩ := laws_FnRows.mono_l k
 unfold laws_FnRows.f
 repeat' first
   | (with_reducible exact ih0 _ _ _ _ _ _ _ _ _ _ _ _ _ _ _ _ _ _ _ _)
   | (with_reducible exact ih1 _ _ _ _ _ _ _ _ _ _ _ _ _ _ _ _ _ _ _)
   | (with_reducible exact ih2 _ _ _ _ _ _ _ _ _)
   | (with_reducible exact ih3 _ _ _ _ _ _ _ _ _ _ _)
   | (with_reducible exact ih4 _ _ _ _ _ _ _ _ _ _ _ _)
   | (with_reducible exact ih5 _ _ _ _ _ _ _ _ _ _ _ _ _ _ _ _ _ _ _)
   | (with_reducible exact impl_Blank.mono _ _ _ _ _ _ _)
   | (with_reducible exact impl_Cleared.mono _ _ _ _ _ _ _ _ _)
   | (with_reducible exact impl_RowOk.mono _ _)
   | (with_reducible exact impl_RowText.mono _ _)
   | (with_reducible exact impl_Written.mono _ _ _ _ _ _ _ _ _)
   | (with_reducible exact laws_likeRow.mono _ _ _)
   | (with_reducible exact spec_Blank.mono _ _ _ _ _ _ _)
   | (with_reducible exact spec_Cleared.mono _ _ _ _ _ _ _ _ _)
   | (with_reducible exact spec_DrawBlank.mono _ _)
   | (with_reducible exact spec_DrawCleared.mono _ _)
   | (with_reducible exact spec_DrawWritten.mono _ _)
   | (with_reducible exact spec_RowOk.mono _ _)
   | (with_reducible exact spec_RowText.mono _ _)
   | (with_reducible exact spec_Width.mono _ _)
   | (with_reducible exact spec_Written.mono _ _ _ _ _ _ _ _ _)
   | (with_reducible exact LeO.refl _)
   | (with_reducible exact LeO.none _)
   | (with_reducible refine LeO.ite ?_ ?_)
   | (with_reducible refine LeO.bind ?_ (fun _ => ?_))
def laws_FnRows.T28 : Bool × List (List Nat × List Nat) := (true, [([], []), ([], []), ([0, 1], [0, 1]), ([2], [2]), ([], []), ([], []), ([4, 5], [4, 5]), ([6], [6]), ([3, 7], [3, 7])])
def laws_FnRows.B28 : List Nat := [0, 0, 3, 7, 0, 0, 48, 112, 255]
theorem laws_FnRows.tab28 : rtab .any (opsOf Tryd.f4 28) = laws_FnRows.T28 := by kernel_rfl
theorem laws_FnRows.bits28 : waitsOk laws_FnRows.T28.2 laws_FnRows.B28 = true := by kernel_rfl
def laws_FnRows.T30 : Bool × List (List Nat × List Nat) := (true, [([], []), ([0], [0]), ([1, 1], [1]), ([2], [2]), ([3, 2], [2, 3]), ([2], [2]), ([5, 2], [2, 5]), ([4, 6, 2], [2, 4, 6]), ([2, 7], [2, 7]), ([8, 2], [8]), ([9], [9]), ([9], [9]), ([10, 11, 9], [9, 10, 11]), ([12, 9], [9, 12]), ([13, 9], [9, 13]), ([9], [9]), ([14, 15, 9], [9, 14, 15]), ([9, 16], [9, 16]), ([17, 9], [17]), ([18], [18]), ([18], [18]), ([19, 20, 18], [18, 19, 20]), ([21, 18], [18, 21]), ([22, 18], [18, 22]), ([18], [18]), ([23, 24, 18], [18, 23, 24]), ([18, 25], [18, 25]), ([26, 18], [26]), ([27], [27]), ([27], [27]), ([27], [27]), ([27], [27]), ([28, 29, 30, 31, 27, 27], [27, 28, 29, 30, 31]), ([27], [27]), ([32, 33, 32, 27], [27, 32, 33]), ([27, 34], [27, 34]), ([35, 34, 0, 1, 2, 3, 4, 5, 6, 7, 8, 9, 10, 11, 12, 13, 14, 15, 16, 17, 18, 19, 20, 21, 22, 23, 24, 25, 26, 27, 28, 29, 30, 31, 32, 33, 34, 35], [35])])
def laws_FnRows.B30 : List Nat := [0, 1, 3, 7, 15, 7, 39, 127, 255, 511, 1023, 1023, 4095, 8191, 16383, 1023, 65535, 131071, 262143, 524287, 524287, 2097151, 4194303, 8388607, 524287, 33554431, 67108863, 134217727, 268435455, 268435455, 268435455, 268435455, 4294967295, 268435455, 17179869183, 34359738367, 68719476735]
theorem laws_FnRows.tab30 : rtab .any (opsOf Tryd.f4 30) = laws_FnRows.T30 := by kernel_rfl
theorem laws_FnRows.bits30 : waitsOk laws_FnRows.T30.2 laws_FnRows.B30 = true := by kernel_rfl
set_option maxHeartbeats 100000000 in
set_option maxRecDepth 100000 in
theorem laws_FnRows.calls (k : Nat) (A0 : Option Addr) (c0 : Nat) (l0 : List Int) (r : Bool) (w : World) (hr0 : Kd.C (Kd.int .u8) w A0 l0.length l0) (hc0 : l0.length ≤ c0) (h : laws_FnRows.f k l0 = some r) (hT_ : r = true) :
  Calls Tryd.prog 4 #[.slice A0 l0.length c0] w fun e w' => e = .returned (.bool r) ∧ Below w.heap.size w w' := by
 have hu37 := Tryd.underlying37
 have hu48 := Tryd.underlying48
 have HR0 := am hr0
 have HC0 := am hc0
 clear hr0 hc0
 have HB := am (Below.refl w.heap.size w)
 have H := h
 unfold laws_FnRows.f at H
 clear h
 replace H := Option.bind_eq_some_iff.mp H
 obtain ⟨t712, A20, H⟩ := H
 (try dsimp only at H)
 have A2 := am A20
 clear A20
 by_cases c3 : t712 = true
 ·subst c3
  have H1 : (some true) = some r := by rw [if_pos rfl] at H; exact H
  clear H
  have H := H1
  clear H1
  obtain rfl := Option.some.inj H
  go_enter Tryd.func4, Tryd.ntmps4
  go_wp2_with (first | ((with_reducible refine gate_callee (f := 10) rfl ?_); refine gl_ (some 20) Tryd.func10 #[.slice A0 l0.length c0] ?_; (with_reducible refine (laws_big.calls _ _ l0 true _ ?side1 ?side2 A2.out).mono ?_); (case side1 => exact rc (HR0.out)); (case side2 => exact HC0.out); rintro e w' ⟨rfl, ⟨nd, rfl⟩⟩; refine ⟨_, rfl, ?_⟩))
  go_ret
  exact ⟨by first | rfl | (simp [errW_none, errW_some] <;> rfl) | (simp [*, errW_none, errW_some] <;> rfl), by repeat (first | (with_reducible first | exact HB.out | apply b1 | apply b2 | apply b3) | exact HB.out)⟩
 ·as_aux_lemma =>
  replace c3 := Bool.eq_false_iff.mpr c3
  subst c3
  rw [if_neg (show ¬ (false = true) by decide)] at H
  replace H := Option.bind_eq_some_iff.mp H
  obtain ⟨⟨t713, t716, t717, t718, t719, t720, t721, t722⟩, A40, H⟩ := H
  (try dsimp only at H)
  have A4 := am A40
  clear A40
  replace H := Option.bind_eq_some_iff.mp H
  obtain ⟨t724, A50, H⟩ := H
  (try dsimp only at H)
  have A5 := am A50
  clear A50
  replace H := Option.bind_eq_some_iff.mp H
  obtain ⟨⟨t727, t730, t731, t732, t733, t734, t735, t736⟩, A60, H⟩ := H
  (try dsimp only at H)
  have A6 := am A60
  clear A60
  replace H := Option.bind_eq_some_iff.mp H
  obtain ⟨t738, A70, H⟩ := H
  (try dsimp only at H)
  have A7 := am A70
  clear A70
  replace H := Option.bind_eq_some_iff.mp H
  obtain ⟨⟨t741, t742, t743, t744, t745, t746⟩, A80, H⟩ := H
  (try dsimp only at H)
  have A8 := am A80
  clear A80
  replace H := Option.bind_eq_some_iff.mp H
  obtain ⟨t748, A90, H⟩ := H
  (try dsimp only at H)
  have A9 := am A90
  clear A90
  have HC10 := am H
  clear H
  go_enter Tryd.func4, Tryd.ntmps4
  go_upto_region 9 with (first | ((with_reducible refine gate_callee (f := 10) rfl ?_); refine gl_ (some 20) Tryd.func10 #[.slice A0 l0.length c0] ?_; (with_reducible refine (laws_big.calls _ _ l0 false _ ?side1 ?side2 A2.out).mono ?_); (case side1 => exact rc (HR0.out)); (case side2 => exact HC0.out); rintro e w' ⟨rfl, ⟨nd, rfl⟩⟩; refine ⟨_, rfl, ?_⟩) | ((with_reducible refine gate_callee (f := 11) rfl ?_); refine gl_ (some 23) Tryd.func11 #[.slice A0 l0.length c0] ?_; (with_reducible refine (spec_DrawWritten.calls k _ _ l0 t713 t716 t717 t718 t719 t720 t721 t722 _ ?side1 ?side2 A4.out).mono ?_); (case side1 => exact rc (HR0.out)); (case side2 => exact HC0.out); rintro e w11 ⟨v714, rfl, ho0, hb⟩; refine ⟨_, rfl, ?_⟩; have n0_ := am (Kd.R_lower ho0 (below_size (rb HB))); have n1_ := am (below_step (rb HB) hb); clear HB; have HO715 := n0_; have HB := n1_; clear n0_ n1_; (try clear hb); (try clear hb2); (try clear hk); (try clear hi); (try clear ho0)) | ((with_reducible refine gate_dst (N := 6) rfl ?_); (try (refine gate_guard (by rfl) ?_; dsimp only)); refine box_event ?hg (N := 6) ?hd (cs := #[.int .i64 0, .int .i64 0, .bool false, .bool false, .bool false]) (t := 37) ?hr ?_; (case hd => rfl); (case hg => rfl); (case hr => first | (go_simp; done) | (go_simp; rfl)); intro gb723 hg w12 hbox hb; have n0_ := am (Kd.R_below (rr HO715) hb); have n1_ := am (below_step (rb HB) hb); have n2_ := am (hbox); have n3_ := am ((by rw [hg]; exact (below_size (rb HB)) : w.heap.size ≤ gb723)); have n4_ := am ((by rw [hg]; exact (below_size (rb HB)) : w.heap.size ≤ gb723)); clear HO715; clear HB; have HO715 := n0_; have HB := n1_; have BK723 := n2_; have GW723 := n3_; have GE723 := n4_; clear n0_ n1_ n2_ n3_ n4_; clear hb hbox hg; have hcz13_0 : w12.cell? ⟨gb723, 0, none⟩ = some (.int .i64 0) := (blk_cell BK723.out 0).trans rfl; have hcz13_1 : w12.cell? ⟨gb723, 1, none⟩ = some (.int .i64 0) := (blk_cell BK723.out 1).trans rfl; have hcz13_2 : w12.cell? ⟨gb723, 2, none⟩ = some (.bool false) := (blk_cell BK723.out 2).trans rfl; have hcz13_3 : w12.cell? ⟨gb723, 3, none⟩ = some (.bool false) := (blk_cell BK723.out 3).trans rfl; have hcz13_4 : w12.cell? ⟨gb723, 4, none⟩ = some (.bool false) := (blk_cell BK723.out 4).trans rfl; have hfz13_0 := blk_frozen BK723.out 0; have hfz13_1 := blk_frozen BK723.out 1; have hfz13_2 := blk_frozen BK723.out 2; have hfz13_3 := blk_frozen BK723.out 3; have hfz13_4 := blk_frozen BK723.out 4; obtain ⟨Ao14, co14, eo14⟩ := Kd.R_slice HO715.out; subst eo14) | ((with_reducible refine gate_callee (f := 12) rfl ?_); refine gl_ (some 32) Tryd.func12 #[.slice Ao14 t713.length co14, .int .i64 t716, .int .i64 t717, .agg #[.int .i64 t718, .int .i64 t719, .bool t720, .bool t721, .bool t722]] ?_; (with_reducible refine (impl_Written.calls k _ _ t713 t716 t717 t718 t719 t720 t721 t722 t724 _ ?side1 ?side2 A5.out).mono ?_); (case side1 => refine (Kd.R_reads' (e := 48) (base := w.heap.size) (ok := fun k_ => True) (n := t713.length) (c := co14) ?_).2.2; exact (by (with_reducible repeat (first | apply r1 | apply r2 | apply r3)); exact (Kd.R_mono (Kd.R_far (p := ⟨gb723, 4, none⟩) (Kd.R_far (p := ⟨gb723, 3, none⟩) (Kd.R_far (p := ⟨gb723, 2, none⟩) (Kd.R_far (p := ⟨gb723, 1, none⟩) (Kd.R_far (p := ⟨gb723, 0, none⟩) (Kd.R_types HO715.out BK723.out (by decide)) (fun _ hk => hk.2) (.int .i64 t718)) (fun _ hk => hk.2) (.int .i64 t719)) (fun _ hk => hk.2) (.bool t720)) (fun _ hk => hk.2) (.bool t721)) (fun _ hk => hk.2) (.bool t722)) (fun _ h_ => h_.1)))); (case side2 => exact (Kd.R_reads' HO715.out).2.1); rintro e w15 ⟨v725, rfl, ho0, hb⟩; refine ⟨_, rfl, ?_⟩; have n0_ := am (Kd.R_elder' (by (with_reducible repeat (first | apply r1 | apply r2 | apply r3)); exact (Kd.R_mono (Kd.R_far (p := ⟨gb723, 4, none⟩) (Kd.R_far (p := ⟨gb723, 3, none⟩) (Kd.R_far (p := ⟨gb723, 2, none⟩) (Kd.R_far (p := ⟨gb723, 1, none⟩) (Kd.R_far (p := ⟨gb723, 0, none⟩) (Kd.R_types HO715.out BK723.out (by decide)) (fun _ hk => hk.2) (.int .i64 t718)) (fun _ hk => hk.2) (.int .i64 t719)) (fun _ hk => hk.2) (.bool t720)) (fun _ hk => hk.2) (.bool t721)) (fun _ hk => hk.2) (.bool t722)) (fun _ h_ => h_.1))) (Kd.R_base ho0) hb); have n1_ := am (Kd.R_lower (Kd.R_new' ho0 (Kd.R_lt (by (with_reducible repeat (first | apply r1 | apply r2 | apply r3)); exact (Kd.R_mono (Kd.R_far (p := ⟨gb723, 4, none⟩) (Kd.R_far (p := ⟨gb723, 3, none⟩) (Kd.R_far (p := ⟨gb723, 2, none⟩) (Kd.R_far (p := ⟨gb723, 1, none⟩) (Kd.R_far (p := ⟨gb723, 0, none⟩) (Kd.R_types HO715.out BK723.out (by decide)) (fun _ hk => hk.2) (.int .i64 t718)) (fun _ hk => hk.2) (.int .i64 t719)) (fun _ hk => hk.2) (.bool t720)) (fun _ hk => hk.2) (.bool t721)) (fun _ hk => hk.2) (.bool t722)) (fun _ h_ => h_.1))))) (below_size (rb1 HB GE723))); have n2_ := am (blk_below (g := gb723) (o := .cells #[.int .i64 t718, .int .i64 t719, .bool t720, .bool t721, .bool t722] 37 (0, 0)) (by (with_reducible repeat (first | apply k1 | apply k2 | apply k3)); refine blk_put (cs := #[.int .i64 t718, .int .i64 t719, .bool t720, .bool t721, .bool false]) ?_ 4 _ rfl; (with_reducible repeat (first | apply k1 | apply k2 | apply k3)); refine blk_put (cs := #[.int .i64 t718, .int .i64 t719, .bool t720, .bool false, .bool false]) ?_ 3 _ rfl; (with_reducible repeat (first | apply k1 | apply k2 | apply k3)); refine blk_put (cs := #[.int .i64 t718, .int .i64 t719, .bool false, .bool false, .bool false]) ?_ 2 _ rfl; (with_reducible repeat (first | apply k1 | apply k2 | apply k3)); refine blk_put (cs := #[.int .i64 t718, .int .i64 0, .bool false, .bool false, .bool false]) ?_ 1 _ rfl; (with_reducible repeat (first | apply k1 | apply k2 | apply k3)); refine blk_put (cs := #[.int .i64 0, .int .i64 0, .bool false, .bool false, .bool false]) ?_ 0 _ rfl; (with_reducible repeat (first | apply k1 | apply k2 | apply k3)); exact BK723.out) hb); have n3_ := am (below_step (rb1 HB GE723) hb); clear HO715; clear BK723; clear HB; have HO715 := n0_; have HO726 := n1_; have BK723 := n2_; have HB := n3_; clear n0_ n1_ n2_ n3_; (try clear hb); (try clear hb2); (try clear hk); (try clear hi); (try clear ho0)) | ((with_reducible refine gate_callee (f := 13) rfl ?_); refine gl_ (some 35) Tryd.func13 #[.slice A0 l0.length c0] ?_; (with_reducible refine (spec_DrawCleared.calls k _ _ l0 t727 t730 t731 t732 t733 t734 t735 t736 _ ?side1 ?side2 A6.out).mono ?_); (case side1 => exact rc ((Kd.C_below HR0.out HB.out))); (case side2 => exact HC0.out); rintro e w16 ⟨v728, rfl, ho0, hb⟩; refine ⟨_, rfl, ?_⟩; have n0_ := am (Kd.R_elder' (rr HO715) (Kd.R_base ho0) hb); have n1_ := am (Kd.R_elder' (rr HO726) (Kd.R_base ho0) hb); have n2_ := am (Kd.R_lower (Kd.R_new' (Kd.R_new' ho0 (Kd.R_lt (rr HO715))) (Kd.R_lt (rr HO726))) (below_size (rb1 HB GE723))); have n3_ := am (blk_below (g := gb723) (o := .cells #[.int .i64 t718, .int .i64 t719, .bool t720, .bool t721, .bool t722] 37 (0, 0)) (rk BK723) hb); have n4_ := am (below_step (rb1 HB GE723) hb); clear HO715; clear HO726; clear BK723; clear HB; have HO715 := n0_; have HO726 := n1_; have HO729 := n2_; have BK723 := n3_; have HB := n4_; clear n0_ n1_ n2_ n3_ n4_; (try clear hb); (try clear hb2); (try clear hk); (try clear hi); (try clear ho0)) | ((with_reducible refine gate_dst (N := 11) rfl ?_); (try (refine gate_guard (by rfl) ?_; dsimp only)); refine box_event ?hg (N := 11) ?hd (cs := #[.int .i64 0, .int .i64 0, .bool false, .bool false, .bool false]) (t := 37) ?hr ?_; (case hd => rfl); (case hg => rfl); (case hr => first | (go_simp; done) | (go_simp; rfl)); intro gb737 hg w17 hbox hb; have n0_ := am (Kd.R_below (rr HO715) hb); have n1_ := am (Kd.R_below (rr HO726) hb); have n2_ := am (Kd.R_below (rr HO729) hb); have n3_ := am (blk_below (g := gb723) (o := .cells #[.int .i64 t718, .int .i64 t719, .bool t720, .bool t721, .bool t722] 37 (0, 0)) (rk BK723) hb); have n4_ := am (below_step (rb1 HB GE723) hb); have n5_ := am (hbox); have n6_ := am ((by rw [hg]; exact (below_size (rb1 HB GE723)) : w.heap.size ≤ gb737)); have n7_ := am ((by rw [hg]; exact (below_size (rb1 HB GE723)) : w.heap.size ≤ gb737)); have n8_ := am ((by rw [hg]; exact Nat.ne_of_lt (blk_lt (g := gb723) (o := .cells #[.int .i64 t718, .int .i64 t719, .bool t720, .bool t721, .bool t722] 37 (0, 0)) (rk BK723)) : gb723 ≠ gb737)); have n9_ := am ((by rw [hg]; exact Nat.ne_of_gt (blk_lt (g := gb723) (o := .cells #[.int .i64 t718, .int .i64 t719, .bool t720, .bool t721, .bool t722] 37 (0, 0)) (rk BK723)) : gb737 ≠ gb723)); clear HO715; clear HO726; clear HO729; clear BK723; clear HB; have HO715 := n0_; have HO726 := n1_; have HO729 := n2_; have BK723 := n3_; have HB := n4_; have BK737 := n5_; have GW737 := n6_; have GE737 := n7_; have NB723_737 := n8_; have NB737_723 := n9_; clear n0_ n1_ n2_ n3_ n4_ n5_ n6_ n7_ n8_ n9_; clear hb hbox hg; have hnb18 := NB737_723.out; have hnc18 := NB723_737.out; have hcz19_0 : w17.cell? ⟨gb737, 0, none⟩ = some (.int .i64 0) := (blk_cell BK737.out 0).trans rfl; have hcz19_1 : w17.cell? ⟨gb737, 1, none⟩ = some (.int .i64 0) := (blk_cell BK737.out 1).trans rfl; have hcz19_2 : w17.cell? ⟨gb737, 2, none⟩ = some (.bool false) := (blk_cell BK737.out 2).trans rfl; have hcz19_3 : w17.cell? ⟨gb737, 3, none⟩ = some (.bool false) := (blk_cell BK737.out 3).trans rfl; have hcz19_4 : w17.cell? ⟨gb737, 4, none⟩ = some (.bool false) := (blk_cell BK737.out 4).trans rfl; have hfz19_0 := blk_frozen BK737.out 0; have hfz19_1 := blk_frozen BK737.out 1; have hfz19_2 := blk_frozen BK737.out 2; have hfz19_3 := blk_frozen BK737.out 3; have hfz19_4 := blk_frozen BK737.out 4; obtain ⟨Ao20, co20, eo20⟩ := Kd.R_slice HO729.out; subst eo20) | ((with_reducible refine gate_callee (f := 14) rfl ?_); refine gl_ (some 44) Tryd.func14 #[.slice Ao20 t727.length co20, .int .i64 t730, .int .i64 t731, .agg #[.int .i64 t732, .int .i64 t733, .bool t734, .bool t735, .bool t736]] ?_; (with_reducible refine (impl_Cleared.calls k _ _ t727 t730 t731 t732 t733 t734 t735 t736 t738 _ ?side1 ?side2 A7.out).mono ?_); (case side1 => refine (Kd.R_reads' (e := 48) (base := w.heap.size) (ok := fun k_ => ((True ∧ some k_ ≠ (.slice Ao14 t713.length co14 : Value).ownBlock) ∧ some k_ ≠ (v725 : Value).ownBlock)) (n := t727.length) (c := co20) ?_).2.2; exact (by (with_reducible repeat (first | apply r1 | apply r2 | apply r3)); exact (Kd.R_mono (Kd.R_far (p := ⟨gb737, 4, none⟩) (Kd.R_far (p := ⟨gb737, 3, none⟩) (Kd.R_far (p := ⟨gb737, 2, none⟩) (Kd.R_far (p := ⟨gb737, 1, none⟩) (Kd.R_far (p := ⟨gb737, 0, none⟩) (Kd.R_types HO729.out BK737.out (by decide)) (fun _ hk => hk.2) (.int .i64 t732)) (fun _ hk => hk.2) (.int .i64 t733)) (fun _ hk => hk.2) (.bool t734)) (fun _ hk => hk.2) (.bool t735)) (fun _ hk => hk.2) (.bool t736)) (fun _ h_ => h_.1)))); (case side2 => exact (Kd.R_reads' HO729.out).2.1); rintro e w21 ⟨v739, rfl, ho0, hb⟩; refine ⟨_, rfl, ?_⟩; have n0_ := am (Kd.R_elder' (by (with_reducible repeat (first | apply r1 | apply r2 | apply r3)); exact (Kd.R_mono (Kd.R_far (p := ⟨gb737, 4, none⟩) (Kd.R_far (p := ⟨gb737, 3, none⟩) (Kd.R_far (p := ⟨gb737, 2, none⟩) (Kd.R_far (p := ⟨gb737, 1, none⟩) (Kd.R_far (p := ⟨gb737, 0, none⟩) (Kd.R_types HO715.out BK737.out (by decide)) (fun _ hk => hk.2) (.int .i64 t732)) (fun _ hk => hk.2) (.int .i64 t733)) (fun _ hk => hk.2) (.bool t734)) (fun _ hk => hk.2) (.bool t735)) (fun _ hk => hk.2) (.bool t736)) (fun _ h_ => h_.1))) (Kd.R_base ho0) hb); have n1_ := am (Kd.R_elder' (by (with_reducible repeat (first | apply r1 | apply r2 | apply r3)); exact (Kd.R_mono (Kd.R_far (p := ⟨gb737, 4, none⟩) (Kd.R_far (p := ⟨gb737, 3, none⟩) (Kd.R_far (p := ⟨gb737, 2, none⟩) (Kd.R_far (p := ⟨gb737, 1, none⟩) (Kd.R_far (p := ⟨gb737, 0, none⟩) (Kd.R_types HO726.out BK737.out (by decide)) (fun _ hk => hk.2) (.int .i64 t732)) (fun _ hk => hk.2) (.int .i64 t733)) (fun _ hk => hk.2) (.bool t734)) (fun _ hk => hk.2) (.bool t735)) (fun _ hk => hk.2) (.bool t736)) (fun _ h_ => h_.1))) (Kd.R_base ho0) hb); have n2_ := am (Kd.R_elder' (by (with_reducible repeat (first | apply r1 | apply r2 | apply r3)); exact (Kd.R_mono (Kd.R_far (p := ⟨gb737, 4, none⟩) (Kd.R_far (p := ⟨gb737, 3, none⟩) (Kd.R_far (p := ⟨gb737, 2, none⟩) (Kd.R_far (p := ⟨gb737, 1, none⟩) (Kd.R_far (p := ⟨gb737, 0, none⟩) (Kd.R_types HO729.out BK737.out (by decide)) (fun _ hk => hk.2) (.int .i64 t732)) (fun _ hk => hk.2) (.int .i64 t733)) (fun _ hk => hk.2) (.bool t734)) (fun _ hk => hk.2) (.bool t735)) (fun _ hk => hk.2) (.bool t736)) (fun _ h_ => h_.1))) (Kd.R_base ho0) hb); have n3_ := am (Kd.R_lower (Kd.R_new' (Kd.R_new' (Kd.R_new' ho0 (Kd.R_lt (by (with_reducible repeat (first | apply r1 | apply r2 | apply r3)); exact (Kd.R_mono (Kd.R_far (p := ⟨gb737, 4, none⟩) (Kd.R_far (p := ⟨gb737, 3, none⟩) (Kd.R_far (p := ⟨gb737, 2, none⟩) (Kd.R_far (p := ⟨gb737, 1, none⟩) (Kd.R_far (p := ⟨gb737, 0, none⟩) (Kd.R_types HO715.out BK737.out (by decide)) (fun _ hk => hk.2) (.int .i64 t732)) (fun _ hk => hk.2) (.int .i64 t733)) (fun _ hk => hk.2) (.bool t734)) (fun _ hk => hk.2) (.bool t735)) (fun _ hk => hk.2) (.bool t736)) (fun _ h_ => h_.1))))) (Kd.R_lt (by (with_reducible repeat (first | apply r1 | apply r2 | apply r3)); exact (Kd.R_mono (Kd.R_far (p := ⟨gb737, 4, none⟩) (Kd.R_far (p := ⟨gb737, 3, none⟩) (Kd.R_far (p := ⟨gb737, 2, none⟩) (Kd.R_far (p := ⟨gb737, 1, none⟩) (Kd.R_far (p := ⟨gb737, 0, none⟩) (Kd.R_types HO726.out BK737.out (by decide)) (fun _ hk => hk.2) (.int .i64 t732)) (fun _ hk => hk.2) (.int .i64 t733)) (fun _ hk => hk.2) (.bool t734)) (fun _ hk => hk.2) (.bool t735)) (fun _ hk => hk.2) (.bool t736)) (fun _ h_ => h_.1))))) (Kd.R_lt (by (with_reducible repeat (first | apply r1 | apply r2 | apply r3)); exact (Kd.R_mono (Kd.R_far (p := ⟨gb737, 4, none⟩) (Kd.R_far (p := ⟨gb737, 3, none⟩) (Kd.R_far (p := ⟨gb737, 2, none⟩) (Kd.R_far (p := ⟨gb737, 1, none⟩) (Kd.R_far (p := ⟨gb737, 0, none⟩) (Kd.R_types HO729.out BK737.out (by decide)) (fun _ hk => hk.2) (.int .i64 t732)) (fun _ hk => hk.2) (.int .i64 t733)) (fun _ hk => hk.2) (.bool t734)) (fun _ hk => hk.2) (.bool t735)) (fun _ hk => hk.2) (.bool t736)) (fun _ h_ => h_.1))))) (below_size (rb2 HB GE723 GE737))); have n4_ := am (blk_below (g := gb723) (o := .cells #[.int .i64 t718, .int .i64 t719, .bool t720, .bool t721, .bool t722] 37 (0, 0)) (by (with_reducible repeat (first | apply k1 | apply k2 | apply k3)); refine blk_far ?_ NB723_737.out _; (with_reducible repeat (first | apply k1 | apply k2 | apply k3)); refine blk_far ?_ NB723_737.out _; (with_reducible repeat (first | apply k1 | apply k2 | apply k3)); refine blk_far ?_ NB723_737.out _; (with_reducible repeat (first | apply k1 | apply k2 | apply k3)); refine blk_far ?_ NB723_737.out _; (with_reducible repeat (first | apply k1 | apply k2 | apply k3)); refine blk_far ?_ NB723_737.out _; (with_reducible repeat (first | apply k1 | apply k2 | apply k3)); exact BK723.out) hb); have n5_ := am (blk_below (g := gb737) (o := .cells #[.int .i64 t732, .int .i64 t733, .bool t734, .bool t735, .bool t736] 37 (0, 0)) (by (with_reducible repeat (first | apply k1 | apply k2 | apply k3)); refine blk_put (cs := #[.int .i64 t732, .int .i64 t733, .bool t734, .bool t735, .bool false]) ?_ 4 _ rfl; (with_reducible repeat (first | apply k1 | apply k2 | apply k3)); refine blk_put (cs := #[.int .i64 t732, .int .i64 t733, .bool t734, .bool false, .bool false]) ?_ 3 _ rfl; (with_reducible repeat (first | apply k1 | apply k2 | apply k3)); refine blk_put (cs := #[.int .i64 t732, .int .i64 t733, .bool false, .bool false, .bool false]) ?_ 2 _ rfl; (with_reducible repeat (first | apply k1 | apply k2 | apply k3)); refine blk_put (cs := #[.int .i64 t732, .int .i64 0, .bool false, .bool false, .bool false]) ?_ 1 _ rfl; (with_reducible repeat (first | apply k1 | apply k2 | apply k3)); refine blk_put (cs := #[.int .i64 0, .int .i64 0, .bool false, .bool false, .bool false]) ?_ 0 _ rfl; (with_reducible repeat (first | apply k1 | apply k2 | apply k3)); exact BK737.out) hb); have n6_ := am (below_step (rb2 HB GE723 GE737) hb); clear HO715; clear HO726; clear HO729; clear BK723; clear BK737; clear HB; have HO715 := n0_; have HO726 := n1_; have HO729 := n2_; have HO740 := n3_; have BK723 := n4_; have BK737 := n5_; have HB := n6_; clear n0_ n1_ n2_ n3_ n4_ n5_ n6_; (try clear hb); (try clear hb2); (try clear hk); (try clear hi); (try clear ho0)) | ((with_reducible refine gate_callee (f := 15) rfl ?_); refine gl_ (some 47) Tryd.func15 #[.slice A0 l0.length c0] ?_; (with_reducible refine (spec_DrawBlank.calls k _ _ l0 t741 t742 t743 t744 t745 t746 _ ?side1 ?side2 A8.out).mono ?_); (case side1 => exact rc ((Kd.C_below HR0.out HB.out))); (case side2 => exact HC0.out); rintro e w22 ⟨rfl, hb⟩; refine ⟨_, rfl, ?_⟩; have n0_ := am (Kd.R_below (rr HO715) hb); have n1_ := am (Kd.R_below (rr HO726) hb); have n2_ := am (Kd.R_below (rr HO729) hb); have n3_ := am (Kd.R_below (rr HO740) hb); have n4_ := am (blk_below (g := gb723) (o := .cells #[.int .i64 t718, .int .i64 t719, .bool t720, .bool t721, .bool t722] 37 (0, 0)) (rk BK723) hb); have n5_ := am (blk_below (g := gb737) (o := .cells #[.int .i64 t732, .int .i64 t733, .bool t734, .bool t735, .bool t736] 37 (0, 0)) (rk BK737) hb); have n6_ := am (below_step (rb2 HB GE723 GE737) hb); clear HO715; clear HO726; clear HO729; clear HO740; clear BK723; clear BK737; clear HB; have HO715 := n0_; have HO726 := n1_; have HO729 := n2_; have HO740 := n3_; have BK723 := n4_; have BK737 := n5_; have HB := n6_; clear n0_ n1_ n2_ n3_ n4_ n5_ n6_; (try clear hb); (try clear hb2); (try clear hk); (try clear hi)) | ((with_reducible refine gate_dst (N := 14) rfl ?_); (try (refine gate_guard (by rfl) ?_; dsimp only)); refine box_event ?hg (N := 14) ?hd (cs := #[.int .i64 0, .int .i64 0, .bool false, .bool false, .bool false]) (t := 37) ?hr ?_; (case hd => rfl); (case hg => rfl); (case hr => first | (go_simp; done) | (go_simp; rfl)); intro gb747 hg w23 hbox hb; have n0_ := am (Kd.R_below (rr HO715) hb); have n1_ := am (Kd.R_below (rr HO726) hb); have n2_ := am (Kd.R_below (rr HO729) hb); have n3_ := am (Kd.R_below (rr HO740) hb); have n4_ := am (blk_below (g := gb723) (o := .cells #[.int .i64 t718, .int .i64 t719, .bool t720, .bool t721, .bool t722] 37 (0, 0)) (rk BK723) hb); have n5_ := am (blk_below (g := gb737) (o := .cells #[.int .i64 t732, .int .i64 t733, .bool t734, .bool t735, .bool t736] 37 (0, 0)) (rk BK737) hb); have n6_ := am (below_step (rb2 HB GE723 GE737) hb); have n7_ := am (hbox); have n8_ := am ((by rw [hg]; exact (below_size (rb2 HB GE723 GE737)) : w.heap.size ≤ gb747)); have n9_ := am ((by rw [hg]; exact (below_size (rb2 HB GE723 GE737)) : w.heap.size ≤ gb747)); have n10_ := am ((by rw [hg]; exact Nat.ne_of_lt (blk_lt (g := gb723) (o := .cells #[.int .i64 t718, .int .i64 t719, .bool t720, .bool t721, .bool t722] 37 (0, 0)) (rk BK723)) : gb723 ≠ gb747)); have n11_ := am ((by rw [hg]; exact Nat.ne_of_gt (blk_lt (g := gb723) (o := .cells #[.int .i64 t718, .int .i64 t719, .bool t720, .bool t721, .bool t722] 37 (0, 0)) (rk BK723)) : gb747 ≠ gb723)); have n12_ := am ((by rw [hg]; exact Nat.ne_of_lt (blk_lt (g := gb737) (o := .cells #[.int .i64 t732, .int .i64 t733, .bool t734, .bool t735, .bool t736] 37 (0, 0)) (rk BK737)) : gb737 ≠ gb747)); have n13_ := am ((by rw [hg]; exact Nat.ne_of_gt (blk_lt (g := gb737) (o := .cells #[.int .i64 t732, .int .i64 t733, .bool t734, .bool t735, .bool t736] 37 (0, 0)) (rk BK737)) : gb747 ≠ gb737)); clear HO715; clear HO726; clear HO729; clear HO740; clear BK723; clear BK737; clear HB; have HO715 := n0_; have HO726 := n1_; have HO729 := n2_; have HO740 := n3_; have BK723 := n4_; have BK737 := n5_; have HB := n6_; have BK747 := n7_; have GW747 := n8_; have GE747 := n9_; have NB723_747 := n10_; have NB747_723 := n11_; have NB737_747 := n12_; have NB747_737 := n13_; clear n0_ n1_ n2_ n3_ n4_ n5_ n6_ n7_ n8_ n9_ n10_ n11_ n12_ n13_; clear hb hbox hg; have hnb24 := NB747_723.out; have hnc24 := NB723_747.out; have hnb25 := NB747_737.out; have hnc25 := NB737_747.out; have hcz26_0 : w23.cell? ⟨gb747, 0, none⟩ = some (.int .i64 0) := (blk_cell BK747.out 0).trans rfl; have hcz26_1 : w23.cell? ⟨gb747, 1, none⟩ = some (.int .i64 0) := (blk_cell BK747.out 1).trans rfl; have hcz26_2 : w23.cell? ⟨gb747, 2, none⟩ = some (.bool false) := (blk_cell BK747.out 2).trans rfl; have hcz26_3 : w23.cell? ⟨gb747, 3, none⟩ = some (.bool false) := (blk_cell BK747.out 3).trans rfl; have hcz26_4 : w23.cell? ⟨gb747, 4, none⟩ = some (.bool false) := (blk_cell BK747.out 4).trans rfl; have hfz26_0 := blk_frozen BK747.out 0; have hfz26_1 := blk_frozen BK747.out 1; have hfz26_2 := blk_frozen BK747.out 2; have hfz26_3 := blk_frozen BK747.out 3; have hfz26_4 := blk_frozen BK747.out 4) | ((with_reducible refine gate_callee (f := 16) rfl ?_); refine gl_ (some 52) Tryd.func16 #[.int .i64 t741, .agg #[.int .i64 t742, .int .i64 t743, .bool t744, .bool t745, .bool t746]] ?_; (with_reducible refine (impl_Blank.calls k t741 t742 t743 t744 t745 t746 t748 _ A9.out).mono ?_); rintro e w27 ⟨v749, rfl, ho0, hb⟩; refine ⟨_, rfl, ?_⟩; have n0_ := am (Kd.R_elder' (by (with_reducible repeat (first | apply r1 | apply r2 | apply r3)); exact (Kd.R_mono (Kd.R_far (p := ⟨gb747, 4, none⟩) (Kd.R_far (p := ⟨gb747, 3, none⟩) (Kd.R_far (p := ⟨gb747, 2, none⟩) (Kd.R_far (p := ⟨gb747, 1, none⟩) (Kd.R_far (p := ⟨gb747, 0, none⟩) (Kd.R_types HO715.out BK747.out (by decide)) (fun _ hk => hk.2) (.int .i64 t742)) (fun _ hk => hk.2) (.int .i64 t743)) (fun _ hk => hk.2) (.bool t744)) (fun _ hk => hk.2) (.bool t745)) (fun _ hk => hk.2) (.bool t746)) (fun _ h_ => h_.1))) (Kd.R_base ho0) hb); have n1_ := am (Kd.R_elder' (by (with_reducible repeat (first | apply r1 | apply r2 | apply r3)); exact (Kd.R_mono (Kd.R_far (p := ⟨gb747, 4, none⟩) (Kd.R_far (p := ⟨gb747, 3, none⟩) (Kd.R_far (p := ⟨gb747, 2, none⟩) (Kd.R_far (p := ⟨gb747, 1, none⟩) (Kd.R_far (p := ⟨gb747, 0, none⟩) (Kd.R_types HO726.out BK747.out (by decide)) (fun _ hk => hk.2) (.int .i64 t742)) (fun _ hk => hk.2) (.int .i64 t743)) (fun _ hk => hk.2) (.bool t744)) (fun _ hk => hk.2) (.bool t745)) (fun _ hk => hk.2) (.bool t746)) (fun _ h_ => h_.1))) (Kd.R_base ho0) hb); have n2_ := am (Kd.R_elder' (by (with_reducible repeat (first | apply r1 | apply r2 | apply r3)); exact (Kd.R_mono (Kd.R_far (p := ⟨gb747, 4, none⟩) (Kd.R_far (p := ⟨gb747, 3, none⟩) (Kd.R_far (p := ⟨gb747, 2, none⟩) (Kd.R_far (p := ⟨gb747, 1, none⟩) (Kd.R_far (p := ⟨gb747, 0, none⟩) (Kd.R_types HO729.out BK747.out (by decide)) (fun _ hk => hk.2) (.int .i64 t742)) (fun _ hk => hk.2) (.int .i64 t743)) (fun _ hk => hk.2) (.bool t744)) (fun _ hk => hk.2) (.bool t745)) (fun _ hk => hk.2) (.bool t746)) (fun _ h_ => h_.1))) (Kd.R_base ho0) hb); have n3_ := am (Kd.R_elder' (by (with_reducible repeat (first | apply r1 | apply r2 | apply r3)); exact (Kd.R_mono (Kd.R_far (p := ⟨gb747, 4, none⟩) (Kd.R_far (p := ⟨gb747, 3, none⟩) (Kd.R_far (p := ⟨gb747, 2, none⟩) (Kd.R_far (p := ⟨gb747, 1, none⟩) (Kd.R_far (p := ⟨gb747, 0, none⟩) (Kd.R_types HO740.out BK747.out (by decide)) (fun _ hk => hk.2) (.int .i64 t742)) (fun _ hk => hk.2) (.int .i64 t743)) (fun _ hk => hk.2) (.bool t744)) (fun _ hk => hk.2) (.bool t745)) (fun _ hk => hk.2) (.bool t746)) (fun _ h_ => h_.1))) (Kd.R_base ho0) hb); have n4_ := am (Kd.R_lower (Kd.R_new' (Kd.R_new' (Kd.R_new' (Kd.R_new' ho0 (Kd.R_lt (by (with_reducible repeat (first | apply r1 | apply r2 | apply r3)); exact (Kd.R_mono (Kd.R_far (p := ⟨gb747, 4, none⟩) (Kd.R_far (p := ⟨gb747, 3, none⟩) (Kd.R_far (p := ⟨gb747, 2, none⟩) (Kd.R_far (p := ⟨gb747, 1, none⟩) (Kd.R_far (p := ⟨gb747, 0, none⟩) (Kd.R_types HO715.out BK747.out (by decide)) (fun _ hk => hk.2) (.int .i64 t742)) (fun _ hk => hk.2) (.int .i64 t743)) (fun _ hk => hk.2) (.bool t744)) (fun _ hk => hk.2) (.bool t745)) (fun _ hk => hk.2) (.bool t746)) (fun _ h_ => h_.1))))) (Kd.R_lt (by (with_reducible repeat (first | apply r1 | apply r2 | apply r3)); exact (Kd.R_mono (Kd.R_far (p := ⟨gb747, 4, none⟩) (Kd.R_far (p := ⟨gb747, 3, none⟩) (Kd.R_far (p := ⟨gb747, 2, none⟩) (Kd.R_far (p := ⟨gb747, 1, none⟩) (Kd.R_far (p := ⟨gb747, 0, none⟩) (Kd.R_types HO726.out BK747.out (by decide)) (fun _ hk => hk.2) (.int .i64 t742)) (fun _ hk => hk.2) (.int .i64 t743)) (fun _ hk => hk.2) (.bool t744)) (fun _ hk => hk.2) (.bool t745)) (fun _ hk => hk.2) (.bool t746)) (fun _ h_ => h_.1))))) (Kd.R_lt (by (with_reducible repeat (first | apply r1 | apply r2 | apply r3)); exact (Kd.R_mono (Kd.R_far (p := ⟨gb747, 4, none⟩) (Kd.R_far (p := ⟨gb747, 3, none⟩) (Kd.R_far (p := ⟨gb747, 2, none⟩) (Kd.R_far (p := ⟨gb747, 1, none⟩) (Kd.R_far (p := ⟨gb747, 0, none⟩) (Kd.R_types HO729.out BK747.out (by decide)) (fun _ hk => hk.2) (.int .i64 t742)) (fun _ hk => hk.2) (.int .i64 t743)) (fun _ hk => hk.2) (.bool t744)) (fun _ hk => hk.2) (.bool t745)) (fun _ hk => hk.2) (.bool t746)) (fun _ h_ => h_.1))))) (Kd.R_lt (by (with_reducible repeat (first | apply r1 | apply r2 | apply r3)); exact (Kd.R_mono (Kd.R_far (p := ⟨gb747, 4, none⟩) (Kd.R_far (p := ⟨gb747, 3, none⟩) (Kd.R_far (p := ⟨gb747, 2, none⟩) (Kd.R_far (p := ⟨gb747, 1, none⟩) (Kd.R_far (p := ⟨gb747, 0, none⟩) (Kd.R_types HO740.out BK747.out (by decide)) (fun _ hk => hk.2) (.int .i64 t742)) (fun _ hk => hk.2) (.int .i64 t743)) (fun _ hk => hk.2) (.bool t744)) (fun _ hk => hk.2) (.bool t745)) (fun _ hk => hk.2) (.bool t746)) (fun _ h_ => h_.1))))) (below_size (rb3 HB GE723 GE737 GE747))); have n5_ := am (blk_below (g := gb723) (o := .cells #[.int .i64 t718, .int .i64 t719, .bool t720, .bool t721, .bool t722] 37 (0, 0)) (by (with_reducible repeat (first | apply k1 | apply k2 | apply k3)); refine blk_far ?_ NB723_747.out _; (with_reducible repeat (first | apply k1 | apply k2 | apply k3)); refine blk_far ?_ NB723_747.out _; (with_reducible repeat (first | apply k1 | apply k2 | apply k3)); refine blk_far ?_ NB723_747.out _; (with_reducible repeat (first | apply k1 | apply k2 | apply k3)); refine blk_far ?_ NB723_747.out _; (with_reducible repeat (first | apply k1 | apply k2 | apply k3)); refine blk_far ?_ NB723_747.out _; (with_reducible repeat (first | apply k1 | apply k2 | apply k3)); exact BK723.out) hb); have n6_ := am (blk_below (g := gb737) (o := .cells #[.int .i64 t732, .int .i64 t733, .bool t734, .bool t735, .bool t736] 37 (0, 0)) (by (with_reducible repeat (first | apply k1 | apply k2 | apply k3)); refine blk_far ?_ NB737_747.out _; (with_reducible repeat (first | apply k1 | apply k2 | apply k3)); refine blk_far ?_ NB737_747.out _; (with_reducible repeat (first | apply k1 | apply k2 | apply k3)); refine blk_far ?_ NB737_747.out _; (with_reducible repeat (first | apply k1 | apply k2 | apply k3)); refine blk_far ?_ NB737_747.out _; (with_reducible repeat (first | apply k1 | apply k2 | apply k3)); refine blk_far ?_ NB737_747.out _; (with_reducible repeat (first | apply k1 | apply k2 | apply k3)); exact BK737.out) hb); have n7_ := am (blk_below (g := gb747) (o := .cells #[.int .i64 t742, .int .i64 t743, .bool t744, .bool t745, .bool t746] 37 (0, 0)) (by (with_reducible repeat (first | apply k1 | apply k2 | apply k3)); refine blk_put (cs := #[.int .i64 t742, .int .i64 t743, .bool t744, .bool t745, .bool false]) ?_ 4 _ rfl; (with_reducible repeat (first | apply k1 | apply k2 | apply k3)); refine blk_put (cs := #[.int .i64 t742, .int .i64 t743, .bool t744, .bool false, .bool false]) ?_ 3 _ rfl; (with_reducible repeat (first | apply k1 | apply k2 | apply k3)); refine blk_put (cs := #[.int .i64 t742, .int .i64 t743, .bool false, .bool false, .bool false]) ?_ 2 _ rfl; (with_reducible repeat (first | apply k1 | apply k2 | apply k3)); refine blk_put (cs := #[.int .i64 t742, .int .i64 0, .bool false, .bool false, .bool false]) ?_ 1 _ rfl; (with_reducible repeat (first | apply k1 | apply k2 | apply k3)); refine blk_put (cs := #[.int .i64 0, .int .i64 0, .bool false, .bool false, .bool false]) ?_ 0 _ rfl; (with_reducible repeat (first | apply k1 | apply k2 | apply k3)); exact BK747.out) hb); have n8_ := am (below_step (rb3 HB GE723 GE737 GE747) hb); clear HO715; clear HO726; clear HO729; clear HO740; clear BK723; clear BK737; clear BK747; clear HB; have HO715 := n0_; have HO726 := n1_; have HO729 := n2_; have HO740 := n3_; have HO750 := n4_; have BK723 := n5_; have BK737 := n6_; have BK747 := n7_; have HB := n8_; clear n0_ n1_ n2_ n3_ n4_ n5_ n6_ n7_ n8_; (try clear hb); (try clear hb2); (try clear hk); (try clear hi); (try clear ho0)))
  (try simp only [Act.put, List.setIfInBounds_toArray, List.set_cons_zero, List.set_cons_succ])
  go_cut [92] (fun v92 wc => ∃ (kq : Nat) (x92_9 : Bool), v92 = .bool x92_9 ∧ Aside0 (laws_FnRows.j0 kq t713 t716 t717 t724 t727 t730 t731 t738 t748 x92_9 t718 t719 t720 t721 t722 t732 t733 t734 t735 t736 = some r) ∧ Aside0 (kq ≤ k) ∧ Aside0 (Kd.R k48 48 wc w.heap.size (fun k_ => some k_ ≠ (v725 : Value).ownBlock ∧ some k_ ≠ ((.slice Ao20 t727.length co20) : Value).ownBlock ∧ some k_ ≠ (v739 : Value).ownBlock ∧ some k_ ≠ (v749 : Value).ownBlock) (.slice Ao14 t713.length co14) t713) ∧ Aside0 (Kd.R k48 48 wc w.heap.size (fun k_ => some k_ ≠ ((.slice Ao14 t713.length co14) : Value).ownBlock ∧ some k_ ≠ ((.slice Ao20 t727.length co20) : Value).ownBlock ∧ some k_ ≠ (v739 : Value).ownBlock ∧ some k_ ≠ (v749 : Value).ownBlock) v725 t724) ∧ Aside0 (Kd.R k48 48 wc w.heap.size (fun k_ => some k_ ≠ ((.slice Ao14 t713.length co14) : Value).ownBlock ∧ some k_ ≠ (v725 : Value).ownBlock ∧ some k_ ≠ (v739 : Value).ownBlock ∧ some k_ ≠ (v749 : Value).ownBlock) (.slice Ao20 t727.length co20) t727) ∧ Aside0 (Kd.R k48 48 wc w.heap.size (fun k_ => some k_ ≠ ((.slice Ao14 t713.length co14) : Value).ownBlock ∧ some k_ ≠ (v725 : Value).ownBlock ∧ some k_ ≠ ((.slice Ao20 t727.length co20) : Value).ownBlock ∧ some k_ ≠ (v749 : Value).ownBlock) v739 t738) ∧ Aside0 (Kd.R k48 48 wc w.heap.size (fun k_ => some k_ ≠ ((.slice Ao14 t713.length co14) : Value).ownBlock ∧ some k_ ≠ (v725 : Value).ownBlock ∧ some k_ ≠ ((.slice Ao20 t727.length co20) : Value).ownBlock ∧ some k_ ≠ (v739 : Value).ownBlock) v749 t748) ∧ Aside0 (wc.heap[gb723]? = some (.cells #[.int .i64 t718, .int .i64 t719, .bool t720, .bool t721, .bool t722] 37 (0, 0))) ∧ Aside0 (wc.heap[gb737]? = some (.cells #[.int .i64 t732, .int .i64 t733, .bool t734, .bool t735, .bool t736] 37 (0, 0))) ∧ Aside0 (wc.heap[gb747]? = some (.cells #[.int .i64 t742, .int .i64 t743, .bool t744, .bool t745, .bool t746] 37 (0, 0))) ∧ Aside0 (Below w.heap.size w wc))
  case first => as_aux_lemma =>
   have H := HC10.out
   clear HC10
   replace H := Option.bind_eq_some_iff.mp H
   obtain ⟨t751, A280, H⟩ := H
   (try dsimp only at H)
   have A28 := am A280
   clear A280
   replace H := Option.bind_eq_some_iff.mp H
   obtain ⟨t754, A290, H⟩ := H
   (try dsimp only at H)
   have A29 := am A290
   clear A290
   refine em_ (p := t754 = true) (fun c30 => ?g3p) (fun c30 => ?g3n)
   case' g3p =>
    subst c30
    rw [if_pos rfl] at H
    replace H := Option.bind_eq_some_iff.mp H
    obtain ⟨t755, A310, H⟩ := H
    (try dsimp only at H)
    have A31 := am A310
    clear A310
    replace H := Option.bind_eq_some_iff.mp H
    obtain ⟨t758, A320, H⟩ := H
    (try dsimp only at H)
    have A32 := am A320
    clear A320
    refine em_ (p := t758 = true) (fun c33 => ?g2p) (fun c33 => ?g2n)
    case' g2p =>
     subst c33
     rw [if_pos rfl] at H
     replace H := Option.bind_eq_some_iff.mp H
     obtain ⟨t759, A340, H⟩ := H
     (try dsimp only at H)
     have A34 := am A340
     clear A340
     replace H := Option.bind_eq_some_iff.mp H
     obtain ⟨t762, A350, H⟩ := H
     (try dsimp only at H)
     have A35 := am A350
     clear A350
     refine em_ (p := t762 = true) (fun c36 => ?g1p) (fun c36 => ?g1n)
     case' g1p =>
      subst c36
      rw [if_pos rfl] at H
      replace H := Option.bind_eq_some_iff.mp H
      obtain ⟨t763, A370, H⟩ := H
      (try dsimp only at H)
      have A37 := am A370
      clear A370
      replace H := Option.bind_eq_some_iff.mp H
      obtain ⟨t764, A380, H⟩ := H
      (try dsimp only at H)
      have A38 := am A380
      clear A380
      refine em_ (p := (t763 != t764) = true) (fun c39 => ?g0p) (fun c39 => ?g0n)
      case' g0p =>
       rw [if_pos c39] at H
       have c39b0 : (t763 != t764) = true := c39
       (try (have c39b1 : decide (t763 = t764) = false := by simpa using c39))
       (try (have c39b2 : (t763 == t764) = false := by simpa using c39))
       (try (have c39b3 : ¬ (t763 = t764) := by simpa using c39))
       clear c39
       (first | rw [c39b0] | (simp only [i64_w, i32_w]; rw [c39b0]) | skip)
       have H' := am H
       clear H
       have lf3_ := trivial
      case' g0n =>
       rw [if_neg c39] at H
       have c39b0 : (t763 != t764) = false := by simpa using c39
       (try (have c39b1 : decide (t763 = t764) = true := by simpa using c39))
       (try (have c39b2 : (t763 == t764) = true := by simpa using c39))
       clear c39
       (first | rw [c39b0] | (simp only [i64_w, i32_w]; rw [c39b0]) | skip)
       replace H := Option.bind_eq_some_iff.mp H
       obtain ⟨t765, A570, H⟩ := H
       (try dsimp only at H)
       have A57 := am A570
       clear A570
       replace H := Option.bind_eq_some_iff.mp H
       obtain ⟨t766, A580, H⟩ := H
       (try dsimp only at H)
       have A58 := am A580
       clear A580
       have H' := am H
       clear H
       have lf4_ := trivial
     case' g1n =>
      replace c36 := Bool.eq_false_iff.mpr c36
      subst c36
      rw [if_neg (show ¬ (false = true) by decide)] at H
      have H' := am H
      clear H
      have lf5_ := trivial
    case' g2n =>
     replace c33 := Bool.eq_false_iff.mpr c33
     subst c33
     rw [if_neg (show ¬ (false = true) by decide)] at H
     have H' := am H
     clear H
     have lf6_ := trivial
   case' g3n =>
    replace c30 := Bool.eq_false_iff.mpr c30
    subst c30
    rw [if_neg (show ¬ (false = true) by decide)] at H
    have H' := am H
    clear H
    have lf7_ := trivial
   all_goals
    have hnb40 := NB723_737.out
    have hnc40 := NB737_723.out
    have hnb41 := NB723_747.out
    have hnc41 := NB747_723.out
    have hcz42_0 : w27.cell? ⟨gb723, 0, none⟩ = some (.int .i64 t718) := (blk_cell BK723.out 0).trans rfl
    have hcz42_1 : w27.cell? ⟨gb723, 1, none⟩ = some (.int .i64 t719) := (blk_cell BK723.out 1).trans rfl
    have hcz42_2 : w27.cell? ⟨gb723, 2, none⟩ = some (.bool t720) := (blk_cell BK723.out 2).trans rfl
    have hcz42_3 : w27.cell? ⟨gb723, 3, none⟩ = some (.bool t721) := (blk_cell BK723.out 3).trans rfl
    have hcz42_4 : w27.cell? ⟨gb723, 4, none⟩ = some (.bool t722) := (blk_cell BK723.out 4).trans rfl
    have hfz42_0 := blk_frozen BK723.out 0
    have hfz42_1 := blk_frozen BK723.out 1
    have hfz42_2 := blk_frozen BK723.out 2
    have hfz42_3 := blk_frozen BK723.out 3
    have hfz42_4 := blk_frozen BK723.out 4
    go_wp2_with (first | ((with_reducible refine gate_callee (f := 18) rfl ?_); refine gl_ (some 58) Tryd.func18 #[.slice Ao14 t713.length co14, .int .i64 t716, .int .i64 t717, .agg #[.int .i64 t718, .int .i64 t719, .bool t720, .bool t721, .bool t722]] ?_; (with_reducible refine (spec_Written.calls k _ _ t713 t716 t717 t718 t719 t720 t721 t722 t751 _ ?side1 ?side2 A28.out).mono ?_); (case side1 => repeat (first | exact (Kd.R_reads' HO715.out).2.2 | (with_reducible refine Kd.C_alloc ?_ _) | (with_reducible refine Kd.C_drewN ?_ _) | (with_reducible refine Kd.C_drew ?_))); (case side2 => exact (Kd.R_reads' HO715.out).2.1); rintro e w43 ⟨v752, rfl, ho0, hb⟩; refine ⟨_, rfl, ?_⟩; have n0_ := am (Kd.R_elder' (rr HO715) (Kd.R_base ho0) hb); have n1_ := am (Kd.R_elder' (rr HO726) (Kd.R_base ho0) hb); have n2_ := am (Kd.R_elder' (rr HO729) (Kd.R_base ho0) hb); have n3_ := am (Kd.R_elder' (rr HO740) (Kd.R_base ho0) hb); have n4_ := am (Kd.R_elder' (rr HO750) (Kd.R_base ho0) hb); have n5_ := am (Kd.R_lower (Kd.R_new' (Kd.R_new' (Kd.R_new' (Kd.R_new' (Kd.R_new' ho0 (Kd.R_lt (rr HO715))) (Kd.R_lt (rr HO726))) (Kd.R_lt (rr HO729))) (Kd.R_lt (rr HO740))) (Kd.R_lt (rr HO750))) (below_size (rb3 HB GE723 GE737 GE747))); have n6_ := am (blk_below (g := gb723) (o := .cells #[.int .i64 t718, .int .i64 t719, .bool t720, .bool t721, .bool t722] 37 (0, 0)) (rk BK723) hb); have n7_ := am (blk_below (g := gb737) (o := .cells #[.int .i64 t732, .int .i64 t733, .bool t734, .bool t735, .bool t736] 37 (0, 0)) (rk BK737) hb); have n8_ := am (blk_below (g := gb747) (o := .cells #[.int .i64 t742, .int .i64 t743, .bool t744, .bool t745, .bool t746] 37 (0, 0)) (rk BK747) hb); have n9_ := am (below_step (rb3 HB GE723 GE737 GE747) hb); clear HO715; clear HO726; clear HO729; clear HO740; clear HO750; clear BK723; clear BK737; clear BK747; clear HB; have HO715 := n0_; have HO726 := n1_; have HO729 := n2_; have HO740 := n3_; have HO750 := n4_; have HO753 := n5_; have BK723 := n6_; have BK737 := n7_; have BK747 := n8_; have HB := n9_; clear n0_ n1_ n2_ n3_ n4_ n5_ n6_ n7_ n8_ n9_; (try clear hb); (try clear hb2); (try clear hk); (try clear hi); (try clear ho0); obtain ⟨Ao44, co44, eo44⟩ := Kd.R_slice HO726.out; subst eo44; obtain ⟨Ao45, co45, eo45⟩ := Kd.R_slice HO753.out; subst eo45) | (go_at_call 19; (with_reducible refine (spec_Cleared.calls k _ _ t727 t730 t731 t732 t733 t734 t735 t736 t755 _ ?side1 ?side2 A31.out).mono ?_); (case side1 => repeat (first | exact (Kd.R_reads' HO729.out).2.2 | (with_reducible refine Kd.C_alloc ?_ _) | (with_reducible refine Kd.C_drewN ?_ _) | (with_reducible refine Kd.C_drew ?_))); (case side2 => exact (Kd.R_reads' HO729.out).2.1); rintro e w48 ⟨v756, rfl, ho0, hb⟩; have n0_ := am (Kd.R_elder' (rr HO715) (Kd.R_base ho0) hb); have n1_ := am (Kd.R_elder' (rr HO726) (Kd.R_base ho0) hb); have n2_ := am (Kd.R_elder' (rr HO729) (Kd.R_base ho0) hb); have n3_ := am (Kd.R_elder' (rr HO740) (Kd.R_base ho0) hb); have n4_ := am (Kd.R_elder' (rr HO750) (Kd.R_base ho0) hb); have n5_ := am (Kd.R_elder' (rr HO753) (Kd.R_base ho0) hb); have n6_ := am (Kd.R_lower (Kd.R_new' (Kd.R_new' (Kd.R_new' (Kd.R_new' (Kd.R_new' (Kd.R_new' ho0 (Kd.R_lt (rr HO715))) (Kd.R_lt (rr HO726))) (Kd.R_lt (rr HO729))) (Kd.R_lt (rr HO740))) (Kd.R_lt (rr HO750))) (Kd.R_lt (rr HO753))) (below_size (rb3 HB GE723 GE737 GE747))); have n7_ := am (blk_below (g := gb723) (o := .cells #[.int .i64 t718, .int .i64 t719, .bool t720, .bool t721, .bool t722] 37 (0, 0)) (rk BK723) hb); have n8_ := am (blk_below (g := gb737) (o := .cells #[.int .i64 t732, .int .i64 t733, .bool t734, .bool t735, .bool t736] 37 (0, 0)) (rk BK737) hb); have n9_ := am (blk_below (g := gb747) (o := .cells #[.int .i64 t742, .int .i64 t743, .bool t744, .bool t745, .bool t746] 37 (0, 0)) (rk BK747) hb); have n10_ := am (below_step (rb3 HB GE723 GE737 GE747) hb); clear HO715; clear HO726; clear HO729; clear HO740; clear HO750; clear HO753; clear BK723; clear BK737; clear BK747; clear HB; have HO715 := n0_; have HO726 := n1_; have HO729 := n2_; have HO740 := n3_; have HO750 := n4_; have HO753 := n5_; have HO757 := n6_; have BK723 := n7_; have BK737 := n8_; have BK747 := n9_; have HB := n10_; clear n0_ n1_ n2_ n3_ n4_ n5_ n6_ n7_ n8_ n9_ n10_; (try clear hb); (try clear hb2); (try clear hk); (try clear hi); (try clear ho0); obtain ⟨Ao49, co49, eo49⟩ := Kd.R_slice HO740.out; subst eo49; obtain ⟨Ao50, co50, eo50⟩ := Kd.R_slice HO757.out; subst eo50) | (go_at_call 20; (with_reducible refine (spec_Blank.calls k t741 t742 t743 t744 t745 t746 t759 _ A34.out).mono ?_); rintro e w52 ⟨v760, rfl, ho0, hb⟩; have n0_ := am (Kd.R_elder' (rr HO715) (Kd.R_base ho0) hb); have n1_ := am (Kd.R_elder' (rr HO726) (Kd.R_base ho0) hb); have n2_ := am (Kd.R_elder' (rr HO729) (Kd.R_base ho0) hb); have n3_ := am (Kd.R_elder' (rr HO740) (Kd.R_base ho0) hb); have n4_ := am (Kd.R_elder' (rr HO750) (Kd.R_base ho0) hb); have n5_ := am (Kd.R_elder' (rr HO753) (Kd.R_base ho0) hb); have n6_ := am (Kd.R_elder' (rr HO757) (Kd.R_base ho0) hb); have n7_ := am (Kd.R_lower (Kd.R_new' (Kd.R_new' (Kd.R_new' (Kd.R_new' (Kd.R_new' (Kd.R_new' (Kd.R_new' ho0 (Kd.R_lt (rr HO715))) (Kd.R_lt (rr HO726))) (Kd.R_lt (rr HO729))) (Kd.R_lt (rr HO740))) (Kd.R_lt (rr HO750))) (Kd.R_lt (rr HO753))) (Kd.R_lt (rr HO757))) (below_size (rb3 HB GE723 GE737 GE747))); have n8_ := am (blk_below (g := gb723) (o := .cells #[.int .i64 t718, .int .i64 t719, .bool t720, .bool t721, .bool t722] 37 (0, 0)) (rk BK723) hb); have n9_ := am (blk_below (g := gb737) (o := .cells #[.int .i64 t732, .int .i64 t733, .bool t734, .bool t735, .bool t736] 37 (0, 0)) (rk BK737) hb); have n10_ := am (blk_below (g := gb747) (o := .cells #[.int .i64 t742, .int .i64 t743, .bool t744, .bool t745, .bool t746] 37 (0, 0)) (rk BK747) hb); have n11_ := am (below_step (rb3 HB GE723 GE737 GE747) hb); clear HO715; clear HO726; clear HO729; clear HO740; clear HO750; clear HO753; clear HO757; clear BK723; clear BK737; clear BK747; clear HB; have HO715 := n0_; have HO726 := n1_; have HO729 := n2_; have HO740 := n3_; have HO750 := n4_; have HO753 := n5_; have HO757 := n6_; have HO761 := n7_; have BK723 := n8_; have BK737 := n9_; have BK747 := n10_; have HB := n11_; clear n0_ n1_ n2_ n3_ n4_ n5_ n6_ n7_ n8_ n9_ n10_ n11_; (try clear hb); (try clear hb2); (try clear hk); (try clear hi); (try clear ho0); obtain ⟨Ao53, co53, eo53⟩ := Kd.R_slice HO750.out; subst eo53; obtain ⟨Ao54, co54, eo54⟩ := Kd.R_slice HO761.out; subst eo54) | (go_at_call 23; (with_reducible refine (impl_RowText.calls k _ _ t713 t765 _ ?side1 ?side2 A57.out).mono ?_); (case side1 => repeat (first | exact (Kd.R_reads' HO715.out).2.2 | (with_reducible refine Kd.C_alloc ?_ _) | (with_reducible refine Kd.C_drewN ?_ _) | (with_reducible refine Kd.C_drew ?_))); (case side2 => exact (Kd.R_reads' HO715.out).2.1); rintro e w76 ⟨rfl, hb⟩; have n0_ := am (Kd.R_below (rr HO715) hb); have n1_ := am (Kd.R_below (rr HO726) hb); have n2_ := am (Kd.R_below (rr HO729) hb); have n3_ := am (Kd.R_below (rr HO740) hb); have n4_ := am (Kd.R_below (rr HO750) hb); have n5_ := am (Kd.R_below (rr HO753) hb); have n6_ := am (Kd.R_below (rr HO757) hb); have n7_ := am (Kd.R_below (rr HO761) hb); have n8_ := am (blk_below (g := gb723) (o := .cells #[.int .i64 t718, .int .i64 t719, .bool t720, .bool t721, .bool t722] 37 (0, 0)) (rk BK723) hb); have n9_ := am (blk_below (g := gb737) (o := .cells #[.int .i64 t732, .int .i64 t733, .bool t734, .bool t735, .bool t736] 37 (0, 0)) (rk BK737) hb); have n10_ := am (blk_below (g := gb747) (o := .cells #[.int .i64 t742, .int .i64 t743, .bool t744, .bool t745, .bool t746] 37 (0, 0)) (rk BK747) hb); have n11_ := am (below_step (rb3 HB GE723 GE737 GE747) hb); clear HO715; clear HO726; clear HO729; clear HO740; clear HO750; clear HO753; clear HO757; clear HO761; clear BK723; clear BK737; clear BK747; clear HB; have HO715 := n0_; have HO726 := n1_; have HO729 := n2_; have HO740 := n3_; have HO750 := n4_; have HO753 := n5_; have HO757 := n6_; have HO761 := n7_; have BK723 := n8_; have BK737 := n9_; have BK747 := n10_; have HB := n11_; clear n0_ n1_ n2_ n3_ n4_ n5_ n6_ n7_ n8_ n9_ n10_ n11_; (try clear hb); (try clear hb2); (try clear hk); (try clear hi)) | (go_at_call 24; (with_reducible refine (spec_RowText.calls k _ _ t713 t766 _ ?side1 ?side2 A58.out).mono ?_); (case side1 => repeat (first | exact (Kd.R_reads' HO715.out).2.2 | (with_reducible refine Kd.C_alloc ?_ _) | (with_reducible refine Kd.C_drewN ?_ _) | (with_reducible refine Kd.C_drew ?_))); (case side2 => exact (Kd.R_reads' HO715.out).2.1); rintro e w77 ⟨rfl, hb⟩; have n0_ := am (Kd.R_below (rr HO715) hb); have n1_ := am (Kd.R_below (rr HO726) hb); have n2_ := am (Kd.R_below (rr HO729) hb); have n3_ := am (Kd.R_below (rr HO740) hb); have n4_ := am (Kd.R_below (rr HO750) hb); have n5_ := am (Kd.R_below (rr HO753) hb); have n6_ := am (Kd.R_below (rr HO757) hb); have n7_ := am (Kd.R_below (rr HO761) hb); have n8_ := am (blk_below (g := gb723) (o := .cells #[.int .i64 t718, .int .i64 t719, .bool t720, .bool t721, .bool t722] 37 (0, 0)) (rk BK723) hb); have n9_ := am (blk_below (g := gb737) (o := .cells #[.int .i64 t732, .int .i64 t733, .bool t734, .bool t735, .bool t736] 37 (0, 0)) (rk BK737) hb); have n10_ := am (blk_below (g := gb747) (o := .cells #[.int .i64 t742, .int .i64 t743, .bool t744, .bool t745, .bool t746] 37 (0, 0)) (rk BK747) hb); have n11_ := am (below_step (rb3 HB GE723 GE737 GE747) hb); clear HO715; clear HO726; clear HO729; clear HO740; clear HO750; clear HO753; clear HO757; clear HO761; clear BK723; clear BK737; clear BK747; clear HB; have HO715 := n0_; have HO726 := n1_; have HO729 := n2_; have HO740 := n3_; have HO750 := n4_; have HO753 := n5_; have HO757 := n6_; have HO761 := n7_; have BK723 := n8_; have BK737 := n9_; have BK747 := n10_; have HB := n11_; clear n0_ n1_ n2_ n3_ n4_ n5_ n6_ n7_ n8_ n9_ n10_ n11_; (try clear hb); (try clear hb2); (try clear hk); (try clear hi)) | (go_at_call 21; (with_reducible refine (impl_RowOk.calls k _ _ t713 t763 _ ?side1 ?side2 A37.out).mono ?_); (case side1 => repeat (first | exact (Kd.R_reads' HO715.out).2.2 | (with_reducible refine Kd.C_alloc ?_ _) | (with_reducible refine Kd.C_drewN ?_ _) | (with_reducible refine Kd.C_drew ?_))); (case side2 => exact (Kd.R_reads' HO715.out).2.1); rintro e w55 ⟨rfl, hb⟩; have n0_ := am (Kd.R_below (rr HO715) hb); have n1_ := am (Kd.R_below (rr HO726) hb); have n2_ := am (Kd.R_below (rr HO729) hb); have n3_ := am (Kd.R_below (rr HO740) hb); have n4_ := am (Kd.R_below (rr HO750) hb); have n5_ := am (Kd.R_below (rr HO753) hb); have n6_ := am (Kd.R_below (rr HO757) hb); have n7_ := am (Kd.R_below (rr HO761) hb); have n8_ := am (blk_below (g := gb723) (o := .cells #[.int .i64 t718, .int .i64 t719, .bool t720, .bool t721, .bool t722] 37 (0, 0)) (rk BK723) hb); have n9_ := am (blk_below (g := gb737) (o := .cells #[.int .i64 t732, .int .i64 t733, .bool t734, .bool t735, .bool t736] 37 (0, 0)) (rk BK737) hb); have n10_ := am (blk_below (g := gb747) (o := .cells #[.int .i64 t742, .int .i64 t743, .bool t744, .bool t745, .bool t746] 37 (0, 0)) (rk BK747) hb); have n11_ := am (below_step (rb3 HB GE723 GE737 GE747) hb); clear HO715; clear HO726; clear HO729; clear HO740; clear HO750; clear HO753; clear HO757; clear HO761; clear BK723; clear BK737; clear BK747; clear HB; have HO715 := n0_; have HO726 := n1_; have HO729 := n2_; have HO740 := n3_; have HO750 := n4_; have HO753 := n5_; have HO757 := n6_; have HO761 := n7_; have BK723 := n8_; have BK737 := n9_; have BK747 := n10_; have HB := n11_; clear n0_ n1_ n2_ n3_ n4_ n5_ n6_ n7_ n8_ n9_ n10_ n11_; (try clear hb); (try clear hb2); (try clear hk); (try clear hi)) | (go_at_call 22; (with_reducible refine (spec_RowOk.calls k _ _ t713 t764 _ ?side1 ?side2 A38.out).mono ?_); (case side1 => repeat (first | exact (Kd.R_reads' HO715.out).2.2 | (with_reducible refine Kd.C_alloc ?_ _) | (with_reducible refine Kd.C_drewN ?_ _) | (with_reducible refine Kd.C_drew ?_))); (case side2 => exact (Kd.R_reads' HO715.out).2.1); rintro e w56 ⟨rfl, hb⟩; have n0_ := am (Kd.R_below (rr HO715) hb); have n1_ := am (Kd.R_below (rr HO726) hb); have n2_ := am (Kd.R_below (rr HO729) hb); have n3_ := am (Kd.R_below (rr HO740) hb); have n4_ := am (Kd.R_below (rr HO750) hb); have n5_ := am (Kd.R_below (rr HO753) hb); have n6_ := am (Kd.R_below (rr HO757) hb); have n7_ := am (Kd.R_below (rr HO761) hb); have n8_ := am (blk_below (g := gb723) (o := .cells #[.int .i64 t718, .int .i64 t719, .bool t720, .bool t721, .bool t722] 37 (0, 0)) (rk BK723) hb); have n9_ := am (blk_below (g := gb737) (o := .cells #[.int .i64 t732, .int .i64 t733, .bool t734, .bool t735, .bool t736] 37 (0, 0)) (rk BK737) hb); have n10_ := am (blk_below (g := gb747) (o := .cells #[.int .i64 t742, .int .i64 t743, .bool t744, .bool t745, .bool t746] 37 (0, 0)) (rk BK747) hb); have n11_ := am (below_step (rb3 HB GE723 GE737 GE747) hb); clear HO715; clear HO726; clear HO729; clear HO740; clear HO750; clear HO753; clear HO757; clear HO761; clear BK723; clear BK737; clear BK747; clear HB; have HO715 := n0_; have HO726 := n1_; have HO729 := n2_; have HO740 := n3_; have HO750 := n4_; have HO753 := n5_; have HO757 := n6_; have HO761 := n7_; have BK723 := n8_; have BK737 := n9_; have BK747 := n10_; have HB := n11_; clear n0_ n1_ n2_ n3_ n4_ n5_ n6_ n7_ n8_ n9_ n10_ n11_; (try clear hb); (try clear hb2); (try clear hk); (try clear hi)) | ((with_reducible refine gate_callee (f := 17) rfl ?_); refine gl_ (some 59) Tryd.func17 #[.slice Ao44 t724.length co44, .slice Ao45 t751.length co45] ?_; (with_reducible refine (laws_likeRow.calls k _ _ t724 _ _ t751 true _ ?side1 ?side2 ?side3 ?side4 A29.out).mono ?_); (case side1 => repeat (first | exact (Kd.R_reads' HO726.out).2.2 | (with_reducible refine Kd.C_alloc ?_ _) | (with_reducible refine Kd.C_drewN ?_ _) | (with_reducible refine Kd.C_drew ?_))); (case side2 => exact (Kd.R_reads' HO726.out).2.1); (case side3 => repeat (first | exact (Kd.R_reads' HO753.out).2.2 | (with_reducible refine Kd.C_alloc ?_ _) | (with_reducible refine Kd.C_drewN ?_ _) | (with_reducible refine Kd.C_drew ?_))); (case side4 => exact (Kd.R_reads' HO753.out).2.1); rintro e w' ⟨rfl, ⟨nd, rfl⟩⟩; refine ⟨_, rfl, ?_⟩; have hnb46 := NB737_747.out; have hnc46 := NB747_737.out; have hcz47_0 : w43.cell? ⟨gb737, 0, none⟩ = some (.int .i64 t732) := (blk_cell BK737.out 0).trans rfl; have hcz47_1 : w43.cell? ⟨gb737, 1, none⟩ = some (.int .i64 t733) := (blk_cell BK737.out 1).trans rfl; have hcz47_2 : w43.cell? ⟨gb737, 2, none⟩ = some (.bool t734) := (blk_cell BK737.out 2).trans rfl; have hcz47_3 : w43.cell? ⟨gb737, 3, none⟩ = some (.bool t735) := (blk_cell BK737.out 3).trans rfl; have hcz47_4 : w43.cell? ⟨gb737, 4, none⟩ = some (.bool t736) := (blk_cell BK737.out 4).trans rfl; have hfz47_0 := blk_frozen BK737.out 0; have hfz47_1 := blk_frozen BK737.out 1; have hfz47_2 := blk_frozen BK737.out 2; have hfz47_3 := blk_frozen BK737.out 3; have hfz47_4 := blk_frozen BK737.out 4) | (go_at_call 17; (with_reducible refine (laws_likeRow.calls k _ _ t738 _ _ t755 true _ ?side1 ?side2 ?side3 ?side4 A32.out).mono ?_); (case side1 => repeat (first | exact (Kd.R_reads' HO740.out).2.2 | (with_reducible refine Kd.C_alloc ?_ _) | (with_reducible refine Kd.C_drewN ?_ _) | (with_reducible refine Kd.C_drew ?_))); (case side2 => exact (Kd.R_reads' HO740.out).2.1); (case side3 => repeat (first | exact (Kd.R_reads' HO757.out).2.2 | (with_reducible refine Kd.C_alloc ?_ _) | (with_reducible refine Kd.C_drewN ?_ _) | (with_reducible refine Kd.C_drew ?_))); (case side4 => exact (Kd.R_reads' HO757.out).2.1); rintro e w' ⟨rfl, ⟨nd, rfl⟩⟩; have hcz51_0 : w48.cell? ⟨gb747, 0, none⟩ = some (.int .i64 t742) := (blk_cell BK747.out 0).trans rfl; have hcz51_1 : w48.cell? ⟨gb747, 1, none⟩ = some (.int .i64 t743) := (blk_cell BK747.out 1).trans rfl; have hcz51_2 : w48.cell? ⟨gb747, 2, none⟩ = some (.bool t744) := (blk_cell BK747.out 2).trans rfl; have hcz51_3 : w48.cell? ⟨gb747, 3, none⟩ = some (.bool t745) := (blk_cell BK747.out 3).trans rfl; have hcz51_4 : w48.cell? ⟨gb747, 4, none⟩ = some (.bool t746) := (blk_cell BK747.out 4).trans rfl; have hfz51_0 := blk_frozen BK747.out 0; have hfz51_1 := blk_frozen BK747.out 1; have hfz51_2 := blk_frozen BK747.out 2; have hfz51_3 := blk_frozen BK747.out 3; have hfz51_4 := blk_frozen BK747.out 4) | ((with_reducible refine gate_callee (f := 17) rfl ?_); refine gl_ (some 59) Tryd.func17 #[.slice Ao44 t724.length co44, .slice Ao45 t751.length co45] ?_; (with_reducible refine (laws_likeRow.calls k _ _ t724 _ _ t751 false _ ?side1 ?side2 ?side3 ?side4 A29.out).mono ?_); (case side1 => repeat (first | exact (Kd.R_reads' HO726.out).2.2 | (with_reducible refine Kd.C_alloc ?_ _) | (with_reducible refine Kd.C_drewN ?_ _) | (with_reducible refine Kd.C_drew ?_))); (case side2 => exact (Kd.R_reads' HO726.out).2.1); (case side3 => repeat (first | exact (Kd.R_reads' HO753.out).2.2 | (with_reducible refine Kd.C_alloc ?_ _) | (with_reducible refine Kd.C_drewN ?_ _) | (with_reducible refine Kd.C_drew ?_))); (case side4 => exact (Kd.R_reads' HO753.out).2.1); rintro e w' ⟨rfl, ⟨nd, rfl⟩⟩; refine ⟨_, rfl, ?_⟩) | (go_at_call 17; (with_reducible refine (laws_likeRow.calls k _ _ t748 _ _ t759 false _ ?side1 ?side2 ?side3 ?side4 A35.out).mono ?_); (case side1 => repeat (first | exact (Kd.R_reads' HO750.out).2.2 | (with_reducible refine Kd.C_alloc ?_ _) | (with_reducible refine Kd.C_drewN ?_ _) | (with_reducible refine Kd.C_drew ?_))); (case side2 => exact (Kd.R_reads' HO750.out).2.1); (case side3 => repeat (first | exact (Kd.R_reads' HO761.out).2.2 | (with_reducible refine Kd.C_alloc ?_ _) | (with_reducible refine Kd.C_drewN ?_ _) | (with_reducible refine Kd.C_drew ?_))); (case side4 => exact (Kd.R_reads' HO761.out).2.1); rintro e w' ⟨rfl, ⟨nd, rfl⟩⟩) | (go_at_call 17; (with_reducible refine (laws_likeRow.calls k _ _ t738 _ _ t755 false _ ?side1 ?side2 ?side3 ?side4 A32.out).mono ?_); (case side1 => repeat (first | exact (Kd.R_reads' HO740.out).2.2 | (with_reducible refine Kd.C_alloc ?_ _) | (with_reducible refine Kd.C_drewN ?_ _) | (with_reducible refine Kd.C_drew ?_))); (case side2 => exact (Kd.R_reads' HO740.out).2.1); (case side3 => repeat (first | exact (Kd.R_reads' HO757.out).2.2 | (with_reducible refine Kd.C_alloc ?_ _) | (with_reducible refine Kd.C_drewN ?_ _) | (with_reducible refine Kd.C_drew ?_))); (case side4 => exact (Kd.R_reads' HO757.out).2.1); rintro e w' ⟨rfl, ⟨nd, rfl⟩⟩) | (go_at_call 17; (with_reducible refine (laws_likeRow.calls k _ _ t748 _ _ t759 true _ ?side1 ?side2 ?side3 ?side4 A35.out).mono ?_); (case side1 => repeat (first | exact (Kd.R_reads' HO750.out).2.2 | (with_reducible refine Kd.C_alloc ?_ _) | (with_reducible refine Kd.C_drewN ?_ _) | (with_reducible refine Kd.C_drew ?_))); (case side2 => exact (Kd.R_reads' HO750.out).2.1); (case side3 => repeat (first | exact (Kd.R_reads' HO761.out).2.2 | (with_reducible refine Kd.C_alloc ?_ _) | (with_reducible refine Kd.C_drewN ?_ _) | (with_reducible refine Kd.C_drew ?_))); (case side4 => exact (Kd.R_reads' HO761.out).2.1); rintro e w' ⟨rfl, ⟨nd, rfl⟩⟩))
    go_meet
    first
    | (
      first | have q_ := lf3_ | have q_ := lf5_
      case rel => exact ⟨_, (true), (by first | rfl | (simp; done) | (simp [*]; done)), H', ⟨by first | omega | exact Nat.le_refl _⟩, ⟨by (with_reducible repeat (first | apply r1 | apply r2 | apply r3)); exact Kd.R_mono HO715.out (fun _ hk => ⟨hk.1.1.1.1.1.1.2, ⟨hk.1.1.1.1.1.2, ⟨hk.1.1.1.1.2, hk.1.1.1.2⟩⟩⟩)⟩, ⟨by (with_reducible repeat (first | apply r1 | apply r2 | apply r3)); exact Kd.R_mono HO726.out (fun _ hk => ⟨hk.1.1.1.1.1.1.2, ⟨hk.1.1.1.1.1.2, ⟨hk.1.1.1.1.2, hk.1.1.1.2⟩⟩⟩)⟩, ⟨by (with_reducible repeat (first | apply r1 | apply r2 | apply r3)); exact Kd.R_mono HO729.out (fun _ hk => ⟨hk.1.1.1.1.1.1.2, ⟨hk.1.1.1.1.1.2, ⟨hk.1.1.1.1.2, hk.1.1.1.2⟩⟩⟩)⟩, ⟨by (with_reducible repeat (first | apply r1 | apply r2 | apply r3)); exact Kd.R_mono HO740.out (fun _ hk => ⟨hk.1.1.1.1.1.1.2, ⟨hk.1.1.1.1.1.2, ⟨hk.1.1.1.1.2, hk.1.1.1.2⟩⟩⟩)⟩, ⟨by (with_reducible repeat (first | apply r1 | apply r2 | apply r3)); exact Kd.R_mono HO750.out (fun _ hk => ⟨hk.1.1.1.1.1.1.2, ⟨hk.1.1.1.1.1.2, ⟨hk.1.1.1.1.2, hk.1.1.1.2⟩⟩⟩)⟩, ⟨rk BK723⟩, ⟨rk BK737⟩, ⟨rk BK747⟩, ⟨rb3 HB GE723 GE737 GE747⟩⟩
      )
    | (
      have q_ := lf4_
      case rel => exact ⟨_, ((t765.toList != t766.toList)), (by first | rfl | (simp; done) | (simp [*]; done)), H', ⟨by first | omega | exact Nat.le_refl _⟩, ⟨by (with_reducible repeat (first | apply r1 | apply r2 | apply r3)); exact Kd.R_mono HO715.out (fun _ hk => ⟨hk.1.1.1.1.1.1.2, ⟨hk.1.1.1.1.1.2, ⟨hk.1.1.1.1.2, hk.1.1.1.2⟩⟩⟩)⟩, ⟨by (with_reducible repeat (first | apply r1 | apply r2 | apply r3)); exact Kd.R_mono HO726.out (fun _ hk => ⟨hk.1.1.1.1.1.1.2, ⟨hk.1.1.1.1.1.2, ⟨hk.1.1.1.1.2, hk.1.1.1.2⟩⟩⟩)⟩, ⟨by (with_reducible repeat (first | apply r1 | apply r2 | apply r3)); exact Kd.R_mono HO729.out (fun _ hk => ⟨hk.1.1.1.1.1.1.2, ⟨hk.1.1.1.1.1.2, ⟨hk.1.1.1.1.2, hk.1.1.1.2⟩⟩⟩)⟩, ⟨by (with_reducible repeat (first | apply r1 | apply r2 | apply r3)); exact Kd.R_mono HO740.out (fun _ hk => ⟨hk.1.1.1.1.1.1.2, ⟨hk.1.1.1.1.1.2, ⟨hk.1.1.1.1.2, hk.1.1.1.2⟩⟩⟩)⟩, ⟨by (with_reducible repeat (first | apply r1 | apply r2 | apply r3)); exact Kd.R_mono HO750.out (fun _ hk => ⟨hk.1.1.1.1.1.1.2, ⟨hk.1.1.1.1.1.2, ⟨hk.1.1.1.1.2, hk.1.1.1.2⟩⟩⟩)⟩, ⟨rk BK723⟩, ⟨rk BK737⟩, ⟨rk BK747⟩, ⟨rb3 HB GE723 GE737 GE747⟩⟩
      )
    | (
      have q_ := lf6_
      case rel => exact ⟨_, (true), (by first | rfl | (simp; done) | (simp [*]; done)), H', ⟨by first | omega | exact Nat.le_refl _⟩, ⟨by (with_reducible repeat (first | apply r1 | apply r2 | apply r3)); exact Kd.R_mono HO715.out (fun _ hk => ⟨hk.1.1.1.1.1.2, ⟨hk.1.1.1.1.2, ⟨hk.1.1.1.2, hk.1.1.2⟩⟩⟩)⟩, ⟨by (with_reducible repeat (first | apply r1 | apply r2 | apply r3)); exact Kd.R_mono HO726.out (fun _ hk => ⟨hk.1.1.1.1.1.2, ⟨hk.1.1.1.1.2, ⟨hk.1.1.1.2, hk.1.1.2⟩⟩⟩)⟩, ⟨by (with_reducible repeat (first | apply r1 | apply r2 | apply r3)); exact Kd.R_mono HO729.out (fun _ hk => ⟨hk.1.1.1.1.1.2, ⟨hk.1.1.1.1.2, ⟨hk.1.1.1.2, hk.1.1.2⟩⟩⟩)⟩, ⟨by (with_reducible repeat (first | apply r1 | apply r2 | apply r3)); exact Kd.R_mono HO740.out (fun _ hk => ⟨hk.1.1.1.1.1.2, ⟨hk.1.1.1.1.2, ⟨hk.1.1.1.2, hk.1.1.2⟩⟩⟩)⟩, ⟨by (with_reducible repeat (first | apply r1 | apply r2 | apply r3)); exact Kd.R_mono HO750.out (fun _ hk => ⟨hk.1.1.1.1.1.2, ⟨hk.1.1.1.1.2, ⟨hk.1.1.1.2, hk.1.1.2⟩⟩⟩)⟩, ⟨rk BK723⟩, ⟨rk BK737⟩, ⟨rk BK747⟩, ⟨rb3 HB GE723 GE737 GE747⟩⟩
      )
    | (
      have q_ := lf7_
      case rel => exact ⟨_, (true), (by first | rfl | (simp; done) | (simp [*]; done)), H', ⟨by first | omega | exact Nat.le_refl _⟩, ⟨by (with_reducible repeat (first | apply r1 | apply r2 | apply r3)); exact Kd.R_mono HO715.out (fun _ hk => ⟨hk.1.1.1.1.2, ⟨hk.1.1.1.2, ⟨hk.1.1.2, hk.1.2⟩⟩⟩)⟩, ⟨by (with_reducible repeat (first | apply r1 | apply r2 | apply r3)); exact Kd.R_mono HO726.out (fun _ hk => ⟨hk.1.1.1.1.2, ⟨hk.1.1.1.2, ⟨hk.1.1.2, hk.1.2⟩⟩⟩)⟩, ⟨by (with_reducible repeat (first | apply r1 | apply r2 | apply r3)); exact Kd.R_mono HO729.out (fun _ hk => ⟨hk.1.1.1.1.2, ⟨hk.1.1.1.2, ⟨hk.1.1.2, hk.1.2⟩⟩⟩)⟩, ⟨by (with_reducible repeat (first | apply r1 | apply r2 | apply r3)); exact Kd.R_mono HO740.out (fun _ hk => ⟨hk.1.1.1.1.2, ⟨hk.1.1.1.2, ⟨hk.1.1.2, hk.1.2⟩⟩⟩)⟩, ⟨by (with_reducible repeat (first | apply r1 | apply r2 | apply r3)); exact Kd.R_mono HO750.out (fun _ hk => ⟨hk.1.1.1.1.2, ⟨hk.1.1.1.2, ⟨hk.1.1.2, hk.1.2⟩⟩⟩)⟩, ⟨rk BK723⟩, ⟨rk BK737⟩, ⟨rk BK747⟩, ⟨rb3 HB GE723 GE737 GE747⟩⟩
      )
  case rest => as_aux_lemma =>
   clear HC10
   try clear c1
   try clear c2
   try clear p2
   try clear c3
   try clear c4
   try clear c5
   try clear c6
   try clear c7
   try clear c8
   try clear c9
   try clear c10
   try clear c11
   try clear c12
   try clear c13
   try clear c14
   try clear c15
   try clear c16
   try clear c17
   try clear c18
   try clear c24
   try clear c25
   try clear c30
   try clear c33
   try clear c36
   try clear c39
   try clear c39b0
   try clear c39b1
   try clear c39b2
   try clear c40
   try clear c41
   try clear c46
   try clear c59
   try clear c60
   try clear c65
   try clear c78
   try clear c79
   try clear c84
   try clear c93
   try clear c94
   try clear c99
   try clear c104
   try clear c105
   try clear hcz100_0
   try clear hcz100_1
   try clear hcz100_2
   try clear hcz100_3
   try clear hcz100_4
   try clear hcz106_0
   try clear hcz106_1
   try clear hcz106_2
   try clear hcz106_3
   try clear hcz106_4
   try clear hcz13_0
   try clear hcz13_1
   try clear hcz13_2
   try clear hcz13_3
   try clear hcz13_4
   try clear hcz19_0
   try clear hcz19_1
   try clear hcz19_2
   try clear hcz19_3
   try clear hcz19_4
   try clear hcz26_0
   try clear hcz26_1
   try clear hcz26_2
   try clear hcz26_3
   try clear hcz26_4
   try clear hcz42_0
   try clear hcz42_1
   try clear hcz42_2
   try clear hcz42_3
   try clear hcz42_4
   try clear hcz47_0
   try clear hcz47_1
   try clear hcz47_2
   try clear hcz47_3
   try clear hcz47_4
   try clear hcz51_0
   try clear hcz51_1
   try clear hcz51_2
   try clear hcz51_3
   try clear hcz51_4
   try clear hcz61_0
   try clear hcz61_1
   try clear hcz61_2
   try clear hcz61_3
   try clear hcz61_4
   try clear hcz66_0
   try clear hcz66_1
   try clear hcz66_2
   try clear hcz66_3
   try clear hcz66_4
   try clear hcz70_0
   try clear hcz70_1
   try clear hcz70_2
   try clear hcz70_3
   try clear hcz70_4
   try clear hcz80_0
   try clear hcz80_1
   try clear hcz80_2
   try clear hcz80_3
   try clear hcz80_4
   try clear hcz85_0
   try clear hcz85_1
   try clear hcz85_2
   try clear hcz85_3
   try clear hcz85_4
   try clear hcz89_0
   try clear hcz89_1
   try clear hcz89_2
   try clear hcz89_3
   try clear hcz89_4
   try clear hcz95_0
   try clear hcz95_1
   try clear hcz95_2
   try clear hcz95_3
   try clear hcz95_4
   try clear hfz100_0
   try clear hfz100_1
   try clear hfz100_2
   try clear hfz100_3
   try clear hfz100_4
   try clear hfz106_0
   try clear hfz106_1
   try clear hfz106_2
   try clear hfz106_3
   try clear hfz106_4
   try clear hfz13_0
   try clear hfz13_1
   try clear hfz13_2
   try clear hfz13_3
   try clear hfz13_4
   try clear hfz19_0
   try clear hfz19_1
   try clear hfz19_2
   try clear hfz19_3
   try clear hfz19_4
   try clear hfz26_0
   try clear hfz26_1
   try clear hfz26_2
   try clear hfz26_3
   try clear hfz26_4
   try clear hfz42_0
   try clear hfz42_1
   try clear hfz42_2
   try clear hfz42_3
   try clear hfz42_4
   try clear hfz47_0
   try clear hfz47_1
   try clear hfz47_2
   try clear hfz47_3
   try clear hfz47_4
   try clear hfz51_0
   try clear hfz51_1
   try clear hfz51_2
   try clear hfz51_3
   try clear hfz51_4
   try clear hfz61_0
   try clear hfz61_1
   try clear hfz61_2
   try clear hfz61_3
   try clear hfz61_4
   try clear hfz66_0
   try clear hfz66_1
   try clear hfz66_2
   try clear hfz66_3
   try clear hfz66_4
   try clear hfz70_0
   try clear hfz70_1
   try clear hfz70_2
   try clear hfz70_3
   try clear hfz70_4
   try clear hfz80_0
   try clear hfz80_1
   try clear hfz80_2
   try clear hfz80_3
   try clear hfz80_4
   try clear hfz85_0
   try clear hfz85_1
   try clear hfz85_2
   try clear hfz85_3
   try clear hfz85_4
   try clear hfz89_0
   try clear hfz89_1
   try clear hfz89_2
   try clear hfz89_3
   try clear hfz89_4
   try clear hfz95_0
   try clear hfz95_1
   try clear hfz95_2
   try clear hfz95_3
   try clear hfz95_4
   obtain ⟨kq, x92_9, rfl, HA, HJ9, HO_3, HO_7, HO_8, HO_12, HO_15, BK723, BK737, BK747, HB⟩ := hcut
   cases kq with
   | zero => exact absurd HA.out (by simp [laws_FnRows.j0])
   | succ kj9 =>
    have H := HA.out
    clear HA
    simp only [laws_FnRows.j0] at H
    refine em_ (p := x92_9 = true) (fun c110 => ?g4p) (fun c110 => ?g4n)
    case g4p =>
     subst c110
     have H1 : (some false) = some r := by rw [if_pos rfl] at H; exact H
     clear H
     have H := H1
     clear H1
     exact absurd (Option.some.inj (H.trans (congrArg some hT_))) Bool.false_ne_true
    case' g4n =>
     replace c110 := Bool.eq_false_iff.mpr c110
     subst c110
     rw [if_neg (show ¬ (false = true) by decide)] at H
     have HC111 := am H
     clear H
     have lf8_ := trivial
    all_goals as_aux_lemma =>
     go_upto_region 11 with (fail)
     go_cut [105] (fun v105 wc => ∃ (kq : Nat) (x105_110 : Bool), v105 = .bool x105_110 ∧ Aside0 (laws_FnRows.j1 kq t713 t716 t717 t724 t727 t730 t731 t738 x105_110 t718 t719 t720 t721 t722 t732 t733 t734 t735 t736 = some r) ∧ Aside0 (kq ≤ kj9) ∧ Aside0 (Kd.R k48 48 wc w.heap.size (fun k_ => some k_ ≠ (v725 : Value).ownBlock ∧ some k_ ≠ ((.slice Ao20 t727.length co20) : Value).ownBlock ∧ some k_ ≠ (v739 : Value).ownBlock) (.slice Ao14 t713.length co14) t713) ∧ Aside0 (Kd.R k48 48 wc w.heap.size (fun k_ => some k_ ≠ ((.slice Ao14 t713.length co14) : Value).ownBlock ∧ some k_ ≠ ((.slice Ao20 t727.length co20) : Value).ownBlock ∧ some k_ ≠ (v739 : Value).ownBlock) v725 t724) ∧ Aside0 (Kd.R k48 48 wc w.heap.size (fun k_ => some k_ ≠ ((.slice Ao14 t713.length co14) : Value).ownBlock ∧ some k_ ≠ (v725 : Value).ownBlock ∧ some k_ ≠ (v739 : Value).ownBlock) (.slice Ao20 t727.length co20) t727) ∧ Aside0 (Kd.R k48 48 wc w.heap.size (fun k_ => some k_ ≠ ((.slice Ao14 t713.length co14) : Value).ownBlock ∧ some k_ ≠ (v725 : Value).ownBlock ∧ some k_ ≠ ((.slice Ao20 t727.length co20) : Value).ownBlock) v739 t738) ∧ Aside0 (wc.heap[gb723]? = some (.cells #[.int .i64 t718, .int .i64 t719, .bool t720, .bool t721, .bool t722] 37 (0, 0))) ∧ Aside0 (wc.heap[gb737]? = some (.cells #[.int .i64 t732, .int .i64 t733, .bool t734, .bool t735, .bool t736] 37 (0, 0))) ∧ Aside0 (wc.heap[gb747]? = some (.cells #[.int .i64 t742, .int .i64 t743, .bool t744, .bool t745, .bool t746] 37 (0, 0))) ∧ Aside0 (Below w.heap.size w wc))
     case first =>
      have H := HC111.out
      clear HC111
      refine em_ (p := (t748.length : Int) > 0) (fun c112 => ?g5p) (fun c112 => ?g5n)
      case g5p =>
       rw [if_pos c112] at H
       have c112b0 : decide (0 < (t748.length : Int)) = true := decide_eq_true c112
       have c112b1 : decide (0 < t748.length) = true := decide_eq_true (by omega)
       clear c112
       (first | rw [c112b0] | rw [c112b1] | (simp only [i64_w, i32_w]; rw [c112b0]) | skip)
       replace H := Option.bind_eq_some_iff.mp H
       obtain ⟨t767, A1130, H⟩ := H
       (try dsimp only at H)
       have A113 := am A1130
       clear A1130
       by_cases c114 : t767 = true
       ·subst c114
        rw [if_pos rfl] at H
        replace H := Option.bind_eq_some_iff.mp H
        obtain ⟨t768, A1150, H⟩ := H
        (try dsimp only at H)
        have A115 := am A1150
        clear A1150
        have H' := am H
        clear H
        obtain ⟨Ao116, co116, eo116⟩ := Kd.R_slice HO_15.out
        subst eo116
        go_wp2_with (first | (go_at_call 21; (with_reducible refine (impl_RowOk.calls kj9 _ _ t748 true _ ?side1 ?side2 A113.out).mono ?_); (case side1 => repeat (first | exact (Kd.R_reads' HO_15.out).2.2 | (with_reducible refine Kd.C_alloc ?_ _) | (with_reducible refine Kd.C_drewN ?_ _) | (with_reducible refine Kd.C_drew ?_))); (case side2 => exact (Kd.R_reads' HO_15.out).2.1); rintro e w117 ⟨rfl, hb⟩; have n0_ := am (Kd.R_below (rr HO_3) hb); have n1_ := am (Kd.R_below (rr HO_7) hb); have n2_ := am (Kd.R_below (rr HO_8) hb); have n3_ := am (Kd.R_below (rr HO_12) hb); have n4_ := am (Kd.R_below (rr HO_15) hb); have n5_ := am (blk_below (g := gb723) (o := .cells #[.int .i64 t718, .int .i64 t719, .bool t720, .bool t721, .bool t722] 37 (0, 0)) (rk BK723) hb); have n6_ := am (blk_below (g := gb737) (o := .cells #[.int .i64 t732, .int .i64 t733, .bool t734, .bool t735, .bool t736] 37 (0, 0)) (rk BK737) hb); have n7_ := am (blk_below (g := gb747) (o := .cells #[.int .i64 t742, .int .i64 t743, .bool t744, .bool t745, .bool t746] 37 (0, 0)) (rk BK747) hb); have n8_ := am (below_step (rb3 HB GE723 GE737 GE747) hb); clear HO_3; clear HO_7; clear HO_8; clear HO_12; clear HO_15; clear BK723; clear BK737; clear BK747; clear HB; have HO_3 := n0_; have HO_7 := n1_; have HO_8 := n2_; have HO_12 := n3_; have HO_15 := n4_; have BK723 := n5_; have BK737 := n6_; have BK747 := n7_; have HB := n8_; clear n0_ n1_ n2_ n3_ n4_ n5_ n6_ n7_ n8_; (try clear hb); (try clear hb2); (try clear hk); (try clear hi)) | (go_at_call 23; (with_reducible refine (impl_RowText.calls kj9 _ _ t748 t768 _ ?side1 ?side2 A115.out).mono ?_); (case side1 => repeat (first | exact (Kd.R_reads' HO_15.out).2.2 | (with_reducible refine Kd.C_alloc ?_ _) | (with_reducible refine Kd.C_drewN ?_ _) | (with_reducible refine Kd.C_drew ?_))); (case side2 => exact (Kd.R_reads' HO_15.out).2.1); rintro e w118 ⟨rfl, hb⟩; have n0_ := am (Kd.R_below (rr HO_3) hb); have n1_ := am (Kd.R_below (rr HO_7) hb); have n2_ := am (Kd.R_below (rr HO_8) hb); have n3_ := am (Kd.R_below (rr HO_12) hb); have n4_ := am (Kd.R_below (rr HO_15) hb); have n5_ := am (blk_below (g := gb723) (o := .cells #[.int .i64 t718, .int .i64 t719, .bool t720, .bool t721, .bool t722] 37 (0, 0)) (rk BK723) hb); have n6_ := am (blk_below (g := gb737) (o := .cells #[.int .i64 t732, .int .i64 t733, .bool t734, .bool t735, .bool t736] 37 (0, 0)) (rk BK737) hb); have n7_ := am (blk_below (g := gb747) (o := .cells #[.int .i64 t742, .int .i64 t743, .bool t744, .bool t745, .bool t746] 37 (0, 0)) (rk BK747) hb); have n8_ := am (below_step (rb3 HB GE723 GE737 GE747) hb); clear HO_3; clear HO_7; clear HO_8; clear HO_12; clear HO_15; clear BK723; clear BK737; clear BK747; clear HB; have HO_3 := n0_; have HO_7 := n1_; have HO_8 := n2_; have HO_12 := n3_; have HO_15 := n4_; have BK723 := n5_; have BK737 := n6_; have BK747 := n7_; have HB := n8_; clear n0_ n1_ n2_ n3_ n4_ n5_ n6_ n7_ n8_; (try clear hb); (try clear hb2); (try clear hk); (try clear hi)))
        go_meet
        case rel => exact ⟨_, ((t768.toList != ([] : List UInt8))), (by first | rfl | (generalize t768.toList = q_; cases q_ <;> rfl) | (simp; done) | (simp [*]; done)), H', ⟨by have := HJ9.out; first | omega | exact Nat.le_refl _⟩, ⟨by (with_reducible repeat (first | apply r1 | apply r2 | apply r3)); exact Kd.R_mono HO_3.out (fun _ hk => ⟨hk.1, ⟨hk.2.1, hk.2.2.1⟩⟩)⟩, ⟨by (with_reducible repeat (first | apply r1 | apply r2 | apply r3)); exact Kd.R_mono HO_7.out (fun _ hk => ⟨hk.1, ⟨hk.2.1, hk.2.2.1⟩⟩)⟩, ⟨by (with_reducible repeat (first | apply r1 | apply r2 | apply r3)); exact Kd.R_mono HO_8.out (fun _ hk => ⟨hk.1, ⟨hk.2.1, hk.2.2.1⟩⟩)⟩, ⟨by (with_reducible repeat (first | apply r1 | apply r2 | apply r3)); exact Kd.R_mono HO_12.out (fun _ hk => ⟨hk.1, ⟨hk.2.1, hk.2.2.1⟩⟩)⟩, ⟨rk BK723⟩, ⟨rk BK737⟩, ⟨rk BK747⟩, ⟨rb3 HB GE723 GE737 GE747⟩⟩
       ·replace c114 := Bool.eq_false_iff.mpr c114
        subst c114
        rw [if_neg (show ¬ (false = true) by decide)] at H
        have H' := am H
        clear H
        obtain ⟨Ao119, co119, eo119⟩ := Kd.R_slice HO_15.out
        subst eo119
        go_wp2_with (first | (go_at_call 21; (with_reducible refine (impl_RowOk.calls kj9 _ _ t748 false _ ?side1 ?side2 A113.out).mono ?_); (case side1 => repeat (first | exact (Kd.R_reads' HO_15.out).2.2 | (with_reducible refine Kd.C_alloc ?_ _) | (with_reducible refine Kd.C_drewN ?_ _) | (with_reducible refine Kd.C_drew ?_))); (case side2 => exact (Kd.R_reads' HO_15.out).2.1); rintro e w120 ⟨rfl, hb⟩; have n0_ := am (Kd.R_below (rr HO_3) hb); have n1_ := am (Kd.R_below (rr HO_7) hb); have n2_ := am (Kd.R_below (rr HO_8) hb); have n3_ := am (Kd.R_below (rr HO_12) hb); have n4_ := am (Kd.R_below (rr HO_15) hb); have n5_ := am (blk_below (g := gb723) (o := .cells #[.int .i64 t718, .int .i64 t719, .bool t720, .bool t721, .bool t722] 37 (0, 0)) (rk BK723) hb); have n6_ := am (blk_below (g := gb737) (o := .cells #[.int .i64 t732, .int .i64 t733, .bool t734, .bool t735, .bool t736] 37 (0, 0)) (rk BK737) hb); have n7_ := am (blk_below (g := gb747) (o := .cells #[.int .i64 t742, .int .i64 t743, .bool t744, .bool t745, .bool t746] 37 (0, 0)) (rk BK747) hb); have n8_ := am (below_step (rb3 HB GE723 GE737 GE747) hb); clear HO_3; clear HO_7; clear HO_8; clear HO_12; clear HO_15; clear BK723; clear BK737; clear BK747; clear HB; have HO_3 := n0_; have HO_7 := n1_; have HO_8 := n2_; have HO_12 := n3_; have HO_15 := n4_; have BK723 := n5_; have BK737 := n6_; have BK747 := n7_; have HB := n8_; clear n0_ n1_ n2_ n3_ n4_ n5_ n6_ n7_ n8_; (try clear hb); (try clear hb2); (try clear hk); (try clear hi)))
        go_meet
        case rel => exact ⟨_, (true), (by first | rfl | (simp; done) | (simp [*]; done)), H', ⟨by have := HJ9.out; first | omega | exact Nat.le_refl _⟩, ⟨by (with_reducible repeat (first | apply r1 | apply r2 | apply r3)); exact Kd.R_mono HO_3.out (fun _ hk => ⟨hk.1, ⟨hk.2.1, hk.2.2.1⟩⟩)⟩, ⟨by (with_reducible repeat (first | apply r1 | apply r2 | apply r3)); exact Kd.R_mono HO_7.out (fun _ hk => ⟨hk.1, ⟨hk.2.1, hk.2.2.1⟩⟩)⟩, ⟨by (with_reducible repeat (first | apply r1 | apply r2 | apply r3)); exact Kd.R_mono HO_8.out (fun _ hk => ⟨hk.1, ⟨hk.2.1, hk.2.2.1⟩⟩)⟩, ⟨by (with_reducible repeat (first | apply r1 | apply r2 | apply r3)); exact Kd.R_mono HO_12.out (fun _ hk => ⟨hk.1, ⟨hk.2.1, hk.2.2.1⟩⟩)⟩, ⟨rk BK723⟩, ⟨rk BK737⟩, ⟨rk BK747⟩, ⟨rb3 HB GE723 GE737 GE747⟩⟩
      case' g5n =>
       rw [if_neg c112] at H
       have c112b0 : decide (0 < (t748.length : Int)) = false := decide_eq_false c112
       have c112b1 : decide (0 < t748.length) = false := decide_eq_false (by omega)
       clear c112
       (first | rw [c112b0] | rw [c112b1] | (simp only [i64_w, i32_w]; rw [c112b0]) | skip)
       have H' := am H
       clear H
       obtain ⟨Ao121, co121, eo121⟩ := Kd.R_slice HO_15.out
       subst eo121
       have lf11_ := trivial
      all_goals
       go_wp2
       go_meet
       case rel => exact ⟨_, (false), (by first | rfl | (simp; done) | (simp [*]; done)), H', ⟨by have := HJ9.out; first | omega | exact Nat.le_refl _⟩, ⟨by (with_reducible repeat (first | apply r1 | apply r2 | apply r3)); exact Kd.R_mono HO_3.out (fun _ hk => ⟨hk.1, ⟨hk.2.1, hk.2.2.1⟩⟩)⟩, ⟨by (with_reducible repeat (first | apply r1 | apply r2 | apply r3)); exact Kd.R_mono HO_7.out (fun _ hk => ⟨hk.1, ⟨hk.2.1, hk.2.2.1⟩⟩)⟩, ⟨by (with_reducible repeat (first | apply r1 | apply r2 | apply r3)); exact Kd.R_mono HO_8.out (fun _ hk => ⟨hk.1, ⟨hk.2.1, hk.2.2.1⟩⟩)⟩, ⟨by (with_reducible repeat (first | apply r1 | apply r2 | apply r3)); exact Kd.R_mono HO_12.out (fun _ hk => ⟨hk.1, ⟨hk.2.1, hk.2.2.1⟩⟩)⟩, ⟨rk BK723⟩, ⟨rk BK737⟩, ⟨rk BK747⟩, ⟨rb3 HB GE723 GE737 GE747⟩⟩
     case rest => as_aux_lemma =>
      clear HC111
      try clear c1
      try clear c2
      try clear p2
      try clear c3
      try clear c4
      try clear c5
      try clear c6
      try clear c7
      try clear c8
      try clear c9
      try clear c10
      try clear c11
      try clear c12
      try clear c13
      try clear c14
      try clear c15
      try clear c16
      try clear c17
      try clear c18
      try clear c24
      try clear c25
      try clear c30
      try clear c33
      try clear c36
      try clear c39
      try clear c39b0
      try clear c39b1
      try clear c39b2
      try clear c40
      try clear c41
      try clear c46
      try clear c59
      try clear c60
      try clear c65
      try clear c78
      try clear c79
      try clear c84
      try clear c93
      try clear c94
      try clear c99
      try clear c104
      try clear c105
      try clear c110
      try clear c112
      try clear c112b0
      try clear c112b1
      try clear c114
      try clear hcz100_0
      try clear hcz100_1
      try clear hcz100_2
      try clear hcz100_3
      try clear hcz100_4
      try clear hcz106_0
      try clear hcz106_1
      try clear hcz106_2
      try clear hcz106_3
      try clear hcz106_4
      try clear hcz13_0
      try clear hcz13_1
      try clear hcz13_2
      try clear hcz13_3
      try clear hcz13_4
      try clear hcz19_0
      try clear hcz19_1
      try clear hcz19_2
      try clear hcz19_3
      try clear hcz19_4
      try clear hcz26_0
      try clear hcz26_1
      try clear hcz26_2
      try clear hcz26_3
      try clear hcz26_4
      try clear hcz42_0
      try clear hcz42_1
      try clear hcz42_2
      try clear hcz42_3
      try clear hcz42_4
      try clear hcz47_0
      try clear hcz47_1
      try clear hcz47_2
      try clear hcz47_3
      try clear hcz47_4
      try clear hcz51_0
      try clear hcz51_1
      try clear hcz51_2
      try clear hcz51_3
      try clear hcz51_4
      try clear hcz61_0
      try clear hcz61_1
      try clear hcz61_2
      try clear hcz61_3
      try clear hcz61_4
      try clear hcz66_0
      try clear hcz66_1
      try clear hcz66_2
      try clear hcz66_3
      try clear hcz66_4
      try clear hcz70_0
      try clear hcz70_1
      try clear hcz70_2
      try clear hcz70_3
      try clear hcz70_4
      try clear hcz80_0
      try clear hcz80_1
      try clear hcz80_2
      try clear hcz80_3
      try clear hcz80_4
      try clear hcz85_0
      try clear hcz85_1
      try clear hcz85_2
      try clear hcz85_3
      try clear hcz85_4
      try clear hcz89_0
      try clear hcz89_1
      try clear hcz89_2
      try clear hcz89_3
      try clear hcz89_4
      try clear hcz95_0
      try clear hcz95_1
      try clear hcz95_2
      try clear hcz95_3
      try clear hcz95_4
      try clear hfz100_0
      try clear hfz100_1
      try clear hfz100_2
      try clear hfz100_3
      try clear hfz100_4
      try clear hfz106_0
      try clear hfz106_1
      try clear hfz106_2
      try clear hfz106_3
      try clear hfz106_4
      try clear hfz13_0
      try clear hfz13_1
      try clear hfz13_2
      try clear hfz13_3
      try clear hfz13_4
      try clear hfz19_0
      try clear hfz19_1
      try clear hfz19_2
      try clear hfz19_3
      try clear hfz19_4
      try clear hfz26_0
      try clear hfz26_1
      try clear hfz26_2
      try clear hfz26_3
      try clear hfz26_4
      try clear hfz42_0
      try clear hfz42_1
      try clear hfz42_2
      try clear hfz42_3
      try clear hfz42_4
      try clear hfz47_0
      try clear hfz47_1
      try clear hfz47_2
      try clear hfz47_3
      try clear hfz47_4
      try clear hfz51_0
      try clear hfz51_1
      try clear hfz51_2
      try clear hfz51_3
      try clear hfz51_4
      try clear hfz61_0
      try clear hfz61_1
      try clear hfz61_2
      try clear hfz61_3
      try clear hfz61_4
      try clear hfz66_0
      try clear hfz66_1
      try clear hfz66_2
      try clear hfz66_3
      try clear hfz66_4
      try clear hfz70_0
      try clear hfz70_1
      try clear hfz70_2
      try clear hfz70_3
      try clear hfz70_4
      try clear hfz80_0
      try clear hfz80_1
      try clear hfz80_2
      try clear hfz80_3
      try clear hfz80_4
      try clear hfz85_0
      try clear hfz85_1
      try clear hfz85_2
      try clear hfz85_3
      try clear hfz85_4
      try clear hfz89_0
      try clear hfz89_1
      try clear hfz89_2
      try clear hfz89_3
      try clear hfz89_4
      try clear hfz95_0
      try clear hfz95_1
      try clear hfz95_2
      try clear hfz95_3
      try clear hfz95_4
      try clear p2
      obtain ⟨kq, x105_110, rfl, HA, HJ110, HO_3, HO_7, HO_8, HO_12, BK723, BK737, BK747, HB⟩ := hcut
      cases kq with
      | zero => exact absurd HA.out (by simp [laws_FnRows.j1])
      | succ kj110 =>
       have H := HA.out
       clear HA
       simp only [laws_FnRows.j1] at H
       refine em_ (p := x105_110 = true) (fun c122 => ?g6p) (fun c122 => ?g6n)
       case g6p =>
        subst c122
        have H1 : (some false) = some r := by rw [if_pos rfl] at H; exact H
        clear H
        have H := H1
        clear H1
        exact absurd (Option.some.inj (H.trans (congrArg some hT_))) Bool.false_ne_true
       case' g6n =>
        replace c122 := Bool.eq_false_iff.mpr c122
        subst c122
        rw [if_neg (show ¬ (false = true) by decide)] at H
        have HC123 := am H
        clear H
        obtain ⟨Ao124, co124, eo124⟩ := Kd.R_slice HO_12.out
        subst eo124
        have lf14_ := trivial
       all_goals as_aux_lemma =>
        go_upto_if 108 with (fail)
        go_cut [] (fun wc => ∃ (kq : Nat), Aside0 (laws_FnRows.j3 kq t713 t716 t717 t724 t718 t719 t720 t721 t722 = some r) ∧ Aside0 (kq ≤ kj110) ∧ Aside0 (Kd.R k48 48 wc w.heap.size (fun k_ => some k_ ≠ (v725 : Value).ownBlock) (.slice Ao14 t713.length co14) t713) ∧ Aside0 (Kd.R k48 48 wc w.heap.size (fun k_ => some k_ ≠ ((.slice Ao14 t713.length co14) : Value).ownBlock) v725 t724) ∧ Aside0 (wc.heap[gb723]? = some (.cells #[.int .i64 t718, .int .i64 t719, .bool t720, .bool t721, .bool t722] 37 (0, 0))) ∧ Aside0 (wc.heap[gb737]? = some (.cells #[.int .i64 t732, .int .i64 t733, .bool t734, .bool t735, .bool t736] 37 (0, 0))) ∧ Aside0 (wc.heap[gb747]? = some (.cells #[.int .i64 t742, .int .i64 t743, .bool t744, .bool t745, .bool t746] 37 (0, 0))) ∧ Aside0 (Below w.heap.size w wc))
        case first => as_aux_lemma =>
         have H := HC123.out
         clear HC123
         by_cases c125 : (t738.length : Int) > 0
         ·as_aux_lemma =>
          rw [if_pos c125] at H
          have c125b0 : decide (0 < (t738.length : Int)) = true := decide_eq_true c125
          have c125b1 : decide (0 < t738.length) = true := decide_eq_true (by omega)
          clear c125
          (first | rw [c125b0] | rw [c125b1] | (simp only [i64_w, i32_w]; rw [c125b0]) | skip)
          have H' := am H
          clear H
          go_wp2
          go_loopg [16] kj110 (fun kq v16 w' => ∃ (x16_3 : Int), v16 = .int .i64 x16_3 ∧ Aside0 (laws_FnRows.l0 kq t713 t716 t717 t724 t727 t730 t731 t738 x16_3 t718 t719 t720 t721 t722 t732 t733 t734 t735 t736 = some r) ∧ Aside0 (kq ≤ kj110) ∧ Aside0 (Kd.R k48 48 w' w.heap.size (fun k_ => some k_ ≠ (v725 : Value).ownBlock ∧ some k_ ≠ ((.slice Ao20 t727.length co20) : Value).ownBlock ∧ some k_ ≠ ((.slice Ao124 t738.length co124) : Value).ownBlock) (.slice Ao14 t713.length co14) t713) ∧ Aside0 (Kd.R k48 48 w' w.heap.size (fun k_ => some k_ ≠ ((.slice Ao14 t713.length co14) : Value).ownBlock ∧ some k_ ≠ ((.slice Ao20 t727.length co20) : Value).ownBlock ∧ some k_ ≠ ((.slice Ao124 t738.length co124) : Value).ownBlock) v725 t724) ∧ Aside0 (Kd.R k48 48 w' w.heap.size (fun k_ => some k_ ≠ ((.slice Ao14 t713.length co14) : Value).ownBlock ∧ some k_ ≠ (v725 : Value).ownBlock ∧ some k_ ≠ ((.slice Ao124 t738.length co124) : Value).ownBlock) (.slice Ao20 t727.length co20) t727) ∧ Aside0 (Kd.R k48 48 w' w.heap.size (fun k_ => some k_ ≠ ((.slice Ao14 t713.length co14) : Value).ownBlock ∧ some k_ ≠ (v725 : Value).ownBlock ∧ some k_ ≠ ((.slice Ao20 t727.length co20) : Value).ownBlock) (.slice Ao124 t738.length co124) t738) ∧ Aside0 (w'.heap[gb723]? = some (.cells #[.int .i64 t718, .int .i64 t719, .bool t720, .bool t721, .bool t722] 37 (0, 0))) ∧ Aside0 (w'.heap[gb737]? = some (.cells #[.int .i64 t732, .int .i64 t733, .bool t734, .bool t735, .bool t736] 37 (0, 0))) ∧ Aside0 (w'.heap[gb747]? = some (.cells #[.int .i64 t742, .int .i64 t743, .bool t744, .bool t745, .bool t746] 37 (0, 0))) ∧ Aside0 (Below w.heap.size w w'))
          case atStart => exact ⟨(t730), (by first | rfl | (simp; done) | (simp [*]; done)), H', ⟨Nat.le_refl _⟩, ⟨rr HO_3⟩, ⟨rr HO_7⟩, ⟨rr HO_8⟩, ⟨rr HO_12⟩, ⟨rk BK723⟩, ⟨rk BK737⟩, ⟨rk BK747⟩, ⟨rb3 HB GE723 GE737 GE747⟩⟩
          case round => as_aux_lemma =>
           clear H'
           try clear c1
           try clear c2
           try clear p2
           try clear c3
           try clear c4
           try clear c5
           try clear c6
           try clear c7
           try clear c8
           try clear c9
           try clear c10
           try clear c11
           try clear c12
           try clear c13
           try clear c14
           try clear c15
           try clear c16
           try clear c17
           try clear c18
           try clear c24
           try clear c25
           try clear c30
           try clear c33
           try clear c36
           try clear c39
           try clear c39b0
           try clear c39b1
           try clear c39b2
           try clear c40
           try clear c41
           try clear c46
           try clear c59
           try clear c60
           try clear c65
           try clear c78
           try clear c79
           try clear c84
           try clear c93
           try clear c94
           try clear c99
           try clear c104
           try clear c105
           try clear c110
           try clear c112
           try clear c112b0
           try clear c112b1
           try clear c114
           try clear c122
           try clear c125
           try clear c125b0
           try clear c125b1
           try clear hcz100_0
           try clear hcz100_1
           try clear hcz100_2
           try clear hcz100_3
           try clear hcz100_4
           try clear hcz106_0
           try clear hcz106_1
           try clear hcz106_2
           try clear hcz106_3
           try clear hcz106_4
           try clear hcz13_0
           try clear hcz13_1
           try clear hcz13_2
           try clear hcz13_3
           try clear hcz13_4
           try clear hcz19_0
           try clear hcz19_1
           try clear hcz19_2
           try clear hcz19_3
           try clear hcz19_4
           try clear hcz26_0
           try clear hcz26_1
           try clear hcz26_2
           try clear hcz26_3
           try clear hcz26_4
           try clear hcz42_0
           try clear hcz42_1
           try clear hcz42_2
           try clear hcz42_3
           try clear hcz42_4
           try clear hcz47_0
           try clear hcz47_1
           try clear hcz47_2
           try clear hcz47_3
           try clear hcz47_4
           try clear hcz51_0
           try clear hcz51_1
           try clear hcz51_2
           try clear hcz51_3
           try clear hcz51_4
           try clear hcz61_0
           try clear hcz61_1
           try clear hcz61_2
           try clear hcz61_3
           try clear hcz61_4
           try clear hcz66_0
           try clear hcz66_1
           try clear hcz66_2
           try clear hcz66_3
           try clear hcz66_4
           try clear hcz70_0
           try clear hcz70_1
           try clear hcz70_2
           try clear hcz70_3
           try clear hcz70_4
           try clear hcz80_0
           try clear hcz80_1
           try clear hcz80_2
           try clear hcz80_3
           try clear hcz80_4
           try clear hcz85_0
           try clear hcz85_1
           try clear hcz85_2
           try clear hcz85_3
           try clear hcz85_4
           try clear hcz89_0
           try clear hcz89_1
           try clear hcz89_2
           try clear hcz89_3
           try clear hcz89_4
           try clear hcz95_0
           try clear hcz95_1
           try clear hcz95_2
           try clear hcz95_3
           try clear hcz95_4
           try clear hfz100_0
           try clear hfz100_1
           try clear hfz100_2
           try clear hfz100_3
           try clear hfz100_4
           try clear hfz106_0
           try clear hfz106_1
           try clear hfz106_2
           try clear hfz106_3
           try clear hfz106_4
           try clear hfz13_0
           try clear hfz13_1
           try clear hfz13_2
           try clear hfz13_3
           try clear hfz13_4
           try clear hfz19_0
           try clear hfz19_1
           try clear hfz19_2
           try clear hfz19_3
           try clear hfz19_4
           try clear hfz26_0
           try clear hfz26_1
           try clear hfz26_2
           try clear hfz26_3
           try clear hfz26_4
           try clear hfz42_0
           try clear hfz42_1
           try clear hfz42_2
           try clear hfz42_3
           try clear hfz42_4
           try clear hfz47_0
           try clear hfz47_1
           try clear hfz47_2
           try clear hfz47_3
           try clear hfz47_4
           try clear hfz51_0
           try clear hfz51_1
           try clear hfz51_2
           try clear hfz51_3
           try clear hfz51_4
           try clear hfz61_0
           try clear hfz61_1
           try clear hfz61_2
           try clear hfz61_3
           try clear hfz61_4
           try clear hfz66_0
           try clear hfz66_1
           try clear hfz66_2
           try clear hfz66_3
           try clear hfz66_4
           try clear hfz70_0
           try clear hfz70_1
           try clear hfz70_2
           try clear hfz70_3
           try clear hfz70_4
           try clear hfz80_0
           try clear hfz80_1
           try clear hfz80_2
           try clear hfz80_3
           try clear hfz80_4
           try clear hfz85_0
           try clear hfz85_1
           try clear hfz85_2
           try clear hfz85_3
           try clear hfz85_4
           try clear hfz89_0
           try clear hfz89_1
           try clear hfz89_2
           try clear hfz89_3
           try clear hfz89_4
           try clear hfz95_0
           try clear hfz95_1
           try clear hfz95_2
           try clear hfz95_3
           try clear hfz95_4
           try clear p2
           obtain ⟨x16_3, rfl, HA, HK3, HO_3, HO_7, HO_8, HO_12, BK723, BK737, BK747, HB⟩ := hrel
           cases gk with
           | zero => exact absurd HA.out (by simp [laws_FnRows.l0])
           | succ k3 =>
            have H := HA.out
            clear HA
            simp only [laws_FnRows.l0] at H
            by_cases c126 : x16_3 < t731
            ·as_aux_lemma =>
             rw [if_pos c126] at H
             have c126b0 : decide (x16_3 < t731) = true := decide_eq_true c126
             clear c126
             refine em_ (p := 0 ≤ x16_3) (fun c127 => ?g9p) (fun c127 => ?g9n)
             case' g9p =>
              rw [if_pos c127] at H
              have c127b0 : decide (0 ≤ x16_3) = true := decide_eq_true c127
              clear c127
              refine em_ (p := x16_3 < (t738.length : Int)) (fun c128 => ?g8p) (fun c128 => ?g8n)
              case' g8p =>
               rw [if_pos c128] at H
               have c128b0 : decide (x16_3 < (t738.length : Int)) = true := decide_eq_true c128
               clear c128
               refine em_ (p := (!(((rd_T48 t738 x16_3).f0) == 32) || ((!(((rd_T48 t738 x16_3).f1.f0) == t732) || (!(((rd_T48 t738 x16_3).f1.f1) == t733) || (!(((rd_T48 t738 x16_3).f1.f2) == t734) || (!(((rd_T48 t738 x16_3).f1.f3) == t735) || (!(((rd_T48 t738 x16_3).f1.f4) == t736)))))) || (!(((rd_T48 t738 x16_3).f2) == 0)))) = true) (fun c129 => ?g7p) (fun c129 => ?g7n)
               case g7p => as_aux_lemma =>
                rw [if_pos c129] at H
                have c129b0 : (!(((rd_T48 t738 x16_3).f0) == 32) || ((!(((rd_T48 t738 x16_3).f1.f0) == t732) || (!(((rd_T48 t738 x16_3).f1.f1) == t733) || (!(((rd_T48 t738 x16_3).f1.f2) == t734) || (!(((rd_T48 t738 x16_3).f1.f3) == t735) || (!(((rd_T48 t738 x16_3).f1.f4) == t736)))))) || (!(((rd_T48 t738 x16_3).f2) == 0)))) = true := c129
                clear c129
                first
                | with_reducible exact absurd (Option.some.inj (H.trans (congrArg some hT_))) Bool.false_ne_true
                | (
                  obtain rfl := Option.some.inj H
                  try go_wp2
                  have n0_ := am (Kd.R_drew HO_3.out)
                  have n1_ := am (Kd.R_drew HO_7.out)
                  have n2_ := am (Kd.R_drew HO_8.out)
                  have n3_ := am (Kd.R_drew HO_12.out)
                  have n4_ := am (blk_drew BK723.out)
                  have n5_ := am (blk_drew BK737.out)
                  have n6_ := am (blk_drew BK747.out)
                  have n7_ := am (below_drew1 HB.out)
                  clear HO_3
                  clear HO_7
                  clear HO_8
                  clear HO_12
                  clear BK723
                  clear BK737
                  clear BK747
                  clear HB
                  have HO_3 := n0_
                  have HO_7 := n1_
                  have HO_8 := n2_
                  have HO_12 := n3_
                  have BK723 := n4_
                  have BK737 := n5_
                  have BK747 := n6_
                  have HB := n7_
                  clear n0_ n1_ n2_ n3_ n4_ n5_ n6_ n7_
                  have p769 : 0 ≤ (x16_3 : Int) := dt_
                  have q769 : x16_3 < (t738.length : Int) := dt_
                  obtain ⟨ad769, e769, hx769_0, hx769_1, hx769_2, hx769_3, hx769_4, hx769_5, hx769_6⟩ := at_T48 (Kd.R_reads' HO_12.out).2.2 x16_3 p769 q769
                  cases e769
                  replace p769 := eq_true p769
                  replace q769 := eq_true q769
                  refine start_ (n := 7) (S := fun w' => w'.cell? ⟨gb737, 0, none⟩ = some (.int .i64 t732) ∧ w'.cell? ⟨gb737, 1, none⟩ = some (.int .i64 t733) ∧ w'.cell? ⟨gb737, 2, none⟩ = some (.bool t734) ∧ w'.cell? ⟨gb737, 3, none⟩ = some (.bool t735) ∧ w'.cell? ⟨gb737, 4, none⟩ = some (.bool t736) ∧ w'.cell? (ad769.add ((x16_3).toNat * 7)) = some (.int .i64 ((rd_T48 t738 x16_3).f0)) ∧ w'.cell? ⟨(ad769.add ((x16_3).toNat * 7)).block, (ad769.add ((x16_3).toNat * 7)).off + 1, none⟩ = some (.int .i64 ((rd_T48 t738 x16_3).f1.f0)) ∧ w'.cell? ⟨(ad769.add ((x16_3).toNat * 7)).block, (ad769.add ((x16_3).toNat * 7)).off + 2, none⟩ = some (.int .i64 ((rd_T48 t738 x16_3).f1.f1)) ∧ w'.cell? ⟨(ad769.add ((x16_3).toNat * 7)).block, (ad769.add ((x16_3).toNat * 7)).off + 3, none⟩ = some (.bool ((rd_T48 t738 x16_3).f1.f2)) ∧ w'.cell? ⟨(ad769.add ((x16_3).toNat * 7)).block, (ad769.add ((x16_3).toNat * 7)).off + 4, none⟩ = some (.bool ((rd_T48 t738 x16_3).f1.f3)) ∧ w'.cell? ⟨(ad769.add ((x16_3).toNat * 7)).block, (ad769.add ((x16_3).toNat * 7)).off + 5, none⟩ = some (.bool ((rd_T48 t738 x16_3).f1.f4)) ∧ w'.cell? ⟨(ad769.add ((x16_3).toNat * 7)).block, (ad769.add ((x16_3).toNat * 7)).off + 6, none⟩ = some (.int .i64 ((rd_T48 t738 x16_3).f2))) (ds := []) (bm 7 0) (by kernel_rfl) rfl rfl ⟨(blk_cell BK737.out 0).trans rfl, (blk_cell BK737.out 1).trans rfl, (blk_cell BK737.out 2).trans rfl, (blk_cell BK737.out 3).trans rfl, (blk_cell BK737.out 4).trans rfl, hx769_0, hx769_1, hx769_2, hx769_3, hx769_4, hx769_5, hx769_6⟩ (fun hHeld => ?_)
                  generalize wr.drew = w130 at HO_3 HO_7 HO_8 HO_12 BK723 BK737 BK747 HB hx769_0 hx769_1 hx769_2 hx769_3 hx769_4 hx769_5 hx769_6 hHeld ⊢
                  refine pure_ (i := 0) (N := some 115) (v := ?_) (a' := ?_) (bm 7 1) rfl rfl (by kernel_rfl) (fun _ _ _ h => h) (Or.inl ⟨by rfl, ?_⟩) ?_ ?_
                  rotate_left
                  ·intro w'
                   go_simp
                   with_reducible rfl
                  rotate_left
                  ·simp only [Act.put, List.setIfInBounds_toArray, List.set_cons_zero, List.set_cons_succ, i64_w, i32_w]
                   rfl
                  refine pure_ (i := 1) (N := some 116) (v := ?_) (a' := ?_) (bm 7 3) rfl rfl (by kernel_rfl) (fun _ _ _ h => h) (Or.inl ⟨by rfl, ?_⟩) ?_ ?_
                  rotate_left
                  ·intro w'
                   go_simp
                   with_reducible rfl
                  rotate_left
                  ·simp only [Act.put, List.setIfInBounds_toArray, List.set_cons_zero, List.set_cons_succ, i64_w, i32_w]
                   rfl
                  refine pure_ (i := 2) (N := some 117) (v := ?_) (a' := ?_) (bm 7 7) rfl rfl (by kernel_rfl) (fun _ _ _ h => h) (Or.inl ⟨by rfl, ?_⟩) ?_ ?_
                  rotate_left
                  ·intro w'
                   go_simp
                   with_reducible rfl
                  rotate_left
                  ·simp only [Act.put, List.setIfInBounds_toArray, List.set_cons_zero, List.set_cons_succ, i64_w, i32_w]
                   rfl
                  refine take_ (i := 3) (N := some 118) (v := ?_) (a' := ?_) (bm 7 15) rfl rfl (by kernel_rfl) (fun _ _ _ h => h) (Or.inl ⟨by rfl, ?_⟩) hHeld ?_ ?_
                  rotate_left
                  ·rintro w' ⟨s0, s1, s2, s3, s4, s5, s6, s7, s8, s9, s10, s11⟩
                   go_simp
                   with_reducible rfl
                  rotate_left
                  ·simp only [Act.put, List.setIfInBounds_toArray, List.set_cons_zero, List.set_cons_succ, i64_w, i32_w]
                   rfl
                  refine take_ (i := 4) (N := some 119) (v := ?_) (a' := ?_) (bm 7 31) rfl rfl (by kernel_rfl) (fun _ _ _ h => h) (Or.inl ⟨by rfl, ?_⟩) hHeld ?_ ?_
                  rotate_left
                  ·rintro w' ⟨s0, s1, s2, s3, s4, s5, s6, s7, s8, s9, s10, s11⟩
                   go_simp
                   with_reducible rfl
                  rotate_left
                  ·simp only [Act.put, List.setIfInBounds_toArray, List.set_cons_zero, List.set_cons_succ, i64_w, i32_w]
                   rfl
                  refine pure_ (i := 5) (N := some 120) (v := ?_) (a' := ?_) (bm 7 63) rfl rfl (by kernel_rfl) (fun _ _ _ h => h) (Or.inl ⟨by rfl, ?_⟩) ?_ ?_
                  rotate_left
                  ·intro w'
                   go_simp
                   with_reducible rfl
                  rotate_left
                  ·simp only [Act.put, List.setIfInBounds_toArray, List.set_cons_zero, List.set_cons_succ, i64_w, i32_w]
                   rfl
                  refine pure_ (i := 6) (N := some 121) (v := ?_) (a' := ?_) (bm 7 127) rfl rfl (by kernel_rfl) (fun _ _ _ h => h) (Or.inl ⟨by rfl, ?_⟩) ?_ ?_
                  rotate_left
                  ·intro w'
                   go_simp
                   with_reducible rfl
                  rotate_left
                  ·simp only [Act.put, List.setIfInBounds_toArray, List.set_cons_zero, List.set_cons_succ, i64_w, i32_w]
                   rfl
                  refine done_ (by kernel_rfl) ?_
                  try go_wp2
                  go_ret
                  exact ⟨by first | rfl | (simp [errW_none, errW_some] <;> rfl) | (simp [*, errW_none, errW_some] <;> rfl), rb3 HB GE723 GE737 GE747⟩)
               case' g7n =>
                rw [if_neg c129] at H
                have c129b0 : (!(((rd_T48 t738 x16_3).f0) == 32) || ((!(((rd_T48 t738 x16_3).f1.f0) == t732) || (!(((rd_T48 t738 x16_3).f1.f1) == t733) || (!(((rd_T48 t738 x16_3).f1.f2) == t734) || (!(((rd_T48 t738 x16_3).f1.f3) == t735) || (!(((rd_T48 t738 x16_3).f1.f4) == t736)))))) || (!(((rd_T48 t738 x16_3).f2) == 0)))) = false := by simpa using c129
                clear c129
                have H' := am H
                clear H
                have lf17_ := trivial
              case g8n =>
               rw [if_neg c128] at H
               exact absurd H (by simp)
             case g9n =>
              rw [if_neg c127] at H
              exact absurd H (by simp)
             all_goals as_aux_lemma =>
              try go_wp2
              have n0_ := am (Kd.R_drew HO_3.out)
              have n1_ := am (Kd.R_drew HO_7.out)
              have n2_ := am (Kd.R_drew HO_8.out)
              have n3_ := am (Kd.R_drew HO_12.out)
              have n4_ := am (blk_drew BK723.out)
              have n5_ := am (blk_drew BK737.out)
              have n6_ := am (blk_drew BK747.out)
              have n7_ := am (below_drew1 HB.out)
              clear HO_3
              clear HO_7
              clear HO_8
              clear HO_12
              clear BK723
              clear BK737
              clear BK747
              clear HB
              have HO_3 := n0_
              have HO_7 := n1_
              have HO_8 := n2_
              have HO_12 := n3_
              have BK723 := n4_
              have BK737 := n5_
              have BK747 := n6_
              have HB := n7_
              clear n0_ n1_ n2_ n3_ n4_ n5_ n6_ n7_
              have p769 : 0 ≤ (x16_3 : Int) := dt_
              have q769 : x16_3 < (t738.length : Int) := dt_
              obtain ⟨ad769, e769, hx769_0, hx769_1, hx769_2, hx769_3, hx769_4, hx769_5, hx769_6⟩ := at_T48 (Kd.R_reads' HO_12.out).2.2 x16_3 p769 q769
              cases e769
              replace p769 := eq_true p769
              replace q769 := eq_true q769
              refine start_ (n := 7) (S := fun w' => w'.cell? ⟨gb737, 0, none⟩ = some (.int .i64 t732) ∧ w'.cell? ⟨gb737, 1, none⟩ = some (.int .i64 t733) ∧ w'.cell? ⟨gb737, 2, none⟩ = some (.bool t734) ∧ w'.cell? ⟨gb737, 3, none⟩ = some (.bool t735) ∧ w'.cell? ⟨gb737, 4, none⟩ = some (.bool t736) ∧ w'.cell? (ad769.add ((x16_3).toNat * 7)) = some (.int .i64 ((rd_T48 t738 x16_3).f0)) ∧ w'.cell? ⟨(ad769.add ((x16_3).toNat * 7)).block, (ad769.add ((x16_3).toNat * 7)).off + 1, none⟩ = some (.int .i64 ((rd_T48 t738 x16_3).f1.f0)) ∧ w'.cell? ⟨(ad769.add ((x16_3).toNat * 7)).block, (ad769.add ((x16_3).toNat * 7)).off + 2, none⟩ = some (.int .i64 ((rd_T48 t738 x16_3).f1.f1)) ∧ w'.cell? ⟨(ad769.add ((x16_3).toNat * 7)).block, (ad769.add ((x16_3).toNat * 7)).off + 3, none⟩ = some (.bool ((rd_T48 t738 x16_3).f1.f2)) ∧ w'.cell? ⟨(ad769.add ((x16_3).toNat * 7)).block, (ad769.add ((x16_3).toNat * 7)).off + 4, none⟩ = some (.bool ((rd_T48 t738 x16_3).f1.f3)) ∧ w'.cell? ⟨(ad769.add ((x16_3).toNat * 7)).block, (ad769.add ((x16_3).toNat * 7)).off + 5, none⟩ = some (.bool ((rd_T48 t738 x16_3).f1.f4)) ∧ w'.cell? ⟨(ad769.add ((x16_3).toNat * 7)).block, (ad769.add ((x16_3).toNat * 7)).off + 6, none⟩ = some (.int .i64 ((rd_T48 t738 x16_3).f2))) (ds := []) (bm 7 0) (by kernel_rfl) rfl rfl ⟨(blk_cell BK737.out 0).trans rfl, (blk_cell BK737.out 1).trans rfl, (blk_cell BK737.out 2).trans rfl, (blk_cell BK737.out 3).trans rfl, (blk_cell BK737.out 4).trans rfl, hx769_0, hx769_1, hx769_2, hx769_3, hx769_4, hx769_5, hx769_6⟩ (fun hHeld => ?_)
              generalize wr.drew = w131 at HO_3 HO_7 HO_8 HO_12 BK723 BK737 BK747 HB hx769_0 hx769_1 hx769_2 hx769_3 hx769_4 hx769_5 hx769_6 hHeld ⊢
              refine pure_ (i := 0) (N := some 115) (v := ?_) (a' := ?_) (bm 7 1) rfl rfl (by kernel_rfl) (fun _ _ _ h => h) (Or.inl ⟨by rfl, ?_⟩) ?_ ?_
              rotate_left
              ·intro w'
               go_simp
               with_reducible rfl
              rotate_left
              ·simp only [Act.put, List.setIfInBounds_toArray, List.set_cons_zero, List.set_cons_succ, i64_w, i32_w]
               rfl
              refine pure_ (i := 1) (N := some 116) (v := ?_) (a' := ?_) (bm 7 3) rfl rfl (by kernel_rfl) (fun _ _ _ h => h) (Or.inl ⟨by rfl, ?_⟩) ?_ ?_
              rotate_left
              ·intro w'
               go_simp
               with_reducible rfl
              rotate_left
              ·simp only [Act.put, List.setIfInBounds_toArray, List.set_cons_zero, List.set_cons_succ, i64_w, i32_w]
               rfl
              refine pure_ (i := 2) (N := some 117) (v := ?_) (a' := ?_) (bm 7 7) rfl rfl (by kernel_rfl) (fun _ _ _ h => h) (Or.inl ⟨by rfl, ?_⟩) ?_ ?_
              rotate_left
              ·intro w'
               go_simp
               with_reducible rfl
              rotate_left
              ·simp only [Act.put, List.setIfInBounds_toArray, List.set_cons_zero, List.set_cons_succ, i64_w, i32_w]
               rfl
              refine take_ (i := 3) (N := some 118) (v := ?_) (a' := ?_) (bm 7 15) rfl rfl (by kernel_rfl) (fun _ _ _ h => h) (Or.inl ⟨by rfl, ?_⟩) hHeld ?_ ?_
              rotate_left
              ·rintro w' ⟨s0, s1, s2, s3, s4, s5, s6, s7, s8, s9, s10, s11⟩
               go_simp
               with_reducible rfl
              rotate_left
              ·simp only [Act.put, List.setIfInBounds_toArray, List.set_cons_zero, List.set_cons_succ, i64_w, i32_w]
               rfl
              refine take_ (i := 4) (N := some 119) (v := ?_) (a' := ?_) (bm 7 31) rfl rfl (by kernel_rfl) (fun _ _ _ h => h) (Or.inl ⟨by rfl, ?_⟩) hHeld ?_ ?_
              rotate_left
              ·rintro w' ⟨s0, s1, s2, s3, s4, s5, s6, s7, s8, s9, s10, s11⟩
               go_simp
               with_reducible rfl
              rotate_left
              ·simp only [Act.put, List.setIfInBounds_toArray, List.set_cons_zero, List.set_cons_succ, i64_w, i32_w]
               rfl
              refine pure_ (i := 5) (N := some 120) (v := ?_) (a' := ?_) (bm 7 63) rfl rfl (by kernel_rfl) (fun _ _ _ h => h) (Or.inl ⟨by rfl, ?_⟩) ?_ ?_
              rotate_left
              ·intro w'
               go_simp
               with_reducible rfl
              rotate_left
              ·simp only [Act.put, List.setIfInBounds_toArray, List.set_cons_zero, List.set_cons_succ, i64_w, i32_w]
               rfl
              refine pure_ (i := 6) (N := some 121) (v := ?_) (a' := ?_) (bm 7 127) rfl rfl (by kernel_rfl) (fun _ _ _ h => h) (Or.inl ⟨by rfl, ?_⟩) ?_ ?_
              rotate_left
              ·intro w'
               go_simp
               with_reducible rfl
              rotate_left
              ·simp only [Act.put, List.setIfInBounds_toArray, List.set_cons_zero, List.set_cons_succ, i64_w, i32_w]
               rfl
              refine done_ (by kernel_rfl) ?_
              try go_wp2
              go_roundg k3
              case measure => have := HJ9.out; have := HJ110.out; have := HK3.out; omega
              case rel => exact ⟨(wrap64 (x16_3 + 1)), (by first | rfl | (simp; done) | (simp [*]; done)), H', ⟨by have := HJ9.out; have := HJ110.out; have := HK3.out; omega⟩, ⟨rr HO_3⟩, ⟨rr HO_7⟩, ⟨rr HO_8⟩, ⟨rr HO_12⟩, ⟨rk BK723⟩, ⟨rk BK737⟩, ⟨rk BK747⟩, ⟨rb3 HB GE723 GE737 GE747⟩⟩
            ·as_aux_lemma =>
             rw [if_neg c126] at H
             have c126b0 : decide (x16_3 < t731) = false := decide_eq_false c126
             clear c126
             replace H := Option.bind_eq_some_iff.mp H
             obtain ⟨t770, A1320, H⟩ := H
             (try dsimp only at H)
             have A132 := am A1320
             clear A1320
             refine em_ (p := t770 = true) (fun c133 => ?g12p) (fun c133 => ?g12n)
             case' g12p =>
              subst c133
              rw [if_pos rfl] at H
              refine em_ (p := (t738.length : Int) = (t727.length : Int)) (fun c134 => ?g11p) (fun c134 => ?g11n)
              case' g11p =>
               rw [if_pos c134] at H
               have c134b0 : ((t738.length : Int) == (t727.length : Int)) = true := beq_iff_eq.mpr c134
               have c134b1 : ((t738.length : Int) != (t727.length : Int)) = false := bne_eq_false_iff_eq.mpr c134
               have c134b2 : (t738.length == t727.length) = true := by first | simpa using c134 | (simp at c134 ⊢; omega)
               clear c134
               replace H := Option.bind_eq_some_iff.mp H
               obtain ⟨t771, A1350, H⟩ := H
               (try dsimp only at H)
               have A135 := am A1350
               clear A1350
               replace H := Option.bind_eq_some_iff.mp H
               obtain ⟨t774, A1360, H⟩ := H
               (try dsimp only at H)
               have A136 := am A1360
               clear A1360
               refine em_ (p := t774 = true) (fun c137 => ?g10p) (fun c137 => ?g10n)
               case' g10p =>
                subst c137
                rw [if_pos rfl] at H
                have H' := am H
                clear H
                have lf18_ := trivial
               case g10n =>
                replace c137 := Bool.eq_false_iff.mpr c137
                subst c137
                have H1 : (some false) = some r := by rw [if_neg (show ¬ (false = true) by decide)] at H; exact H
                clear H
                have H := H1
                clear H1
                exact absurd (Option.some.inj (H.trans (congrArg some hT_))) Bool.false_ne_true
              case g11n =>
               rw [if_neg c134] at H
               have c134b0 : ((t738.length : Int) == (t727.length : Int)) = false := beq_eq_false_iff_ne.mpr c134
               have c134b1 : ((t738.length : Int) != (t727.length : Int)) = true := bne_iff_ne.mpr c134
               have c134b2 : (t738.length == t727.length) = false := by first | simpa using c134 | (simp at c134 ⊢; omega)
               exact absurd (Option.some.inj (H.trans (congrArg some hT_))) Bool.false_ne_true
             case g12n =>
              replace c133 := Bool.eq_false_iff.mpr c133
              subst c133
              have H1 : (some false) = some r := by rw [if_neg (show ¬ (false = true) by decide)] at H; exact H
              clear H
              have H := H1
              clear H1
              exact absurd (Option.some.inj (H.trans (congrArg some hT_))) Bool.false_ne_true
             all_goals
              go_wp2_with (first | ((with_reducible refine gate_callee (f := 21) rfl ?_); refine gl_ (some 123) Tryd.func21 #[.slice Ao124 t738.length co124] ?_; (with_reducible refine (impl_RowOk.calls k3 _ _ t738 true _ ?side1 ?side2 A132.out).mono ?_); (case side1 => repeat (first | exact (Kd.R_reads' HO_12.out).2.2 | (with_reducible refine Kd.C_alloc ?_ _) | (with_reducible refine Kd.C_drewN ?_ _) | (with_reducible refine Kd.C_drew ?_))); (case side2 => exact (Kd.R_reads' HO_12.out).2.1); rintro e w138 ⟨rfl, hb⟩; refine ⟨_, rfl, ?_⟩; have n0_ := am (Kd.R_below (rr HO_3) hb); have n1_ := am (Kd.R_below (rr HO_7) hb); have n2_ := am (Kd.R_below (rr HO_8) hb); have n3_ := am (Kd.R_below (rr HO_12) hb); have n4_ := am (blk_below (g := gb723) (o := .cells #[.int .i64 t718, .int .i64 t719, .bool t720, .bool t721, .bool t722] 37 (0, 0)) (rk BK723) hb); have n5_ := am (blk_below (g := gb737) (o := .cells #[.int .i64 t732, .int .i64 t733, .bool t734, .bool t735, .bool t736] 37 (0, 0)) (rk BK737) hb); have n6_ := am (blk_below (g := gb747) (o := .cells #[.int .i64 t742, .int .i64 t743, .bool t744, .bool t745, .bool t746] 37 (0, 0)) (rk BK747) hb); have n7_ := am (below_step (rb3 HB GE723 GE737 GE747) hb); clear HO_3; clear HO_7; clear HO_8; clear HO_12; clear BK723; clear BK737; clear BK747; clear HB; have HO_3 := n0_; have HO_7 := n1_; have HO_8 := n2_; have HO_12 := n3_; have BK723 := n4_; have BK737 := n5_; have BK747 := n6_; have HB := n7_; clear n0_ n1_ n2_ n3_ n4_ n5_ n6_ n7_; (try clear hb); (try clear hb2); (try clear hk); (try clear hi); have hnb139 := NB737_723.out; have hnc139 := NB723_737.out; have hnb140 := NB737_747.out; have hnc140 := NB747_737.out; have hcz141_0 : w138.cell? ⟨gb737, 0, none⟩ = some (.int .i64 t732) := (blk_cell BK737.out 0).trans rfl; have hcz141_1 : w138.cell? ⟨gb737, 1, none⟩ = some (.int .i64 t733) := (blk_cell BK737.out 1).trans rfl; have hcz141_2 : w138.cell? ⟨gb737, 2, none⟩ = some (.bool t734) := (blk_cell BK737.out 2).trans rfl; have hcz141_3 : w138.cell? ⟨gb737, 3, none⟩ = some (.bool t735) := (blk_cell BK737.out 3).trans rfl; have hcz141_4 : w138.cell? ⟨gb737, 4, none⟩ = some (.bool t736) := (blk_cell BK737.out 4).trans rfl; have hfz141_0 := blk_frozen BK737.out 0; have hfz141_1 := blk_frozen BK737.out 1; have hfz141_2 := blk_frozen BK737.out 2; have hfz141_3 := blk_frozen BK737.out 3; have hfz141_4 := blk_frozen BK737.out 4) | (go_at_call 14; (with_reducible refine (impl_Cleared.calls k3 _ _ t738 t730 t731 t732 t733 t734 t735 t736 t771 _ ?side1 ?side2 A135.out).mono ?_); (case side1 => repeat (first | exact (Kd.R_reads' HO_12.out).2.2 | (with_reducible refine Kd.C_alloc ?_ _) | (with_reducible refine Kd.C_drewN ?_ _) | (with_reducible refine Kd.C_drew ?_))); (case side2 => exact (Kd.R_reads' HO_12.out).2.1); rintro e w142 ⟨v772, rfl, ho0, hb⟩; have n0_ := am (Kd.R_elder' (rr HO_3) (Kd.R_base ho0) hb); have n1_ := am (Kd.R_elder' (rr HO_7) (Kd.R_base ho0) hb); have n2_ := am (Kd.R_elder' (rr HO_8) (Kd.R_base ho0) hb); have n3_ := am (Kd.R_elder' (rr HO_12) (Kd.R_base ho0) hb); have n4_ := am (Kd.R_lower (Kd.R_new' (Kd.R_new' (Kd.R_new' (Kd.R_new' ho0 (Kd.R_lt (rr HO_3))) (Kd.R_lt (rr HO_7))) (Kd.R_lt (rr HO_8))) (Kd.R_lt (rr HO_12))) (below_size (rb3 HB GE723 GE737 GE747))); have n5_ := am (blk_below (g := gb723) (o := .cells #[.int .i64 t718, .int .i64 t719, .bool t720, .bool t721, .bool t722] 37 (0, 0)) (rk BK723) hb); have n6_ := am (blk_below (g := gb737) (o := .cells #[.int .i64 t732, .int .i64 t733, .bool t734, .bool t735, .bool t736] 37 (0, 0)) (rk BK737) hb); have n7_ := am (blk_below (g := gb747) (o := .cells #[.int .i64 t742, .int .i64 t743, .bool t744, .bool t745, .bool t746] 37 (0, 0)) (rk BK747) hb); have n8_ := am (below_step (rb3 HB GE723 GE737 GE747) hb); clear HO_3; clear HO_7; clear HO_8; clear HO_12; clear BK723; clear BK737; clear BK747; clear HB; have HO_3 := n0_; have HO_7 := n1_; have HO_8 := n2_; have HO_12 := n3_; have HO773 := n4_; have BK723 := n5_; have BK737 := n6_; have BK747 := n7_; have HB := n8_; clear n0_ n1_ n2_ n3_ n4_ n5_ n6_ n7_ n8_; (try clear hb); (try clear hb2); (try clear hk); (try clear hi); (try clear ho0); obtain ⟨Ao143, co143, eo143⟩ := Kd.R_slice HO773.out; subst eo143) | (go_at_call 17; (with_reducible refine (laws_likeRow.calls k3 _ _ t771 _ _ t738 true _ ?side1 ?side2 ?side3 ?side4 A136.out).mono ?_); (case side1 => repeat (first | exact (Kd.R_reads' HO773.out).2.2 | (with_reducible refine Kd.C_alloc ?_ _) | (with_reducible refine Kd.C_drewN ?_ _) | (with_reducible refine Kd.C_drew ?_))); (case side2 => exact (Kd.R_reads' HO773.out).2.1); (case side3 => repeat (first | exact (Kd.R_reads' HO_12.out).2.2 | (with_reducible refine Kd.C_alloc ?_ _) | (with_reducible refine Kd.C_drewN ?_ _) | (with_reducible refine Kd.C_drew ?_))); (case side4 => exact (Kd.R_reads' HO_12.out).2.1); rintro e w' ⟨rfl, ⟨nd, rfl⟩⟩))
              go_meet
              case rel => exact ⟨_, H', ⟨by have := HJ9.out; have := HJ110.out; have := HK3.out; first | omega | exact Nat.le_refl _⟩, ⟨by (with_reducible repeat (first | apply r1 | apply r2 | apply r3)); exact Kd.R_mono HO_3.out (fun _ hk => hk.1.1)⟩, ⟨by (with_reducible repeat (first | apply r1 | apply r2 | apply r3)); exact Kd.R_mono HO_7.out (fun _ hk => hk.1.1)⟩, ⟨rk BK723⟩, ⟨rk BK737⟩, ⟨rk BK747⟩, ⟨rb3 HB GE723 GE737 GE747⟩⟩
         ·rw [if_neg c125] at H
          have c125b0 : decide (0 < (t738.length : Int)) = false := decide_eq_false c125
          have c125b1 : decide (0 < t738.length) = false := decide_eq_false (by omega)
          clear c125
          (first | rw [c125b0] | rw [c125b1] | (simp only [i64_w, i32_w]; rw [c125b0]) | skip)
          have H' := am H
          clear H
          go_wp2
          go_meet
          case rel => exact ⟨_, H', ⟨by have := HJ9.out; have := HJ110.out; first | omega | exact Nat.le_refl _⟩, ⟨by (with_reducible repeat (first | apply r1 | apply r2 | apply r3)); exact Kd.R_mono HO_3.out (fun _ hk => hk.1)⟩, ⟨by (with_reducible repeat (first | apply r1 | apply r2 | apply r3)); exact Kd.R_mono HO_7.out (fun _ hk => hk.1)⟩, ⟨rk BK723⟩, ⟨rk BK737⟩, ⟨rk BK747⟩, ⟨rb3 HB GE723 GE737 GE747⟩⟩
        case rest => as_aux_lemma =>
         clear HC123
         try clear c1
         try clear c2
         try clear p2
         try clear c3
         try clear c4
         try clear c5
         try clear c6
         try clear p6
         try clear c7
         try clear p7
         try clear q7
         try clear hx7
         try clear c8
         try clear c9
         try clear c10
         try clear c11
         try clear c12
         try clear c13
         try clear c14
         try clear c15
         try clear c16
         try clear c17
         try clear c18
         try clear c21
         try clear c24
         try clear c25
         try clear c30
         try clear c33
         try clear c36
         try clear c39
         try clear c39b0
         try clear c39b1
         try clear c39b2
         try clear c40
         try clear c41
         try clear c46
         try clear c59
         try clear c60
         try clear p64
         try clear c65
         try clear p76
         try clear q76
         try clear hx76
         try clear c78
         try clear c79
         try clear c84
         try clear c93
         try clear c94
         try clear c99
         try clear c104
         try clear c105
         try clear c110
         try clear c112
         try clear c112b0
         try clear c112b1
         try clear c114
         try clear c122
         try clear c125
         try clear c125b0
         try clear c125b1
         try clear c126
         try clear c126b0
         try clear c127
         try clear c127b0
         try clear c128
         try clear c128b0
         try clear c129
         try clear c129b0
         try clear c133
         try clear c134
         try clear c134b0
         try clear c134b1
         try clear c134b2
         try clear c137
         try clear c139
         try clear c140
         try clear c145
         try clear c146
         try clear hcz100_0
         try clear hcz100_1
         try clear hcz100_2
         try clear hcz100_3
         try clear hcz100_4
         try clear hcz106_0
         try clear hcz106_1
         try clear hcz106_2
         try clear hcz106_3
         try clear hcz106_4
         try clear hcz13_0
         try clear hcz13_1
         try clear hcz13_2
         try clear hcz13_3
         try clear hcz13_4
         try clear hcz141_0
         try clear hcz141_1
         try clear hcz141_2
         try clear hcz141_3
         try clear hcz141_4
         try clear hcz147_0
         try clear hcz147_1
         try clear hcz147_2
         try clear hcz147_3
         try clear hcz147_4
         try clear hcz19_0
         try clear hcz19_1
         try clear hcz19_2
         try clear hcz19_3
         try clear hcz19_4
         try clear hcz26_0
         try clear hcz26_1
         try clear hcz26_2
         try clear hcz26_3
         try clear hcz26_4
         try clear hcz42_0
         try clear hcz42_1
         try clear hcz42_2
         try clear hcz42_3
         try clear hcz42_4
         try clear hcz47_0
         try clear hcz47_1
         try clear hcz47_2
         try clear hcz47_3
         try clear hcz47_4
         try clear hcz51_0
         try clear hcz51_1
         try clear hcz51_2
         try clear hcz51_3
         try clear hcz51_4
         try clear hcz61_0
         try clear hcz61_1
         try clear hcz61_2
         try clear hcz61_3
         try clear hcz61_4
         try clear hcz66_0
         try clear hcz66_1
         try clear hcz66_2
         try clear hcz66_3
         try clear hcz66_4
         try clear hcz70_0
         try clear hcz70_1
         try clear hcz70_2
         try clear hcz70_3
         try clear hcz70_4
         try clear hcz80_0
         try clear hcz80_1
         try clear hcz80_2
         try clear hcz80_3
         try clear hcz80_4
         try clear hcz85_0
         try clear hcz85_1
         try clear hcz85_2
         try clear hcz85_3
         try clear hcz85_4
         try clear hcz89_0
         try clear hcz89_1
         try clear hcz89_2
         try clear hcz89_3
         try clear hcz89_4
         try clear hcz95_0
         try clear hcz95_1
         try clear hcz95_2
         try clear hcz95_3
         try clear hcz95_4
         try clear hfz100_0
         try clear hfz100_1
         try clear hfz100_2
         try clear hfz100_3
         try clear hfz100_4
         try clear hfz106_0
         try clear hfz106_1
         try clear hfz106_2
         try clear hfz106_3
         try clear hfz106_4
         try clear hfz13_0
         try clear hfz13_1
         try clear hfz13_2
         try clear hfz13_3
         try clear hfz13_4
         try clear hfz141_0
         try clear hfz141_1
         try clear hfz141_2
         try clear hfz141_3
         try clear hfz141_4
         try clear hfz147_0
         try clear hfz147_1
         try clear hfz147_2
         try clear hfz147_3
         try clear hfz147_4
         try clear hfz19_0
         try clear hfz19_1
         try clear hfz19_2
         try clear hfz19_3
         try clear hfz19_4
         try clear hfz26_0
         try clear hfz26_1
         try clear hfz26_2
         try clear hfz26_3
         try clear hfz26_4
         try clear hfz42_0
         try clear hfz42_1
         try clear hfz42_2
         try clear hfz42_3
         try clear hfz42_4
         try clear hfz47_0
         try clear hfz47_1
         try clear hfz47_2
         try clear hfz47_3
         try clear hfz47_4
         try clear hfz51_0
         try clear hfz51_1
         try clear hfz51_2
         try clear hfz51_3
         try clear hfz51_4
         try clear hfz61_0
         try clear hfz61_1
         try clear hfz61_2
         try clear hfz61_3
         try clear hfz61_4
         try clear hfz66_0
         try clear hfz66_1
         try clear hfz66_2
         try clear hfz66_3
         try clear hfz66_4
         try clear hfz70_0
         try clear hfz70_1
         try clear hfz70_2
         try clear hfz70_3
         try clear hfz70_4
         try clear hfz80_0
         try clear hfz80_1
         try clear hfz80_2
         try clear hfz80_3
         try clear hfz80_4
         try clear hfz85_0
         try clear hfz85_1
         try clear hfz85_2
         try clear hfz85_3
         try clear hfz85_4
         try clear hfz89_0
         try clear hfz89_1
         try clear hfz89_2
         try clear hfz89_3
         try clear hfz89_4
         try clear hfz95_0
         try clear hfz95_1
         try clear hfz95_2
         try clear hfz95_3
         try clear hfz95_4
         try clear hx769_0
         try clear hx769_1
         try clear hx769_2
         try clear hx769_3
         try clear hx769_4
         try clear hx769_5
         try clear hx769_6
         try clear p2
         try clear p769
         try clear q769
         obtain ⟨kq, HA, HJ122, HO_3, HO_7, BK723, BK737, BK747, HB⟩ := hcut
         cases kq with
         | zero => exact absurd HA.out (by simp [laws_FnRows.j3])
         | succ kj122 =>
          have H := HA.out
          clear HA
          simp only [laws_FnRows.j3] at H
          refine em_ (p := (t724.length : Int) = 0) (fun c152 => ?g13p) (fun c152 => ?g13n)
          case g13p =>
           rw [if_pos c152] at H
           have c152b0 : ((t724.length : Int) == 0) = true := beq_iff_eq.mpr c152
           have c152b1 : ((t724.length : Int) != 0) = false := bne_eq_false_iff_eq.mpr c152
           clear c152
           first
           | with_reducible exact absurd (Option.some.inj (H.trans (congrArg some hT_))) Bool.false_ne_true
           | (
             obtain rfl := Option.some.inj H
             obtain ⟨Ao153, co153, eo153⟩ := Kd.R_slice HO_7.out
             subst eo153
             go_wp2
             go_ret
             exact ⟨by first | rfl | (simp [errW_none, errW_some] <;> rfl) | (simp [*, errW_none, errW_some] <;> rfl), rb3 HB GE723 GE737 GE747⟩)
          case' g13n =>
           rw [if_neg c152] at H
           have c152b0 : ((t724.length : Int) == 0) = false := beq_eq_false_iff_ne.mpr c152
           have c152b1 : ((t724.length : Int) != 0) = true := bne_iff_ne.mpr c152
           have c152b2 : ¬ (t724 = []) := fun h_ => c152 (by rw [h_]; rfl)
           replace H := Option.bind_eq_some_iff.mp H
           obtain ⟨t775, A1540, H⟩ := H
           (try dsimp only at H)
           have A154 := am A1540
           clear A1540
           have H' := am H
           clear H
           obtain ⟨Ao155, co155, eo155⟩ := Kd.R_slice HO_7.out
           subst eo155
           have lf19_ := trivial
          all_goals as_aux_lemma =>
           go_wp2_with (first | ((with_reducible refine gate_callee (f := 25) rfl ?_); refine gl_ (some 146) Tryd.func25 #[.int .i64 t717] ?_; (with_reducible refine (spec_Width.calls kj122 t717 t775 _ A154.out).mono ?_); rintro e w' ⟨rfl, ⟨nd, rfl⟩⟩; refine ⟨_, rfl, ?_⟩))
           go_loopg [18] kj122 (fun kq v18 w' => ∃ (x18_4 : Int), v18 = .int .i64 x18_4 ∧ Aside0 (laws_FnRows.l1 kq t713 t716 t717 t724 t775 x18_4 t718 t719 t720 t721 t722 = some r) ∧ Aside0 (kq ≤ kj122) ∧ Aside0 (Kd.R k48 48 w' w.heap.size (fun k_ => some k_ ≠ ((.slice Ao155 t724.length co155) : Value).ownBlock) (.slice Ao14 t713.length co14) t713) ∧ Aside0 (Kd.R k48 48 w' w.heap.size (fun k_ => some k_ ≠ ((.slice Ao14 t713.length co14) : Value).ownBlock) (.slice Ao155 t724.length co155) t724) ∧ Aside0 (w'.heap[gb723]? = some (.cells #[.int .i64 t718, .int .i64 t719, .bool t720, .bool t721, .bool t722] 37 (0, 0))) ∧ Aside0 (w'.heap[gb737]? = some (.cells #[.int .i64 t732, .int .i64 t733, .bool t734, .bool t735, .bool t736] 37 (0, 0))) ∧ Aside0 (w'.heap[gb747]? = some (.cells #[.int .i64 t742, .int .i64 t743, .bool t744, .bool t745, .bool t746] 37 (0, 0))) ∧ Aside0 (Below w.heap.size w w'))
           case atStart => exact ⟨(0), (by first | rfl | (simp; done) | (simp [*]; done)), H', ⟨Nat.le_refl _⟩, ⟨rr HO_3⟩, ⟨rr HO_7⟩, ⟨rk BK723⟩, ⟨rk BK737⟩, ⟨rk BK747⟩, ⟨rb3 HB GE723 GE737 GE747⟩⟩
           case round => as_aux_lemma =>
            clear H'
            try clear c1
            try clear c2
            try clear p2
            try clear c3
            try clear c4
            try clear c5
            try clear c6
            try clear p6
            try clear c7
            try clear p7
            try clear q7
            try clear hx7
            try clear c8
            try clear c9
            try clear c10
            try clear c11
            try clear c12
            try clear c13
            try clear c14
            try clear c15
            try clear c16
            try clear c17
            try clear c18
            try clear c21
            try clear c24
            try clear c25
            try clear c30
            try clear c33
            try clear c36
            try clear c39
            try clear c39b0
            try clear c39b1
            try clear c39b2
            try clear c40
            try clear c41
            try clear c46
            try clear c59
            try clear c60
            try clear p64
            try clear c65
            try clear p76
            try clear q76
            try clear hx76
            try clear c78
            try clear c79
            try clear c84
            try clear c93
            try clear c94
            try clear c99
            try clear c104
            try clear c105
            try clear c110
            try clear c112
            try clear c112b0
            try clear c112b1
            try clear c114
            try clear c122
            try clear c125
            try clear c125b0
            try clear c125b1
            try clear c126
            try clear c126b0
            try clear c127
            try clear c127b0
            try clear c128
            try clear c128b0
            try clear c129
            try clear c129b0
            try clear c133
            try clear c134
            try clear c134b0
            try clear c134b1
            try clear c134b2
            try clear c137
            try clear c139
            try clear c140
            try clear c145
            try clear c146
            try clear c152
            try clear c152b0
            try clear c152b1
            try clear c152b2
            try clear hcz100_0
            try clear hcz100_1
            try clear hcz100_2
            try clear hcz100_3
            try clear hcz100_4
            try clear hcz106_0
            try clear hcz106_1
            try clear hcz106_2
            try clear hcz106_3
            try clear hcz106_4
            try clear hcz13_0
            try clear hcz13_1
            try clear hcz13_2
            try clear hcz13_3
            try clear hcz13_4
            try clear hcz141_0
            try clear hcz141_1
            try clear hcz141_2
            try clear hcz141_3
            try clear hcz141_4
            try clear hcz147_0
            try clear hcz147_1
            try clear hcz147_2
            try clear hcz147_3
            try clear hcz147_4
            try clear hcz19_0
            try clear hcz19_1
            try clear hcz19_2
            try clear hcz19_3
            try clear hcz19_4
            try clear hcz26_0
            try clear hcz26_1
            try clear hcz26_2
            try clear hcz26_3
            try clear hcz26_4
            try clear hcz42_0
            try clear hcz42_1
            try clear hcz42_2
            try clear hcz42_3
            try clear hcz42_4
            try clear hcz47_0
            try clear hcz47_1
            try clear hcz47_2
            try clear hcz47_3
            try clear hcz47_4
            try clear hcz51_0
            try clear hcz51_1
            try clear hcz51_2
            try clear hcz51_3
            try clear hcz51_4
            try clear hcz61_0
            try clear hcz61_1
            try clear hcz61_2
            try clear hcz61_3
            try clear hcz61_4
            try clear hcz66_0
            try clear hcz66_1
            try clear hcz66_2
            try clear hcz66_3
            try clear hcz66_4
            try clear hcz70_0
            try clear hcz70_1
            try clear hcz70_2
            try clear hcz70_3
            try clear hcz70_4
            try clear hcz80_0
            try clear hcz80_1
            try clear hcz80_2
            try clear hcz80_3
            try clear hcz80_4
            try clear hcz85_0
            try clear hcz85_1
            try clear hcz85_2
            try clear hcz85_3
            try clear hcz85_4
            try clear hcz89_0
            try clear hcz89_1
            try clear hcz89_2
            try clear hcz89_3
            try clear hcz89_4
            try clear hcz95_0
            try clear hcz95_1
            try clear hcz95_2
            try clear hcz95_3
            try clear hcz95_4
            try clear hfz100_0
            try clear hfz100_1
            try clear hfz100_2
            try clear hfz100_3
            try clear hfz100_4
            try clear hfz106_0
            try clear hfz106_1
            try clear hfz106_2
            try clear hfz106_3
            try clear hfz106_4
            try clear hfz13_0
            try clear hfz13_1
            try clear hfz13_2
            try clear hfz13_3
            try clear hfz13_4
            try clear hfz141_0
            try clear hfz141_1
            try clear hfz141_2
            try clear hfz141_3
            try clear hfz141_4
            try clear hfz147_0
            try clear hfz147_1
            try clear hfz147_2
            try clear hfz147_3
            try clear hfz147_4
            try clear hfz19_0
            try clear hfz19_1
            try clear hfz19_2
            try clear hfz19_3
            try clear hfz19_4
            try clear hfz26_0
            try clear hfz26_1
            try clear hfz26_2
            try clear hfz26_3
            try clear hfz26_4
            try clear hfz42_0
            try clear hfz42_1
            try clear hfz42_2
            try clear hfz42_3
            try clear hfz42_4
            try clear hfz47_0
            try clear hfz47_1
            try clear hfz47_2
            try clear hfz47_3
            try clear hfz47_4
            try clear hfz51_0
            try clear hfz51_1
            try clear hfz51_2
            try clear hfz51_3
            try clear hfz51_4
            try clear hfz61_0
            try clear hfz61_1
            try clear hfz61_2
            try clear hfz61_3
            try clear hfz61_4
            try clear hfz66_0
            try clear hfz66_1
            try clear hfz66_2
            try clear hfz66_3
            try clear hfz66_4
            try clear hfz70_0
            try clear hfz70_1
            try clear hfz70_2
            try clear hfz70_3
            try clear hfz70_4
            try clear hfz80_0
            try clear hfz80_1
            try clear hfz80_2
            try clear hfz80_3
            try clear hfz80_4
            try clear hfz85_0
            try clear hfz85_1
            try clear hfz85_2
            try clear hfz85_3
            try clear hfz85_4
            try clear hfz89_0
            try clear hfz89_1
            try clear hfz89_2
            try clear hfz89_3
            try clear hfz89_4
            try clear hfz95_0
            try clear hfz95_1
            try clear hfz95_2
            try clear hfz95_3
            try clear hfz95_4
            try clear hx769_0
            try clear hx769_1
            try clear hx769_2
            try clear hx769_3
            try clear hx769_4
            try clear hx769_5
            try clear hx769_6
            try clear p2
            try clear p6
            try clear p64
            try clear p7
            try clear p76
            try clear p769
            try clear q7
            try clear q76
            try clear q769
            obtain ⟨x18_4, rfl, HA, HK4, HO_3, HO_7, BK723, BK737, BK747, HB⟩ := hrel
            cases gk with
            | zero => exact absurd HA.out (by simp [laws_FnRows.l1])
            | succ k4 =>
             have H := HA.out
             clear HA
             simp only [laws_FnRows.l1] at H
             refine em_ (p := x18_4 < (t724.length : Int)) (fun c156 => ?g14p) (fun c156 => ?g14n)
             case' g14p =>
              rw [if_pos c156] at H
              have c156b0 : decide (x18_4 < (t724.length : Int)) = true := decide_eq_true c156
              clear c156
              have HC157 := am H
              clear H
              have lf20_ := trivial
             case g14n => as_aux_lemma =>
              rw [if_neg c156] at H
              have c156b0 : decide (x18_4 < (t724.length : Int)) = false := decide_eq_false c156
              clear c156
              replace H := Option.bind_eq_some_iff.mp H
              obtain ⟨t776, A1660, H⟩ := H
              (try dsimp only at H)
              have A166 := am A1660
              clear A1660
              by_cases c167 : t776 = true
              ·as_aux_lemma =>
               subst c167
               rw [if_pos rfl] at H
               by_cases c168 : (t724.length : Int) = (t713.length : Int)
               ·as_aux_lemma =>
                rw [if_pos c168] at H
                have c168b0 : ((t724.length : Int) == (t713.length : Int)) = true := beq_iff_eq.mpr c168
                have c168b1 : ((t724.length : Int) != (t713.length : Int)) = false := bne_eq_false_iff_eq.mpr c168
                have c168b2 : (t724.length == t713.length) = true := by first | simpa using c168 | (simp at c168 ⊢; omega)
                clear c168
                by_cases c169 : 0 ≤ t716
                ·as_aux_lemma =>
                 rw [if_pos c169] at H
                 have c169b0 : decide (0 ≤ t716) = true := decide_eq_true c169
                 clear c169
                 by_cases c170 : t716 < (t724.length : Int)
                 ·as_aux_lemma =>
                  rw [if_pos c170] at H
                  have c170b0 : decide (t716 < (t724.length : Int)) = true := decide_eq_true c170
                  clear c170
                  by_cases c171 : ((rd_T48 t724 t716).f0) = t717
                  ·as_aux_lemma =>
                   rw [if_pos c171] at H
                   have c171b0 : (((rd_T48 t724 t716).f0) == t717) = true := beq_iff_eq.mpr c171
                   have c171b1 : (((rd_T48 t724 t716).f0) != t717) = false := bne_eq_false_iff_eq.mpr c171
                   clear c171
                   by_cases c172 : (((rd_T48 t724 t716).f1.f0) == t718 && (((rd_T48 t724 t716).f1.f1) == t719 && (((rd_T48 t724 t716).f1.f2) == t720 && (((rd_T48 t724 t716).f1.f3) == t721 && (((rd_T48 t724 t716).f1.f4) == t722))))) = true
                   ·as_aux_lemma =>
                    rw [if_pos c172] at H
                    have c172b0 : (((rd_T48 t724 t716).f1.f0) == t718 && (((rd_T48 t724 t716).f1.f1) == t719 && (((rd_T48 t724 t716).f1.f2) == t720 && (((rd_T48 t724 t716).f1.f3) == t721 && (((rd_T48 t724 t716).f1.f4) == t722))))) = true := c172
                    (try (have c172b1 : decide (((rd_T48 t724 t716).f1.f0) = t718 && (((rd_T48 t724 t716).f1.f1) == t719 && (((rd_T48 t724 t716).f1.f2) == t720 && (((rd_T48 t724 t716).f1.f3) == t721 && (((rd_T48 t724 t716).f1.f4) == t722))))) = true := by simpa using c172))
                    (try (have c172b2 : (((rd_T48 t724 t716).f1.f0) == t718 && (((rd_T48 t724 t716).f1.f1) == t719 && (((rd_T48 t724 t716).f1.f2) == t720 && (((rd_T48 t724 t716).f1.f3) == t721 && (((rd_T48 t724 t716).f1.f4) == t722))))) = true := by simpa using c172))
                    clear c172
                    replace H := Option.bind_eq_some_iff.mp H
                    obtain ⟨t779, A1730, H⟩ := H
                    (try dsimp only at H)
                    have A173 := am A1730
                    clear A1730
                    replace H := Option.bind_eq_some_iff.mp H
                    obtain ⟨t782, A1740, H⟩ := H
                    replace H : (some t782) = some r := H
                    have A174 := am A1740
                    clear A1740
                    first
                    | with_reducible exact absurd (Option.some.inj (H.trans (congrArg some hT_))) Bool.false_ne_true
                    | (
                      obtain rfl := Option.some.inj H
                      try go_wp2
                      have n0_ := am (Kd.R_drew HO_3.out)
                      have n1_ := am (Kd.R_drew HO_7.out)
                      have n2_ := am (blk_drew BK723.out)
                      have n3_ := am (blk_drew BK737.out)
                      have n4_ := am (blk_drew BK747.out)
                      have n5_ := am (below_drew1 HB.out)
                      clear HO_3
                      clear HO_7
                      clear BK723
                      clear BK737
                      clear BK747
                      clear HB
                      have HO_3 := n0_
                      have HO_7 := n1_
                      have BK723 := n2_
                      have BK737 := n3_
                      have BK747 := n4_
                      have HB := n5_
                      clear n0_ n1_ n2_ n3_ n4_ n5_
                      have p777 : 0 ≤ (t716 : Int) := dt_
                      have q777 : t716 < (t724.length : Int) := dt_
                      obtain ⟨ad777, e777, hx777_0, hx777_1, hx777_2, hx777_3, hx777_4, hx777_5, hx777_6⟩ := at_T48 (Kd.R_reads' HO_7.out).2.2 t716 p777 q777
                      cases e777
                      replace p777 := eq_true p777
                      replace q777 := eq_true q777
                      have p778 : 0 ≤ (t716 : Int) := dt_
                      have q778 : t716 < (t724.length : Int) := dt_
                      obtain ⟨ad778, e778, hx778_0, hx778_1, hx778_2, hx778_3, hx778_4, hx778_5, hx778_6⟩ := at_T48 (Kd.R_reads' HO_7.out).2.2 t716 p778 q778
                      obtain rfl : ad777 = ad778 := (by injection e778)
                      replace p778 := eq_true p778
                      replace q778 := eq_true q778
                      refine start_ (n := 37) (S := fun w' => w'.cell? ⟨gb723, 0, none⟩ = some (.int .i64 t718) ∧ w'.cell? ⟨gb723, 1, none⟩ = some (.int .i64 t719) ∧ w'.cell? ⟨gb723, 2, none⟩ = some (.bool t720) ∧ w'.cell? ⟨gb723, 3, none⟩ = some (.bool t721) ∧ w'.cell? ⟨gb723, 4, none⟩ = some (.bool t722) ∧ w'.cell? (ad777.add ((t716).toNat * 7)) = some (.int .i64 ((rd_T48 t724 t716).f0)) ∧ w'.cell? ⟨(ad777.add ((t716).toNat * 7)).block, (ad777.add ((t716).toNat * 7)).off + 1, none⟩ = some (.int .i64 ((rd_T48 t724 t716).f1.f0)) ∧ w'.cell? ⟨(ad777.add ((t716).toNat * 7)).block, (ad777.add ((t716).toNat * 7)).off + 2, none⟩ = some (.int .i64 ((rd_T48 t724 t716).f1.f1)) ∧ w'.cell? ⟨(ad777.add ((t716).toNat * 7)).block, (ad777.add ((t716).toNat * 7)).off + 3, none⟩ = some (.bool ((rd_T48 t724 t716).f1.f2)) ∧ w'.cell? ⟨(ad777.add ((t716).toNat * 7)).block, (ad777.add ((t716).toNat * 7)).off + 4, none⟩ = some (.bool ((rd_T48 t724 t716).f1.f3)) ∧ w'.cell? ⟨(ad777.add ((t716).toNat * 7)).block, (ad777.add ((t716).toNat * 7)).off + 5, none⟩ = some (.bool ((rd_T48 t724 t716).f1.f4)) ∧ w'.cell? ⟨(ad777.add ((t716).toNat * 7)).block, (ad777.add ((t716).toNat * 7)).off + 6, none⟩ = some (.int .i64 ((rd_T48 t724 t716).f2)) ∧ w'.cell? (ad777.add ((t716).toNat * 7)) = some (.int .i64 ((rd_T48 t724 t716).f0)) ∧ w'.cell? ⟨(ad777.add ((t716).toNat * 7)).block, (ad777.add ((t716).toNat * 7)).off + 1, none⟩ = some (.int .i64 ((rd_T48 t724 t716).f1.f0)) ∧ w'.cell? ⟨(ad777.add ((t716).toNat * 7)).block, (ad777.add ((t716).toNat * 7)).off + 2, none⟩ = some (.int .i64 ((rd_T48 t724 t716).f1.f1)) ∧ w'.cell? ⟨(ad777.add ((t716).toNat * 7)).block, (ad777.add ((t716).toNat * 7)).off + 3, none⟩ = some (.bool ((rd_T48 t724 t716).f1.f2)) ∧ w'.cell? ⟨(ad777.add ((t716).toNat * 7)).block, (ad777.add ((t716).toNat * 7)).off + 4, none⟩ = some (.bool ((rd_T48 t724 t716).f1.f3)) ∧ w'.cell? ⟨(ad777.add ((t716).toNat * 7)).block, (ad777.add ((t716).toNat * 7)).off + 5, none⟩ = some (.bool ((rd_T48 t724 t716).f1.f4)) ∧ w'.cell? ⟨(ad777.add ((t716).toNat * 7)).block, (ad777.add ((t716).toNat * 7)).off + 6, none⟩ = some (.int .i64 ((rd_T48 t724 t716).f2))) (ds := []) (bm 37 0) (by kernel_rfl) rfl rfl ⟨(blk_cell BK723.out 0).trans rfl, (blk_cell BK723.out 1).trans rfl, (blk_cell BK723.out 2).trans rfl, (blk_cell BK723.out 3).trans rfl, (blk_cell BK723.out 4).trans rfl, hx777_0, hx777_1, hx777_2, hx777_3, hx777_4, hx777_5, hx777_6, hx778_0, hx778_1, hx778_2, hx778_3, hx778_4, hx778_5, hx778_6⟩ (fun hHeld => ?_); refine with_tabW laws_FnRows.tab30 laws_FnRows.bits30 (fun HT_ HW_ => ?_)
                      generalize wr.drew = w175 at HO_3 HO_7 BK723 BK737 BK747 HB hx777_0 hx777_1 hx777_2 hx777_3 hx777_4 hx777_5 hx777_6 hx778_0 hx778_1 hx778_2 hx778_3 hx778_4 hx778_5 hx778_6 hHeld ⊢
                      refine pu_ 0 173 (bm 37 1) HT_.out ?_
                      refine one_ (i := 1) (N := some 174) (bm 37 3) rfl rfl (one_of HT_.out (by kernel_rfl)) (by decide) (fun K hK => ?_)
                      refine goes_ Tryd.func21 (by kernel_rfl) rfl #[.slice (some ad777) t724.length co155] (by rfl) rfl rfl (by (try simp only [List.map_toArray, List.map_cons, List.map_nil]); first | done | rfl | (simp only [List.length_drop, List.length_take]; rfl)) ?_
                      with_reducible refine (impl_RowOk.calls k4 _ _ t724 true _ ?side1 ?side2 A166.out).mono ?_
                      (case side1 => repeat (first | exact (Kd.R_reads' HO_7.out).2.2 | (with_reducible refine Kd.C_alloc ?_ _) | (with_reducible refine Kd.C_drewN ?_ _) | (with_reducible refine Kd.C_drew ?_)))
                      (case side2 => exact (Kd.R_reads' HO_7.out).2.1)
                      rintro e w176 ⟨rfl, hb⟩
                      have HS5_ := (hb.cell (World.block_lt_of_cell? _ _ (hHeld.2.2.2.2.2.1))).trans (hHeld.2.2.2.2.2.1)
                      have HS6_ := (hb.cell (World.block_lt_of_cell? _ _ (hHeld.2.2.2.2.2.2.1))).trans (hHeld.2.2.2.2.2.2.1)
                      have HS7_ := (hb.cell (World.block_lt_of_cell? _ _ (hHeld.2.2.2.2.2.2.2.1))).trans (hHeld.2.2.2.2.2.2.2.1)
                      have HS8_ := (hb.cell (World.block_lt_of_cell? _ _ (hHeld.2.2.2.2.2.2.2.2.1))).trans (hHeld.2.2.2.2.2.2.2.2.1)
                      have HS9_ := (hb.cell (World.block_lt_of_cell? _ _ (hHeld.2.2.2.2.2.2.2.2.2.1))).trans (hHeld.2.2.2.2.2.2.2.2.2.1)
                      have HS10_ := (hb.cell (World.block_lt_of_cell? _ _ (hHeld.2.2.2.2.2.2.2.2.2.2.1))).trans (hHeld.2.2.2.2.2.2.2.2.2.2.1)
                      have HS11_ := (hb.cell (World.block_lt_of_cell? _ _ (hHeld.2.2.2.2.2.2.2.2.2.2.2.1))).trans (hHeld.2.2.2.2.2.2.2.2.2.2.2.1)
                      have HS12_ := (hb.cell (World.block_lt_of_cell? _ _ (hHeld.2.2.2.2.2.2.2.2.2.2.2.2.1))).trans (hHeld.2.2.2.2.2.2.2.2.2.2.2.2.1)
                      have HS13_ := (hb.cell (World.block_lt_of_cell? _ _ (hHeld.2.2.2.2.2.2.2.2.2.2.2.2.2.1))).trans (hHeld.2.2.2.2.2.2.2.2.2.2.2.2.2.1)
                      have HS14_ := (hb.cell (World.block_lt_of_cell? _ _ (hHeld.2.2.2.2.2.2.2.2.2.2.2.2.2.2.1))).trans (hHeld.2.2.2.2.2.2.2.2.2.2.2.2.2.2.1)
                      have HS15_ := (hb.cell (World.block_lt_of_cell? _ _ (hHeld.2.2.2.2.2.2.2.2.2.2.2.2.2.2.2.1))).trans (hHeld.2.2.2.2.2.2.2.2.2.2.2.2.2.2.2.1)
                      have HS16_ := (hb.cell (World.block_lt_of_cell? _ _ (hHeld.2.2.2.2.2.2.2.2.2.2.2.2.2.2.2.2.1))).trans (hHeld.2.2.2.2.2.2.2.2.2.2.2.2.2.2.2.2.1)
                      have HS17_ := (hb.cell (World.block_lt_of_cell? _ _ (hHeld.2.2.2.2.2.2.2.2.2.2.2.2.2.2.2.2.2.1))).trans (hHeld.2.2.2.2.2.2.2.2.2.2.2.2.2.2.2.2.2.1)
                      have HS18_ := (hb.cell (World.block_lt_of_cell? _ _ (hHeld.2.2.2.2.2.2.2.2.2.2.2.2.2.2.2.2.2.2))).trans (hHeld.2.2.2.2.2.2.2.2.2.2.2.2.2.2.2.2.2.2)
                      refine ⟨_, rfl, ?_⟩
                      have n0_ := am (Kd.R_below (rr HO_3) hb)
                      have n1_ := am (Kd.R_below (rr HO_7) hb)
                      have n2_ := am (blk_below (g := gb723) (o := .cells #[.int .i64 t718, .int .i64 t719, .bool t720, .bool t721, .bool t722] 37 (0, 0)) (rk BK723) hb)
                      have n3_ := am (blk_below (g := gb737) (o := .cells #[.int .i64 t732, .int .i64 t733, .bool t734, .bool t735, .bool t736] 37 (0, 0)) (rk BK737) hb)
                      have n4_ := am (blk_below (g := gb747) (o := .cells #[.int .i64 t742, .int .i64 t743, .bool t744, .bool t745, .bool t746] 37 (0, 0)) (rk BK747) hb)
                      have n5_ := am (below_step (rb3 HB GE723 GE737 GE747) hb)
                      clear HO_3
                      clear HO_7
                      clear BK723
                      clear BK737
                      clear BK747
                      clear HB
                      have HO_3 := n0_
                      have HO_7 := n1_
                      have BK723 := n2_
                      have BK737 := n3_
                      have BK747 := n4_
                      have HB := n5_
                      clear n0_ n1_ n2_ n3_ n4_ n5_
                      (try clear hb)
                      (try clear hb2)
                      (try clear hk)
                      (try clear hi)
                      refine hK.out _ _ ⟨(blk_cell BK723.out 0).trans rfl, (blk_cell BK723.out 1).trans rfl, (blk_cell BK723.out 2).trans rfl, (blk_cell BK723.out 3).trans rfl, (blk_cell BK723.out 4).trans rfl, HS5_, HS6_, HS7_, HS8_, HS9_, HS10_, HS11_, HS12_, HS13_, HS14_, HS15_, HS16_, HS17_, HS18_⟩ (fun hHeld => ?_)
                      clear hK K
                      refine norm_ (a' := ?_) ?_ ?_
                      rotate_left
                      ·show Act.put _ (some 174) _ = _
                       simp only [Act.put, List.setIfInBounds_toArray, List.set_cons_zero, List.set_cons_succ, i64_w, i32_w]
                       rfl
                      refine pu_ 2 175 (bm 37 7) HT_.out ?_
                      refine pu_ 3 176 (bm 37 15) HT_.out ?_
                      refine pu_ 4 177 (bm 37 31) HT_.out ?_
                      refine pu_ 5 178 (bm 37 63) HT_.out ?_
                      refine pu_ 6 179 (bm 37 127) HT_.out ?_
                      refine pu_ 7 180 (bm 37 255) HT_.out ?_
                      refine pu_ 8 181 (bm 37 511) HT_.out ?_
                      refine pu_ 9 182 (bm 37 1023) HT_.out ?_
                      refine pu_ 10 183 (bm 37 2047) HT_.out ?_
                      refine pu_ 11 184 (bm 37 4095) HT_.out ?_
                      refine pu_ 12 185 (bm 37 8191) HT_.out ?_
                      refine pu_ 13 186 (bm 37 16383) HT_.out ?_
                      refine pu_ 15 188 (bm 37 49151) HT_.out ?_
                      refine take_ (i := 14) (N := some 187) (v := ?_) (a' := ?_) (bm 37 65535) rfl rfl (take_ofW HT_.out HW_.out (by kernel_rfl)) (fun _ _ _ h => h) (Or.inl ⟨by rfl, ?_⟩) hHeld ?_ ?_
                      rotate_left
                      ·rintro w' ⟨s0, s1, s2, s3, s4, s5, s6, s7, s8, s9, s10, s11, s12, s13, s14, s15, s16, s17, s18⟩
                       go_simp
                       with_reducible rfl
                      rotate_left
                      ·simp only [Act.put, List.setIfInBounds_toArray, List.set_cons_zero, List.set_cons_succ, i64_w, i32_w]
                       rfl
                      refine pu_ 16 189 (bm 37 131071) HT_.out ?_
                      refine pu_ 17 190 (bm 37 262143) HT_.out ?_
                      refine pu_ 18 191 (bm 37 524287) HT_.out ?_
                      refine pu_ 19 192 (bm 37 1048575) HT_.out ?_
                      refine pu_ 20 193 (bm 37 2097151) HT_.out ?_
                      refine pu_ 21 194 (bm 37 4194303) HT_.out ?_
                      refine pu_ 22 195 (bm 37 8388607) HT_.out ?_
                      refine take_ (i := 23) (N := some 196) (v := ?_) (a' := ?_) (bm 37 16777215) rfl rfl (take_ofW HT_.out HW_.out (by kernel_rfl)) (fun _ _ _ h => h) (Or.inl ⟨by rfl, ?_⟩) hHeld ?_ ?_
                      rotate_left
                      ·rintro w' ⟨s0, s1, s2, s3, s4, s5, s6, s7, s8, s9, s10, s11, s12, s13, s14, s15, s16, s17, s18⟩
                       go_simp
                       with_reducible rfl
                      rotate_left
                      ·simp only [Act.put, List.setIfInBounds_toArray, List.set_cons_zero, List.set_cons_succ, i64_w, i32_w]
                       rfl
                      refine take_ (i := 24) (N := some 197) (v := ?_) (a' := ?_) (bm 37 33554431) rfl rfl (take_ofW HT_.out HW_.out (by kernel_rfl)) (fun _ _ _ h => h) (Or.inl ⟨by rfl, ?_⟩) hHeld ?_ ?_
                      rotate_left
                      ·rintro w' ⟨s0, s1, s2, s3, s4, s5, s6, s7, s8, s9, s10, s11, s12, s13, s14, s15, s16, s17, s18⟩
                       go_simp
                       with_reducible rfl
                      rotate_left
                      ·simp only [Act.put, List.setIfInBounds_toArray, List.set_cons_zero, List.set_cons_succ, i64_w, i32_w]
                       rfl
                      refine pu_ 25 198 (bm 37 67108863) HT_.out ?_
                      refine pu_ 26 199 (bm 37 134217727) HT_.out ?_
                      refine pu_ 27 200 (bm 37 268435455) HT_.out ?_
                      refine pu_ 28 201 (bm 37 536870911) HT_.out ?_
                      refine pu_ 29 202 (bm 37 1073741823) HT_.out ?_
                      refine pu_ 30 203 (bm 37 2147483647) HT_.out ?_
                      refine pu_ 33 206 (bm 37 10737418239) HT_.out ?_
                      refine take_ (i := 31) (N := some 204) (v := ?_) (a' := ?_) (bm 37 12884901887) rfl rfl (take_ofW HT_.out HW_.out (by kernel_rfl)) (fun _ _ _ h => h) (Or.inl ⟨by rfl, ?_⟩) hHeld ?_ ?_
                      rotate_left
                      ·rintro w' ⟨s0, s1, s2, s3, s4, s5, s6, s7, s8, s9, s10, s11, s12, s13, s14, s15, s16, s17, s18⟩
                       go_simp
                       with_reducible rfl
                      rotate_left
                      ·simp only [Act.put, List.setIfInBounds_toArray, List.set_cons_zero, List.set_cons_succ, i64_w, i32_w]
                       rfl
                      refine one_ (i := 32) (N := some 205) (bm 37 17179869183) rfl rfl (one_of HT_.out (by kernel_rfl)) (by decide) (fun K hK => ?_)
                      refine goes_ Tryd.func12 (by kernel_rfl) rfl #[.slice (some ad777) t724.length co155, .int .i64 t716, .int .i64 t717, .agg #[.int .i64 t718, .int .i64 t719, .bool t720, .bool t721, .bool t722]] (by rfl) rfl rfl (by (try simp only [List.map_toArray, List.map_cons, List.map_nil]); first | done | rfl | (simp only [List.length_drop, List.length_take]; rfl)) ?_
                      with_reducible refine (impl_Written.calls k4 _ _ t724 t716 t717 t718 t719 t720 t721 t722 t779 _ ?side1 ?side2 A173.out).mono ?_
                      (case side1 => repeat (first | exact (Kd.R_reads' HO_7.out).2.2 | (with_reducible refine Kd.C_alloc ?_ _) | (with_reducible refine Kd.C_drewN ?_ _) | (with_reducible refine Kd.C_drew ?_)))
                      (case side2 => exact (Kd.R_reads' HO_7.out).2.1)
                      rintro e w177 ⟨v780, rfl, ho0, hb⟩
                      have HS5_ := (hb.cell (World.block_lt_of_cell? _ _ (hHeld.2.2.2.2.2.1))).trans (hHeld.2.2.2.2.2.1)
                      have HS6_ := (hb.cell (World.block_lt_of_cell? _ _ (hHeld.2.2.2.2.2.2.1))).trans (hHeld.2.2.2.2.2.2.1)
                      have HS7_ := (hb.cell (World.block_lt_of_cell? _ _ (hHeld.2.2.2.2.2.2.2.1))).trans (hHeld.2.2.2.2.2.2.2.1)
                      have HS8_ := (hb.cell (World.block_lt_of_cell? _ _ (hHeld.2.2.2.2.2.2.2.2.1))).trans (hHeld.2.2.2.2.2.2.2.2.1)
                      have HS9_ := (hb.cell (World.block_lt_of_cell? _ _ (hHeld.2.2.2.2.2.2.2.2.2.1))).trans (hHeld.2.2.2.2.2.2.2.2.2.1)
                      have HS10_ := (hb.cell (World.block_lt_of_cell? _ _ (hHeld.2.2.2.2.2.2.2.2.2.2.1))).trans (hHeld.2.2.2.2.2.2.2.2.2.2.1)
                      have HS11_ := (hb.cell (World.block_lt_of_cell? _ _ (hHeld.2.2.2.2.2.2.2.2.2.2.2.1))).trans (hHeld.2.2.2.2.2.2.2.2.2.2.2.1)
                      have HS12_ := (hb.cell (World.block_lt_of_cell? _ _ (hHeld.2.2.2.2.2.2.2.2.2.2.2.2.1))).trans (hHeld.2.2.2.2.2.2.2.2.2.2.2.2.1)
                      have HS13_ := (hb.cell (World.block_lt_of_cell? _ _ (hHeld.2.2.2.2.2.2.2.2.2.2.2.2.2.1))).trans (hHeld.2.2.2.2.2.2.2.2.2.2.2.2.2.1)
                      have HS14_ := (hb.cell (World.block_lt_of_cell? _ _ (hHeld.2.2.2.2.2.2.2.2.2.2.2.2.2.2.1))).trans (hHeld.2.2.2.2.2.2.2.2.2.2.2.2.2.2.1)
                      have HS15_ := (hb.cell (World.block_lt_of_cell? _ _ (hHeld.2.2.2.2.2.2.2.2.2.2.2.2.2.2.2.1))).trans (hHeld.2.2.2.2.2.2.2.2.2.2.2.2.2.2.2.1)
                      have HS16_ := (hb.cell (World.block_lt_of_cell? _ _ (hHeld.2.2.2.2.2.2.2.2.2.2.2.2.2.2.2.2.1))).trans (hHeld.2.2.2.2.2.2.2.2.2.2.2.2.2.2.2.2.1)
                      have HS17_ := (hb.cell (World.block_lt_of_cell? _ _ (hHeld.2.2.2.2.2.2.2.2.2.2.2.2.2.2.2.2.2.1))).trans (hHeld.2.2.2.2.2.2.2.2.2.2.2.2.2.2.2.2.2.1)
                      have HS18_ := (hb.cell (World.block_lt_of_cell? _ _ (hHeld.2.2.2.2.2.2.2.2.2.2.2.2.2.2.2.2.2.2))).trans (hHeld.2.2.2.2.2.2.2.2.2.2.2.2.2.2.2.2.2.2)
                      refine ⟨_, rfl, ?_⟩
                      have n0_ := am (Kd.R_elder' (rr HO_3) (Kd.R_base ho0) hb)
                      have n1_ := am (Kd.R_elder' (rr HO_7) (Kd.R_base ho0) hb)
                      have n2_ := am (Kd.R_lower (Kd.R_new' (Kd.R_new' ho0 (Kd.R_lt (rr HO_3))) (Kd.R_lt (rr HO_7))) (below_size (rb3 HB GE723 GE737 GE747)))
                      have n3_ := am (blk_below (g := gb723) (o := .cells #[.int .i64 t718, .int .i64 t719, .bool t720, .bool t721, .bool t722] 37 (0, 0)) (rk BK723) hb)
                      have n4_ := am (blk_below (g := gb737) (o := .cells #[.int .i64 t732, .int .i64 t733, .bool t734, .bool t735, .bool t736] 37 (0, 0)) (rk BK737) hb)
                      have n5_ := am (blk_below (g := gb747) (o := .cells #[.int .i64 t742, .int .i64 t743, .bool t744, .bool t745, .bool t746] 37 (0, 0)) (rk BK747) hb)
                      have n6_ := am (below_step (rb3 HB GE723 GE737 GE747) hb)
                      clear HO_3
                      clear HO_7
                      clear BK723
                      clear BK737
                      clear BK747
                      clear HB
                      have HO_3 := n0_
                      have HO_7 := n1_
                      have HO781 := n2_
                      have BK723 := n3_
                      have BK737 := n4_
                      have BK747 := n5_
                      have HB := n6_
                      clear n0_ n1_ n2_ n3_ n4_ n5_ n6_
                      (try clear hb)
                      (try clear hb2)
                      (try clear hk)
                      (try clear hi)
                      (try clear ho0)
                      obtain ⟨Ao178, co178, eo178⟩ := Kd.R_slice HO781.out
                      (first | subst eo178 | (injection eo178 with f1_ f2_ f3_; have f4_ := f1_.symm; have f5_ := f3_.symm; clear f1_ f2_ f3_; subst f4_; subst f5_))
                      refine hK.out _ _ ⟨(blk_cell BK723.out 0).trans rfl, (blk_cell BK723.out 1).trans rfl, (blk_cell BK723.out 2).trans rfl, (blk_cell BK723.out 3).trans rfl, (blk_cell BK723.out 4).trans rfl, HS5_, HS6_, HS7_, HS8_, HS9_, HS10_, HS11_, HS12_, HS13_, HS14_, HS15_, HS16_, HS17_, HS18_⟩ (fun hHeld => ?_)
                      clear hK K
                      refine norm_ (a' := ?_) ?_ ?_
                      rotate_left
                      ·show Act.put _ (some 205) _ = _
                       simp only [Act.put, List.setIfInBounds_toArray, List.set_cons_zero, List.set_cons_succ, i64_w, i32_w]
                       rfl
                      refine one_ (i := 34) (N := some 207) (bm 37 34359738367) rfl rfl (one_of HT_.out (by kernel_rfl)) (by decide) (fun K hK => ?_)
                      refine goes_ Tryd.func17 (by kernel_rfl) rfl #[.slice Ao178 t779.length co178, .slice (some ad777) t724.length co155] (by rfl) rfl rfl (by (try simp only [List.map_toArray, List.map_cons, List.map_nil]); first | done | rfl | (simp only [List.length_drop, List.length_take]; rfl)) ?_
                      with_reducible refine (laws_likeRow.calls k4 _ _ t779 _ _ t724 t782 _ ?side1 ?side2 ?side3 ?side4 A174.out).mono ?_
                      (case side1 => repeat (first | exact (Kd.R_reads' HO781.out).2.2 | (with_reducible refine Kd.C_alloc ?_ _) | (with_reducible refine Kd.C_drewN ?_ _) | (with_reducible refine Kd.C_drew ?_)))
                      (case side2 => exact (Kd.R_reads' HO781.out).2.1)
                      (case side3 => repeat (first | exact (Kd.R_reads' HO_7.out).2.2 | (with_reducible refine Kd.C_alloc ?_ _) | (with_reducible refine Kd.C_drewN ?_ _) | (with_reducible refine Kd.C_drew ?_)))
                      (case side4 => exact (Kd.R_reads' HO_7.out).2.1)
                      rintro e w' ⟨rfl, ⟨nd, rfl⟩⟩
                      refine ⟨_, rfl, ?_⟩
                      refine hK.out _ _ ⟨(blk_cell BK723.out 0).trans rfl, (blk_cell BK723.out 1).trans rfl, (blk_cell BK723.out 2).trans rfl, (blk_cell BK723.out 3).trans rfl, (blk_cell BK723.out 4).trans rfl, hHeld.2.2.2.2.2.1, hHeld.2.2.2.2.2.2.1, hHeld.2.2.2.2.2.2.2.1, hHeld.2.2.2.2.2.2.2.2.1, hHeld.2.2.2.2.2.2.2.2.2.1, hHeld.2.2.2.2.2.2.2.2.2.2.1, hHeld.2.2.2.2.2.2.2.2.2.2.2.1, hHeld.2.2.2.2.2.2.2.2.2.2.2.2.1, hHeld.2.2.2.2.2.2.2.2.2.2.2.2.2.1, hHeld.2.2.2.2.2.2.2.2.2.2.2.2.2.2.1, hHeld.2.2.2.2.2.2.2.2.2.2.2.2.2.2.2.1, hHeld.2.2.2.2.2.2.2.2.2.2.2.2.2.2.2.2.1, hHeld.2.2.2.2.2.2.2.2.2.2.2.2.2.2.2.2.2.1, hHeld.2.2.2.2.2.2.2.2.2.2.2.2.2.2.2.2.2.2⟩ (fun hHeld => ?_)
                      clear hK K
                      refine norm_ (a' := ?_) ?_ ?_
                      rotate_left
                      ·show Act.put _ (some 207) _ = _
                       simp only [Act.put, List.setIfInBounds_toArray, List.set_cons_zero, List.set_cons_succ, i64_w, i32_w]
                       rfl
                      refine pu_ 35 208 (bm 37 68719476735) HT_.out ?_
                      refine pu_ 36 2 (bm 37 137438953471) HT_.out ?_
                      refine done_ (done_of HT_.out (by kernel_rfl)) ?_
                      try go_wp2
                      go_ret
                      exact ⟨by first | rfl | (simp [errW_none, errW_some] <;> rfl) | (simp [*, errW_none, errW_some] <;> rfl), rb3 HB GE723 GE737 GE747⟩)
                   ·rw [if_neg c172] at H
                    have c172b0 : (((rd_T48 t724 t716).f1.f0) == t718 && (((rd_T48 t724 t716).f1.f1) == t719 && (((rd_T48 t724 t716).f1.f2) == t720 && (((rd_T48 t724 t716).f1.f3) == t721 && (((rd_T48 t724 t716).f1.f4) == t722))))) = false := by simpa using c172
                    (try (have c172b1 : decide (((rd_T48 t724 t716).f1.f0) = t718 && (((rd_T48 t724 t716).f1.f1) == t719 && (((rd_T48 t724 t716).f1.f2) == t720 && (((rd_T48 t724 t716).f1.f3) == t721 && (((rd_T48 t724 t716).f1.f4) == t722))))) = false := by simpa using c172))
                    (try (have c172b2 : (((rd_T48 t724 t716).f1.f0) == t718 && (((rd_T48 t724 t716).f1.f1) == t719 && (((rd_T48 t724 t716).f1.f2) == t720 && (((rd_T48 t724 t716).f1.f3) == t721 && (((rd_T48 t724 t716).f1.f4) == t722))))) = false := by simpa using c172))
                    (try (have c172b3 : ¬ (((rd_T48 t724 t716).f1.f0) = t718 && (((rd_T48 t724 t716).f1.f1) == t719 && (((rd_T48 t724 t716).f1.f2) == t720 && (((rd_T48 t724 t716).f1.f3) == t721 && (((rd_T48 t724 t716).f1.f4) == t722))))) := by simpa using c172))
                    clear c172
                    exact absurd (Option.some.inj (H.trans (congrArg some hT_))) Bool.false_ne_true
                  ·rw [if_neg c171] at H
                   have c171b0 : (((rd_T48 t724 t716).f0) == t717) = false := beq_eq_false_iff_ne.mpr c171
                   have c171b1 : (((rd_T48 t724 t716).f0) != t717) = true := bne_iff_ne.mpr c171
                   exact absurd (Option.some.inj (H.trans (congrArg some hT_))) Bool.false_ne_true
                 ·rw [if_neg c170] at H
                  exact absurd H (by simp)
                ·rw [if_neg c169] at H
                 exact absurd H (by simp)
               ·rw [if_neg c168] at H
                have c168b0 : ((t724.length : Int) == (t713.length : Int)) = false := beq_eq_false_iff_ne.mpr c168
                have c168b1 : ((t724.length : Int) != (t713.length : Int)) = true := bne_iff_ne.mpr c168
                have c168b2 : (t724.length == t713.length) = false := by first | simpa using c168 | (simp at c168 ⊢; omega)
                exact absurd (Option.some.inj (H.trans (congrArg some hT_))) Bool.false_ne_true
              ·replace c167 := Bool.eq_false_iff.mpr c167
               subst c167
               have H1 : (some false) = some r := by rw [if_neg (show ¬ (false = true) by decide)] at H; exact H
               clear H
               have H := H1
               clear H1
               exact absurd (Option.some.inj (H.trans (congrArg some hT_))) Bool.false_ne_true
             all_goals as_aux_lemma =>
              go_upto_region 27 with (fail)
              go_cut [163] (fun v163 wc => ∃ (kq : Nat) (x163_156 : Bool), v163 = .bool x163_156 ∧ Aside0 (laws_FnRows.j5 kq t713 t716 t717 t724 t775 x18_4 x163_156 t718 t719 t720 t721 t722 = some r) ∧ Aside0 (kq ≤ k4) ∧ Aside0 (Kd.R k48 48 wc w.heap.size (fun k_ => some k_ ≠ ((.slice Ao155 t724.length co155) : Value).ownBlock) (.slice Ao14 t713.length co14) t713) ∧ Aside0 (Kd.R k48 48 wc w.heap.size (fun k_ => some k_ ≠ ((.slice Ao14 t713.length co14) : Value).ownBlock) (.slice Ao155 t724.length co155) t724) ∧ Aside0 (wc.heap[gb723]? = some (.cells #[.int .i64 t718, .int .i64 t719, .bool t720, .bool t721, .bool t722] 37 (0, 0))) ∧ Aside0 (wc.heap[gb737]? = some (.cells #[.int .i64 t732, .int .i64 t733, .bool t734, .bool t735, .bool t736] 37 (0, 0))) ∧ Aside0 (wc.heap[gb747]? = some (.cells #[.int .i64 t742, .int .i64 t743, .bool t744, .bool t745, .bool t746] 37 (0, 0))) ∧ Aside0 (Below w.heap.size w wc))
              case first =>
               have H := HC157.out
               clear HC157
               by_cases c158 : x18_4 < (wrap64 (t716 - 1))
               ·rw [if_pos c158] at H
                have c158b0 : decide (x18_4 < (wrap64 (t716 - 1))) = true := decide_eq_true c158
                clear c158
                (first | rw [c158b0] | (simp only [i64_w, i32_w]; rw [c158b0]) | skip)
                have H' := am H
                clear H
                go_wp2
                go_meet
                case rel => exact ⟨_, (true), (by first | rfl | (simp; done) | (simp [*]; done)), H', ⟨by have := HJ9.out; have := HJ110.out; have := HJ122.out; have := HK4.out; first | omega | exact Nat.le_refl _⟩, ⟨rr HO_3⟩, ⟨rr HO_7⟩, ⟨rk BK723⟩, ⟨rk BK737⟩, ⟨rk BK747⟩, ⟨rb3 HB GE723 GE737 GE747⟩⟩
               ·rw [if_neg c158] at H
                have c158b0 : decide (x18_4 < (wrap64 (t716 - 1))) = false := decide_eq_false c158
                clear c158
                (first | rw [c158b0] | (simp only [i64_w, i32_w]; rw [c158b0]) | skip)
                have H' := am H
                clear H
                go_wp2
                go_meet
                case rel => exact ⟨_, (decide (x18_4 > (wrap64 (t716 + t775)))), (by first | rfl | (simp; done) | (simp [*]; done)), H', ⟨by have := HJ9.out; have := HJ110.out; have := HJ122.out; have := HK4.out; first | omega | exact Nat.le_refl _⟩, ⟨rr HO_3⟩, ⟨rr HO_7⟩, ⟨rk BK723⟩, ⟨rk BK737⟩, ⟨rk BK747⟩, ⟨rb3 HB GE723 GE737 GE747⟩⟩
              case rest => as_aux_lemma =>
               clear HC157
               try clear c1
               try clear c2
               try clear p2
               try clear c3
               try clear c4
               try clear c5
               try clear c6
               try clear p6
               try clear c7
               try clear p7
               try clear q7
               try clear hx7
               try clear c8
               try clear c9
               try clear c10
               try clear c11
               try clear c12
               try clear c13
               try clear c14
               try clear c15
               try clear c16
               try clear c17
               try clear c18
               try clear c21
               try clear c24
               try clear c25
               try clear c30
               try clear c33
               try clear c36
               try clear c39
               try clear c39b0
               try clear c39b1
               try clear c39b2
               try clear c40
               try clear c41
               try clear c46
               try clear c59
               try clear c60
               try clear p64
               try clear c65
               try clear p76
               try clear q76
               try clear hx76
               try clear c78
               try clear c79
               try clear c84
               try clear c93
               try clear c94
               try clear c99
               try clear c104
               try clear c105
               try clear c110
               try clear c112
               try clear c112b0
               try clear c112b1
               try clear c114
               try clear c122
               try clear c125
               try clear c125b0
               try clear c125b1
               try clear c126
               try clear c126b0
               try clear c127
               try clear c127b0
               try clear c128
               try clear c128b0
               try clear c129
               try clear c129b0
               try clear c133
               try clear c134
               try clear c134b0
               try clear c134b1
               try clear c134b2
               try clear c137
               try clear c139
               try clear c140
               try clear c145
               try clear c146
               try clear c152
               try clear c152b0
               try clear c152b1
               try clear c152b2
               try clear c156
               try clear c156b0
               try clear c158
               try clear c158b0
               try clear hcz100_0
               try clear hcz100_1
               try clear hcz100_2
               try clear hcz100_3
               try clear hcz100_4
               try clear hcz106_0
               try clear hcz106_1
               try clear hcz106_2
               try clear hcz106_3
               try clear hcz106_4
               try clear hcz13_0
               try clear hcz13_1
               try clear hcz13_2
               try clear hcz13_3
               try clear hcz13_4
               try clear hcz141_0
               try clear hcz141_1
               try clear hcz141_2
               try clear hcz141_3
               try clear hcz141_4
               try clear hcz147_0
               try clear hcz147_1
               try clear hcz147_2
               try clear hcz147_3
               try clear hcz147_4
               try clear hcz19_0
               try clear hcz19_1
               try clear hcz19_2
               try clear hcz19_3
               try clear hcz19_4
               try clear hcz26_0
               try clear hcz26_1
               try clear hcz26_2
               try clear hcz26_3
               try clear hcz26_4
               try clear hcz42_0
               try clear hcz42_1
               try clear hcz42_2
               try clear hcz42_3
               try clear hcz42_4
               try clear hcz47_0
               try clear hcz47_1
               try clear hcz47_2
               try clear hcz47_3
               try clear hcz47_4
               try clear hcz51_0
               try clear hcz51_1
               try clear hcz51_2
               try clear hcz51_3
               try clear hcz51_4
               try clear hcz61_0
               try clear hcz61_1
               try clear hcz61_2
               try clear hcz61_3
               try clear hcz61_4
               try clear hcz66_0
               try clear hcz66_1
               try clear hcz66_2
               try clear hcz66_3
               try clear hcz66_4
               try clear hcz70_0
               try clear hcz70_1
               try clear hcz70_2
               try clear hcz70_3
               try clear hcz70_4
               try clear hcz80_0
               try clear hcz80_1
               try clear hcz80_2
               try clear hcz80_3
               try clear hcz80_4
               try clear hcz85_0
               try clear hcz85_1
               try clear hcz85_2
               try clear hcz85_3
               try clear hcz85_4
               try clear hcz89_0
               try clear hcz89_1
               try clear hcz89_2
               try clear hcz89_3
               try clear hcz89_4
               try clear hcz95_0
               try clear hcz95_1
               try clear hcz95_2
               try clear hcz95_3
               try clear hcz95_4
               try clear hfz100_0
               try clear hfz100_1
               try clear hfz100_2
               try clear hfz100_3
               try clear hfz100_4
               try clear hfz106_0
               try clear hfz106_1
               try clear hfz106_2
               try clear hfz106_3
               try clear hfz106_4
               try clear hfz13_0
               try clear hfz13_1
               try clear hfz13_2
               try clear hfz13_3
               try clear hfz13_4
               try clear hfz141_0
               try clear hfz141_1
               try clear hfz141_2
               try clear hfz141_3
               try clear hfz141_4
               try clear hfz147_0
               try clear hfz147_1
               try clear hfz147_2
               try clear hfz147_3
               try clear hfz147_4
               try clear hfz19_0
               try clear hfz19_1
               try clear hfz19_2
               try clear hfz19_3
               try clear hfz19_4
               try clear hfz26_0
               try clear hfz26_1
               try clear hfz26_2
               try clear hfz26_3
               try clear hfz26_4
               try clear hfz42_0
               try clear hfz42_1
               try clear hfz42_2
               try clear hfz42_3
               try clear hfz42_4
               try clear hfz47_0
               try clear hfz47_1
               try clear hfz47_2
               try clear hfz47_3
               try clear hfz47_4
               try clear hfz51_0
               try clear hfz51_1
               try clear hfz51_2
               try clear hfz51_3
               try clear hfz51_4
               try clear hfz61_0
               try clear hfz61_1
               try clear hfz61_2
               try clear hfz61_3
               try clear hfz61_4
               try clear hfz66_0
               try clear hfz66_1
               try clear hfz66_2
               try clear hfz66_3
               try clear hfz66_4
               try clear hfz70_0
               try clear hfz70_1
               try clear hfz70_2
               try clear hfz70_3
               try clear hfz70_4
               try clear hfz80_0
               try clear hfz80_1
               try clear hfz80_2
               try clear hfz80_3
               try clear hfz80_4
               try clear hfz85_0
               try clear hfz85_1
               try clear hfz85_2
               try clear hfz85_3
               try clear hfz85_4
               try clear hfz89_0
               try clear hfz89_1
               try clear hfz89_2
               try clear hfz89_3
               try clear hfz89_4
               try clear hfz95_0
               try clear hfz95_1
               try clear hfz95_2
               try clear hfz95_3
               try clear hfz95_4
               try clear hx769_0
               try clear hx769_1
               try clear hx769_2
               try clear hx769_3
               try clear hx769_4
               try clear hx769_5
               try clear hx769_6
               try clear p2
               try clear p6
               try clear p64
               try clear p7
               try clear p76
               try clear p769
               try clear q7
               try clear q76
               try clear q769
               obtain ⟨kq, x163_156, rfl, HA, HJ156, HO_3, HO_7, BK723, BK737, BK747, HB⟩ := hcut
               cases kq with
               | zero => exact absurd HA.out (by simp [laws_FnRows.j5])
               | succ kj156 =>
                have H := HA.out
                clear HA
                simp only [laws_FnRows.j5] at H
                by_cases c159 : x163_156 = true
                ·as_aux_lemma =>
                 subst c159
                 rw [if_pos rfl] at H
                 refine em_ (p := 0 ≤ x18_4) (fun c160 => ?g18p) (fun c160 => ?g18n)
                 case' g18p =>
                  rw [if_pos c160] at H
                  have c160b0 : decide (0 ≤ x18_4) = true := decide_eq_true c160
                  clear c160
                  refine em_ (p := x18_4 < (t724.length : Int)) (fun c161 => ?g17p) (fun c161 => ?g17n)
                  case' g17p =>
                   rw [if_pos c161] at H
                   have c161b0 : decide (x18_4 < (t724.length : Int)) = true := decide_eq_true c161
                   clear c161
                   refine em_ (p := x18_4 < (t713.length : Int)) (fun c162 => ?g16p) (fun c162 => ?g16n)
                   case' g16p =>
                    rw [if_pos c162] at H
                    have c162b0 : decide (x18_4 < (t713.length : Int)) = true := decide_eq_true c162
                    clear c162
                    refine em_ (p := (!(((rd_T48 t724 x18_4).f0) == ((rd_T48 t713 x18_4).f0)) || ((!(((rd_T48 t724 x18_4).f1.f0) == ((rd_T48 t713 x18_4).f1.f0)) || (!(((rd_T48 t724 x18_4).f1.f1) == ((rd_T48 t713 x18_4).f1.f1)) || (!(((rd_T48 t724 x18_4).f1.f2) == ((rd_T48 t713 x18_4).f1.f2)) || (!(((rd_T48 t724 x18_4).f1.f3) == ((rd_T48 t713 x18_4).f1.f3)) || (!(((rd_T48 t724 x18_4).f1.f4) == ((rd_T48 t713 x18_4).f1.f4))))))) || (!(((rd_T48 t724 x18_4).f2) == ((rd_T48 t713 x18_4).f2))))) = true) (fun c163 => ?g15p) (fun c163 => ?g15n)
                    case g15p =>
                     rw [if_pos c163] at H
                     have c163b0 : (!(((rd_T48 t724 x18_4).f0) == ((rd_T48 t713 x18_4).f0)) || ((!(((rd_T48 t724 x18_4).f1.f0) == ((rd_T48 t713 x18_4).f1.f0)) || (!(((rd_T48 t724 x18_4).f1.f1) == ((rd_T48 t713 x18_4).f1.f1)) || (!(((rd_T48 t724 x18_4).f1.f2) == ((rd_T48 t713 x18_4).f1.f2)) || (!(((rd_T48 t724 x18_4).f1.f3) == ((rd_T48 t713 x18_4).f1.f3)) || (!(((rd_T48 t724 x18_4).f1.f4) == ((rd_T48 t713 x18_4).f1.f4))))))) || (!(((rd_T48 t724 x18_4).f2) == ((rd_T48 t713 x18_4).f2))))) = true := c163
                     clear c163
                     exact absurd (Option.some.inj (H.trans (congrArg some hT_))) Bool.false_ne_true
                    case' g15n =>
                     rw [if_neg c163] at H
                     have c163b0 : (!(((rd_T48 t724 x18_4).f0) == ((rd_T48 t713 x18_4).f0)) || ((!(((rd_T48 t724 x18_4).f1.f0) == ((rd_T48 t713 x18_4).f1.f0)) || (!(((rd_T48 t724 x18_4).f1.f1) == ((rd_T48 t713 x18_4).f1.f1)) || (!(((rd_T48 t724 x18_4).f1.f2) == ((rd_T48 t713 x18_4).f1.f2)) || (!(((rd_T48 t724 x18_4).f1.f3) == ((rd_T48 t713 x18_4).f1.f3)) || (!(((rd_T48 t724 x18_4).f1.f4) == ((rd_T48 t713 x18_4).f1.f4))))))) || (!(((rd_T48 t724 x18_4).f2) == ((rd_T48 t713 x18_4).f2))))) = false := by simpa using c163
                     clear c163
                     have H' := am H
                     clear H
                     have lf23_ := trivial
                   case g16n =>
                    rw [if_neg c162] at H
                    exact absurd H (by simp)
                  case g17n =>
                   rw [if_neg c161] at H
                   exact absurd H (by simp)
                 case g18n =>
                  rw [if_neg c160] at H
                  exact absurd H (by simp)
                 all_goals as_aux_lemma =>
                  try go_wp2
                  have n0_ := am (Kd.R_drew HO_3.out)
                  have n1_ := am (Kd.R_drew HO_7.out)
                  have n2_ := am (blk_drew BK723.out)
                  have n3_ := am (blk_drew BK737.out)
                  have n4_ := am (blk_drew BK747.out)
                  have n5_ := am (below_drew1 HB.out)
                  clear HO_3
                  clear HO_7
                  clear BK723
                  clear BK737
                  clear BK747
                  clear HB
                  have HO_3 := n0_
                  have HO_7 := n1_
                  have BK723 := n2_
                  have BK737 := n3_
                  have BK747 := n4_
                  have HB := n5_
                  clear n0_ n1_ n2_ n3_ n4_ n5_
                  have p783 : 0 ≤ (x18_4 : Int) := dt_
                  have q783 : x18_4 < (t724.length : Int) := dt_
                  obtain ⟨ad783, e783, hx783_0, hx783_1, hx783_2, hx783_3, hx783_4, hx783_5, hx783_6⟩ := at_T48 (Kd.R_reads' HO_7.out).2.2 x18_4 p783 q783
                  cases e783
                  replace p783 := eq_true p783
                  replace q783 := eq_true q783
                  have p784 : 0 ≤ (x18_4 : Int) := dt_
                  have q784 : x18_4 < (t713.length : Int) := dt_
                  obtain ⟨ad784, e784, hx784_0, hx784_1, hx784_2, hx784_3, hx784_4, hx784_5, hx784_6⟩ := at_T48 (Kd.R_reads' HO_3.out).2.2 x18_4 p784 q784
                  cases e784
                  replace p784 := eq_true p784
                  replace q784 := eq_true q784
                  refine start_ (n := 9) (S := fun w' => w'.cell? (ad783.add ((x18_4).toNat * 7)) = some (.int .i64 ((rd_T48 t724 x18_4).f0)) ∧ w'.cell? ⟨(ad783.add ((x18_4).toNat * 7)).block, (ad783.add ((x18_4).toNat * 7)).off + 1, none⟩ = some (.int .i64 ((rd_T48 t724 x18_4).f1.f0)) ∧ w'.cell? ⟨(ad783.add ((x18_4).toNat * 7)).block, (ad783.add ((x18_4).toNat * 7)).off + 2, none⟩ = some (.int .i64 ((rd_T48 t724 x18_4).f1.f1)) ∧ w'.cell? ⟨(ad783.add ((x18_4).toNat * 7)).block, (ad783.add ((x18_4).toNat * 7)).off + 3, none⟩ = some (.bool ((rd_T48 t724 x18_4).f1.f2)) ∧ w'.cell? ⟨(ad783.add ((x18_4).toNat * 7)).block, (ad783.add ((x18_4).toNat * 7)).off + 4, none⟩ = some (.bool ((rd_T48 t724 x18_4).f1.f3)) ∧ w'.cell? ⟨(ad783.add ((x18_4).toNat * 7)).block, (ad783.add ((x18_4).toNat * 7)).off + 5, none⟩ = some (.bool ((rd_T48 t724 x18_4).f1.f4)) ∧ w'.cell? ⟨(ad783.add ((x18_4).toNat * 7)).block, (ad783.add ((x18_4).toNat * 7)).off + 6, none⟩ = some (.int .i64 ((rd_T48 t724 x18_4).f2)) ∧ w'.cell? (ad784.add ((x18_4).toNat * 7)) = some (.int .i64 ((rd_T48 t713 x18_4).f0)) ∧ w'.cell? ⟨(ad784.add ((x18_4).toNat * 7)).block, (ad784.add ((x18_4).toNat * 7)).off + 1, none⟩ = some (.int .i64 ((rd_T48 t713 x18_4).f1.f0)) ∧ w'.cell? ⟨(ad784.add ((x18_4).toNat * 7)).block, (ad784.add ((x18_4).toNat * 7)).off + 2, none⟩ = some (.int .i64 ((rd_T48 t713 x18_4).f1.f1)) ∧ w'.cell? ⟨(ad784.add ((x18_4).toNat * 7)).block, (ad784.add ((x18_4).toNat * 7)).off + 3, none⟩ = some (.bool ((rd_T48 t713 x18_4).f1.f2)) ∧ w'.cell? ⟨(ad784.add ((x18_4).toNat * 7)).block, (ad784.add ((x18_4).toNat * 7)).off + 4, none⟩ = some (.bool ((rd_T48 t713 x18_4).f1.f3)) ∧ w'.cell? ⟨(ad784.add ((x18_4).toNat * 7)).block, (ad784.add ((x18_4).toNat * 7)).off + 5, none⟩ = some (.bool ((rd_T48 t713 x18_4).f1.f4)) ∧ w'.cell? ⟨(ad784.add ((x18_4).toNat * 7)).block, (ad784.add ((x18_4).toNat * 7)).off + 6, none⟩ = some (.int .i64 ((rd_T48 t713 x18_4).f2))) (ds := []) (bm 9 0) (by kernel_rfl) rfl rfl ⟨hx783_0, hx783_1, hx783_2, hx783_3, hx783_4, hx783_5, hx783_6, hx784_0, hx784_1, hx784_2, hx784_3, hx784_4, hx784_5, hx784_6⟩ (fun hHeld => ?_); refine with_tabW laws_FnRows.tab28 laws_FnRows.bits28 (fun HT_ HW_ => ?_)
                  generalize wc.drew = w165 at HO_3 HO_7 BK723 BK737 BK747 HB hx783_0 hx783_1 hx783_2 hx783_3 hx783_4 hx783_5 hx783_6 hx784_0 hx784_1 hx784_2 hx784_3 hx784_4 hx784_5 hx784_6 hHeld ⊢
                  refine pu_ 0 164 (bm 9 1) HT_.out ?_
                  refine pu_ 1 165 (bm 9 3) HT_.out ?_
                  refine pu_ 2 166 (bm 9 7) HT_.out ?_
                  refine pu_ 4 168 (bm 9 23) HT_.out ?_
                  refine pu_ 5 169 (bm 9 55) HT_.out ?_
                  refine pu_ 6 170 (bm 9 119) HT_.out ?_
                  refine take_ (i := 3) (N := some 167) (v := ?_) (a' := ?_) (bm 9 127) rfl rfl (take_ofW HT_.out HW_.out (by kernel_rfl)) (fun _ _ _ h => h) (Or.inl ⟨by rfl, ?_⟩) hHeld ?_ ?_
                  rotate_left
                  ·rintro w' ⟨s0, s1, s2, s3, s4, s5, s6, s7, s8, s9, s10, s11, s12, s13⟩
                   go_simp
                   with_reducible rfl
                  rotate_left
                  ·simp only [Act.put, List.setIfInBounds_toArray, List.set_cons_zero, List.set_cons_succ, i64_w, i32_w]
                   rfl
                  refine take_ (i := 7) (N := some 171) (v := ?_) (a' := ?_) (bm 9 255) rfl rfl (take_ofW HT_.out HW_.out (by kernel_rfl)) (fun _ _ _ h => h) (Or.inl ⟨by rfl, ?_⟩) hHeld ?_ ?_
                  rotate_left
                  ·rintro w' ⟨s0, s1, s2, s3, s4, s5, s6, s7, s8, s9, s10, s11, s12, s13⟩
                   go_simp
                   with_reducible rfl
                  rotate_left
                  ·simp only [Act.put, List.setIfInBounds_toArray, List.set_cons_zero, List.set_cons_succ, i64_w, i32_w]
                   rfl
                  refine pu_ 8 172 (bm 9 511) HT_.out ?_
                  refine done_ (done_of HT_.out (by kernel_rfl)) ?_
                  try go_wp2
                  go_roundg kj156
                  case measure => have := HJ9.out; have := HJ110.out; have := HJ122.out; have := HK4.out; have := HJ156.out; omega
                  case rel => exact ⟨(wrap64 (x18_4 + 1)), (by first | rfl | (simp; done) | (simp [*]; done)), H', ⟨by have := HJ9.out; have := HJ110.out; have := HJ122.out; have := HK4.out; have := HJ156.out; omega⟩, ⟨rr HO_3⟩, ⟨rr HO_7⟩, ⟨rk BK723⟩, ⟨rk BK737⟩, ⟨rk BK747⟩, ⟨rb3 HB GE723 GE737 GE747⟩⟩
                ·replace c159 := Bool.eq_false_iff.mpr c159
                 subst c159
                 rw [if_neg (show ¬ (false = true) by decide)] at H
                 have H' := am H
                 clear H
                 go_wp2
                 go_roundg kj156
                 case measure => have := HJ9.out; have := HJ110.out; have := HJ122.out; have := HK4.out; have := HJ156.out; omega
                 case rel => exact ⟨(wrap64 (x18_4 + 1)), (by first | rfl | (simp; done) | (simp [*]; done)), H', ⟨by have := HJ9.out; have := HJ110.out; have := HJ122.out; have := HK4.out; have := HJ156.out; omega⟩, ⟨rr HO_3⟩, ⟨rr HO_7⟩, ⟨rk BK723⟩, ⟨rk BK737⟩, ⟨rk BK747⟩, ⟨rb3 HB GE723 GE737 GE747⟩⟩

/-- THE ONE PURE STATEMENT of laws_FnRows: yours. -/
def laws_FnRows.Pure : Prop := ∀ (l0 : List Int), l0.length ≤ maxLen → l0.length * 1 ≤ 140737488351232 → (∀ x ∈ l0, (Lit.int .u8 x).wf = true) → ∃ k, laws_FnRows.f k l0 = some true
theorem laws_FnRows.walk (P : laws_FnRows.Pure) (a0 : Option Addr) (len0 cap0 : Nat) (z0 : List Int) (w : World) (w0 : (a0 = none ∧ len0 = 0 ∧ cap0 = 0 ∧ z0 = []) ∨ ∃ x, a0 = some x ∧ len0 ≤ cap0 ∧ cap0 ≤ maxLen ∧ z0.length = cap0 ∧ (∀ i, i < z0.length → w.cell? (x.add i) = some (.int .u8 (z0.getD i 0))) ∧ ∀ n ∈ z0, (Lit.int .u8 n).wf = true) (y0 : len0 * 1 ≤ 140737488351232) :
  Calls Tryd.prog 4 #[.slice a0 len0 cap0] w fun e w' => e = .returned (.bool true) ∧ Below w.heap.size w w' := by
 obtain ⟨l0, rfl, hr0, hm0, hw0, hc0⟩ := ReadsInt.ofRowC w0
 obtain ⟨k, h⟩ := P l0 hm0 y0 hw0
 refine (laws_FnRows.calls k _ _ l0 true w (Kd.C_of_reads (d := (0 : Int)) (h1 := fun _ => rfl) hr0) hc0 h rfl).mono ?_
 rintro e w' ⟨rfl, hd⟩
 exact ⟨rfl, hd⟩

end Go.Proofs.YtepeanpoicefdaaDoor.PB
