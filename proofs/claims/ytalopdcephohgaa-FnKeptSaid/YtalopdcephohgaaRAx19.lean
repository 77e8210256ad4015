/- Contracts of Go functions that laws of this seat reach: each Lean function answers as its Go function does. No condition. Written by wip/tools/inj.py, over the kit's print. -/
import Derived.Test.YtalopdcephohgaaRAx0
import Derived.Test.YtalopdcephohgaaRAx1
import Derived.Test.YtalopdcephohgaaRAx2
import Derived.Test.YtalopdcephohgaaRAx3
import Derived.Test.YtalopdcephohgaaRAx4
import Derived.Test.YtalopdcephohgaaRAx6
import Derived.Test.YtalopdcephohgaaRAx7
import Derived.Test.YtalopdcephohgaaRAx8
import Derived.Test.YtalopdcephohgaaRAx9
import Derived.Test.YtalopdcephohgaaRAx10
import Derived.Test.YtalopdcephohgaaRAx12
import Derived.Test.YtalopdcephohgaaRAx13
import Derived.Test.YtalopdcephohgaaRAx14
import Derived.Test.YtalopdcephohgaaRAx17
import Derived.Test.YtalopdcephohgaaRAx18
namespace Go.Proofs.Ytalopdcephohgaa.RA
open Go.RowKit Go.Proofs.YtalopdcephohgaaW.PrintWords Go.Proofs.YtalopdcephohgaaW.PrintLast Go.Proofs.YtalopdcephohgaaW.PrintMore
attribute [local go_sem] max2_int min2_int max_two min_two max_three min_three max_four min_four   -- for this text's walks alone
set_option linter.unusedVariables false
set_option linter.unusedSimpArgs false

/-! ### laws_FnKept: function 3 -/
mutual
def laws_FnKept.j0 : Nat → ByteArray → Bool → Int → ByteArray → Bool → List Int → Int → Bool → Bool → Int → List ByteArray → Int → Int → List ByteArray → Int → Int → List ByteArray → Int → Int → List ByteArray → Int → Int → List ByteArray → Int → Option (Bool)
 | 0, _, _, _, _, _, _, _, _, _, _, _, _, _, _, _, _, _, _, _, _, _, _, _, _ => none
 | k + 1, x4, x6, x8, x9, x10, x13, x14, x16, x102, x425000, x425001, x425002, x432000, x432001, x432002, x439000, x439001, x439002, x448000, x448001, x448002, x459000, x459001, x459002 => if x102 = true then (some false) else ((spec_LineAt.f k x439000 x439001 x439002 x8).bind fun bt473 => (if (x10 != bt473.2) = true then (laws_FnKept.j1 k x4 x6 x13 x14 x16 true x425000 x425001 x425002 x432000 x432001 x432002 x448000 x448001 x448002 x459000 x459001 x459002) else (laws_FnKept.j1 k x4 x6 x13 x14 x16 (x9.toList != bt473.1.toList) x425000 x425001 x425002 x432000 x432001 x432002 x448000 x448001 x448002 x459000 x459001 x459002)))
def laws_FnKept.j1 : Nat → ByteArray → Bool → List Int → Int → Bool → Bool → Int → List ByteArray → Int → Int → List ByteArray → Int → Int → List ByteArray → Int → Int → List ByteArray → Int → Option (Bool)
 | 0, _, _, _, _, _, _, _, _, _, _, _, _, _, _, _, _, _, _ => none
 | k + 1, x4, x6, x13, x14, x16, x116, x425000, x425001, x425002, x432000, x432001, x432002, x448000, x448001, x448002, x459000, x459001, x459002 => if x116 = true then (some false) else ((spec_NewHistory.f x14).bind fun bt475 => (if (x16 != bt475.2.2.2) = true then (laws_FnKept.j2 k x4 x6 x13 true x425000 x425001 x425002 x432000 x432001 x432002 x448000 x448001 x448002) else ((laws_likeHistory.f k x459000 x459001 x459002 bt475.1 bt475.2.1 bt475.2.2.1).bind fun t482 => (laws_FnKept.j2 k x4 x6 x13 (!t482) x425000 x425001 x425002 x432000 x432001 x432002 x448000 x448001 x448002))))
def laws_FnKept.j2 : Nat → ByteArray → Bool → List Int → Bool → Int → List ByteArray → Int → Int → List ByteArray → Int → Int → List ByteArray → Int → Option (Bool)
 | 0, _, _, _, _, _, _, _, _, _, _, _, _, _ => none
 | k + 1, x4, x6, x13, x130, x425000, x425001, x425002, x432000, x432001, x432002, x448000, x448001, x448002 => if x130 = true then (some false) else (laws_FnKept.l0 k x4 x6 x13 0 x425000 x425001 x425002 x432000 x432001 x432002 x448000 x448001 x448002)
def laws_FnKept.l0 : Nat → ByteArray → Bool → List Int → Int → Int → List ByteArray → Int → Int → List ByteArray → Int → Int → List ByteArray → Int → Option (Bool)
 | 0, _, _, _, _, _, _, _, _, _, _, _, _, _ => none
 | k + 1, x4, x6, x13, x23, x425000, x425001, x425002, x432000, x432001, x432002, x448000, x448001, x448002 => if x23 < (x13.length : Int) then (if 0 ≤ x23 then ((impl_LineAt.f k x448000 x448001 x448002 (rd x13 x23)).bind fun bt484 => (if bt484.2 = true then (if x23 > 0 then (if 0 ≤ (wrap64 (x23 - 1)) then (if (wrap64 (x23 - 1)) < (x13.length : Int) then (if (rd x13 x23) ≤ (rd x13 (wrap64 (x23 - 1))) then (some false) else (laws_FnKept.l0 k x4 x6 x13 (wrap64 (x23 + 1)) x425000 x425001 x425002 x432000 x432001 x432002 x448000 x448001 x448002)) else (none)) else (none)) else (laws_FnKept.l0 k x4 x6 x13 (wrap64 (x23 + 1)) x425000 x425001 x425002 x432000 x432001 x432002 x448000 x448001 x448002)) else (some false))) else (none)) else (if x6 = true then ((impl_LineAt.f k x432000 x432001 x432002 (wrap64 (x425002 + (x425001.length : Int)))).bind fun bt489 => (if bt489.2 = true then (if bt489.1.toList = x4.toList then ((impl_HistoryOk.f k x432000 x432001 x432002).bind fun t491 => (if t491 = true then (laws_FnKept.j4 k (wrap64 (x425002 + (x425001.length : Int))) ((wrap64 (x432002 + (x432001.length : Int))) != (wrap64 ((wrap64 (x425002 + (x425001.length : Int))) + 1))) x425000 x425001 x425002 x432000 x432001 x432002) else (laws_FnKept.j4 k (wrap64 (x425002 + (x425001.length : Int))) true x425000 x425001 x425002 x432000 x432001 x432002))) else (laws_FnKept.j4 k (wrap64 (x425002 + (x425001.length : Int))) true x425000 x425001 x425002 x432000 x432001 x432002)) else (laws_FnKept.j4 k (wrap64 (x425002 + (x425001.length : Int))) true x425000 x425001 x425002 x432000 x432001 x432002))) else ((laws_likeHistory.f k x432000 x432001 x432002 0 ([] : List ByteArray) 0).bind fun t488 => (some t488)))
def laws_FnKept.j4 : Nat → Int → Bool → Int → List ByteArray → Int → Int → List ByteArray → Int → Option (Bool)
 | 0, _, _, _, _, _, _, _, _ => none
 | k + 1, x26, x203, x425000, x425001, x425002, x432000, x432001, x432002 => if x203 = true then (some false) else (laws_FnKept.l1 k x26 x432002 x425000 x425001 x425002 x432000 x432001 x432002)
def laws_FnKept.l1 : Nat → Int → Int → Int → List ByteArray → Int → Int → List ByteArray → Int → Option (Bool)
 | 0, _, _, _, _, _, _, _, _ => none
 | k + 1, x26, x29, x425000, x425001, x425002, x432000, x432001, x432002 => if x29 < x26 then ((impl_LineAt.f k x432000 x432001 x432002 x29).bind fun bt492 => ((impl_LineAt.f k x425000 x425001 x425002 x29).bind fun bt494 => (if bt492.2 = true then (if bt494.2 = true then (if bt492.1.toList = bt494.1.toList then (laws_FnKept.l1 k x26 (wrap64 (x29 + 1)) x425000 x425001 x425002 x432000 x432001 x432002) else (some false)) else (some false)) else (some false)))) else (some true)
end
def laws_FnKept.f (k : Nat) (l0 : List Int) : Option (Bool) := (laws_big.f l0).bind fun t417 => (if t417 = true then (some true) else ((spec_DrawKeep.f k l0).bind fun bt418 => ((impl_Keep.f k bt418.1 bt418.2.1 bt418.2.2.1 bt418.2.2.2).bind fun bt425 => ((spec_DrawLineAt.f k l0).bind fun bt432 => ((impl_LineAt.f k bt432.1 bt432.2.1 bt432.2.2.1 bt432.2.2.2).bind fun bt439 => ((spec_DrawLooked.f k l0).bind fun bt441 => ((impl_Looked.f k bt441.1 bt441.2.1 bt441.2.2.1 bt441.2.2.2).bind fun t448 => ((spec_DrawNewHistory.f k l0).bind fun t451 => ((impl_NewHistory.f t451).bind fun bt452 => ((spec_Keep.f k bt418.1 bt418.2.1 bt418.2.2.1 bt418.2.2.2).bind fun bt459 => (if (bt425.2.2.2 != bt459.2.2.2) = true then (laws_FnKept.j0 k bt418.2.2.2 bt425.2.2.2 bt432.2.2.2 bt439.1 bt439.2 t448 t451 bt452.2.2.2 true bt418.1 bt418.2.1 bt418.2.2.1 bt425.1 bt425.2.1 bt425.2.2.1 bt432.1 bt432.2.1 bt432.2.2.1 bt441.1 bt441.2.1 bt441.2.2.1 bt452.1 bt452.2.1 bt452.2.2.1) else ((laws_likeHistory.f k bt425.1 bt425.2.1 bt425.2.2.1 bt459.1 bt459.2.1 bt459.2.2.1).bind fun t466 => (if t466 = true then ((impl_HistoryOk.f k bt418.1 bt418.2.1 bt418.2.2.1).bind fun t467 => ((spec_HistoryOk.f k bt418.1 bt418.2.1 bt418.2.2.1).bind fun t468 => (if (t467 != t468) = true then (laws_FnKept.j0 k bt418.2.2.2 bt425.2.2.2 bt432.2.2.2 bt439.1 bt439.2 t448 t451 bt452.2.2.2 true bt418.1 bt418.2.1 bt418.2.2.1 bt425.1 bt425.2.1 bt425.2.2.1 bt432.1 bt432.2.1 bt432.2.2.1 bt441.1 bt441.2.1 bt441.2.2.1 bt452.1 bt452.2.1 bt452.2.2.1) else ((spec_Looked.f k bt441.1 bt441.2.1 bt441.2.2.1 bt441.2.2.2).bind fun t469 => ((laws_likeInts.f k t448 t469).bind fun t472 => (laws_FnKept.j0 k bt418.2.2.2 bt425.2.2.2 bt432.2.2.2 bt439.1 bt439.2 t448 t451 bt452.2.2.2 (!t472) bt418.1 bt418.2.1 bt418.2.2.1 bt425.1 bt425.2.1 bt425.2.2.1 bt432.1 bt432.2.1 bt432.2.2.1 bt441.1 bt441.2.1 bt441.2.2.1 bt452.1 bt452.2.1 bt452.2.2.1)))))) else (laws_FnKept.j0 k bt418.2.2.2 bt425.2.2.2 bt432.2.2.2 bt439.1 bt439.2 t448 t451 bt452.2.2.2 true bt418.1 bt418.2.1 bt418.2.2.1 bt425.1 bt425.2.1 bt425.2.2.1 bt432.1 bt432.2.1 bt432.2.2.1 bt441.1 bt441.2.1 bt441.2.2.1 bt452.1 bt452.2.1 bt452.2.2.1))))))))))))))
theorem laws_FnKept.mono_l : ∀ k, (∀ y0 y1 y2 y3 y4 y5 y6 y7 y8 y9 y10 y11 y12 y13 y14 y15 y16 y17 y18 y19 y20 y21 y22 y23, LeO (laws_FnKept.j0 k y0 y1 y2 y3 y4 y5 y6 y7 y8 y9 y10 y11 y12 y13 y14 y15 y16 y17 y18 y19 y20 y21 y22 y23) (laws_FnKept.j0 (k + 1) y0 y1 y2 y3 y4 y5 y6 y7 y8 y9 y10 y11 y12 y13 y14 y15 y16 y17 y18 y19 y20 y21 y22 y23)) ∧ (∀ y0 y1 y2 y3 y4 y5 y6 y7 y8 y9 y10 y11 y12 y13 y14 y15 y16 y17, LeO (laws_FnKept.j1 k y0 y1 y2 y3 y4 y5 y6 y7 y8 y9 y10 y11 y12 y13 y14 y15 y16 y17) (laws_FnKept.j1 (k + 1) y0 y1 y2 y3 y4 y5 y6 y7 y8 y9 y10 y11 y12 y13 y14 y15 y16 y17)) ∧ (∀ y0 y1 y2 y3 y4 y5 y6 y7 y8 y9 y10 y11 y12, LeO (laws_FnKept.j2 k y0 y1 y2 y3 y4 y5 y6 y7 y8 y9 y10 y11 y12) (laws_FnKept.j2 (k + 1) y0 y1 y2 y3 y4 y5 y6 y7 y8 y9 y10 y11 y12)) ∧ (∀ y0 y1 y2 y3 y4 y5 y6 y7 y8 y9 y10 y11 y12, LeO (laws_FnKept.l0 k y0 y1 y2 y3 y4 y5 y6 y7 y8 y9 y10 y11 y12) (laws_FnKept.l0 (k + 1) y0 y1 y2 y3 y4 y5 y6 y7 y8 y9 y10 y11 y12)) ∧ (∀ y0 y1 y2 y3 y4 y5 y6 y7, LeO (laws_FnKept.j4 k y0 y1 y2 y3 y4 y5 y6 y7) (laws_FnKept.j4 (k + 1) y0 y1 y2 y3 y4 y5 y6 y7)) ∧ (∀ y0 y1 y2 y3 y4 y5 y6 y7, LeO (laws_FnKept.l1 k y0 y1 y2 y3 y4 y5 y6 y7) (laws_FnKept.l1 (k + 1) y0 y1 y2 y3 y4 y5 y6 y7))
 | 0 => ⟨fun _ _ _ _ _ _ _ _ _ _ _ _ _ _ _ _ _ _ _ _ _ _ _ _ r h => by simp [laws_FnKept.j0] at h, fun _ _ _ _ _ _ _ _ _ _ _ _ _ _ _ _ _ _ r h => by simp [laws_FnKept.j1] at h, fun _ _ _ _ _ _ _ _ _ _ _ _ _ r h => by simp [laws_FnKept.j2] at h, fun _ _ _ _ _ _ _ _ _ _ _ _ _ r h => by simp [laws_FnKept.l0] at h, fun _ _ _ _ _ _ _ _ r h => by simp [laws_FnKept.j4] at h, fun _ _ _ _ _ _ _ _ r h => by simp [laws_FnKept.l1] at h⟩
 | k + 1 => by
  obtain ⟨ih0, ih1, ih2, ih3, ih4, ih5⟩ := laws_FnKept.mono_l k
  refine ⟨?_, ?_, ?_, ?_, ?_, ?_⟩
  ·intro y0 y1 y2 y3 y4 y5 y6 y7 y8 y9 y10 y11 y12 y13 y14 y15 y16 y17 y18 y19 y20 y21 y22 y23
   unfold laws_FnKept.j0
   repeat' first
   | (with_reducible exact ih0 _ _ _ _ _ _ _ _ _ _ _ _ _ _ _ _ _ _ _ _ _ _ _ _)
   | (with_reducible exact ih1 _ _ _ _ _ _ _ _ _ _ _ _ _ _ _ _ _ _)
   | (with_reducible exact ih2 _ _ _ _ _ _ _ _ _ _ _ _ _)
   | (with_reducible exact ih3 _ _ _ _ _ _ _ _ _ _ _ _ _)
   | (with_reducible exact ih4 _ _ _ _ _ _ _ _)
   | (with_reducible exact ih5 _ _ _ _ _ _ _ _)
   | (with_reducible exact impl_HistoryOk.mono _ _ _ _)
   | (with_reducible exact impl_Keep.mono _ _ _ _ _)
   | (with_reducible exact impl_LineAt.mono _ _ _ _ _)
   | (with_reducible exact impl_Looked.mono _ _ _ _ _)
   | (with_reducible exact laws_likeHistory.mono _ _ _ _ _ _ _)
   | (with_reducible exact laws_likeInts.mono _ _ _)
   | (with_reducible exact spec_DrawKeep.mono _ _)
   | (with_reducible exact spec_DrawLineAt.mono _ _)
   | (with_reducible exact spec_DrawLooked.mono _ _)
   | (with_reducible exact spec_DrawNewHistory.mono _ _)
   | (with_reducible exact spec_HistoryOk.mono _ _ _ _)
   | (with_reducible exact spec_Keep.mono _ _ _ _ _)
   | (with_reducible exact spec_LineAt.mono _ _ _ _ _)
   | (with_reducible exact spec_Looked.mono _ _ _ _ _)
   | (with_reducible exact LeO.refl _)
   | (with_reducible exact LeO.none _)
   | (with_reducible refine LeO.ite ?_ ?_)
   | (with_reducible refine LeO.bind ?_ (fun _ => ?_))
  ·intro y0 y1 y2 y3 y4 y5 y6 y7 y8 y9 y10 y11 y12 y13 y14 y15 y16 y17
   unfold laws_FnKept.j1
   repeat' first
   | (with_reducible exact ih0 _ _ _ _ _ _ _ _ _ _ _ _ _ _ _ _ _ _ _ _ _ _ _ _)
   | (with_reducible exact ih1 _ _ _ _ _ _ _ _ _ _ _ _ _ _ _ _ _ _)
   | (with_reducible exact ih2 _ _ _ _ _ _ _ _ _ _ _ _ _)
   | (with_reducible exact ih3 _ _ _ _ _ _ _ _ _ _ _ _ _)
   | (with_reducible exact ih4 _ _ _ _ _ _ _ _)
   | (with_reducible exact ih5 _ _ _ _ _ _ _ _)
   | (with_reducible exact impl_HistoryOk.mono _ _ _ _)
   | (with_reducible exact impl_Keep.mono _ _ _ _ _)
   | (with_reducible exact impl_LineAt.mono _ _ _ _ _)
   | (with_reducible exact impl_Looked.mono _ _ _ _ _)
   | (with_reducible exact laws_likeHistory.mono _ _ _ _ _ _ _)
   | (with_reducible exact laws_likeInts.mono _ _ _)
   | (with_reducible exact spec_DrawKeep.mono _ _)
   | (with_reducible exact spec_DrawLineAt.mono _ _)
   | (with_reducible exact spec_DrawLooked.mono _ _)
   | (with_reducible exact spec_DrawNewHistory.mono _ _)
   | (with_reducible exact spec_HistoryOk.mono _ _ _ _)
   | (with_reducible exact spec_Keep.mono _ _ _ _ _)
   | (with_reducible exact spec_LineAt.mono _ _ _ _ _)
   | (with_reducible exact spec_Looked.mono _ _ _ _ _)
   | (with_reducible exact LeO.refl _)
   | (with_reducible exact LeO.none _)
   | (with_reducible refine LeO.ite ?_ ?_)
   | (with_reducible refine LeO.bind ?_ (fun _ => ?_))
  ·intro y0 y1 y2 y3 y4 y5 y6 y7 y8 y9 y10 y11 y12
   unfold laws_FnKept.j2
   repeat' first
   | (with_reducible exact ih0 _ _ _ _ _ _ _ _ _ _ _ _ _ _ _ _ _ _ _ _ _ _ _ _)
   | (with_reducible exact ih1 _ _ _ _ _ _ _ _ _ _ _ _ _ _ _ _ _ _)
   | (with_reducible exact ih2 _ _ _ _ _ _ _ _ _ _ _ _ _)
   | (with_reducible exact ih3 _ _ _ _ _ _ _ _ _ _ _ _ _)
   | (with_reducible exact ih4 _ _ _ _ _ _ _ _)
   | (with_reducible exact ih5 _ _ _ _ _ _ _ _)
   | (with_reducible exact impl_HistoryOk.mono _ _ _ _)
   | (with_reducible exact impl_Keep.mono _ _ _ _ _)
   | (with_reducible exact impl_LineAt.mono _ _ _ _ _)
   | (with_reducible exact impl_Looked.mono _ _ _ _ _)
   | (with_reducible exact laws_likeHistory.mono _ _ _ _ _ _ _)
   | (with_reducible exact laws_likeInts.mono _ _ _)
   | (with_reducible exact spec_DrawKeep.mono _ _)
   | (with_reducible exact spec_DrawLineAt.mono _ _)
   | (with_reducible exact spec_DrawLooked.mono _ _)
   | (with_reducible exact spec_DrawNewHistory.mono _ _)
   | (with_reducible exact spec_HistoryOk.mono _ _ _ _)
   | (with_reducible exact spec_Keep.mono _ _ _ _ _)
   | (with_reducible exact spec_LineAt.mono _ _ _ _ _)
   | (with_reducible exact spec_Looked.mono _ _ _ _ _)
   | (with_reducible exact LeO.refl _)
   | (with_reducible exact LeO.none _)
   | (with_reducible refine LeO.ite ?_ ?_)
   | (with_reducible refine LeO.bind ?_ (fun _ => ?_))
  ·intro y0 y1 y2 y3 y4 y5 y6 y7 y8 y9 y10 y11 y12
   unfold laws_FnKept.l0
   repeat' first
   | (with_reducible exact ih0 _ _ _ _ _ _ _ _ _ _ _ _ _ _ _ _ _ _ _ _ _ _ _ _)
   | (with_reducible exact ih1 _ _ _ _ _ _ _ _ _ _ _ _ _ _ _ _ _ _)
   | (with_reducible exact ih2 _ _ _ _ _ _ _ _ _ _ _ _ _)
   | (with_reducible exact ih3 _ _ _ _ _ _ _ _ _ _ _ _ _)
   | (with_reducible exact ih4 _ _ _ _ _ _ _ _)
   | (with_reducible exact ih5 _ _ _ _ _ _ _ _)
   | (with_reducible exact impl_HistoryOk.mono _ _ _ _)
   | (with_reducible exact impl_Keep.mono _ _ _ _ _)
   | (with_reducible exact impl_LineAt.mono _ _ _ _ _)
   | (with_reducible exact impl_Looked.mono _ _ _ _ _)
   | (with_reducible exact laws_likeHistory.mono _ _ _ _ _ _ _)
   | (with_reducible exact laws_likeInts.mono _ _ _)
   | (with_reducible exact spec_DrawKeep.mono _ _)
   | (with_reducible exact spec_DrawLineAt.mono _ _)
   | (with_reducible exact spec_DrawLooked.mono _ _)
   | (with_reducible exact spec_DrawNewHistory.mono _ _)
   | (with_reducible exact spec_HistoryOk.mono _ _ _ _)
   | (with_reducible exact spec_Keep.mono _ _ _ _ _)
   | (with_reducible exact spec_LineAt.mono _ _ _ _ _)
   | (with_reducible exact spec_Looked.mono _ _ _ _ _)
   | (with_reducible exact LeO.refl _)
   | (with_reducible exact LeO.none _)
   | (with_reducible refine LeO.ite ?_ ?_)
   | (with_reducible refine LeO.bind ?_ (fun _ => ?_))
  ·intro y0 y1 y2 y3 y4 y5 y6 y7
   unfold laws_FnKept.j4
   repeat' first
   | (with_reducible exact ih0 _ _ _ _ _ _ _ _ _ _ _ _ _ _ _ _ _ _ _ _ _ _ _ _)
   | (with_reducible exact ih1 _ _ _ _ _ _ _ _ _ _ _ _ _ _ _ _ _ _)
   | (with_reducible exact ih2 _ _ _ _ _ _ _ _ _ _ _ _ _)
   | (with_reducible exact ih3 _ _ _ _ _ _ _ _ _ _ _ _ _)
   | (with_reducible exact ih4 _ _ _ _ _ _ _ _)
   | (with_reducible exact ih5 _ _ _ _ _ _ _ _)
   | (with_reducible exact impl_HistoryOk.mono _ _ _ _)
   | (with_reducible exact impl_Keep.mono _ _ _ _ _)
   | (with_reducible exact impl_LineAt.mono _ _ _ _ _)
   | (with_reducible exact impl_Looked.mono _ _ _ _ _)
   | (with_reducible exact laws_likeHistory.mono _ _ _ _ _ _ _)
   | (with_reducible exact laws_likeInts.mono _ _ _)
   | (with_reducible exact spec_DrawKeep.mono _ _)
   | (with_reducible exact spec_DrawLineAt.mono _ _)
   | (with_reducible exact spec_DrawLooked.mono _ _)
   | (with_reducible exact spec_DrawNewHistory.mono _ _)
   | (with_reducible exact spec_HistoryOk.mono _ _ _ _)
   | (with_reducible exact spec_Keep.mono _ _ _ _ _)
   | (with_reducible exact spec_LineAt.mono _ _ _ _ _)
   | (with_reducible exact spec_Looked.mono _ _ _ _ _)
   | (with_reducible exact LeO.refl _)
   | (with_reducible exact LeO.none _)
   | (with_reducible refine LeO.ite ?_ ?_)
   | (with_reducible refine LeO.bind ?_ (fun _ => ?_))
  ·intro y0 y1 y2 y3 y4 y5 y6 y7
   unfold laws_FnKept.l1
   repeat' first
   | (with_reducible exact ih0 _ _ _ _ _ _ _ _ _ _ _ _ _ _ _ _ _ _ _ _ _ _ _ _)
   | (with_reducible exact ih1 _ _ _ _ _ _ _ _ _ _ _ _ _ _ _ _ _ _)
   | (with_reducible exact ih2 _ _ _ _ _ _ _ _ _ _ _ _ _)
   | (with_reducible exact ih3 _ _ _ _ _ _ _ _ _ _ _ _ _)
   | (with_reducible exact ih4 _ _ _ _ _ _ _ _)
   | (with_reducible exact ih5 _ _ _ _ _ _ _ _)
   | (with_reducible exact impl_HistoryOk.mono _ _ _ _)
   | (with_reducible exact impl_Keep.mono _ _ _ _ _)
   | (with_reducible exact impl_LineAt.mono _ _ _ _ _)
   | (with_reducible exact impl_Looked.mono _ _ _ _ _)
   | (with_reducible exact laws_likeHistory.mono _ _ _ _ _ _ _)
   | (with_reducible exact laws_likeInts.mono _ _ _)
   | (with_reducible exact spec_DrawKeep.mono _ _)
   | (with_reducible exact spec_DrawLineAt.mono _ _)
   | (with_reducible exact spec_DrawLooked.mono _ _)
   | (with_reducible exact spec_DrawNewHistory.mono _ _)
   | (with_reducible exact spec_HistoryOk.mono _ _ _ _)
   | (with_reducible exact spec_Keep.mono _ _ _ _ _)
   | (with_reducible exact spec_LineAt.mono _ _ _ _ _)
   | (with_reducible exact spec_Looked.mono _ _ _ _ _)
   | (with_reducible exact LeO.refl _)
   | (with_reducible exact LeO.none _)
   | (with_reducible refine LeO.ite ?_ ?_)
   | (with_reducible refine LeO.bind ?_ (fun _ => ?_))
theorem laws_FnKept.mono : ∀ a0 k, LeO (laws_FnKept.f k a0) (laws_FnKept.f (k + 1) a0) := by
 intro a0 k
 obtain ⟨ih0, ih1, ih2, ih3, ih4, ih5⟩ := laws_FnKept.mono_l k
 unfold laws_FnKept.f
 repeat' first
   | (with_reducible exact ih0 _ _ _ _ _ _ _ _ _ _ _ _ _ _ _ _ _ _ _ _ _ _ _ _)
   | (with_reducible exact ih1 _ _ _ _ _ _ _ _ _ _ _ _ _ _ _ _ _ _)
   | (with_reducible exact ih2 _ _ _ _ _ _ _ _ _ _ _ _ _)
   | (with_reducible exact ih3 _ _ _ _ _ _ _ _ _ _ _ _ _)
   | (with_reducible exact ih4 _ _ _ _ _ _ _ _)
   | (with_reducible exact ih5 _ _ _ _ _ _ _ _)
   | (with_reducible exact impl_HistoryOk.mono _ _ _ _)
   | (with_reducible exact impl_Keep.mono _ _ _ _ _)
   | (with_reducible exact impl_LineAt.mono _ _ _ _ _)
   | (with_reducible exact impl_Looked.mono _ _ _ _ _)
   | (with_reducible exact laws_likeHistory.mono _ _ _ _ _ _ _)
   | (with_reducible exact laws_likeInts.mono _ _ _)
   | (with_reducible exact spec_DrawKeep.mono _ _)
   | (with_reducible exact spec_DrawLineAt.mono _ _)
   | (with_reducible exact spec_DrawLooked.mono _ _)
   | (with_reducible exact spec_DrawNewHistory.mono _ _)
   | (with_reducible exact spec_HistoryOk.mono _ _ _ _)
   | (with_reducible exact spec_Keep.mono _ _ _ _ _)
   | (with_reducible exact spec_LineAt.mono _ _ _ _ _)
   | (with_reducible exact spec_Looked.mono _ _ _ _ _)
   | (with_reducible exact LeO.refl _)
   | (with_reducible exact LeO.none _)
   | (with_reducible refine LeO.ite ?_ ?_)
   | (with_reducible refine LeO.bind ?_ (fun _ => ?_))
def laws_FnKept.T12 : Bool × List (List Nat × List Nat) := (true, [([], []), ([], []), ([0, 1], [0, 1]), ([2], [2]), ([3], [3]), ([3], [3]), ([4, 5, 3, 3], [3, 4, 5]), ([6, 3], [3, 6]), ([3, 7], [3, 7]), ([8, 6], [8]), ([9], [9]), ([10, 9, 9], [9, 10]), ([9], [9]), ([12, 11, 9], [9, 12]), ([11, 13, 9], [9, 11, 13]), ([9, 14], [9, 14]), ([15, 13], [15]), ([16], [16]), ([16], [16]), ([16], [16]), ([18, 19, 16, 16], [16, 18, 19]), ([17, 20, 20, 16], [16, 17, 20]), ([21, 16], [16, 21]), ([16, 22], [16, 22])])
def laws_FnKept.B12 : List Nat := [0, 0, 3, 7, 15, 15, 63, 127, 255, 511, 1023, 2047, 1023, 8191, 16383, 32767, 65535, 131071, 131071, 131071, 917503, 2097151, 4194303, 8388607]
theorem laws_FnKept.tab12 : rtab .any (opsOf Try.f3 12) = laws_FnKept.T12 := by kernel_rfl
theorem laws_FnKept.bits12 : waitsOk laws_FnKept.T12.2 laws_FnKept.B12 = true := by kernel_rfl
def laws_FnKept.T23 : Bool × List (List Nat × List Nat) := (true, [([], []), ([], []), ([], []), ([1, 2], [1, 2]), ([3], [3]), ([0, 4], [0, 4]), ([5], [5]), ([6], [6]), ([6], [6]), ([7, 5, 0, 1, 2, 3, 4, 5, 6, 7], [7]), ([8, 9, 0, 1, 2, 3, 4, 5, 6, 7, 8, 9], [8])])
def laws_FnKept.B23 : List Nat := [0, 0, 0, 6, 14, 31, 63, 127, 127, 255, 1023]
theorem laws_FnKept.tab23 : rtab .any (opsOf Try.f3 23) = laws_FnKept.T23 := by kernel_rfl
theorem laws_FnKept.bits23 : waitsOk laws_FnKept.T23.2 laws_FnKept.B23 = true := by kernel_rfl
def laws_FnKept.T24 : Bool × List (List Nat × List Nat) := (true, [([], []), ([0], [0]), ([1], [1]), ([2], [2]), ([3, 2], [2, 3]), ([4, 2, 2], [2, 4]), ([5], [5]), ([5], [5]), ([6, 7, 5], [5, 6, 7]), ([8, 5], [5, 8]), ([5], [5]), ([5], [5]), ([11, 5], [5, 11]), ([10, 12, 5], [5, 10, 12]), ([13, 5], [5, 13]), ([9, 14, 5], [5, 9, 14]), ([5, 15, 2], [2, 5, 15]), ([2, 16], [2, 16])])
def laws_FnKept.B24 : List Nat := [0, 1, 3, 7, 15, 31, 63, 63, 255, 511, 63, 63, 2111, 7231, 15423, 32767, 65535, 131071]
theorem laws_FnKept.tab24 : rtab .any (opsOf Try.f3 24) = laws_FnKept.T24 := by kernel_rfl
theorem laws_FnKept.bits24 : waitsOk laws_FnKept.T24.2 laws_FnKept.B24 = true := by kernel_rfl
theorem Qn3 {p q b : Prop} (h : Aside0 p) (bk : Aside0 b) (f : p → b → q := by (intro h b; (with_reducible repeat (first | apply Kd.Q_alloc | apply Kd.Q_drewN | apply Kd.Q_drew)); exact (Kd.Q_mono (Kd.Q_far (Kd.Q_far (Kd.Q_far (Kd.Q_types h b (by decide)) (fun _ hk => hk.2) _) (fun _ hk => hk.2) _) (fun _ hk => hk.2) _) (fun _ hk => by revert hk; simp only [and_imp]; intros; (repeat' apply And.intro) <;> assumption)))) : q := f h.out bk.out
theorem Qn0 {p q : Prop} (h : Aside0 p) (f : p → q := by (intro h; (with_reducible repeat (first | apply Kd.Q_alloc | apply Kd.Q_drewN | apply Kd.Q_drew)); exact (Kd.Q_mono h (fun _ hk => by revert hk; simp only [and_imp]; intros; (repeat' apply And.intro) <;> assumption)))) : q := f h.out
set_option maxHeartbeats 100000000 in
set_option maxRecDepth 100000 in
theorem laws_FnKept.calls (k : Nat) (A0 : Option Addr) (c0 : Nat) (l0 : List Int) (r : Bool) (w : World) (hr0 : Kd.C (Kd.int .u8) w A0 l0.length l0) (hc0 : l0.length ≤ c0) (h : laws_FnKept.f k l0 = some r) (hT_ : r = true) (hT : TB w) :
  Calls Try.prog 3 #[.slice A0 l0.length c0] w fun e w' => e = .returned (.bool r) ∧ Below w.heap.size w w' := by
 (
have HT := am hT
clear hT
have hu26 := Try.underlying26
have HR0 := am hr0
have HC0 := am hc0
clear hr0 hc0
have HB := am (Below.refl w.heap.size w)
have H := h
unfold laws_FnKept.f at H
clear h
replace H := Option.bind_eq_some_iff.mp H
obtain ⟨t417, A20, H⟩ := H
(try dsimp only at H)
have A2 := am A20
clear A20
by_cases c3 : t417 = true
·(
subst c3
have H1 : (some true) = some r := by rw [if_pos rfl] at H; exact H
clear H
have H := H1
clear H1
first
| with_reducible exact absurd (Option.some.inj (H.trans (congrArg some hT_))) Bool.false_ne_true
| (
obtain rfl := Option.some.inj H
go_enter Try.func3, Try.ntmps3
go_wp2_with (first | ((with_reducible refine gate_callee (f := 8) rfl ?_); refine gl_ (some 35) Try.func8 #[.slice A0 l0.length c0] ?_; (with_reducible refine (laws_big.calls _ _ l0 true _ ?side1 ?side2 A2.out).mono ?_); (case side1 => exact rc (HR0.out)); (case side2 => exact HC0.out); rintro e w' ⟨rfl, ⟨nd, rfl⟩⟩; refine ⟨_, rfl, ?_⟩))
go_ret
exact ⟨by first | rfl | (simp [errW_none, errW_some] <;> rfl) | (simp [*, errW_none, errW_some] <;> rfl), by repeat (first | (with_reducible first | exact HB.out | apply b1 | apply b2 | apply b3) | exact HB.out)⟩)
)
·(
replace c3 := Bool.eq_false_iff.mpr c3
subst c3
rw [if_neg (show ¬ (false = true) by decide)] at H
replace H := Option.bind_eq_some_iff.mp H
obtain ⟨⟨t418, t419, t422, t423⟩, A40, H⟩ := H
(try dsimp only at H)
have A4 := am A40
clear A40
replace H := Option.bind_eq_some_iff.mp H
obtain ⟨⟨t425, t426, t429, t430⟩, A50, H⟩ := H
(try dsimp only at H)
have A5 := am A50
clear A50
replace H := Option.bind_eq_some_iff.mp H
obtain ⟨⟨t432, t433, t436, t437⟩, A60, H⟩ := H
(try dsimp only at H)
have A6 := am A60
clear A60
replace H := Option.bind_eq_some_iff.mp H
obtain ⟨⟨t439, t440⟩, A70, H⟩ := H
(try dsimp only at H)
have A7 := am A70
clear A70
replace H := Option.bind_eq_some_iff.mp H
obtain ⟨⟨t441, t442, t445, t446⟩, A80, H⟩ := H
(try dsimp only at H)
have A8 := am A80
clear A80
replace H := Option.bind_eq_some_iff.mp H
obtain ⟨t448, A90, H⟩ := H
(try dsimp only at H)
have A9 := am A90
clear A90
replace H := Option.bind_eq_some_iff.mp H
obtain ⟨t451, A100, H⟩ := H
(try dsimp only at H)
have A10 := am A100
clear A100
replace H := Option.bind_eq_some_iff.mp H
obtain ⟨⟨t452, t453, t456, t457⟩, A110, H⟩ := H
(try dsimp only at H)
have A11 := am A110
clear A110
replace H := Option.bind_eq_some_iff.mp H
obtain ⟨⟨t459, t460, t463, t464⟩, A120, H⟩ := H
(try dsimp only at H)
have A12 := am A120
clear A120
have HC13 := am H
clear H
go_enter Try.func3, Try.ntmps3
go_upto_region 12 with (first | ((with_reducible refine gate_callee (f := 8) rfl ?_); refine gl_ (some 35) Try.func8 #[.slice A0 l0.length c0] ?_; (with_reducible refine (laws_big.calls _ _ l0 false _ ?side1 ?side2 A2.out).mono ?_); (case side1 => exact rc (HR0.out)); (case side2 => exact HC0.out); rintro e w' ⟨rfl, ⟨nd, rfl⟩⟩; refine ⟨_, rfl, ?_⟩) | ((with_reducible refine gate_callee (f := 9) rfl ?_); refine gl_ (some 38) Try.func9 #[.slice A0 l0.length c0] ?_; (with_reducible refine (spec_DrawKeep.calls k _ _ l0 t418 t419 t422 t423 _ ?side1 ?side2 A4.out).mono ?_); (case side1 => exact rc (HR0.out)); (case side2 => exact HC0.out); rintro e w14 ⟨v420, rfl, ho0, hb⟩; refine ⟨_, rfl, ?_⟩; have HO421 := am (Kd.Q_lower ho0 (below_size (rb HB))); replace HB := am (below_step (rb HB) hb); (try clear hb); (try clear hb2); (try clear hk); (try clear hi); (try clear ho0)) | ((with_reducible refine gate_dst (N := 3) rfl ?_); (try (refine gate_guard (by rfl) ?_; dsimp only)); refine box_event ?hg (N := 3) ?hd (cs := #[.int .i64 0, .slice none 0 0, .int .i64 0]) (t := 26) ?hr ?_; (case hd => rfl); (case hg => rfl); (case hr => first | (go_simp; done) | (go_simp; rfl)); intro gb424 hg w15 hbox hb; replace HO421 := am (Kd.Q_below (rq HO421) hb); have BK424 := am (hbox); have GW424 := am (gw hg (rb HB)); have GE424 := GW424; replace HB := am (below_step (rb HB) hb); clear hb hbox hg; have hcz16_0 : w15.cell? ⟨gb424, 0, none⟩ = some (.int .i64 0) := (blk_cell BK424.out 0).trans rfl; have hcz16_1 : w15.cell? ⟨gb424, 1, none⟩ = some (.slice none 0 0) := (blk_cell BK424.out 1).trans rfl; have hcz16_2 : w15.cell? ⟨gb424, 2, none⟩ = some (.int .i64 0) := (blk_cell BK424.out 2).trans rfl; have hfz16_0 := blk_frozen BK424.out 0; have hfz16_1 := blk_frozen BK424.out 1; have hfz16_2 := blk_frozen BK424.out 2; obtain ⟨Ao17, co17, eo17, _⟩ := Kd.Q_slice HO421.out; subst eo17) | ((with_reducible refine gate_callee (f := 10) rfl ?_); refine gl_ (some 44) Try.func10 #[.agg #[.int .i64 t418, .slice Ao17 t419.length co17, .int .i64 t422], .string t423] ?_; (with_reducible refine (impl_Keep.calls k t418 _ _ t419 t422 t423 t425 t426 t429 t430 _ ?side1 ?side2 A5.out).mono ?_); (case side1 => refine (Kd.Q_reads' (e := 9) (base := w.heap.size) (ok := fun k_ => True) (n := t419.length) (c := co17) ?_).2.2; exact (Qf3 HO421 BK424)); (case side2 => exact (Kd.Q_reads' HO421.out).2.1); rintro e w18 ⟨v427, rfl, ho0, hb⟩; refine ⟨_, rfl, ?_⟩; have HO428 := am (Kd.R_lower (Kd.R_new' ho0 (Kd.Q_lt (Qf3 HO421 BK424))) (below_size (rb1 HB GE424))); replace HO421 := am (Kd.Q_elder' (Qf3 HO421 BK424) (Kd.R_base ho0) hb); replace BK424 := am (blk_below (g := gb424) (o := .cells #[.int .i64 t418, .slice Ao17 t419.length co17, .int .i64 t422] 26 (0, 0)) (rp_0_1_2 BK424) hb); replace HB := am (below_step (rb1 HB GE424) hb); (try clear hb); (try clear hb2); (try clear hk); (try clear hi); (try clear ho0)) | ((with_reducible refine gate_dst (N := 5) rfl ?_); (try (refine gate_guard (by rfl) ?_; dsimp only)); refine box_event ?hg (N := 5) ?hd (cs := #[.int .i64 0, .slice none 0 0, .int .i64 0]) (t := 26) ?hr ?_; (case hd => rfl); (case hg => rfl); (case hr => first | (go_simp; done) | (go_simp; rfl)); intro gb431 hg w19 hbox hb; replace HO421 := am (Kd.Q_below (rq HO421) hb); replace HO428 := am (Kd.R_below (rr HO428) hb); have BK431 := am (hbox); have GW431 := am (gw hg (rb1 HB GE424)); have GE431 := GW431; replace HB := am (below_step (rb1 HB GE424) hb); have NB424_431 := am (nl hg (rk BK424)); have NB431_424 := am (ng hg (rk BK424)); replace BK424 := am (blk_below (rk BK424) hb); clear hb hbox hg; have hnb20 := NB431_424.out; have hnc20 := NB424_431.out; have hcz21_0 : w19.cell? ⟨gb431, 0, none⟩ = some (.int .i64 0) := (blk_cell BK431.out 0).trans rfl; have hcz21_1 : w19.cell? ⟨gb431, 1, none⟩ = some (.slice none 0 0) := (blk_cell BK431.out 1).trans rfl; have hcz21_2 : w19.cell? ⟨gb431, 2, none⟩ = some (.int .i64 0) := (blk_cell BK431.out 2).trans rfl; have hfz21_0 := blk_frozen BK431.out 0; have hfz21_1 := blk_frozen BK431.out 1; have hfz21_2 := blk_frozen BK431.out 2; obtain ⟨Ao22, co22, eo22⟩ := Kd.R_slice HO428.out; subst eo22) | ((with_reducible refine gate_callee (f := 11) rfl ?_); refine gl_ (some 49) Try.func11 #[.slice A0 l0.length c0] ?_; (with_reducible refine (spec_DrawLineAt.calls k _ _ l0 t432 t433 t436 t437 _ ?side1 ?side2 A6.out).mono ?_); (case side1 => exact Kd.C_below HR0.out (rb2 HB GE424 GE431)); (case side2 => exact HC0.out); rintro e w23 ⟨v434, rfl, ho0, hb⟩; refine ⟨_, rfl, ?_⟩; have HO435 := am (Kd.Q_lower (Kd.Q_new' (Kd.Q_new' ho0 (Kd.Q_lt (Qf3 HO421 BK431))) (Kd.R_lt (Rf3 HO428 BK431))) (below_size (rb2 HB GE424 GE431))); replace HO421 := am (Kd.Q_elder' (Qf3 HO421 BK431) (Kd.Q_base ho0) hb); replace HO428 := am (Kd.R_elder' (Rf3 HO428 BK431) (Kd.Q_base ho0) hb); replace BK424 := am (blk_below (g := gb424) (o := .cells #[.int .i64 t418, .slice Ao17 t419.length co17, .int .i64 t422] 26 (0, 0)) (rf3 NB424_431 BK424) hb); replace BK431 := am (blk_below (g := gb431) (o := .cells #[.int .i64 t425, .slice Ao22 t426.length co22, .int .i64 t429] 26 (0, 0)) (rp_0_1_2 BK431) hb); replace HB := am (below_step (rb2 HB GE424 GE431) hb); (try clear hb); (try clear hb2); (try clear hk); (try clear hi); (try clear ho0)) | ((with_reducible refine gate_dst (N := 7) rfl ?_); (try (refine gate_guard (by rfl) ?_; dsimp only)); refine box_event ?hg (N := 7) ?hd (cs := #[.int .i64 0, .slice none 0 0, .int .i64 0]) (t := 26) ?hr ?_; (case hd => rfl); (case hg => rfl); (case hr => first | (go_simp; done) | (go_simp; rfl)); intro gb438 hg w24 hbox hb; replace HO421 := am (Kd.Q_below (rq HO421) hb); replace HO428 := am (Kd.R_below (rr HO428) hb); replace HO435 := am (Kd.Q_below (rq HO435) hb); have BK438 := am (hbox); have GW438 := am (gw hg (rb2 HB GE424 GE431)); have GE438 := GW438; replace HB := am (below_step (rb2 HB GE424 GE431) hb); have NB424_438 := am (nl hg (rk BK424)); have NB438_424 := am (ng hg (rk BK424)); replace BK424 := am (blk_below (rk BK424) hb); have NB431_438 := am (nl hg (rk BK431)); have NB438_431 := am (ng hg (rk BK431)); replace BK431 := am (blk_below (rk BK431) hb); clear hb hbox hg; have hnb25 := NB438_424.out; have hnc25 := NB424_438.out; have hnb26 := NB438_431.out; have hnc26 := NB431_438.out; have hcz27_0 : w24.cell? ⟨gb438, 0, none⟩ = some (.int .i64 0) := (blk_cell BK438.out 0).trans rfl; have hcz27_1 : w24.cell? ⟨gb438, 1, none⟩ = some (.slice none 0 0) := (blk_cell BK438.out 1).trans rfl; have hcz27_2 : w24.cell? ⟨gb438, 2, none⟩ = some (.int .i64 0) := (blk_cell BK438.out 2).trans rfl; have hfz27_0 := blk_frozen BK438.out 0; have hfz27_1 := blk_frozen BK438.out 1; have hfz27_2 := blk_frozen BK438.out 2; obtain ⟨Ao28, co28, eo28, _⟩ := Kd.Q_slice HO435.out; subst eo28) | ((with_reducible refine gate_callee (f := 12) rfl ?_); refine gl_ (some 55) Try.func12 #[.agg #[.int .i64 t432, .slice Ao28 t433.length co28, .int .i64 t436], .int .i64 t437] ?_; (with_reducible refine (impl_LineAt.calls k t432 _ _ t433 t436 t437 t439 t440 _ ?side1 ?side2 A7.out).mono ?_); (case side1 => refine (Kd.Q_reads' (e := 9) (base := w.heap.size) (ok := fun k_ => ((True ∧ some k_ ≠ (.slice Ao17 t419.length co17 : Value).ownBlock) ∧ some k_ ≠ (.slice Ao22 t426.length co22 : Value).ownBlock)) (n := t433.length) (c := co28) ?_).2.2; exact (Qf3 HO435 BK438)); (case side2 => exact (Kd.Q_reads' HO435.out).2.1); rintro e w29 ⟨rfl, hb⟩; refine ⟨_, rfl, ?_⟩; replace HO421 := am (Kd.Q_below (Qf3 HO421 BK438) hb); replace HO428 := am (Kd.R_below (Rf3 HO428 BK438) hb); replace HO435 := am (Kd.Q_below (Qf3 HO435 BK438) hb); replace BK424 := am (blk_below (g := gb424) (o := .cells #[.int .i64 t418, .slice Ao17 t419.length co17, .int .i64 t422] 26 (0, 0)) (rf3 NB424_438 BK424) hb); replace BK431 := am (blk_below (g := gb431) (o := .cells #[.int .i64 t425, .slice Ao22 t426.length co22, .int .i64 t429] 26 (0, 0)) (rf3 NB431_438 BK431) hb); replace BK438 := am (blk_below (g := gb438) (o := .cells #[.int .i64 t432, .slice Ao28 t433.length co28, .int .i64 t436] 26 (0, 0)) (rp_0_1_2 BK438) hb); replace HB := am (below_step (rb3 HB GE424 GE431 GE438) hb); (try clear hb); (try clear hb2); (try clear hk); (try clear hi)) | ((with_reducible refine gate_callee (f := 13) rfl ?_); refine gl_ (some 60) Try.func13 #[.slice A0 l0.length c0] ?_; (with_reducible refine (spec_DrawLooked.calls k _ _ l0 t441 t442 t445 t446 _ ?side1 ?side2 A8.out).mono ?_); (case side1 => exact rc ((Kd.C_below HR0.out HB.out))); (case side2 => exact HC0.out); rintro e w30 ⟨v443, rfl, ho0, hb⟩; refine ⟨_, rfl, ?_⟩; have HO444 := am (Kd.Q_lower (Kd.Q_new' (Kd.Q_new' (Kd.Q_new' ho0 (Kd.Q_lt (rq HO421))) (Kd.R_lt (rr HO428))) (Kd.Q_lt (rq HO435))) (below_size (rb3 HB GE424 GE431 GE438))); replace HO421 := am (Kd.Q_elder' (rq HO421) (Kd.Q_base ho0) hb); replace HO428 := am (Kd.R_elder' (rr HO428) (Kd.Q_base ho0) hb); replace HO435 := am (Kd.Q_elder' (rq HO435) (Kd.Q_base ho0) hb); replace BK424 := am (blk_below (rk BK424) hb); replace BK431 := am (blk_below (rk BK431) hb); replace BK438 := am (blk_below (rk BK438) hb); replace HB := am (below_step (rb3 HB GE424 GE431 GE438) hb); (try clear hb); (try clear hb2); (try clear hk); (try clear hi); (try clear ho0)) | ((with_reducible refine gate_dst (N := 11) rfl ?_); (try (refine gate_guard (by rfl) ?_; dsimp only)); refine box_event ?hg (N := 11) ?hd (cs := #[.int .i64 0, .slice none 0 0, .int .i64 0]) (t := 26) ?hr ?_; (case hd => rfl); (case hg => rfl); (case hr => first | (go_simp; done) | (go_simp; rfl)); intro gb447 hg w31 hbox hb; replace HO421 := am (Kd.Q_below (rq HO421) hb); replace HO428 := am (Kd.R_below (rr HO428) hb); replace HO435 := am (Kd.Q_below (rq HO435) hb); replace HO444 := am (Kd.Q_below (rq HO444) hb); have BK447 := am (hbox); have GW447 := am (gw hg (rb3 HB GE424 GE431 GE438)); have GE447 := GW447; replace HB := am (below_step (rb3 HB GE424 GE431 GE438) hb); have NB424_447 := am (nl hg (rk BK424)); have NB447_424 := am (ng hg (rk BK424)); replace BK424 := am (blk_below (rk BK424) hb); have NB431_447 := am (nl hg (rk BK431)); have NB447_431 := am (ng hg (rk BK431)); replace BK431 := am (blk_below (rk BK431) hb); have NB438_447 := am (nl hg (rk BK438)); have NB447_438 := am (ng hg (rk BK438)); replace BK438 := am (blk_below (rk BK438) hb); clear hb hbox hg; have hnb32 := NB447_424.out; have hnc32 := NB424_447.out; have hnb33 := NB447_431.out; have hnc33 := NB431_447.out; have hnb34 := NB447_438.out; have hnc34 := NB438_447.out; have hcz35_0 : w31.cell? ⟨gb447, 0, none⟩ = some (.int .i64 0) := (blk_cell BK447.out 0).trans rfl; have hcz35_1 : w31.cell? ⟨gb447, 1, none⟩ = some (.slice none 0 0) := (blk_cell BK447.out 1).trans rfl; have hcz35_2 : w31.cell? ⟨gb447, 2, none⟩ = some (.int .i64 0) := (blk_cell BK447.out 2).trans rfl; have hfz35_0 := blk_frozen BK447.out 0; have hfz35_1 := blk_frozen BK447.out 1; have hfz35_2 := blk_frozen BK447.out 2; obtain ⟨Ao36, co36, eo36, _⟩ := Kd.Q_slice HO444.out; subst eo36) | ((with_reducible refine gate_callee (f := 14) rfl ?_); refine gl_ (some 65) Try.func14 #[.agg #[.int .i64 t441, .slice Ao36 t442.length co36, .int .i64 t445], .string t446] ?_; (with_reducible refine (impl_Looked.calls k t441 _ _ t442 t445 t446 t448 _ ?side1 ?side2 A9.out ?sideT).mono ?_); (case sideT => exact TB.below HT.out (rb4 HB GE424 GE431 GE438 GE447)); (case side1 => refine (Kd.Q_reads' (e := 9) (base := w.heap.size) (ok := fun k_ => (((True ∧ some k_ ≠ (.slice Ao17 t419.length co17 : Value).ownBlock) ∧ some k_ ≠ (.slice Ao22 t426.length co22 : Value).ownBlock) ∧ some k_ ≠ (.slice Ao28 t433.length co28 : Value).ownBlock)) (n := t442.length) (c := co36) ?_).2.2; exact (Qf3 HO444 BK447)); (case side2 => exact (Kd.Q_reads' HO444.out).2.1); rintro e w37 ⟨v449, rfl, ho0, hb⟩; refine ⟨_, rfl, ?_⟩; replace HO421 := am (Kd.Q_below (Qf3 HO421 BK447) hb); replace HO428 := am (Kd.R_below (Rf3 HO428 BK447) hb); replace HO435 := am (Kd.Q_below (Qf3 HO435 BK447) hb); replace HO444 := am (Kd.Q_below (Qf3 HO444 BK447) hb); have HO450 := am (Kd.R_lower ho0 (below_size (rb4 HB GE424 GE431 GE438 GE447))); replace BK424 := am (blk_below (g := gb424) (o := .cells #[.int .i64 t418, .slice Ao17 t419.length co17, .int .i64 t422] 26 (0, 0)) (rf3 NB424_447 BK424) hb); replace BK431 := am (blk_below (g := gb431) (o := .cells #[.int .i64 t425, .slice Ao22 t426.length co22, .int .i64 t429] 26 (0, 0)) (rf3 NB431_447 BK431) hb); replace BK438 := am (blk_below (g := gb438) (o := .cells #[.int .i64 t432, .slice Ao28 t433.length co28, .int .i64 t436] 26 (0, 0)) (rf3 NB438_447 BK438) hb); replace BK447 := am (blk_below (g := gb447) (o := .cells #[.int .i64 t441, .slice Ao36 t442.length co36, .int .i64 t445] 26 (0, 0)) (rp_0_1_2 BK447) hb); replace HB := am (below_step (rb4 HB GE424 GE431 GE438 GE447) hb); (try clear hb); (try clear hb2); (try clear hk); (try clear hi); (try clear ho0)) | ((with_reducible refine gate_callee (f := 15) rfl ?_); refine gl_ (some 67) Try.func15 #[.slice A0 l0.length c0] ?_; (with_reducible refine (spec_DrawNewHistory.calls k _ _ l0 t451 _ ?side1 ?side2 A10.out).mono ?_); (case side1 => exact rc ((Kd.C_below HR0.out HB.out))); (case side2 => exact HC0.out); rintro e w38 ⟨rfl, hb⟩; refine ⟨_, rfl, ?_⟩; replace HO421 := am (Kd.Q_below (rq HO421) hb); replace HO428 := am (Kd.R_below (rr HO428) hb); replace HO435 := am (Kd.Q_below (rq HO435) hb); replace HO444 := am (Kd.Q_below (rq HO444) hb); replace HO450 := am (Kd.R_below (rr HO450) hb); replace BK424 := am (blk_below (rk BK424) hb); replace BK431 := am (blk_below (rk BK431) hb); replace BK438 := am (blk_below (rk BK438) hb); replace BK447 := am (blk_below (rk BK447) hb); replace HB := am (below_step (rb4 HB GE424 GE431 GE438 GE447) hb); (try clear hb); (try clear hb2); (try clear hk); (try clear hi)) | ((with_reducible refine gate_callee (f := 16) rfl ?_); refine gl_ (some 70) Try.func16 #[.int .i64 t451] ?_; (with_reducible refine (impl_NewHistory.calls t451 t452 t453 t456 t457 _ A11.out).mono ?_); rintro e w39 ⟨v454, rfl, ho0, hb⟩; refine ⟨_, rfl, ?_⟩; replace HO450 := am (Kd.R_below (rr HO450) hb); have HO455 := am (Kd.R_lower (Kd.R_new' (Kd.R_new' (Kd.R_new' (Kd.R_new' ho0 (Kd.Q_lt (rq HO421))) (Kd.R_lt (rr HO428))) (Kd.Q_lt (rq HO435))) (Kd.Q_lt (rq HO444))) (below_size (rb4 HB GE424 GE431 GE438 GE447))); replace HO421 := am (Kd.Q_elder' (rq HO421) (Kd.R_base ho0) hb); replace HO428 := am (Kd.R_elder' (rr HO428) (Kd.R_base ho0) hb); replace HO435 := am (Kd.Q_elder' (rq HO435) (Kd.R_base ho0) hb); replace HO444 := am (Kd.Q_elder' (rq HO444) (Kd.R_base ho0) hb); replace BK424 := am (blk_below (rk BK424) hb); replace BK431 := am (blk_below (rk BK431) hb); replace BK438 := am (blk_below (rk BK438) hb); replace BK447 := am (blk_below (rk BK447) hb); replace HB := am (below_step (rb4 HB GE424 GE431 GE438 GE447) hb); (try clear hb); (try clear hb2); (try clear hk); (try clear hi); (try clear ho0)) | ((with_reducible refine gate_dst (N := 15) rfl ?_); (try (refine gate_guard (by rfl) ?_; dsimp only)); refine box_event ?hg (N := 15) ?hd (cs := #[.int .i64 0, .slice none 0 0, .int .i64 0]) (t := 26) ?hr ?_; (case hd => rfl); (case hg => rfl); (case hr => first | (go_simp; done) | (go_simp; rfl)); intro gb458 hg w40 hbox hb; replace HO421 := am (Kd.Q_below (rq HO421) hb); replace HO428 := am (Kd.R_below (rr HO428) hb); replace HO435 := am (Kd.Q_below (rq HO435) hb); replace HO444 := am (Kd.Q_below (rq HO444) hb); replace HO450 := am (Kd.R_below (rr HO450) hb); replace HO455 := am (Kd.R_below (rr HO455) hb); have BK458 := am (hbox); have GW458 := am (gw hg (rb4 HB GE424 GE431 GE438 GE447)); have GE458 := GW458; replace HB := am (below_step (rb4 HB GE424 GE431 GE438 GE447) hb); have NB424_458 := am (nl hg (rk BK424)); have NB458_424 := am (ng hg (rk BK424)); replace BK424 := am (blk_below (rk BK424) hb); have NB431_458 := am (nl hg (rk BK431)); have NB458_431 := am (ng hg (rk BK431)); replace BK431 := am (blk_below (rk BK431) hb); have NB438_458 := am (nl hg (rk BK438)); have NB458_438 := am (ng hg (rk BK438)); replace BK438 := am (blk_below (rk BK438) hb); have NB447_458 := am (nl hg (rk BK447)); have NB458_447 := am (ng hg (rk BK447)); replace BK447 := am (blk_below (rk BK447) hb); clear hb hbox hg; have hnb41 := NB458_424.out; have hnc41 := NB424_458.out; have hnb42 := NB458_431.out; have hnc42 := NB431_458.out; have hnb43 := NB458_438.out; have hnc43 := NB438_458.out; have hnb44 := NB458_447.out; have hnc44 := NB447_458.out; have hcz45_0 : w40.cell? ⟨gb458, 0, none⟩ = some (.int .i64 0) := (blk_cell BK458.out 0).trans rfl; have hcz45_1 : w40.cell? ⟨gb458, 1, none⟩ = some (.slice none 0 0) := (blk_cell BK458.out 1).trans rfl; have hcz45_2 : w40.cell? ⟨gb458, 2, none⟩ = some (.int .i64 0) := (blk_cell BK458.out 2).trans rfl; have hfz45_0 := blk_frozen BK458.out 0; have hfz45_1 := blk_frozen BK458.out 1; have hfz45_2 := blk_frozen BK458.out 2; obtain ⟨Ao46, co46, eo46⟩ := Kd.R_slice HO455.out; subst eo46; have hcz47_0 : w40.cell? ⟨gb424, 0, none⟩ = some (.int .i64 t418) := (blk_cell BK424.out 0).trans rfl; have hcz47_1 : w40.cell? ⟨gb424, 1, none⟩ = some (.slice Ao17 t419.length co17) := (blk_cell BK424.out 1).trans rfl; have hcz47_2 : w40.cell? ⟨gb424, 2, none⟩ = some (.int .i64 t422) := (blk_cell BK424.out 2).trans rfl; have hfz47_0 := blk_frozen BK424.out 0; have hfz47_1 := blk_frozen BK424.out 1; have hfz47_2 := blk_frozen BK424.out 2) | ((with_reducible refine gate_callee (f := 17) rfl ?_); refine gl_ (some 76) Try.func17 #[.agg #[.int .i64 t418, .slice Ao17 t419.length co17, .int .i64 t422], .string t423] ?_; (with_reducible refine (spec_Keep.calls k t418 _ _ t419 t422 t423 t459 t460 t463 t464 _ ?side1 ?side2 A12.out).mono ?_); (case side1 => refine (Kd.Q_reads' (e := 9) (base := w.heap.size) (ok := fun k_ => ((((True ∧ some k_ ≠ (.slice Ao22 t426.length co22 : Value).ownBlock) ∧ some k_ ≠ (.slice Ao28 t433.length co28 : Value).ownBlock) ∧ some k_ ≠ (.slice Ao36 t442.length co36 : Value).ownBlock) ∧ some k_ ≠ (.slice Ao46 t453.length co46 : Value).ownBlock)) (n := t419.length) (c := co17) ?_).2.2; exact (Qf3 HO421 BK458)); (case side2 => exact (Kd.Q_reads' HO421.out).2.1); rintro e w48 ⟨v461, rfl, ho0, hb⟩; refine ⟨_, rfl, ?_⟩; replace HO450 := am (Kd.R_below (Rf3 HO450 BK458) hb); have HO462 := am (Kd.Q_lower (Kd.Q_new' (Kd.Q_new' (Kd.Q_new' (Kd.Q_new' (Kd.Q_new' ho0 (Kd.Q_lt (Qf3 HO421 BK458))) (Kd.R_lt (Rf3 HO428 BK458))) (Kd.Q_lt (Qf3 HO435 BK458))) (Kd.Q_lt (Qf3 HO444 BK458))) (Kd.R_lt (Rf3 HO455 BK458))) (below_size (rb5 HB GE424 GE431 GE438 GE447 GE458))); replace HO421 := am (Kd.Q_elder' (Qf3 HO421 BK458) (Kd.Q_base ho0) hb); replace HO428 := am (Kd.R_elder' (Rf3 HO428 BK458) (Kd.Q_base ho0) hb); replace HO435 := am (Kd.Q_elder' (Qf3 HO435 BK458) (Kd.Q_base ho0) hb); replace HO444 := am (Kd.Q_elder' (Qf3 HO444 BK458) (Kd.Q_base ho0) hb); replace HO455 := am (Kd.R_elder' (Rf3 HO455 BK458) (Kd.Q_base ho0) hb); replace BK424 := am (blk_below (g := gb424) (o := .cells #[.int .i64 t418, .slice Ao17 t419.length co17, .int .i64 t422] 26 (0, 0)) (rf3 NB424_458 BK424) hb); replace BK431 := am (blk_below (g := gb431) (o := .cells #[.int .i64 t425, .slice Ao22 t426.length co22, .int .i64 t429] 26 (0, 0)) (rf3 NB431_458 BK431) hb); replace BK438 := am (blk_below (g := gb438) (o := .cells #[.int .i64 t432, .slice Ao28 t433.length co28, .int .i64 t436] 26 (0, 0)) (rf3 NB438_458 BK438) hb); replace BK447 := am (blk_below (g := gb447) (o := .cells #[.int .i64 t441, .slice Ao36 t442.length co36, .int .i64 t445] 26 (0, 0)) (rf3 NB447_458 BK447) hb); replace BK458 := am (blk_below (g := gb458) (o := .cells #[.int .i64 t452, .slice Ao46 t453.length co46, .int .i64 t456] 26 (0, 0)) (rp_0_1_2 BK458) hb); replace HB := am (below_step (rb5 HB GE424 GE431 GE438 GE447 GE458) hb); (try clear hb); (try clear hb2); (try clear hk); (try clear hi); (try clear ho0)) | ((with_reducible refine gate_dst (N := 17) rfl ?_); (try (refine gate_guard (by rfl) ?_; dsimp only)); refine box_event ?hg (N := 17) ?hd (cs := #[.int .i64 0, .slice none 0 0, .int .i64 0]) (t := 26) ?hr ?_; (case hd => rfl); (case hg => rfl); (case hr => first | (go_simp; done) | (go_simp; rfl)); intro gb465 hg w49 hbox hb; replace HO421 := am (Kd.Q_below (rq HO421) hb); replace HO428 := am (Kd.R_below (rr HO428) hb); replace HO435 := am (Kd.Q_below (rq HO435) hb); replace HO444 := am (Kd.Q_below (rq HO444) hb); replace HO450 := am (Kd.R_below (rr HO450) hb); replace HO455 := am (Kd.R_below (rr HO455) hb); replace HO462 := am (Kd.Q_below (rq HO462) hb); have BK465 := am (hbox); have GW465 := am (gw hg (rb5 HB GE424 GE431 GE438 GE447 GE458)); have GE465 := GW465; replace HB := am (below_step (rb5 HB GE424 GE431 GE438 GE447 GE458) hb); have NB424_465 := am (nl hg (rk BK424)); have NB465_424 := am (ng hg (rk BK424)); replace BK424 := am (blk_below (rk BK424) hb); have NB431_465 := am (nl hg (rk BK431)); have NB465_431 := am (ng hg (rk BK431)); replace BK431 := am (blk_below (rk BK431) hb); have NB438_465 := am (nl hg (rk BK438)); have NB465_438 := am (ng hg (rk BK438)); replace BK438 := am (blk_below (rk BK438) hb); have NB447_465 := am (nl hg (rk BK447)); have NB465_447 := am (ng hg (rk BK447)); replace BK447 := am (blk_below (rk BK447) hb); have NB458_465 := am (nl hg (rk BK458)); have NB465_458 := am (ng hg (rk BK458)); replace BK458 := am (blk_below (rk BK458) hb); clear hb hbox hg; have hnb50 := NB465_424.out; have hnc50 := NB424_465.out; have hnb51 := NB465_431.out; have hnc51 := NB431_465.out; have hnb52 := NB465_438.out; have hnc52 := NB438_465.out; have hnb53 := NB465_447.out; have hnc53 := NB447_465.out; have hnb54 := NB465_458.out; have hnc54 := NB458_465.out; have hcz55_0 : w49.cell? ⟨gb465, 0, none⟩ = some (.int .i64 0) := (blk_cell BK465.out 0).trans rfl; have hcz55_1 : w49.cell? ⟨gb465, 1, none⟩ = some (.slice none 0 0) := (blk_cell BK465.out 1).trans rfl; have hcz55_2 : w49.cell? ⟨gb465, 2, none⟩ = some (.int .i64 0) := (blk_cell BK465.out 2).trans rfl; have hfz55_0 := blk_frozen BK465.out 0; have hfz55_1 := blk_frozen BK465.out 1; have hfz55_2 := blk_frozen BK465.out 2; obtain ⟨Ao56, co56, eo56, _⟩ := Kd.Q_slice HO462.out; subst eo56))
(try simp only [Act.put, List.setIfInBounds_toArray, List.set_cons_zero, List.set_cons_succ])
go_cut [102] (fun v102 wc => ∃ (kq : Nat) (x102_12 : Bool), v102 = .bool x102_12 ∧ Aside0 (laws_FnKept.j0 kq t423 t430 t437 t439 t440 t448 t451 t457 x102_12 t418 t419 t422 t425 t426 t429 t432 t433 t436 t441 t442 t445 t452 t453 t456 = some r) ∧ Aside0 (kq ≤ k) ∧ Aside0 (Kd.R (Kd.int .i64) 2 wc w.heap.size (fun _ => True) v449 t448) ∧ Aside0 (Kd.Q Kd.string 9 wc w.heap.size (fun k_ => some k_ ≠ ((.slice Ao22 t426.length co22) : Value).ownBlock ∧ some k_ ≠ ((.slice Ao28 t433.length co28) : Value).ownBlock ∧ some k_ ≠ ((.slice Ao36 t442.length co36) : Value).ownBlock ∧ some k_ ≠ ((.slice Ao46 t453.length co46) : Value).ownBlock ∧ some k_ ≠ ((.slice Ao56 t460.length co56) : Value).ownBlock) (.slice Ao17 t419.length co17) t419) ∧ Aside0 (Kd.Q Kd.string 9 wc w.heap.size (fun k_ => some k_ ≠ ((.slice Ao17 t419.length co17) : Value).ownBlock ∧ some k_ ≠ ((.slice Ao28 t433.length co28) : Value).ownBlock ∧ some k_ ≠ ((.slice Ao36 t442.length co36) : Value).ownBlock ∧ some k_ ≠ ((.slice Ao46 t453.length co46) : Value).ownBlock ∧ some k_ ≠ ((.slice Ao56 t460.length co56) : Value).ownBlock) (.slice Ao22 t426.length co22) t426) ∧ Aside0 (Kd.Q Kd.string 9 wc w.heap.size (fun k_ => some k_ ≠ ((.slice Ao17 t419.length co17) : Value).ownBlock ∧ some k_ ≠ ((.slice Ao22 t426.length co22) : Value).ownBlock ∧ some k_ ≠ ((.slice Ao36 t442.length co36) : Value).ownBlock ∧ some k_ ≠ ((.slice Ao46 t453.length co46) : Value).ownBlock ∧ some k_ ≠ ((.slice Ao56 t460.length co56) : Value).ownBlock) (.slice Ao28 t433.length co28) t433) ∧ Aside0 (Kd.Q Kd.string 9 wc w.heap.size (fun k_ => some k_ ≠ ((.slice Ao17 t419.length co17) : Value).ownBlock ∧ some k_ ≠ ((.slice Ao22 t426.length co22) : Value).ownBlock ∧ some k_ ≠ ((.slice Ao28 t433.length co28) : Value).ownBlock ∧ some k_ ≠ ((.slice Ao46 t453.length co46) : Value).ownBlock ∧ some k_ ≠ ((.slice Ao56 t460.length co56) : Value).ownBlock) (.slice Ao36 t442.length co36) t442) ∧ Aside0 (Kd.Q Kd.string 9 wc w.heap.size (fun k_ => some k_ ≠ ((.slice Ao17 t419.length co17) : Value).ownBlock ∧ some k_ ≠ ((.slice Ao22 t426.length co22) : Value).ownBlock ∧ some k_ ≠ ((.slice Ao28 t433.length co28) : Value).ownBlock ∧ some k_ ≠ ((.slice Ao36 t442.length co36) : Value).ownBlock ∧ some k_ ≠ ((.slice Ao56 t460.length co56) : Value).ownBlock) (.slice Ao46 t453.length co46) t453) ∧ Aside0 (Kd.Q Kd.string 9 wc w.heap.size (fun k_ => some k_ ≠ ((.slice Ao17 t419.length co17) : Value).ownBlock ∧ some k_ ≠ ((.slice Ao22 t426.length co22) : Value).ownBlock ∧ some k_ ≠ ((.slice Ao28 t433.length co28) : Value).ownBlock ∧ some k_ ≠ ((.slice Ao36 t442.length co36) : Value).ownBlock ∧ some k_ ≠ ((.slice Ao46 t453.length co46) : Value).ownBlock) (.slice Ao56 t460.length co56) t460) ∧ Aside0 (wc.heap[gb424]? = some (.cells #[.int .i64 t418, (.slice Ao17 t419.length co17), .int .i64 t422] 26 (0, 0))) ∧ Aside0 (wc.heap[gb431]? = some (.cells #[.int .i64 t425, (.slice Ao22 t426.length co22), .int .i64 t429] 26 (0, 0))) ∧ Aside0 (wc.heap[gb438]? = some (.cells #[.int .i64 t432, (.slice Ao28 t433.length co28), .int .i64 t436] 26 (0, 0))) ∧ Aside0 (wc.heap[gb447]? = some (.cells #[.int .i64 t441, (.slice Ao36 t442.length co36), .int .i64 t445] 26 (0, 0))) ∧ Aside0 (wc.heap[gb458]? = some (.cells #[.int .i64 t452, (.slice Ao46 t453.length co46), .int .i64 t456] 26 (0, 0))) ∧ Aside0 (wc.heap[gb465]? = some (.cells #[.int .i64 t459, (.slice Ao56 t460.length co56), .int .i64 t463] 26 (0, 0))) ∧ Aside0 (Below w.heap.size w wc))
case first => as_aux_lemma => (
have H := HC13.out
clear HC13
by_cases c57 : (t430 != t464) = true
·as_aux_lemma => (
rw [if_pos c57] at H
have c57b0 : (t430 != t464) = true := c57
(try (have c57b1 : decide (t430 = t464) = false := by simpa using c57))
(try (have c57b2 : (t430 == t464) = false := by simpa using c57))
(try (have c57b3 : ¬ (t430 = t464) := by simpa using c57))
clear c57
(first | rw [c57b0] | (simp only [i64_w, i32_w]; rw [c57b0]) | skip)
have H' := am H
clear H
try go_wp2
have n0_ : Aside0 (Kd.Q Kd.string 9 (((w49.setCell ⟨gb465, 0, none⟩ (.int .i64 t459)).setCell ⟨gb465, 1, none⟩ (.slice Ao56 t460.length co56)).setCell ⟨gb465, 2, none⟩ (.int .i64 t463)) w.heap.size (fun k_ => some k_ ≠ (.slice Ao22 t426.length co22 : Value).ownBlock ∧ some k_ ≠ (.slice Ao28 t433.length co28 : Value).ownBlock ∧ some k_ ≠ (.slice Ao36 t442.length co36 : Value).ownBlock ∧ some k_ ≠ (.slice Ao46 t453.length co46 : Value).ownBlock ∧ some k_ ≠ (.slice Ao56 t460.length co56 : Value).ownBlock) (.slice Ao17 t419.length co17) t419) := ⟨Qm3 HO421 BK465⟩
have n1_ : Aside0 (Kd.R Kd.string 9 (((w49.setCell ⟨gb465, 0, none⟩ (.int .i64 t459)).setCell ⟨gb465, 1, none⟩ (.slice Ao56 t460.length co56)).setCell ⟨gb465, 2, none⟩ (.int .i64 t463)) w.heap.size (fun k_ => some k_ ≠ (.slice Ao17 t419.length co17 : Value).ownBlock ∧ some k_ ≠ (.slice Ao28 t433.length co28 : Value).ownBlock ∧ some k_ ≠ (.slice Ao36 t442.length co36 : Value).ownBlock ∧ some k_ ≠ (.slice Ao46 t453.length co46 : Value).ownBlock ∧ some k_ ≠ (.slice Ao56 t460.length co56 : Value).ownBlock) (.slice Ao22 t426.length co22) t426) := ⟨Rm3 HO428 BK465⟩
have n2_ : Aside0 (Kd.Q Kd.string 9 (((w49.setCell ⟨gb465, 0, none⟩ (.int .i64 t459)).setCell ⟨gb465, 1, none⟩ (.slice Ao56 t460.length co56)).setCell ⟨gb465, 2, none⟩ (.int .i64 t463)) w.heap.size (fun k_ => some k_ ≠ (.slice Ao17 t419.length co17 : Value).ownBlock ∧ some k_ ≠ (.slice Ao22 t426.length co22 : Value).ownBlock ∧ some k_ ≠ (.slice Ao36 t442.length co36 : Value).ownBlock ∧ some k_ ≠ (.slice Ao46 t453.length co46 : Value).ownBlock ∧ some k_ ≠ (.slice Ao56 t460.length co56 : Value).ownBlock) (.slice Ao28 t433.length co28) t433) := ⟨Qm3 HO435 BK465⟩
have n3_ : Aside0 (Kd.Q Kd.string 9 (((w49.setCell ⟨gb465, 0, none⟩ (.int .i64 t459)).setCell ⟨gb465, 1, none⟩ (.slice Ao56 t460.length co56)).setCell ⟨gb465, 2, none⟩ (.int .i64 t463)) w.heap.size (fun k_ => some k_ ≠ (.slice Ao17 t419.length co17 : Value).ownBlock ∧ some k_ ≠ (.slice Ao22 t426.length co22 : Value).ownBlock ∧ some k_ ≠ (.slice Ao28 t433.length co28 : Value).ownBlock ∧ some k_ ≠ (.slice Ao46 t453.length co46 : Value).ownBlock ∧ some k_ ≠ (.slice Ao56 t460.length co56 : Value).ownBlock) (.slice Ao36 t442.length co36) t442) := ⟨Qm3 HO444 BK465⟩
have n4_ : Aside0 (Kd.R (Kd.int .i64) 2 (((w49.setCell ⟨gb465, 0, none⟩ (.int .i64 t459)).setCell ⟨gb465, 1, none⟩ (.slice Ao56 t460.length co56)).setCell ⟨gb465, 2, none⟩ (.int .i64 t463)) w.heap.size (fun _ => True) v449 t448) := ⟨Rm3 HO450 BK465⟩
have n5_ : Aside0 (Kd.R Kd.string 9 (((w49.setCell ⟨gb465, 0, none⟩ (.int .i64 t459)).setCell ⟨gb465, 1, none⟩ (.slice Ao56 t460.length co56)).setCell ⟨gb465, 2, none⟩ (.int .i64 t463)) w.heap.size (fun k_ => some k_ ≠ (.slice Ao17 t419.length co17 : Value).ownBlock ∧ some k_ ≠ (.slice Ao22 t426.length co22 : Value).ownBlock ∧ some k_ ≠ (.slice Ao28 t433.length co28 : Value).ownBlock ∧ some k_ ≠ (.slice Ao36 t442.length co36 : Value).ownBlock ∧ some k_ ≠ (.slice Ao56 t460.length co56 : Value).ownBlock) (.slice Ao46 t453.length co46) t453) := ⟨Rm3 HO455 BK465⟩
have n6_ : Aside0 (Kd.Q Kd.string 9 (((w49.setCell ⟨gb465, 0, none⟩ (.int .i64 t459)).setCell ⟨gb465, 1, none⟩ (.slice Ao56 t460.length co56)).setCell ⟨gb465, 2, none⟩ (.int .i64 t463)) w.heap.size (fun k_ => some k_ ≠ (.slice Ao17 t419.length co17 : Value).ownBlock ∧ some k_ ≠ (.slice Ao22 t426.length co22 : Value).ownBlock ∧ some k_ ≠ (.slice Ao28 t433.length co28 : Value).ownBlock ∧ some k_ ≠ (.slice Ao36 t442.length co36 : Value).ownBlock ∧ some k_ ≠ (.slice Ao46 t453.length co46 : Value).ownBlock) (.slice Ao56 t460.length co56) t460) := ⟨Qm3 HO462 BK465⟩
have n7_ : Aside0 ((((w49.setCell ⟨gb465, 0, none⟩ (.int .i64 t459)).setCell ⟨gb465, 1, none⟩ (.slice Ao56 t460.length co56)).setCell ⟨gb465, 2, none⟩ (.int .i64 t463)).heap[gb424]? = some (.cells #[.int .i64 t418, .slice Ao17 t419.length co17, .int .i64 t422] 26 (0, 0))) := ⟨rf3 NB424_465 BK424⟩
have n8_ : Aside0 ((((w49.setCell ⟨gb465, 0, none⟩ (.int .i64 t459)).setCell ⟨gb465, 1, none⟩ (.slice Ao56 t460.length co56)).setCell ⟨gb465, 2, none⟩ (.int .i64 t463)).heap[gb431]? = some (.cells #[.int .i64 t425, .slice Ao22 t426.length co22, .int .i64 t429] 26 (0, 0))) := ⟨rf3 NB431_465 BK431⟩
have n9_ : Aside0 ((((w49.setCell ⟨gb465, 0, none⟩ (.int .i64 t459)).setCell ⟨gb465, 1, none⟩ (.slice Ao56 t460.length co56)).setCell ⟨gb465, 2, none⟩ (.int .i64 t463)).heap[gb438]? = some (.cells #[.int .i64 t432, .slice Ao28 t433.length co28, .int .i64 t436] 26 (0, 0))) := ⟨rf3 NB438_465 BK438⟩
have n10_ : Aside0 ((((w49.setCell ⟨gb465, 0, none⟩ (.int .i64 t459)).setCell ⟨gb465, 1, none⟩ (.slice Ao56 t460.length co56)).setCell ⟨gb465, 2, none⟩ (.int .i64 t463)).heap[gb447]? = some (.cells #[.int .i64 t441, .slice Ao36 t442.length co36, .int .i64 t445] 26 (0, 0))) := ⟨rf3 NB447_465 BK447⟩
have n11_ : Aside0 ((((w49.setCell ⟨gb465, 0, none⟩ (.int .i64 t459)).setCell ⟨gb465, 1, none⟩ (.slice Ao56 t460.length co56)).setCell ⟨gb465, 2, none⟩ (.int .i64 t463)).heap[gb458]? = some (.cells #[.int .i64 t452, .slice Ao46 t453.length co46, .int .i64 t456] 26 (0, 0))) := ⟨rf3 NB458_465 BK458⟩
have n12_ : Aside0 ((((w49.setCell ⟨gb465, 0, none⟩ (.int .i64 t459)).setCell ⟨gb465, 1, none⟩ (.slice Ao56 t460.length co56)).setCell ⟨gb465, 2, none⟩ (.int .i64 t463)).heap[gb465]? = some (.cells #[.int .i64 t459, .slice Ao56 t460.length co56, .int .i64 t463] 26 (0, 0))) := ⟨by (with_reducible repeat (first | apply k1 | apply k2 | apply k3)); refine blk_put (cs := #[.int .i64 t459, .slice Ao56 t460.length co56, .int .i64 0]) ?_ 2 _ rfl; (with_reducible repeat (first | apply k1 | apply k2 | apply k3)); refine blk_put (cs := #[.int .i64 t459, .slice none 0 0, .int .i64 0]) ?_ 1 _ rfl; (with_reducible repeat (first | apply k1 | apply k2 | apply k3)); refine blk_put (cs := #[.int .i64 0, .slice none 0 0, .int .i64 0]) ?_ 0 _ rfl; (with_reducible repeat (first | apply k1 | apply k2 | apply k3)); exact BK465.out⟩
have n13_ : Aside0 (Below w.heap.size w (((w49.setCell ⟨gb465, 0, none⟩ (.int .i64 t459)).setCell ⟨gb465, 1, none⟩ (.slice Ao56 t460.length co56)).setCell ⟨gb465, 2, none⟩ (.int .i64 t463))) := ⟨rb6 HB GE424 GE431 GE438 GE447 GE458 GE465⟩
(try clear HO421)
(try clear HO428)
(try clear HO435)
(try clear HO444)
(try clear HO450)
(try clear HO455)
(try clear HO462)
(try clear BK424)
(try clear BK431)
(try clear BK438)
(try clear BK447)
(try clear BK458)
(try clear BK465)
(try clear HB)
generalize (((w49.setCell ⟨gb465, 0, none⟩ (.int .i64 t459)).setCell ⟨gb465, 1, none⟩ (.slice Ao56 t460.length co56)).setCell ⟨gb465, 2, none⟩ (.int .i64 t463)) = w58 at n0_ n1_ n2_ n3_ n4_ n5_ n6_ n7_ n8_ n9_ n10_ n11_ n12_ n13_ ⊢
have HO421 := n0_
have HO428 := n1_
have HO435 := n2_
have HO444 := n3_
have HO450 := n4_
have HO455 := n5_
have HO462 := n6_
have BK424 := n7_
have BK431 := n8_
have BK438 := n9_
have BK447 := n10_
have BK458 := n11_
have BK465 := n12_
have HB := n13_
clear n0_ n1_ n2_ n3_ n4_ n5_ n6_ n7_ n8_ n9_ n10_ n11_ n12_ n13_
replace HO421 := am (Kd.Q_drew HO421.out)
replace HO428 := am (Kd.R_drew HO428.out)
replace HO435 := am (Kd.Q_drew HO435.out)
replace HO444 := am (Kd.Q_drew HO444.out)
replace HO450 := am (Kd.R_drew HO450.out)
replace HO455 := am (Kd.R_drew HO455.out)
replace HO462 := am (Kd.Q_drew HO462.out)
replace BK424 := am (blk_drew BK424.out)
replace BK431 := am (blk_drew BK431.out)
replace BK438 := am (blk_drew BK438.out)
replace BK447 := am (blk_drew BK447.out)
replace BK458 := am (blk_drew BK458.out)
replace BK465 := am (blk_drew BK465.out)
replace HB := am (below_drew1 HB.out)
refine start_ (n := 24) (S := fun w' => True) (ds := []) (bm 24 0) (by kernel_rfl) rfl rfl trivial (fun hHeld => ?_); refine with_tabW laws_FnKept.tab12 laws_FnKept.bits12 (fun HT_ HW_ => ?_)
generalize w58.drew = w59 at HO421 HO428 HO435 HO444 HO450 HO455 HO462 BK424 BK431 BK438 BK447 BK458 BK465 HB hHeld ⊢
refine pu_ 0 79 (bm 24 1) HT_.out ?_
refine pu_ 1 80 (bm 24 3) HT_.out ?_
refine pu_ 2 81 (bm 24 7) HT_.out ?_
refine pu_ 3 82 (bm 24 15) HT_.out ?_
refine un_ 4 83 (bm 24 31) HT_.out ?_
refine un_ 5 84 (bm 24 63) HT_.out ?_
refine un_ 6 85 (bm 24 127) HT_.out ?_
refine un_ 7 86 (bm 24 255) HT_.out ?_
refine pu_ 8 87 (bm 24 511) HT_.out ?_
refine pu_ 9 88 (bm 24 1023) HT_.out ?_
refine un_ 10 89 (bm 24 2047) HT_.out ?_
refine un_ 11 90 (bm 24 4095) HT_.out ?_
refine un_ 12 91 (bm 24 8191) HT_.out ?_
refine un_ 13 92 (bm 24 16383) HT_.out ?_
refine un_ 14 93 (bm 24 32767) HT_.out ?_
refine pu_ 15 94 (bm 24 65535) HT_.out ?_
refine pu_ 16 95 (bm 24 131071) HT_.out ?_
refine un_ 17 96 (bm 24 262143) HT_.out ?_
refine un_ 18 97 (bm 24 524287) HT_.out ?_
refine un_ 19 98 (bm 24 1048575) HT_.out ?_
refine un_ 20 99 (bm 24 2097151) HT_.out ?_
refine un_ 21 100 (bm 24 4194303) HT_.out ?_
refine un_ 22 101 (bm 24 8388607) HT_.out ?_
refine pu_ 23 102 (bm 24 16777215) HT_.out ?_
refine done_ (done_of HT_.out (by kernel_rfl)) ?_
try go_wp2
go_meet
case rel => exact ⟨_, (true), (by first | rfl | (simp; done) | (simp [*]; done)), H', ⟨by first | omega | exact Nat.le_refl _⟩, ⟨rr HO450⟩, ⟨rq HO421⟩, ⟨Kd.Q_of_R (rr HO428)⟩, ⟨rq HO435⟩, ⟨rq HO444⟩, ⟨Kd.Q_of_R (rr HO455)⟩, ⟨rq HO462⟩, ⟨rk BK424⟩, ⟨rk BK431⟩, ⟨rk BK438⟩, ⟨rk BK447⟩, ⟨rk BK458⟩, ⟨rk BK465⟩, ⟨rb6 HB GE424 GE431 GE438 GE447 GE458 GE465⟩⟩
)
·as_aux_lemma => (
rw [if_neg c57] at H
have c57b0 : (t430 != t464) = false := by simpa using c57
(try (have c57b1 : decide (t430 = t464) = true := by simpa using c57))
(try (have c57b2 : (t430 == t464) = true := by simpa using c57))
clear c57
(first | rw [c57b0] | (simp only [i64_w, i32_w]; rw [c57b0]) | skip)
replace H := Option.bind_eq_some_iff.mp H
obtain ⟨t466, A600, H⟩ := H
(try dsimp only at H)
have A60 := am A600
clear A600
by_cases c61 : t466 = true
·as_aux_lemma => (
subst c61
rw [if_pos rfl] at H
replace H := Option.bind_eq_some_iff.mp H
obtain ⟨t467, A620, H⟩ := H
(try dsimp only at H)
have A62 := am A620
clear A620
replace H := Option.bind_eq_some_iff.mp H
obtain ⟨t468, A630, H⟩ := H
(try dsimp only at H)
have A63 := am A630
clear A630
by_cases c64 : (t467 != t468) = true
·as_aux_lemma => (
rw [if_pos c64] at H
have c64b0 : (t467 != t468) = true := c64
(try (have c64b1 : decide (t467 = t468) = false := by simpa using c64))
(try (have c64b2 : (t467 == t468) = false := by simpa using c64))
(try (have c64b3 : ¬ (t467 = t468) := by simpa using c64))
clear c64
have H' := am H
clear H
try go_wp2
have n0_ : Aside0 (Kd.Q Kd.string 9 (((w49.setCell ⟨gb465, 0, none⟩ (.int .i64 t459)).setCell ⟨gb465, 1, none⟩ (.slice Ao56 t460.length co56)).setCell ⟨gb465, 2, none⟩ (.int .i64 t463)) w.heap.size (fun k_ => some k_ ≠ (.slice Ao22 t426.length co22 : Value).ownBlock ∧ some k_ ≠ (.slice Ao28 t433.length co28 : Value).ownBlock ∧ some k_ ≠ (.slice Ao36 t442.length co36 : Value).ownBlock ∧ some k_ ≠ (.slice Ao46 t453.length co46 : Value).ownBlock ∧ some k_ ≠ (.slice Ao56 t460.length co56 : Value).ownBlock) (.slice Ao17 t419.length co17) t419) := ⟨Qm3 HO421 BK465⟩
have n1_ : Aside0 (Kd.R Kd.string 9 (((w49.setCell ⟨gb465, 0, none⟩ (.int .i64 t459)).setCell ⟨gb465, 1, none⟩ (.slice Ao56 t460.length co56)).setCell ⟨gb465, 2, none⟩ (.int .i64 t463)) w.heap.size (fun k_ => some k_ ≠ (.slice Ao17 t419.length co17 : Value).ownBlock ∧ some k_ ≠ (.slice Ao28 t433.length co28 : Value).ownBlock ∧ some k_ ≠ (.slice Ao36 t442.length co36 : Value).ownBlock ∧ some k_ ≠ (.slice Ao46 t453.length co46 : Value).ownBlock ∧ some k_ ≠ (.slice Ao56 t460.length co56 : Value).ownBlock) (.slice Ao22 t426.length co22) t426) := ⟨Rm3 HO428 BK465⟩
have n2_ : Aside0 (Kd.Q Kd.string 9 (((w49.setCell ⟨gb465, 0, none⟩ (.int .i64 t459)).setCell ⟨gb465, 1, none⟩ (.slice Ao56 t460.length co56)).setCell ⟨gb465, 2, none⟩ (.int .i64 t463)) w.heap.size (fun k_ => some k_ ≠ (.slice Ao17 t419.length co17 : Value).ownBlock ∧ some k_ ≠ (.slice Ao22 t426.length co22 : Value).ownBlock ∧ some k_ ≠ (.slice Ao36 t442.length co36 : Value).ownBlock ∧ some k_ ≠ (.slice Ao46 t453.length co46 : Value).ownBlock ∧ some k_ ≠ (.slice Ao56 t460.length co56 : Value).ownBlock) (.slice Ao28 t433.length co28) t433) := ⟨Qm3 HO435 BK465⟩
have n3_ : Aside0 (Kd.Q Kd.string 9 (((w49.setCell ⟨gb465, 0, none⟩ (.int .i64 t459)).setCell ⟨gb465, 1, none⟩ (.slice Ao56 t460.length co56)).setCell ⟨gb465, 2, none⟩ (.int .i64 t463)) w.heap.size (fun k_ => some k_ ≠ (.slice Ao17 t419.length co17 : Value).ownBlock ∧ some k_ ≠ (.slice Ao22 t426.length co22 : Value).ownBlock ∧ some k_ ≠ (.slice Ao28 t433.length co28 : Value).ownBlock ∧ some k_ ≠ (.slice Ao46 t453.length co46 : Value).ownBlock ∧ some k_ ≠ (.slice Ao56 t460.length co56 : Value).ownBlock) (.slice Ao36 t442.length co36) t442) := ⟨Qm3 HO444 BK465⟩
have n4_ : Aside0 (Kd.R (Kd.int .i64) 2 (((w49.setCell ⟨gb465, 0, none⟩ (.int .i64 t459)).setCell ⟨gb465, 1, none⟩ (.slice Ao56 t460.length co56)).setCell ⟨gb465, 2, none⟩ (.int .i64 t463)) w.heap.size (fun _ => True) v449 t448) := ⟨Rm3 HO450 BK465⟩
have n5_ : Aside0 (Kd.R Kd.string 9 (((w49.setCell ⟨gb465, 0, none⟩ (.int .i64 t459)).setCell ⟨gb465, 1, none⟩ (.slice Ao56 t460.length co56)).setCell ⟨gb465, 2, none⟩ (.int .i64 t463)) w.heap.size (fun k_ => some k_ ≠ (.slice Ao17 t419.length co17 : Value).ownBlock ∧ some k_ ≠ (.slice Ao22 t426.length co22 : Value).ownBlock ∧ some k_ ≠ (.slice Ao28 t433.length co28 : Value).ownBlock ∧ some k_ ≠ (.slice Ao36 t442.length co36 : Value).ownBlock ∧ some k_ ≠ (.slice Ao56 t460.length co56 : Value).ownBlock) (.slice Ao46 t453.length co46) t453) := ⟨Rm3 HO455 BK465⟩
have n6_ : Aside0 (Kd.Q Kd.string 9 (((w49.setCell ⟨gb465, 0, none⟩ (.int .i64 t459)).setCell ⟨gb465, 1, none⟩ (.slice Ao56 t460.length co56)).setCell ⟨gb465, 2, none⟩ (.int .i64 t463)) w.heap.size (fun k_ => some k_ ≠ (.slice Ao17 t419.length co17 : Value).ownBlock ∧ some k_ ≠ (.slice Ao22 t426.length co22 : Value).ownBlock ∧ some k_ ≠ (.slice Ao28 t433.length co28 : Value).ownBlock ∧ some k_ ≠ (.slice Ao36 t442.length co36 : Value).ownBlock ∧ some k_ ≠ (.slice Ao46 t453.length co46 : Value).ownBlock) (.slice Ao56 t460.length co56) t460) := ⟨Qm3 HO462 BK465⟩
have n7_ : Aside0 ((((w49.setCell ⟨gb465, 0, none⟩ (.int .i64 t459)).setCell ⟨gb465, 1, none⟩ (.slice Ao56 t460.length co56)).setCell ⟨gb465, 2, none⟩ (.int .i64 t463)).heap[gb424]? = some (.cells #[.int .i64 t418, .slice Ao17 t419.length co17, .int .i64 t422] 26 (0, 0))) := ⟨rf3 NB424_465 BK424⟩
have n8_ : Aside0 ((((w49.setCell ⟨gb465, 0, none⟩ (.int .i64 t459)).setCell ⟨gb465, 1, none⟩ (.slice Ao56 t460.length co56)).setCell ⟨gb465, 2, none⟩ (.int .i64 t463)).heap[gb431]? = some (.cells #[.int .i64 t425, .slice Ao22 t426.length co22, .int .i64 t429] 26 (0, 0))) := ⟨rf3 NB431_465 BK431⟩
have n9_ : Aside0 ((((w49.setCell ⟨gb465, 0, none⟩ (.int .i64 t459)).setCell ⟨gb465, 1, none⟩ (.slice Ao56 t460.length co56)).setCell ⟨gb465, 2, none⟩ (.int .i64 t463)).heap[gb438]? = some (.cells #[.int .i64 t432, .slice Ao28 t433.length co28, .int .i64 t436] 26 (0, 0))) := ⟨rf3 NB438_465 BK438⟩
have n10_ : Aside0 ((((w49.setCell ⟨gb465, 0, none⟩ (.int .i64 t459)).setCell ⟨gb465, 1, none⟩ (.slice Ao56 t460.length co56)).setCell ⟨gb465, 2, none⟩ (.int .i64 t463)).heap[gb447]? = some (.cells #[.int .i64 t441, .slice Ao36 t442.length co36, .int .i64 t445] 26 (0, 0))) := ⟨rf3 NB447_465 BK447⟩
have n11_ : Aside0 ((((w49.setCell ⟨gb465, 0, none⟩ (.int .i64 t459)).setCell ⟨gb465, 1, none⟩ (.slice Ao56 t460.length co56)).setCell ⟨gb465, 2, none⟩ (.int .i64 t463)).heap[gb458]? = some (.cells #[.int .i64 t452, .slice Ao46 t453.length co46, .int .i64 t456] 26 (0, 0))) := ⟨rf3 NB458_465 BK458⟩
have n12_ : Aside0 ((((w49.setCell ⟨gb465, 0, none⟩ (.int .i64 t459)).setCell ⟨gb465, 1, none⟩ (.slice Ao56 t460.length co56)).setCell ⟨gb465, 2, none⟩ (.int .i64 t463)).heap[gb465]? = some (.cells #[.int .i64 t459, .slice Ao56 t460.length co56, .int .i64 t463] 26 (0, 0))) := ⟨by (with_reducible repeat (first | apply k1 | apply k2 | apply k3)); refine blk_put (cs := #[.int .i64 t459, .slice Ao56 t460.length co56, .int .i64 0]) ?_ 2 _ rfl; (with_reducible repeat (first | apply k1 | apply k2 | apply k3)); refine blk_put (cs := #[.int .i64 t459, .slice none 0 0, .int .i64 0]) ?_ 1 _ rfl; (with_reducible repeat (first | apply k1 | apply k2 | apply k3)); refine blk_put (cs := #[.int .i64 0, .slice none 0 0, .int .i64 0]) ?_ 0 _ rfl; (with_reducible repeat (first | apply k1 | apply k2 | apply k3)); exact BK465.out⟩
have n13_ : Aside0 (Below w.heap.size w (((w49.setCell ⟨gb465, 0, none⟩ (.int .i64 t459)).setCell ⟨gb465, 1, none⟩ (.slice Ao56 t460.length co56)).setCell ⟨gb465, 2, none⟩ (.int .i64 t463))) := ⟨rb6 HB GE424 GE431 GE438 GE447 GE458 GE465⟩
(try clear HO421)
(try clear HO428)
(try clear HO435)
(try clear HO444)
(try clear HO450)
(try clear HO455)
(try clear HO462)
(try clear BK424)
(try clear BK431)
(try clear BK438)
(try clear BK447)
(try clear BK458)
(try clear BK465)
(try clear HB)
generalize (((w49.setCell ⟨gb465, 0, none⟩ (.int .i64 t459)).setCell ⟨gb465, 1, none⟩ (.slice Ao56 t460.length co56)).setCell ⟨gb465, 2, none⟩ (.int .i64 t463)) = w65 at n0_ n1_ n2_ n3_ n4_ n5_ n6_ n7_ n8_ n9_ n10_ n11_ n12_ n13_ ⊢
have HO421 := n0_
have HO428 := n1_
have HO435 := n2_
have HO444 := n3_
have HO450 := n4_
have HO455 := n5_
have HO462 := n6_
have BK424 := n7_
have BK431 := n8_
have BK438 := n9_
have BK447 := n10_
have BK458 := n11_
have BK465 := n12_
have HB := n13_
clear n0_ n1_ n2_ n3_ n4_ n5_ n6_ n7_ n8_ n9_ n10_ n11_ n12_ n13_
replace HO421 := am (Kd.Q_drew HO421.out)
replace HO428 := am (Kd.R_drew HO428.out)
replace HO435 := am (Kd.Q_drew HO435.out)
replace HO444 := am (Kd.Q_drew HO444.out)
replace HO450 := am (Kd.R_drew HO450.out)
replace HO455 := am (Kd.R_drew HO455.out)
replace HO462 := am (Kd.Q_drew HO462.out)
replace BK424 := am (blk_drew BK424.out)
replace BK431 := am (blk_drew BK431.out)
replace BK438 := am (blk_drew BK438.out)
replace BK447 := am (blk_drew BK447.out)
replace BK458 := am (blk_drew BK458.out)
replace BK465 := am (blk_drew BK465.out)
replace HB := am (below_drew1 HB.out)
refine start_ (n := 24) (S := fun w' => w'.cell? ⟨gb431, 0, none⟩ = some (.int .i64 t425) ∧ w'.cell? ⟨gb431, 1, none⟩ = some (.slice Ao22 t426.length co22) ∧ w'.cell? ⟨gb431, 2, none⟩ = some (.int .i64 t429) ∧ w'.cell? ⟨gb465, 0, none⟩ = some (.int .i64 t459) ∧ w'.cell? ⟨gb465, 1, none⟩ = some (.slice Ao56 t460.length co56) ∧ w'.cell? ⟨gb465, 2, none⟩ = some (.int .i64 t463) ∧ w'.cell? ⟨gb424, 0, none⟩ = some (.int .i64 t418) ∧ w'.cell? ⟨gb424, 1, none⟩ = some (.slice Ao17 t419.length co17) ∧ w'.cell? ⟨gb424, 2, none⟩ = some (.int .i64 t422)) (ds := []) (bm 24 0) (by kernel_rfl) rfl rfl ⟨(blk_cell BK431.out 0).trans rfl, (blk_cell BK431.out 1).trans rfl, (blk_cell BK431.out 2).trans rfl, (blk_cell BK465.out 0).trans rfl, (blk_cell BK465.out 1).trans rfl, (blk_cell BK465.out 2).trans rfl, (blk_cell BK424.out 0).trans rfl, (blk_cell BK424.out 1).trans rfl, (blk_cell BK424.out 2).trans rfl⟩ (fun hHeld => ?_); refine with_tabW laws_FnKept.tab12 laws_FnKept.bits12 (fun HT_ HW_ => ?_)
generalize w65.drew = w66 at HO421 HO428 HO435 HO444 HO450 HO455 HO462 BK424 BK431 BK438 BK447 BK458 BK465 HB hHeld ⊢
refine pu_ 0 79 (bm 24 1) HT_.out ?_
refine pu_ 1 80 (bm 24 3) HT_.out ?_
refine pu_ 2 81 (bm 24 7) HT_.out ?_
refine pu_ 3 82 (bm 24 15) HT_.out ?_
refine take_ (i := 4) (N := some 83) (v := ?_) (a' := ?_) (bm 24 31) rfl rfl (take_ofW HT_.out HW_.out (by kernel_rfl)) (fun _ _ _ h => h) (Or.inl ⟨by rfl, ?_⟩) hHeld ?_ ?_
rotate_left
·(
rintro w' ⟨s0, s1, s2, s3, s4, s5, s6, s7, s8⟩
go_simp
with_reducible rfl
)
rotate_left
·(
simp only [Act.put, List.setIfInBounds_toArray, List.set_cons_zero, List.set_cons_succ, i64_w, i32_w]
rfl
)
refine take_ (i := 5) (N := some 84) (v := ?_) (a' := ?_) (bm 24 63) rfl rfl (take_ofW HT_.out HW_.out (by kernel_rfl)) (fun _ _ _ h => h) (Or.inl ⟨by rfl, ?_⟩) hHeld ?_ ?_
rotate_left
·(
rintro w' ⟨s0, s1, s2, s3, s4, s5, s6, s7, s8⟩
go_simp
with_reducible rfl
)
rotate_left
·(
simp only [Act.put, List.setIfInBounds_toArray, List.set_cons_zero, List.set_cons_succ, i64_w, i32_w]
rfl
)
refine one_ (i := 6) (N := some 85) (bm 24 127) rfl rfl (one_of HT_.out (by kernel_rfl)) (by decide) (fun K hK => ?_)
refine goes_ Try.func18 (by kernel_rfl) rfl #[.agg #[.int .i64 t425, .slice Ao22 t426.length co22, .int .i64 t429], .agg #[.int .i64 t459, .slice Ao56 t460.length co56, .int .i64 t463]] (by rfl) rfl rfl mt ?_
with_reducible refine (laws_likeHistory.calls k t425 _ _ t426 t429 t459 _ _ t460 t463 true _ ?side1 ?side2 ?side3 ?side4 A60.out).mono ?_
(case side1 => repeat (first | exact (Kd.R_reads' HO428.out).2.2 | (with_reducible refine Kd.C_alloc ?_ _) | (with_reducible refine Kd.C_drewN ?_ _) | (with_reducible refine Kd.C_drew ?_)))
(case side2 => exact (Kd.R_reads' HO428.out).2.1)
(case side3 => repeat (first | exact (Kd.Q_reads' HO462.out).2.2 | (with_reducible refine Kd.C_alloc ?_ _) | (with_reducible refine Kd.C_drewN ?_ _) | (with_reducible refine Kd.C_drew ?_)))
(case side4 => exact (Kd.Q_reads' HO462.out).2.1)
rintro e w67 ⟨rfl, hb⟩
refine ⟨_, rfl, ?_⟩
replace HO421 := am (Kd.Q_below (rq HO421) hb)
replace HO428 := am (Kd.R_below (rr HO428) hb)
replace HO435 := am (Kd.Q_below (rq HO435) hb)
replace HO444 := am (Kd.Q_below (rq HO444) hb)
replace HO450 := am (Kd.R_below (rr HO450) hb)
replace HO455 := am (Kd.R_below (rr HO455) hb)
replace HO462 := am (Kd.Q_below (rq HO462) hb)
replace BK424 := am (blk_below (rk BK424) hb)
replace BK431 := am (blk_below (rk BK431) hb)
replace BK438 := am (blk_below (rk BK438) hb)
replace BK447 := am (blk_below (rk BK447) hb)
replace BK458 := am (blk_below (rk BK458) hb)
replace BK465 := am (blk_below (rk BK465) hb)
replace HB := am (below_step (rb6 HB GE424 GE431 GE438 GE447 GE458 GE465) hb)
(try clear hb)
refine hK.out _ _ ⟨(blk_cell BK431.out 0).trans rfl, (blk_cell BK431.out 1).trans rfl, (blk_cell BK431.out 2).trans rfl, (blk_cell BK465.out 0).trans rfl, (blk_cell BK465.out 1).trans rfl, (blk_cell BK465.out 2).trans rfl, (blk_cell BK424.out 0).trans rfl, (blk_cell BK424.out 1).trans rfl, (blk_cell BK424.out 2).trans rfl⟩ (fun hHeld => ?_)
clear hK K
refine norm_ (a' := _) (show Act.put _ (some 85) _ = _ from na) ?_
refine pu_ 7 86 (bm 24 255) HT_.out ?_
refine pu_ 8 87 (bm 24 511) HT_.out ?_
refine pu_ 9 88 (bm 24 1023) HT_.out ?_
refine take_ (i := 10) (N := some 89) (v := ?_) (a' := ?_) (bm 24 2047) rfl rfl (take_ofW HT_.out HW_.out (by kernel_rfl)) (fun _ _ _ h => h) (Or.inl ⟨by rfl, ?_⟩) hHeld ?_ ?_
rotate_left
·(
rintro w' ⟨s0, s1, s2, s3, s4, s5, s6, s7, s8⟩
go_simp
with_reducible rfl
)
rotate_left
·(
simp only [Act.put, List.setIfInBounds_toArray, List.set_cons_zero, List.set_cons_succ, i64_w, i32_w]
rfl
)
refine take_ (i := 12) (N := some 91) (v := ?_) (a' := ?_) (bm 24 6143) rfl rfl (take_ofW HT_.out HW_.out (by kernel_rfl)) (fun _ _ _ h => h) (Or.inl ⟨by rfl, ?_⟩) hHeld ?_ ?_
rotate_left
·(
rintro w' ⟨s0, s1, s2, s3, s4, s5, s6, s7, s8⟩
go_simp
with_reducible rfl
)
rotate_left
·(
simp only [Act.put, List.setIfInBounds_toArray, List.set_cons_zero, List.set_cons_succ, i64_w, i32_w]
rfl
)
refine one_ (i := 11) (N := some 90) (bm 24 8191) rfl rfl (one_of HT_.out (by kernel_rfl)) (by decide) (fun K hK => ?_)
refine goes_ Try.func19 (by kernel_rfl) rfl #[.agg #[.int .i64 t418, .slice Ao17 t419.length co17, .int .i64 t422]] (by rfl) rfl rfl mt ?_
with_reducible refine (impl_HistoryOk.calls k t418 _ _ t419 t422 t467 _ ?side1 ?side2 A62.out).mono ?_
(case side1 => repeat (first | exact (Kd.Q_reads' HO421.out).2.2 | (with_reducible refine Kd.C_alloc ?_ _) | (with_reducible refine Kd.C_drewN ?_ _) | (with_reducible refine Kd.C_drew ?_)))
(case side2 => exact (Kd.Q_reads' HO421.out).2.1)
rintro e w68 ⟨rfl, hb⟩
refine ⟨_, rfl, ?_⟩
replace HO421 := am (Kd.Q_below (rq HO421) hb)
replace HO428 := am (Kd.R_below (rr HO428) hb)
replace HO435 := am (Kd.Q_below (rq HO435) hb)
replace HO444 := am (Kd.Q_below (rq HO444) hb)
replace HO450 := am (Kd.R_below (rr HO450) hb)
replace HO455 := am (Kd.R_below (rr HO455) hb)
replace HO462 := am (Kd.Q_below (rq HO462) hb)
replace BK424 := am (blk_below (rk BK424) hb)
replace BK431 := am (blk_below (rk BK431) hb)
replace BK438 := am (blk_below (rk BK438) hb)
replace BK447 := am (blk_below (rk BK447) hb)
replace BK458 := am (blk_below (rk BK458) hb)
replace BK465 := am (blk_below (rk BK465) hb)
replace HB := am (below_step (rb6 HB GE424 GE431 GE438 GE447 GE458 GE465) hb)
(try clear hb)
refine hK.out _ _ ⟨(blk_cell BK431.out 0).trans rfl, (blk_cell BK431.out 1).trans rfl, (blk_cell BK431.out 2).trans rfl, (blk_cell BK465.out 0).trans rfl, (blk_cell BK465.out 1).trans rfl, (blk_cell BK465.out 2).trans rfl, (blk_cell BK424.out 0).trans rfl, (blk_cell BK424.out 1).trans rfl, (blk_cell BK424.out 2).trans rfl⟩ (fun hHeld => ?_)
clear hK K
refine norm_ (a' := _) (show Act.put _ (some 90) _ = _ from na) ?_
refine one_ (i := 13) (N := some 92) (bm 24 16383) rfl rfl (one_of HT_.out (by kernel_rfl)) (by decide) (fun K hK => ?_)
refine goes_ Try.func20 (by kernel_rfl) rfl #[.agg #[.int .i64 t418, .slice Ao17 t419.length co17, .int .i64 t422]] (by rfl) rfl rfl mt ?_
with_reducible refine (spec_HistoryOk.calls k t418 _ _ t419 t422 t468 _ ?side1 ?side2 A63.out).mono ?_
(case side1 => repeat (first | exact (Kd.Q_reads' HO421.out).2.2 | (with_reducible refine Kd.C_alloc ?_ _) | (with_reducible refine Kd.C_drewN ?_ _) | (with_reducible refine Kd.C_drew ?_)))
(case side2 => exact (Kd.Q_reads' HO421.out).2.1)
rintro e w69 ⟨rfl, hb⟩
refine ⟨_, rfl, ?_⟩
replace HO421 := am (Kd.Q_below (rq HO421) hb)
replace HO428 := am (Kd.R_below (rr HO428) hb)
replace HO435 := am (Kd.Q_below (rq HO435) hb)
replace HO444 := am (Kd.Q_below (rq HO444) hb)
replace HO450 := am (Kd.R_below (rr HO450) hb)
replace HO455 := am (Kd.R_below (rr HO455) hb)
replace HO462 := am (Kd.Q_below (rq HO462) hb)
replace BK424 := am (blk_below (rk BK424) hb)
replace BK431 := am (blk_below (rk BK431) hb)
replace BK438 := am (blk_below (rk BK438) hb)
replace BK447 := am (blk_below (rk BK447) hb)
replace BK458 := am (blk_below (rk BK458) hb)
replace BK465 := am (blk_below (rk BK465) hb)
replace HB := am (below_step (rb6 HB GE424 GE431 GE438 GE447 GE458 GE465) hb)
(try clear hb)
refine hK.out _ _ ⟨(blk_cell BK431.out 0).trans rfl, (blk_cell BK431.out 1).trans rfl, (blk_cell BK431.out 2).trans rfl, (blk_cell BK465.out 0).trans rfl, (blk_cell BK465.out 1).trans rfl, (blk_cell BK465.out 2).trans rfl, (blk_cell BK424.out 0).trans rfl, (blk_cell BK424.out 1).trans rfl, (blk_cell BK424.out 2).trans rfl⟩ (fun hHeld => ?_)
clear hK K
refine norm_ (a' := _) (show Act.put _ (some 92) _ = _ from na) ?_
refine pu_ 14 93 (bm 24 32767) HT_.out ?_
refine pu_ 15 94 (bm 24 65535) HT_.out ?_
refine pu_ 16 95 (bm 24 131071) HT_.out ?_
refine un_ 17 96 (bm 24 262143) HT_.out ?_
refine un_ 18 97 (bm 24 524287) HT_.out ?_
refine un_ 19 98 (bm 24 1048575) HT_.out ?_
refine un_ 20 99 (bm 24 2097151) HT_.out ?_
refine un_ 21 100 (bm 24 4194303) HT_.out ?_
refine un_ 22 101 (bm 24 8388607) HT_.out ?_
refine pu_ 23 102 (bm 24 16777215) HT_.out ?_
refine done_ (done_of HT_.out (by kernel_rfl)) ?_
try go_wp2
go_meet
case rel => exact ⟨_, (true), (by first | rfl | (simp; done) | (simp [*]; done)), H', ⟨by first | omega | exact Nat.le_refl _⟩, ⟨rr HO450⟩, ⟨rq HO421⟩, ⟨Kd.Q_of_R (rr HO428)⟩, ⟨rq HO435⟩, ⟨rq HO444⟩, ⟨Kd.Q_of_R (rr HO455)⟩, ⟨rq HO462⟩, ⟨rk BK424⟩, ⟨rk BK431⟩, ⟨rk BK438⟩, ⟨rk BK447⟩, ⟨rk BK458⟩, ⟨rk BK465⟩, ⟨rb6 HB GE424 GE431 GE438 GE447 GE458 GE465⟩⟩
)
·as_aux_lemma => (
rw [if_neg c64] at H
have c64b0 : (t467 != t468) = false := by simpa using c64
(try (have c64b1 : decide (t467 = t468) = true := by simpa using c64))
(try (have c64b2 : (t467 == t468) = true := by simpa using c64))
clear c64
replace H := Option.bind_eq_some_iff.mp H
obtain ⟨t469, A700, H⟩ := H
(try dsimp only at H)
have A70 := am A700
clear A700
replace H := Option.bind_eq_some_iff.mp H
obtain ⟨t472, A710, H⟩ := H
(try dsimp only at H)
have A71 := am A710
clear A710
have H' := am H
clear H
try go_wp2
have n0_ : Aside0 (Kd.Q Kd.string 9 (((w49.setCell ⟨gb465, 0, none⟩ (.int .i64 t459)).setCell ⟨gb465, 1, none⟩ (.slice Ao56 t460.length co56)).setCell ⟨gb465, 2, none⟩ (.int .i64 t463)) w.heap.size (fun k_ => some k_ ≠ (.slice Ao22 t426.length co22 : Value).ownBlock ∧ some k_ ≠ (.slice Ao28 t433.length co28 : Value).ownBlock ∧ some k_ ≠ (.slice Ao36 t442.length co36 : Value).ownBlock ∧ some k_ ≠ (.slice Ao46 t453.length co46 : Value).ownBlock ∧ some k_ ≠ (.slice Ao56 t460.length co56 : Value).ownBlock) (.slice Ao17 t419.length co17) t419) := ⟨Qm3 HO421 BK465⟩
have n1_ : Aside0 (Kd.R Kd.string 9 (((w49.setCell ⟨gb465, 0, none⟩ (.int .i64 t459)).setCell ⟨gb465, 1, none⟩ (.slice Ao56 t460.length co56)).setCell ⟨gb465, 2, none⟩ (.int .i64 t463)) w.heap.size (fun k_ => some k_ ≠ (.slice Ao17 t419.length co17 : Value).ownBlock ∧ some k_ ≠ (.slice Ao28 t433.length co28 : Value).ownBlock ∧ some k_ ≠ (.slice Ao36 t442.length co36 : Value).ownBlock ∧ some k_ ≠ (.slice Ao46 t453.length co46 : Value).ownBlock ∧ some k_ ≠ (.slice Ao56 t460.length co56 : Value).ownBlock) (.slice Ao22 t426.length co22) t426) := ⟨Rm3 HO428 BK465⟩
have n2_ : Aside0 (Kd.Q Kd.string 9 (((w49.setCell ⟨gb465, 0, none⟩ (.int .i64 t459)).setCell ⟨gb465, 1, none⟩ (.slice Ao56 t460.length co56)).setCell ⟨gb465, 2, none⟩ (.int .i64 t463)) w.heap.size (fun k_ => some k_ ≠ (.slice Ao17 t419.length co17 : Value).ownBlock ∧ some k_ ≠ (.slice Ao22 t426.length co22 : Value).ownBlock ∧ some k_ ≠ (.slice Ao36 t442.length co36 : Value).ownBlock ∧ some k_ ≠ (.slice Ao46 t453.length co46 : Value).ownBlock ∧ some k_ ≠ (.slice Ao56 t460.length co56 : Value).ownBlock) (.slice Ao28 t433.length co28) t433) := ⟨Qm3 HO435 BK465⟩
have n3_ : Aside0 (Kd.Q Kd.string 9 (((w49.setCell ⟨gb465, 0, none⟩ (.int .i64 t459)).setCell ⟨gb465, 1, none⟩ (.slice Ao56 t460.length co56)).setCell ⟨gb465, 2, none⟩ (.int .i64 t463)) w.heap.size (fun k_ => some k_ ≠ (.slice Ao17 t419.length co17 : Value).ownBlock ∧ some k_ ≠ (.slice Ao22 t426.length co22 : Value).ownBlock ∧ some k_ ≠ (.slice Ao28 t433.length co28 : Value).ownBlock ∧ some k_ ≠ (.slice Ao46 t453.length co46 : Value).ownBlock ∧ some k_ ≠ (.slice Ao56 t460.length co56 : Value).ownBlock) (.slice Ao36 t442.length co36) t442) := ⟨Qm3 HO444 BK465⟩
have n4_ : Aside0 (Kd.R (Kd.int .i64) 2 (((w49.setCell ⟨gb465, 0, none⟩ (.int .i64 t459)).setCell ⟨gb465, 1, none⟩ (.slice Ao56 t460.length co56)).setCell ⟨gb465, 2, none⟩ (.int .i64 t463)) w.heap.size (fun _ => True) v449 t448) := ⟨Rm3 HO450 BK465⟩
have n5_ : Aside0 (Kd.R Kd.string 9 (((w49.setCell ⟨gb465, 0, none⟩ (.int .i64 t459)).setCell ⟨gb465, 1, none⟩ (.slice Ao56 t460.length co56)).setCell ⟨gb465, 2, none⟩ (.int .i64 t463)) w.heap.size (fun k_ => some k_ ≠ (.slice Ao17 t419.length co17 : Value).ownBlock ∧ some k_ ≠ (.slice Ao22 t426.length co22 : Value).ownBlock ∧ some k_ ≠ (.slice Ao28 t433.length co28 : Value).ownBlock ∧ some k_ ≠ (.slice Ao36 t442.length co36 : Value).ownBlock ∧ some k_ ≠ (.slice Ao56 t460.length co56 : Value).ownBlock) (.slice Ao46 t453.length co46) t453) := ⟨Rm3 HO455 BK465⟩
have n6_ : Aside0 (Kd.Q Kd.string 9 (((w49.setCell ⟨gb465, 0, none⟩ (.int .i64 t459)).setCell ⟨gb465, 1, none⟩ (.slice Ao56 t460.length co56)).setCell ⟨gb465, 2, none⟩ (.int .i64 t463)) w.heap.size (fun k_ => some k_ ≠ (.slice Ao17 t419.length co17 : Value).ownBlock ∧ some k_ ≠ (.slice Ao22 t426.length co22 : Value).ownBlock ∧ some k_ ≠ (.slice Ao28 t433.length co28 : Value).ownBlock ∧ some k_ ≠ (.slice Ao36 t442.length co36 : Value).ownBlock ∧ some k_ ≠ (.slice Ao46 t453.length co46 : Value).ownBlock) (.slice Ao56 t460.length co56) t460) := ⟨Qm3 HO462 BK465⟩
have n7_ : Aside0 ((((w49.setCell ⟨gb465, 0, none⟩ (.int .i64 t459)).setCell ⟨gb465, 1, none⟩ (.slice Ao56 t460.length co56)).setCell ⟨gb465, 2, none⟩ (.int .i64 t463)).heap[gb424]? = some (.cells #[.int .i64 t418, .slice Ao17 t419.length co17, .int .i64 t422] 26 (0, 0))) := ⟨rf3 NB424_465 BK424⟩
have n8_ : Aside0 ((((w49.setCell ⟨gb465, 0, none⟩ (.int .i64 t459)).setCell ⟨gb465, 1, none⟩ (.slice Ao56 t460.length co56)).setCell ⟨gb465, 2, none⟩ (.int .i64 t463)).heap[gb431]? = some (.cells #[.int .i64 t425, .slice Ao22 t426.length co22, .int .i64 t429] 26 (0, 0))) := ⟨rf3 NB431_465 BK431⟩
have n9_ : Aside0 ((((w49.setCell ⟨gb465, 0, none⟩ (.int .i64 t459)).setCell ⟨gb465, 1, none⟩ (.slice Ao56 t460.length co56)).setCell ⟨gb465, 2, none⟩ (.int .i64 t463)).heap[gb438]? = some (.cells #[.int .i64 t432, .slice Ao28 t433.length co28, .int .i64 t436] 26 (0, 0))) := ⟨rf3 NB438_465 BK438⟩
have n10_ : Aside0 ((((w49.setCell ⟨gb465, 0, none⟩ (.int .i64 t459)).setCell ⟨gb465, 1, none⟩ (.slice Ao56 t460.length co56)).setCell ⟨gb465, 2, none⟩ (.int .i64 t463)).heap[gb447]? = some (.cells #[.int .i64 t441, .slice Ao36 t442.length co36, .int .i64 t445] 26 (0, 0))) := ⟨rf3 NB447_465 BK447⟩
have n11_ : Aside0 ((((w49.setCell ⟨gb465, 0, none⟩ (.int .i64 t459)).setCell ⟨gb465, 1, none⟩ (.slice Ao56 t460.length co56)).setCell ⟨gb465, 2, none⟩ (.int .i64 t463)).heap[gb458]? = some (.cells #[.int .i64 t452, .slice Ao46 t453.length co46, .int .i64 t456] 26 (0, 0))) := ⟨rf3 NB458_465 BK458⟩
have n12_ : Aside0 ((((w49.setCell ⟨gb465, 0, none⟩ (.int .i64 t459)).setCell ⟨gb465, 1, none⟩ (.slice Ao56 t460.length co56)).setCell ⟨gb465, 2, none⟩ (.int .i64 t463)).heap[gb465]? = some (.cells #[.int .i64 t459, .slice Ao56 t460.length co56, .int .i64 t463] 26 (0, 0))) := ⟨by (with_reducible repeat (first | apply k1 | apply k2 | apply k3)); refine blk_put (cs := #[.int .i64 t459, .slice Ao56 t460.length co56, .int .i64 0]) ?_ 2 _ rfl; (with_reducible repeat (first | apply k1 | apply k2 | apply k3)); refine blk_put (cs := #[.int .i64 t459, .slice none 0 0, .int .i64 0]) ?_ 1 _ rfl; (with_reducible repeat (first | apply k1 | apply k2 | apply k3)); refine blk_put (cs := #[.int .i64 0, .slice none 0 0, .int .i64 0]) ?_ 0 _ rfl; (with_reducible repeat (first | apply k1 | apply k2 | apply k3)); exact BK465.out⟩
have n13_ : Aside0 (Below w.heap.size w (((w49.setCell ⟨gb465, 0, none⟩ (.int .i64 t459)).setCell ⟨gb465, 1, none⟩ (.slice Ao56 t460.length co56)).setCell ⟨gb465, 2, none⟩ (.int .i64 t463))) := ⟨rb6 HB GE424 GE431 GE438 GE447 GE458 GE465⟩
(try clear HO421)
(try clear HO428)
(try clear HO435)
(try clear HO444)
(try clear HO450)
(try clear HO455)
(try clear HO462)
(try clear BK424)
(try clear BK431)
(try clear BK438)
(try clear BK447)
(try clear BK458)
(try clear BK465)
(try clear HB)
generalize (((w49.setCell ⟨gb465, 0, none⟩ (.int .i64 t459)).setCell ⟨gb465, 1, none⟩ (.slice Ao56 t460.length co56)).setCell ⟨gb465, 2, none⟩ (.int .i64 t463)) = w72 at n0_ n1_ n2_ n3_ n4_ n5_ n6_ n7_ n8_ n9_ n10_ n11_ n12_ n13_ ⊢
have HO421 := n0_
have HO428 := n1_
have HO435 := n2_
have HO444 := n3_
have HO450 := n4_
have HO455 := n5_
have HO462 := n6_
have BK424 := n7_
have BK431 := n8_
have BK438 := n9_
have BK447 := n10_
have BK458 := n11_
have BK465 := n12_
have HB := n13_
clear n0_ n1_ n2_ n3_ n4_ n5_ n6_ n7_ n8_ n9_ n10_ n11_ n12_ n13_
replace HO421 := am (Kd.Q_drew HO421.out)
replace HO428 := am (Kd.R_drew HO428.out)
replace HO435 := am (Kd.Q_drew HO435.out)
replace HO444 := am (Kd.Q_drew HO444.out)
replace HO450 := am (Kd.R_drew HO450.out)
replace HO455 := am (Kd.R_drew HO455.out)
replace HO462 := am (Kd.Q_drew HO462.out)
replace BK424 := am (blk_drew BK424.out)
replace BK431 := am (blk_drew BK431.out)
replace BK438 := am (blk_drew BK438.out)
replace BK447 := am (blk_drew BK447.out)
replace BK458 := am (blk_drew BK458.out)
replace BK465 := am (blk_drew BK465.out)
replace HB := am (below_drew1 HB.out)
refine start_ (n := 24) (S := fun w' => w'.cell? ⟨gb431, 0, none⟩ = some (.int .i64 t425) ∧ w'.cell? ⟨gb431, 1, none⟩ = some (.slice Ao22 t426.length co22) ∧ w'.cell? ⟨gb431, 2, none⟩ = some (.int .i64 t429) ∧ w'.cell? ⟨gb465, 0, none⟩ = some (.int .i64 t459) ∧ w'.cell? ⟨gb465, 1, none⟩ = some (.slice Ao56 t460.length co56) ∧ w'.cell? ⟨gb465, 2, none⟩ = some (.int .i64 t463) ∧ w'.cell? ⟨gb424, 0, none⟩ = some (.int .i64 t418) ∧ w'.cell? ⟨gb424, 1, none⟩ = some (.slice Ao17 t419.length co17) ∧ w'.cell? ⟨gb424, 2, none⟩ = some (.int .i64 t422) ∧ w'.cell? ⟨gb447, 0, none⟩ = some (.int .i64 t441) ∧ w'.cell? ⟨gb447, 1, none⟩ = some (.slice Ao36 t442.length co36) ∧ w'.cell? ⟨gb447, 2, none⟩ = some (.int .i64 t445)) (ds := []) (bm 24 0) (by kernel_rfl) rfl rfl ⟨(blk_cell BK431.out 0).trans rfl, (blk_cell BK431.out 1).trans rfl, (blk_cell BK431.out 2).trans rfl, (blk_cell BK465.out 0).trans rfl, (blk_cell BK465.out 1).trans rfl, (blk_cell BK465.out 2).trans rfl, (blk_cell BK424.out 0).trans rfl, (blk_cell BK424.out 1).trans rfl, (blk_cell BK424.out 2).trans rfl, (blk_cell BK447.out 0).trans rfl, (blk_cell BK447.out 1).trans rfl, (blk_cell BK447.out 2).trans rfl⟩ (fun hHeld => ?_); refine with_tabW laws_FnKept.tab12 laws_FnKept.bits12 (fun HT_ HW_ => ?_)
generalize w72.drew = w73 at HO421 HO428 HO435 HO444 HO450 HO455 HO462 BK424 BK431 BK438 BK447 BK458 BK465 HB hHeld ⊢
refine pu_ 0 79 (bm 24 1) HT_.out ?_
refine pu_ 1 80 (bm 24 3) HT_.out ?_
refine pu_ 2 81 (bm 24 7) HT_.out ?_
refine pu_ 3 82 (bm 24 15) HT_.out ?_
refine take_ (i := 4) (N := some 83) (v := ?_) (a' := ?_) (bm 24 31) rfl rfl (take_ofW HT_.out HW_.out (by kernel_rfl)) (fun _ _ _ h => h) (Or.inl ⟨by rfl, ?_⟩) hHeld ?_ ?_
rotate_left
·(
rintro w' ⟨s0, s1, s2, s3, s4, s5, s6, s7, s8, s9, s10, s11⟩
go_simp
with_reducible rfl
)
rotate_left
·(
simp only [Act.put, List.setIfInBounds_toArray, List.set_cons_zero, List.set_cons_succ, i64_w, i32_w]
rfl
)
refine take_ (i := 5) (N := some 84) (v := ?_) (a' := ?_) (bm 24 63) rfl rfl (take_ofW HT_.out HW_.out (by kernel_rfl)) (fun _ _ _ h => h) (Or.inl ⟨by rfl, ?_⟩) hHeld ?_ ?_
rotate_left
·(
rintro w' ⟨s0, s1, s2, s3, s4, s5, s6, s7, s8, s9, s10, s11⟩
go_simp
with_reducible rfl
)
rotate_left
·(
simp only [Act.put, List.setIfInBounds_toArray, List.set_cons_zero, List.set_cons_succ, i64_w, i32_w]
rfl
)
refine one_ (i := 6) (N := some 85) (bm 24 127) rfl rfl (one_of HT_.out (by kernel_rfl)) (by decide) (fun K hK => ?_)
refine goes_ Try.func18 (by kernel_rfl) rfl #[.agg #[.int .i64 t425, .slice Ao22 t426.length co22, .int .i64 t429], .agg #[.int .i64 t459, .slice Ao56 t460.length co56, .int .i64 t463]] (by rfl) rfl rfl mt ?_
with_reducible refine (laws_likeHistory.calls k t425 _ _ t426 t429 t459 _ _ t460 t463 true _ ?side1 ?side2 ?side3 ?side4 A60.out).mono ?_
(case side1 => repeat (first | exact (Kd.R_reads' HO428.out).2.2 | (with_reducible refine Kd.C_alloc ?_ _) | (with_reducible refine Kd.C_drewN ?_ _) | (with_reducible refine Kd.C_drew ?_)))
(case side2 => exact (Kd.R_reads' HO428.out).2.1)
(case side3 => repeat (first | exact (Kd.Q_reads' HO462.out).2.2 | (with_reducible refine Kd.C_alloc ?_ _) | (with_reducible refine Kd.C_drewN ?_ _) | (with_reducible refine Kd.C_drew ?_)))
(case side4 => exact (Kd.Q_reads' HO462.out).2.1)
rintro e w74 ⟨rfl, hb⟩
refine ⟨_, rfl, ?_⟩
replace HO421 := am (Kd.Q_below (rq HO421) hb)
replace HO428 := am (Kd.R_below (rr HO428) hb)
replace HO435 := am (Kd.Q_below (rq HO435) hb)
replace HO444 := am (Kd.Q_below (rq HO444) hb)
replace HO450 := am (Kd.R_below (rr HO450) hb)
replace HO455 := am (Kd.R_below (rr HO455) hb)
replace HO462 := am (Kd.Q_below (rq HO462) hb)
replace BK424 := am (blk_below (rk BK424) hb)
replace BK431 := am (blk_below (rk BK431) hb)
replace BK438 := am (blk_below (rk BK438) hb)
replace BK447 := am (blk_below (rk BK447) hb)
replace BK458 := am (blk_below (rk BK458) hb)
replace BK465 := am (blk_below (rk BK465) hb)
replace HB := am (below_step (rb6 HB GE424 GE431 GE438 GE447 GE458 GE465) hb)
(try clear hb)
refine hK.out _ _ ⟨(blk_cell BK431.out 0).trans rfl, (blk_cell BK431.out 1).trans rfl, (blk_cell BK431.out 2).trans rfl, (blk_cell BK465.out 0).trans rfl, (blk_cell BK465.out 1).trans rfl, (blk_cell BK465.out 2).trans rfl, (blk_cell BK424.out 0).trans rfl, (blk_cell BK424.out 1).trans rfl, (blk_cell BK424.out 2).trans rfl, (blk_cell BK447.out 0).trans rfl, (blk_cell BK447.out 1).trans rfl, (blk_cell BK447.out 2).trans rfl⟩ (fun hHeld => ?_)
clear hK K
refine norm_ (a' := _) (show Act.put _ (some 85) _ = _ from na) ?_
refine pu_ 7 86 (bm 24 255) HT_.out ?_
refine pu_ 8 87 (bm 24 511) HT_.out ?_
refine pu_ 9 88 (bm 24 1023) HT_.out ?_
refine take_ (i := 10) (N := some 89) (v := ?_) (a' := ?_) (bm 24 2047) rfl rfl (take_ofW HT_.out HW_.out (by kernel_rfl)) (fun _ _ _ h => h) (Or.inl ⟨by rfl, ?_⟩) hHeld ?_ ?_
rotate_left
·(
rintro w' ⟨s0, s1, s2, s3, s4, s5, s6, s7, s8, s9, s10, s11⟩
go_simp
with_reducible rfl
)
rotate_left
·(
simp only [Act.put, List.setIfInBounds_toArray, List.set_cons_zero, List.set_cons_succ, i64_w, i32_w]
rfl
)
refine take_ (i := 12) (N := some 91) (v := ?_) (a' := ?_) (bm 24 6143) rfl rfl (take_ofW HT_.out HW_.out (by kernel_rfl)) (fun _ _ _ h => h) (Or.inl ⟨by rfl, ?_⟩) hHeld ?_ ?_
rotate_left
·(
rintro w' ⟨s0, s1, s2, s3, s4, s5, s6, s7, s8, s9, s10, s11⟩
go_simp
with_reducible rfl
)
rotate_left
·(
simp only [Act.put, List.setIfInBounds_toArray, List.set_cons_zero, List.set_cons_succ, i64_w, i32_w]
rfl
)
refine one_ (i := 11) (N := some 90) (bm 24 8191) rfl rfl (one_of HT_.out (by kernel_rfl)) (by decide) (fun K hK => ?_)
refine goes_ Try.func19 (by kernel_rfl) rfl #[.agg #[.int .i64 t418, .slice Ao17 t419.length co17, .int .i64 t422]] (by rfl) rfl rfl mt ?_
with_reducible refine (impl_HistoryOk.calls k t418 _ _ t419 t422 t467 _ ?side1 ?side2 A62.out).mono ?_
(case side1 => repeat (first | exact (Kd.Q_reads' HO421.out).2.2 | (with_reducible refine Kd.C_alloc ?_ _) | (with_reducible refine Kd.C_drewN ?_ _) | (with_reducible refine Kd.C_drew ?_)))
(case side2 => exact (Kd.Q_reads' HO421.out).2.1)
rintro e w75 ⟨rfl, hb⟩
refine ⟨_, rfl, ?_⟩
replace HO421 := am (Kd.Q_below (rq HO421) hb)
replace HO428 := am (Kd.R_below (rr HO428) hb)
replace HO435 := am (Kd.Q_below (rq HO435) hb)
replace HO444 := am (Kd.Q_below (rq HO444) hb)
replace HO450 := am (Kd.R_below (rr HO450) hb)
replace HO455 := am (Kd.R_below (rr HO455) hb)
replace HO462 := am (Kd.Q_below (rq HO462) hb)
replace BK424 := am (blk_below (rk BK424) hb)
replace BK431 := am (blk_below (rk BK431) hb)
replace BK438 := am (blk_below (rk BK438) hb)
replace BK447 := am (blk_below (rk BK447) hb)
replace BK458 := am (blk_below (rk BK458) hb)
replace BK465 := am (blk_below (rk BK465) hb)
replace HB := am (below_step (rb6 HB GE424 GE431 GE438 GE447 GE458 GE465) hb)
(try clear hb)
refine hK.out _ _ ⟨(blk_cell BK431.out 0).trans rfl, (blk_cell BK431.out 1).trans rfl, (blk_cell BK431.out 2).trans rfl, (blk_cell BK465.out 0).trans rfl, (blk_cell BK465.out 1).trans rfl, (blk_cell BK465.out 2).trans rfl, (blk_cell BK424.out 0).trans rfl, (blk_cell BK424.out 1).trans rfl, (blk_cell BK424.out 2).trans rfl, (blk_cell BK447.out 0).trans rfl, (blk_cell BK447.out 1).trans rfl, (blk_cell BK447.out 2).trans rfl⟩ (fun hHeld => ?_)
clear hK K
refine norm_ (a' := _) (show Act.put _ (some 90) _ = _ from na) ?_
refine one_ (i := 13) (N := some 92) (bm 24 16383) rfl rfl (one_of HT_.out (by kernel_rfl)) (by decide) (fun K hK => ?_)
refine goes_ Try.func20 (by kernel_rfl) rfl #[.agg #[.int .i64 t418, .slice Ao17 t419.length co17, .int .i64 t422]] (by rfl) rfl rfl mt ?_
with_reducible refine (spec_HistoryOk.calls k t418 _ _ t419 t422 t468 _ ?side1 ?side2 A63.out).mono ?_
(case side1 => repeat (first | exact (Kd.Q_reads' HO421.out).2.2 | (with_reducible refine Kd.C_alloc ?_ _) | (with_reducible refine Kd.C_drewN ?_ _) | (with_reducible refine Kd.C_drew ?_)))
(case side2 => exact (Kd.Q_reads' HO421.out).2.1)
rintro e w76 ⟨rfl, hb⟩
refine ⟨_, rfl, ?_⟩
replace HO421 := am (Kd.Q_below (rq HO421) hb)
replace HO428 := am (Kd.R_below (rr HO428) hb)
replace HO435 := am (Kd.Q_below (rq HO435) hb)
replace HO444 := am (Kd.Q_below (rq HO444) hb)
replace HO450 := am (Kd.R_below (rr HO450) hb)
replace HO455 := am (Kd.R_below (rr HO455) hb)
replace HO462 := am (Kd.Q_below (rq HO462) hb)
replace BK424 := am (blk_below (rk BK424) hb)
replace BK431 := am (blk_below (rk BK431) hb)
replace BK438 := am (blk_below (rk BK438) hb)
replace BK447 := am (blk_below (rk BK447) hb)
replace BK458 := am (blk_below (rk BK458) hb)
replace BK465 := am (blk_below (rk BK465) hb)
replace HB := am (below_step (rb6 HB GE424 GE431 GE438 GE447 GE458 GE465) hb)
(try clear hb)
refine hK.out _ _ ⟨(blk_cell BK431.out 0).trans rfl, (blk_cell BK431.out 1).trans rfl, (blk_cell BK431.out 2).trans rfl, (blk_cell BK465.out 0).trans rfl, (blk_cell BK465.out 1).trans rfl, (blk_cell BK465.out 2).trans rfl, (blk_cell BK424.out 0).trans rfl, (blk_cell BK424.out 1).trans rfl, (blk_cell BK424.out 2).trans rfl, (blk_cell BK447.out 0).trans rfl, (blk_cell BK447.out 1).trans rfl, (blk_cell BK447.out 2).trans rfl⟩ (fun hHeld => ?_)
clear hK K
refine norm_ (a' := _) (show Act.put _ (some 92) _ = _ from na) ?_
refine pu_ 14 93 (bm 24 32767) HT_.out ?_
refine pu_ 15 94 (bm 24 65535) HT_.out ?_
refine pu_ 16 95 (bm 24 131071) HT_.out ?_
refine pu_ 17 96 (bm 24 262143) HT_.out ?_
refine pu_ 19 98 (bm 24 786431) HT_.out ?_
refine take_ (i := 18) (N := some 97) (v := ?_) (a' := ?_) (bm 24 1048575) rfl rfl (take_ofW HT_.out HW_.out (by kernel_rfl)) (fun _ _ _ h => h) (Or.inl ⟨by rfl, ?_⟩) hHeld ?_ ?_
rotate_left
·(
rintro w' ⟨s0, s1, s2, s3, s4, s5, s6, s7, s8, s9, s10, s11⟩
go_simp
with_reducible rfl
)
rotate_left
·(
simp only [Act.put, List.setIfInBounds_toArray, List.set_cons_zero, List.set_cons_succ, i64_w, i32_w]
rfl
)
refine one_ (i := 20) (N := some 99) (bm 24 2097151) rfl rfl (one_of HT_.out (by kernel_rfl)) (by decide) (fun K hK => ?_)
refine goes_ Try.func22 (by kernel_rfl) rfl #[.agg #[.int .i64 t441, .slice Ao36 t442.length co36, .int .i64 t445], .string t446] (by rfl) rfl rfl mt ?_
with_reducible refine (spec_Looked.calls k t441 _ _ t442 t445 t446 t469 _ ?side1 ?side2 A70.out).mono ?_
(case side1 => repeat (first | exact (Kd.Q_reads' HO444.out).2.2 | (with_reducible refine Kd.C_alloc ?_ _) | (with_reducible refine Kd.C_drewN ?_ _) | (with_reducible refine Kd.C_drew ?_)))
(case side2 => exact (Kd.Q_reads' HO444.out).2.1)
rintro e w77 ⟨v470, rfl, ho0, hb⟩
refine ⟨_, rfl, ?_⟩
replace HO421 := am (Kd.Q_below (rq HO421) hb)
replace HO428 := am (Kd.R_below (rr HO428) hb)
replace HO435 := am (Kd.Q_below (rq HO435) hb)
replace HO444 := am (Kd.Q_below (rq HO444) hb)
replace HO455 := am (Kd.R_below (rr HO455) hb)
replace HO462 := am (Kd.Q_below (rq HO462) hb)
have HO471 := am (Kd.R_lower (Kd.R_new' ho0 (Kd.R_lt (rr HO450))) (below_size (rb6 HB GE424 GE431 GE438 GE447 GE458 GE465)))
replace HO450 := am (Kd.R_elder' (rr HO450) (Kd.R_base ho0) hb)
replace BK424 := am (blk_below (rk BK424) hb)
replace BK431 := am (blk_below (rk BK431) hb)
replace BK438 := am (blk_below (rk BK438) hb)
replace BK447 := am (blk_below (rk BK447) hb)
replace BK458 := am (blk_below (rk BK458) hb)
replace BK465 := am (blk_below (rk BK465) hb)
replace HB := am (below_step (rb6 HB GE424 GE431 GE438 GE447 GE458 GE465) hb)
(try clear hb)
(try clear ho0)
obtain ⟨Ao78, co78, eo78⟩ := Kd.R_slice HO450.out
(first | subst eo78 | (injection eo78 with f1_ f2_ f3_; have f4_ := f1_.symm; have f5_ := f3_.symm; clear f1_ f2_ f3_; subst f4_; subst f5_))
obtain ⟨Ao79, co79, eo79⟩ := Kd.R_slice HO471.out
(first | subst eo79 | (injection eo79 with f1_ f2_ f3_; have f4_ := f1_.symm; have f5_ := f3_.symm; clear f1_ f2_ f3_; subst f4_; subst f5_))
refine hK.out _ _ ⟨(blk_cell BK431.out 0).trans rfl, (blk_cell BK431.out 1).trans rfl, (blk_cell BK431.out 2).trans rfl, (blk_cell BK465.out 0).trans rfl, (blk_cell BK465.out 1).trans rfl, (blk_cell BK465.out 2).trans rfl, (blk_cell BK424.out 0).trans rfl, (blk_cell BK424.out 1).trans rfl, (blk_cell BK424.out 2).trans rfl, (blk_cell BK447.out 0).trans rfl, (blk_cell BK447.out 1).trans rfl, (blk_cell BK447.out 2).trans rfl⟩ (fun hHeld => ?_)
clear hK K
refine norm_ (a' := _) (show Act.put _ (some 99) _ = _ from na) ?_
refine one_ (i := 21) (N := some 100) (bm 24 4194303) rfl rfl (one_of HT_.out (by kernel_rfl)) (by decide) (fun K hK => ?_)
refine goes_ Try.func21 (by kernel_rfl) rfl #[.slice Ao78 t448.length co78, .slice Ao79 t469.length co79] (by rfl) rfl rfl mt ?_
with_reducible refine (laws_likeInts.calls k _ _ t448 _ _ t469 t472 _ ?side1 ?side2 ?side3 ?side4 A71.out).mono ?_
(case side1 => repeat (first | exact (Kd.R_reads' HO450.out).2.2 | (with_reducible refine Kd.C_alloc ?_ _) | (with_reducible refine Kd.C_drewN ?_ _) | (with_reducible refine Kd.C_drew ?_)))
(case side2 => exact (Kd.R_reads' HO450.out).2.1)
(case side3 => repeat (first | exact (Kd.R_reads' HO471.out).2.2 | (with_reducible refine Kd.C_alloc ?_ _) | (with_reducible refine Kd.C_drewN ?_ _) | (with_reducible refine Kd.C_drew ?_)))
(case side4 => exact (Kd.R_reads' HO471.out).2.1)
rintro e w' ⟨rfl, ⟨nd, rfl⟩⟩
refine ⟨_, rfl, ?_⟩
refine hK.out _ _ ⟨(blk_cell BK431.out 0).trans rfl, (blk_cell BK431.out 1).trans rfl, (blk_cell BK431.out 2).trans rfl, (blk_cell BK465.out 0).trans rfl, (blk_cell BK465.out 1).trans rfl, (blk_cell BK465.out 2).trans rfl, (blk_cell BK424.out 0).trans rfl, (blk_cell BK424.out 1).trans rfl, (blk_cell BK424.out 2).trans rfl, (blk_cell BK447.out 0).trans rfl, (blk_cell BK447.out 1).trans rfl, (blk_cell BK447.out 2).trans rfl⟩ (fun hHeld => ?_)
clear hK K
refine norm_ (a' := _) (show Act.put _ (some 100) _ = _ from na) ?_
refine pu_ 22 101 (bm 24 8388607) HT_.out ?_
refine pu_ 23 102 (bm 24 16777215) HT_.out ?_
refine done_ (done_of HT_.out (by kernel_rfl)) ?_
try go_wp2
go_meet
case rel => exact ⟨_, (!t472), (by first | rfl | (simp; done) | (simp [*]; done)), H', ⟨by first | omega | exact Nat.le_refl _⟩, ⟨Rm0 HO450⟩, ⟨rq HO421⟩, ⟨Kd.Q_of_R (rr HO428)⟩, ⟨rq HO435⟩, ⟨rq HO444⟩, ⟨Kd.Q_of_R (rr HO455)⟩, ⟨rq HO462⟩, ⟨rk BK424⟩, ⟨rk BK431⟩, ⟨rk BK438⟩, ⟨rk BK447⟩, ⟨rk BK458⟩, ⟨rk BK465⟩, ⟨rb6 HB GE424 GE431 GE438 GE447 GE458 GE465⟩⟩
)
)
·as_aux_lemma => (
replace c61 := Bool.eq_false_iff.mpr c61
subst c61
rw [if_neg (show ¬ (false = true) by decide)] at H
have H' := am H
clear H
try go_wp2
have n0_ : Aside0 (Kd.Q Kd.string 9 (((w49.setCell ⟨gb465, 0, none⟩ (.int .i64 t459)).setCell ⟨gb465, 1, none⟩ (.slice Ao56 t460.length co56)).setCell ⟨gb465, 2, none⟩ (.int .i64 t463)) w.heap.size (fun k_ => some k_ ≠ (.slice Ao22 t426.length co22 : Value).ownBlock ∧ some k_ ≠ (.slice Ao28 t433.length co28 : Value).ownBlock ∧ some k_ ≠ (.slice Ao36 t442.length co36 : Value).ownBlock ∧ some k_ ≠ (.slice Ao46 t453.length co46 : Value).ownBlock ∧ some k_ ≠ (.slice Ao56 t460.length co56 : Value).ownBlock) (.slice Ao17 t419.length co17) t419) := ⟨Qm3 HO421 BK465⟩
have n1_ : Aside0 (Kd.R Kd.string 9 (((w49.setCell ⟨gb465, 0, none⟩ (.int .i64 t459)).setCell ⟨gb465, 1, none⟩ (.slice Ao56 t460.length co56)).setCell ⟨gb465, 2, none⟩ (.int .i64 t463)) w.heap.size (fun k_ => some k_ ≠ (.slice Ao17 t419.length co17 : Value).ownBlock ∧ some k_ ≠ (.slice Ao28 t433.length co28 : Value).ownBlock ∧ some k_ ≠ (.slice Ao36 t442.length co36 : Value).ownBlock ∧ some k_ ≠ (.slice Ao46 t453.length co46 : Value).ownBlock ∧ some k_ ≠ (.slice Ao56 t460.length co56 : Value).ownBlock) (.slice Ao22 t426.length co22) t426) := ⟨Rm3 HO428 BK465⟩
have n2_ : Aside0 (Kd.Q Kd.string 9 (((w49.setCell ⟨gb465, 0, none⟩ (.int .i64 t459)).setCell ⟨gb465, 1, none⟩ (.slice Ao56 t460.length co56)).setCell ⟨gb465, 2, none⟩ (.int .i64 t463)) w.heap.size (fun k_ => some k_ ≠ (.slice Ao17 t419.length co17 : Value).ownBlock ∧ some k_ ≠ (.slice Ao22 t426.length co22 : Value).ownBlock ∧ some k_ ≠ (.slice Ao36 t442.length co36 : Value).ownBlock ∧ some k_ ≠ (.slice Ao46 t453.length co46 : Value).ownBlock ∧ some k_ ≠ (.slice Ao56 t460.length co56 : Value).ownBlock) (.slice Ao28 t433.length co28) t433) := ⟨Qm3 HO435 BK465⟩
have n3_ : Aside0 (Kd.Q Kd.string 9 (((w49.setCell ⟨gb465, 0, none⟩ (.int .i64 t459)).setCell ⟨gb465, 1, none⟩ (.slice Ao56 t460.length co56)).setCell ⟨gb465, 2, none⟩ (.int .i64 t463)) w.heap.size (fun k_ => some k_ ≠ (.slice Ao17 t419.length co17 : Value).ownBlock ∧ some k_ ≠ (.slice Ao22 t426.length co22 : Value).ownBlock ∧ some k_ ≠ (.slice Ao28 t433.length co28 : Value).ownBlock ∧ some k_ ≠ (.slice Ao46 t453.length co46 : Value).ownBlock ∧ some k_ ≠ (.slice Ao56 t460.length co56 : Value).ownBlock) (.slice Ao36 t442.length co36) t442) := ⟨Qm3 HO444 BK465⟩
have n4_ : Aside0 (Kd.R (Kd.int .i64) 2 (((w49.setCell ⟨gb465, 0, none⟩ (.int .i64 t459)).setCell ⟨gb465, 1, none⟩ (.slice Ao56 t460.length co56)).setCell ⟨gb465, 2, none⟩ (.int .i64 t463)) w.heap.size (fun _ => True) v449 t448) := ⟨Rm3 HO450 BK465⟩
have n5_ : Aside0 (Kd.R Kd.string 9 (((w49.setCell ⟨gb465, 0, none⟩ (.int .i64 t459)).setCell ⟨gb465, 1, none⟩ (.slice Ao56 t460.length co56)).setCell ⟨gb465, 2, none⟩ (.int .i64 t463)) w.heap.size (fun k_ => some k_ ≠ (.slice Ao17 t419.length co17 : Value).ownBlock ∧ some k_ ≠ (.slice Ao22 t426.length co22 : Value).ownBlock ∧ some k_ ≠ (.slice Ao28 t433.length co28 : Value).ownBlock ∧ some k_ ≠ (.slice Ao36 t442.length co36 : Value).ownBlock ∧ some k_ ≠ (.slice Ao56 t460.length co56 : Value).ownBlock) (.slice Ao46 t453.length co46) t453) := ⟨Rm3 HO455 BK465⟩
have n6_ : Aside0 (Kd.Q Kd.string 9 (((w49.setCell ⟨gb465, 0, none⟩ (.int .i64 t459)).setCell ⟨gb465, 1, none⟩ (.slice Ao56 t460.length co56)).setCell ⟨gb465, 2, none⟩ (.int .i64 t463)) w.heap.size (fun k_ => some k_ ≠ (.slice Ao17 t419.length co17 : Value).ownBlock ∧ some k_ ≠ (.slice Ao22 t426.length co22 : Value).ownBlock ∧ some k_ ≠ (.slice Ao28 t433.length co28 : Value).ownBlock ∧ some k_ ≠ (.slice Ao36 t442.length co36 : Value).ownBlock ∧ some k_ ≠ (.slice Ao46 t453.length co46 : Value).ownBlock) (.slice Ao56 t460.length co56) t460) := ⟨Qm3 HO462 BK465⟩
have n7_ : Aside0 ((((w49.setCell ⟨gb465, 0, none⟩ (.int .i64 t459)).setCell ⟨gb465, 1, none⟩ (.slice Ao56 t460.length co56)).setCell ⟨gb465, 2, none⟩ (.int .i64 t463)).heap[gb424]? = some (.cells #[.int .i64 t418, .slice Ao17 t419.length co17, .int .i64 t422] 26 (0, 0))) := ⟨rf3 NB424_465 BK424⟩
have n8_ : Aside0 ((((w49.setCell ⟨gb465, 0, none⟩ (.int .i64 t459)).setCell ⟨gb465, 1, none⟩ (.slice Ao56 t460.length co56)).setCell ⟨gb465, 2, none⟩ (.int .i64 t463)).heap[gb431]? = some (.cells #[.int .i64 t425, .slice Ao22 t426.length co22, .int .i64 t429] 26 (0, 0))) := ⟨rf3 NB431_465 BK431⟩
have n9_ : Aside0 ((((w49.setCell ⟨gb465, 0, none⟩ (.int .i64 t459)).setCell ⟨gb465, 1, none⟩ (.slice Ao56 t460.length co56)).setCell ⟨gb465, 2, none⟩ (.int .i64 t463)).heap[gb438]? = some (.cells #[.int .i64 t432, .slice Ao28 t433.length co28, .int .i64 t436] 26 (0, 0))) := ⟨rf3 NB438_465 BK438⟩
have n10_ : Aside0 ((((w49.setCell ⟨gb465, 0, none⟩ (.int .i64 t459)).setCell ⟨gb465, 1, none⟩ (.slice Ao56 t460.length co56)).setCell ⟨gb465, 2, none⟩ (.int .i64 t463)).heap[gb447]? = some (.cells #[.int .i64 t441, .slice Ao36 t442.length co36, .int .i64 t445] 26 (0, 0))) := ⟨rf3 NB447_465 BK447⟩
have n11_ : Aside0 ((((w49.setCell ⟨gb465, 0, none⟩ (.int .i64 t459)).setCell ⟨gb465, 1, none⟩ (.slice Ao56 t460.length co56)).setCell ⟨gb465, 2, none⟩ (.int .i64 t463)).heap[gb458]? = some (.cells #[.int .i64 t452, .slice Ao46 t453.length co46, .int .i64 t456] 26 (0, 0))) := ⟨rf3 NB458_465 BK458⟩
have n12_ : Aside0 ((((w49.setCell ⟨gb465, 0, none⟩ (.int .i64 t459)).setCell ⟨gb465, 1, none⟩ (.slice Ao56 t460.length co56)).setCell ⟨gb465, 2, none⟩ (.int .i64 t463)).heap[gb465]? = some (.cells #[.int .i64 t459, .slice Ao56 t460.length co56, .int .i64 t463] 26 (0, 0))) := ⟨by (with_reducible repeat (first | apply k1 | apply k2 | apply k3)); refine blk_put (cs := #[.int .i64 t459, .slice Ao56 t460.length co56, .int .i64 0]) ?_ 2 _ rfl; (with_reducible repeat (first | apply k1 | apply k2 | apply k3)); refine blk_put (cs := #[.int .i64 t459, .slice none 0 0, .int .i64 0]) ?_ 1 _ rfl; (with_reducible repeat (first | apply k1 | apply k2 | apply k3)); refine blk_put (cs := #[.int .i64 0, .slice none 0 0, .int .i64 0]) ?_ 0 _ rfl; (with_reducible repeat (first | apply k1 | apply k2 | apply k3)); exact BK465.out⟩
have n13_ : Aside0 (Below w.heap.size w (((w49.setCell ⟨gb465, 0, none⟩ (.int .i64 t459)).setCell ⟨gb465, 1, none⟩ (.slice Ao56 t460.length co56)).setCell ⟨gb465, 2, none⟩ (.int .i64 t463))) := ⟨rb6 HB GE424 GE431 GE438 GE447 GE458 GE465⟩
(try clear HO421)
(try clear HO428)
(try clear HO435)
(try clear HO444)
(try clear HO450)
(try clear HO455)
(try clear HO462)
(try clear BK424)
(try clear BK431)
(try clear BK438)
(try clear BK447)
(try clear BK458)
(try clear BK465)
(try clear HB)
generalize (((w49.setCell ⟨gb465, 0, none⟩ (.int .i64 t459)).setCell ⟨gb465, 1, none⟩ (.slice Ao56 t460.length co56)).setCell ⟨gb465, 2, none⟩ (.int .i64 t463)) = w80 at n0_ n1_ n2_ n3_ n4_ n5_ n6_ n7_ n8_ n9_ n10_ n11_ n12_ n13_ ⊢
have HO421 := n0_
have HO428 := n1_
have HO435 := n2_
have HO444 := n3_
have HO450 := n4_
have HO455 := n5_
have HO462 := n6_
have BK424 := n7_
have BK431 := n8_
have BK438 := n9_
have BK447 := n10_
have BK458 := n11_
have BK465 := n12_
have HB := n13_
clear n0_ n1_ n2_ n3_ n4_ n5_ n6_ n7_ n8_ n9_ n10_ n11_ n12_ n13_
replace HO421 := am (Kd.Q_drew HO421.out)
replace HO428 := am (Kd.R_drew HO428.out)
replace HO435 := am (Kd.Q_drew HO435.out)
replace HO444 := am (Kd.Q_drew HO444.out)
replace HO450 := am (Kd.R_drew HO450.out)
replace HO455 := am (Kd.R_drew HO455.out)
replace HO462 := am (Kd.Q_drew HO462.out)
replace BK424 := am (blk_drew BK424.out)
replace BK431 := am (blk_drew BK431.out)
replace BK438 := am (blk_drew BK438.out)
replace BK447 := am (blk_drew BK447.out)
replace BK458 := am (blk_drew BK458.out)
replace BK465 := am (blk_drew BK465.out)
replace HB := am (below_drew1 HB.out)
refine start_ (n := 24) (S := fun w' => w'.cell? ⟨gb431, 0, none⟩ = some (.int .i64 t425) ∧ w'.cell? ⟨gb431, 1, none⟩ = some (.slice Ao22 t426.length co22) ∧ w'.cell? ⟨gb431, 2, none⟩ = some (.int .i64 t429) ∧ w'.cell? ⟨gb465, 0, none⟩ = some (.int .i64 t459) ∧ w'.cell? ⟨gb465, 1, none⟩ = some (.slice Ao56 t460.length co56) ∧ w'.cell? ⟨gb465, 2, none⟩ = some (.int .i64 t463)) (ds := []) (bm 24 0) (by kernel_rfl) rfl rfl ⟨(blk_cell BK431.out 0).trans rfl, (blk_cell BK431.out 1).trans rfl, (blk_cell BK431.out 2).trans rfl, (blk_cell BK465.out 0).trans rfl, (blk_cell BK465.out 1).trans rfl, (blk_cell BK465.out 2).trans rfl⟩ (fun hHeld => ?_); refine with_tabW laws_FnKept.tab12 laws_FnKept.bits12 (fun HT_ HW_ => ?_)
generalize w80.drew = w81 at HO421 HO428 HO435 HO444 HO450 HO455 HO462 BK424 BK431 BK438 BK447 BK458 BK465 HB hHeld ⊢
refine pu_ 0 79 (bm 24 1) HT_.out ?_
refine pu_ 1 80 (bm 24 3) HT_.out ?_
refine pu_ 2 81 (bm 24 7) HT_.out ?_
refine pu_ 3 82 (bm 24 15) HT_.out ?_
refine take_ (i := 4) (N := some 83) (v := ?_) (a' := ?_) (bm 24 31) rfl rfl (take_ofW HT_.out HW_.out (by kernel_rfl)) (fun _ _ _ h => h) (Or.inl ⟨by rfl, ?_⟩) hHeld ?_ ?_
rotate_left
·(
rintro w' ⟨s0, s1, s2, s3, s4, s5⟩
go_simp
with_reducible rfl
)
rotate_left
·(
simp only [Act.put, List.setIfInBounds_toArray, List.set_cons_zero, List.set_cons_succ, i64_w, i32_w]
rfl
)
refine take_ (i := 5) (N := some 84) (v := ?_) (a' := ?_) (bm 24 63) rfl rfl (take_ofW HT_.out HW_.out (by kernel_rfl)) (fun _ _ _ h => h) (Or.inl ⟨by rfl, ?_⟩) hHeld ?_ ?_
rotate_left
·(
rintro w' ⟨s0, s1, s2, s3, s4, s5⟩
go_simp
with_reducible rfl
)
rotate_left
·(
simp only [Act.put, List.setIfInBounds_toArray, List.set_cons_zero, List.set_cons_succ, i64_w, i32_w]
rfl
)
refine one_ (i := 6) (N := some 85) (bm 24 127) rfl rfl (one_of HT_.out (by kernel_rfl)) (by decide) (fun K hK => ?_)
refine goes_ Try.func18 (by kernel_rfl) rfl #[.agg #[.int .i64 t425, .slice Ao22 t426.length co22, .int .i64 t429], .agg #[.int .i64 t459, .slice Ao56 t460.length co56, .int .i64 t463]] (by rfl) rfl rfl mt ?_
with_reducible refine (laws_likeHistory.calls k t425 _ _ t426 t429 t459 _ _ t460 t463 false _ ?side1 ?side2 ?side3 ?side4 A60.out).mono ?_
(case side1 => repeat (first | exact (Kd.R_reads' HO428.out).2.2 | (with_reducible refine Kd.C_alloc ?_ _) | (with_reducible refine Kd.C_drewN ?_ _) | (with_reducible refine Kd.C_drew ?_)))
(case side2 => exact (Kd.R_reads' HO428.out).2.1)
(case side3 => repeat (first | exact (Kd.Q_reads' HO462.out).2.2 | (with_reducible refine Kd.C_alloc ?_ _) | (with_reducible refine Kd.C_drewN ?_ _) | (with_reducible refine Kd.C_drew ?_)))
(case side4 => exact (Kd.Q_reads' HO462.out).2.1)
rintro e w82 ⟨rfl, hb⟩
refine ⟨_, rfl, ?_⟩
replace HO421 := am (Kd.Q_below (rq HO421) hb)
replace HO428 := am (Kd.R_below (rr HO428) hb)
replace HO435 := am (Kd.Q_below (rq HO435) hb)
replace HO444 := am (Kd.Q_below (rq HO444) hb)
replace HO450 := am (Kd.R_below (rr HO450) hb)
replace HO455 := am (Kd.R_below (rr HO455) hb)
replace HO462 := am (Kd.Q_below (rq HO462) hb)
replace BK424 := am (blk_below (rk BK424) hb)
replace BK431 := am (blk_below (rk BK431) hb)
replace BK438 := am (blk_below (rk BK438) hb)
replace BK447 := am (blk_below (rk BK447) hb)
replace BK458 := am (blk_below (rk BK458) hb)
replace BK465 := am (blk_below (rk BK465) hb)
replace HB := am (below_step (rb6 HB GE424 GE431 GE438 GE447 GE458 GE465) hb)
(try clear hb)
refine hK.out _ _ ⟨(blk_cell BK431.out 0).trans rfl, (blk_cell BK431.out 1).trans rfl, (blk_cell BK431.out 2).trans rfl, (blk_cell BK465.out 0).trans rfl, (blk_cell BK465.out 1).trans rfl, (blk_cell BK465.out 2).trans rfl⟩ (fun hHeld => ?_)
clear hK K
refine norm_ (a' := _) (show Act.put _ (some 85) _ = _ from na) ?_
refine pu_ 7 86 (bm 24 255) HT_.out ?_
refine pu_ 8 87 (bm 24 511) HT_.out ?_
refine pu_ 9 88 (bm 24 1023) HT_.out ?_
refine un_ 10 89 (bm 24 2047) HT_.out ?_
refine un_ 11 90 (bm 24 4095) HT_.out ?_
refine un_ 12 91 (bm 24 8191) HT_.out ?_
refine un_ 13 92 (bm 24 16383) HT_.out ?_
refine un_ 14 93 (bm 24 32767) HT_.out ?_
refine pu_ 15 94 (bm 24 65535) HT_.out ?_
refine pu_ 16 95 (bm 24 131071) HT_.out ?_
refine un_ 17 96 (bm 24 262143) HT_.out ?_
refine un_ 18 97 (bm 24 524287) HT_.out ?_
refine un_ 19 98 (bm 24 1048575) HT_.out ?_
refine un_ 20 99 (bm 24 2097151) HT_.out ?_
refine un_ 21 100 (bm 24 4194303) HT_.out ?_
refine un_ 22 101 (bm 24 8388607) HT_.out ?_
refine pu_ 23 102 (bm 24 16777215) HT_.out ?_
refine done_ (done_of HT_.out (by kernel_rfl)) ?_
try go_wp2
go_meet
case rel => exact ⟨_, (true), (by first | rfl | (simp; done) | (simp [*]; done)), H', ⟨by first | omega | exact Nat.le_refl _⟩, ⟨rr HO450⟩, ⟨rq HO421⟩, ⟨Kd.Q_of_R (rr HO428)⟩, ⟨rq HO435⟩, ⟨rq HO444⟩, ⟨Kd.Q_of_R (rr HO455)⟩, ⟨rq HO462⟩, ⟨rk BK424⟩, ⟨rk BK431⟩, ⟨rk BK438⟩, ⟨rk BK447⟩, ⟨rk BK458⟩, ⟨rk BK465⟩, ⟨rb6 HB GE424 GE431 GE438 GE447 GE458 GE465⟩⟩
)
)
)
case rest => (
clear HC13
try clear c1
try clear c2
try clear p2
try clear c6
try clear c18
try clear c19
try clear c20
try clear c21
try clear c22
try clear c61
obtain ⟨kq, x102_12, rfl, HA, HJ12, HO_13, HO_425001, HO_432001, HO_439001, HO_448001, HO_459001, HO_466001, BK424, BK431, BK438, BK447, BK458, BK465, HB⟩ := hcut
cases kq with
| zero => exact absurd HA.out (by simp [laws_FnKept.j0])
| succ kj12 => (
have H := HA.out
clear HA
simp only [laws_FnKept.j0] at H
by_cases c83 : x102_12 = true
·(
subst c83
have H1 : (some false) = some r := by rw [if_pos rfl] at H; exact H
clear H
have H := H1
clear H1
first
| with_reducible exact absurd (Option.some.inj (H.trans (congrArg some hT_))) Bool.false_ne_true
| (
obtain rfl := Option.some.inj H
go_wp2
go_ret
exact ⟨by first | rfl | (simp [errW_none, errW_some] <;> rfl) | (simp [*, errW_none, errW_some] <;> rfl), rb6 HB GE424 GE431 GE438 GE447 GE458 GE465⟩)
)
·(
replace c83 := Bool.eq_false_iff.mpr c83
subst c83
rw [if_neg (show ¬ (false = true) by decide)] at H
replace H := Option.bind_eq_some_iff.mp H
obtain ⟨⟨t473, t474⟩, A840, H⟩ := H
(try dsimp only at H)
have A84 := am A840
clear A840
have HC85 := am H
clear H
have hnb86 := NB438_424.out
have hnc86 := NB424_438.out
have hnb87 := NB438_431.out
have hnc87 := NB431_438.out
have hnb88 := NB438_447.out
have hnc88 := NB447_438.out
have hnb89 := NB438_458.out
have hnc89 := NB458_438.out
have hnb90 := NB438_465.out
have hnc90 := NB465_438.out
have hcz91_0 : wc.cell? ⟨gb438, 0, none⟩ = some (.int .i64 t432) := (blk_cell BK438.out 0).trans rfl
have hcz91_1 : wc.cell? ⟨gb438, 1, none⟩ = some (.slice Ao28 t433.length co28) := (blk_cell BK438.out 1).trans rfl
have hcz91_2 : wc.cell? ⟨gb438, 2, none⟩ = some (.int .i64 t436) := (blk_cell BK438.out 2).trans rfl
have hfz91_0 := blk_frozen BK438.out 0
have hfz91_1 := blk_frozen BK438.out 1
have hfz91_2 := blk_frozen BK438.out 2
go_upto_region 15 with (first | ((with_reducible refine gate_callee (f := 23) rfl ?_); refine gl_ (some 106) Try.func23 #[.agg #[.int .i64 t432, .slice Ao28 t433.length co28, .int .i64 t436], .int .i64 t437] ?_; (with_reducible refine (spec_LineAt.calls kj12 t432 _ _ t433 t436 t437 t473 t474 _ ?side1 ?side2 A84.out).mono ?_); (case side1 => repeat (first | exact (Kd.Q_reads' HO_439001.out).2.2 | (with_reducible refine Kd.C_alloc ?_ _) | (with_reducible refine Kd.C_drewN ?_ _) | (with_reducible refine Kd.C_drew ?_))); (case side2 => exact (Kd.Q_reads' HO_439001.out).2.1); rintro e w92 ⟨rfl, hb⟩; refine ⟨_, rfl, ?_⟩; replace HO_13 := am (Kd.R_below (rr HO_13) hb); replace HO_425001 := am (Kd.Q_below (rq HO_425001) hb); replace HO_432001 := am (Kd.Q_below (rq HO_432001) hb); replace HO_439001 := am (Kd.Q_below (rq HO_439001) hb); replace HO_448001 := am (Kd.Q_below (rq HO_448001) hb); replace HO_459001 := am (Kd.Q_below (rq HO_459001) hb); replace HO_466001 := am (Kd.Q_below (rq HO_466001) hb); replace BK424 := am (blk_below (rk BK424) hb); replace BK431 := am (blk_below (rk BK431) hb); replace BK438 := am (blk_below (rk BK438) hb); replace BK447 := am (blk_below (rk BK447) hb); replace BK458 := am (blk_below (rk BK458) hb); replace BK465 := am (blk_below (rk BK465) hb); replace HB := am (below_step (rb6 HB GE424 GE431 GE438 GE447 GE458 GE465) hb); (try clear hb); (try clear hb2); (try clear hk); (try clear hi)))
(try simp only [Act.put, List.setIfInBounds_toArray, List.set_cons_zero, List.set_cons_succ])
go_cut [116] (fun v116 wc => ∃ (kq : Nat) (x116_84 : Bool), v116 = .bool x116_84 ∧ Aside0 (laws_FnKept.j1 kq t423 t430 t448 t451 t457 x116_84 t418 t419 t422 t425 t426 t429 t441 t442 t445 t452 t453 t456 = some r) ∧ Aside0 (kq ≤ kj12) ∧ Aside0 (Kd.R (Kd.int .i64) 2 wc w.heap.size (fun _ => True) v449 t448) ∧ Aside0 (Kd.Q Kd.string 9 wc w.heap.size (fun k_ => some k_ ≠ ((.slice Ao22 t426.length co22) : Value).ownBlock ∧ some k_ ≠ ((.slice Ao28 t433.length co28) : Value).ownBlock ∧ some k_ ≠ ((.slice Ao36 t442.length co36) : Value).ownBlock ∧ some k_ ≠ ((.slice Ao46 t453.length co46) : Value).ownBlock ∧ some k_ ≠ ((.slice Ao56 t460.length co56) : Value).ownBlock) (.slice Ao17 t419.length co17) t419) ∧ Aside0 (Kd.Q Kd.string 9 wc w.heap.size (fun k_ => some k_ ≠ ((.slice Ao17 t419.length co17) : Value).ownBlock ∧ some k_ ≠ ((.slice Ao28 t433.length co28) : Value).ownBlock ∧ some k_ ≠ ((.slice Ao36 t442.length co36) : Value).ownBlock ∧ some k_ ≠ ((.slice Ao46 t453.length co46) : Value).ownBlock ∧ some k_ ≠ ((.slice Ao56 t460.length co56) : Value).ownBlock) (.slice Ao22 t426.length co22) t426) ∧ Aside0 (Kd.Q Kd.string 9 wc w.heap.size (fun k_ => some k_ ≠ ((.slice Ao17 t419.length co17) : Value).ownBlock ∧ some k_ ≠ ((.slice Ao22 t426.length co22) : Value).ownBlock ∧ some k_ ≠ ((.slice Ao36 t442.length co36) : Value).ownBlock ∧ some k_ ≠ ((.slice Ao46 t453.length co46) : Value).ownBlock ∧ some k_ ≠ ((.slice Ao56 t460.length co56) : Value).ownBlock) (.slice Ao28 t433.length co28) t433) ∧ Aside0 (Kd.Q Kd.string 9 wc w.heap.size (fun k_ => some k_ ≠ ((.slice Ao17 t419.length co17) : Value).ownBlock ∧ some k_ ≠ ((.slice Ao22 t426.length co22) : Value).ownBlock ∧ some k_ ≠ ((.slice Ao28 t433.length co28) : Value).ownBlock ∧ some k_ ≠ ((.slice Ao46 t453.length co46) : Value).ownBlock ∧ some k_ ≠ ((.slice Ao56 t460.length co56) : Value).ownBlock) (.slice Ao36 t442.length co36) t442) ∧ Aside0 (Kd.Q Kd.string 9 wc w.heap.size (fun k_ => some k_ ≠ ((.slice Ao17 t419.length co17) : Value).ownBlock ∧ some k_ ≠ ((.slice Ao22 t426.length co22) : Value).ownBlock ∧ some k_ ≠ ((.slice Ao28 t433.length co28) : Value).ownBlock ∧ some k_ ≠ ((.slice Ao36 t442.length co36) : Value).ownBlock ∧ some k_ ≠ ((.slice Ao56 t460.length co56) : Value).ownBlock) (.slice Ao46 t453.length co46) t453) ∧ Aside0 (Kd.Q Kd.string 9 wc w.heap.size (fun k_ => some k_ ≠ ((.slice Ao17 t419.length co17) : Value).ownBlock ∧ some k_ ≠ ((.slice Ao22 t426.length co22) : Value).ownBlock ∧ some k_ ≠ ((.slice Ao28 t433.length co28) : Value).ownBlock ∧ some k_ ≠ ((.slice Ao36 t442.length co36) : Value).ownBlock ∧ some k_ ≠ ((.slice Ao46 t453.length co46) : Value).ownBlock) (.slice Ao56 t460.length co56) t460) ∧ Aside0 (wc.heap[gb424]? = some (.cells #[.int .i64 t418, (.slice Ao17 t419.length co17), .int .i64 t422] 26 (0, 0))) ∧ Aside0 (wc.heap[gb431]? = some (.cells #[.int .i64 t425, (.slice Ao22 t426.length co22), .int .i64 t429] 26 (0, 0))) ∧ Aside0 (wc.heap[gb438]? = some (.cells #[.int .i64 t432, (.slice Ao28 t433.length co28), .int .i64 t436] 26 (0, 0))) ∧ Aside0 (wc.heap[gb447]? = some (.cells #[.int .i64 t441, (.slice Ao36 t442.length co36), .int .i64 t445] 26 (0, 0))) ∧ Aside0 (wc.heap[gb458]? = some (.cells #[.int .i64 t452, (.slice Ao46 t453.length co46), .int .i64 t456] 26 (0, 0))) ∧ Aside0 (wc.heap[gb465]? = some (.cells #[.int .i64 t459, (.slice Ao56 t460.length co56), .int .i64 t463] 26 (0, 0))) ∧ Aside0 (Below w.heap.size w wc))
case first => (
have H := HC85.out
clear HC85
by_cases c93 : (t440 != t474) = true
·(
rw [if_pos c93] at H
have c93b0 : (t440 != t474) = true := c93
(try (have c93b1 : decide (t440 = t474) = false := by simpa using c93))
(try (have c93b2 : (t440 == t474) = false := by simpa using c93))
(try (have c93b3 : ¬ (t440 = t474) := by simpa using c93))
clear c93
(first | rw [c93b0] | (simp only [i64_w, i32_w]; rw [c93b0]) | skip)
have H' := am H
clear H
go_wp2
go_meet
case rel => exact ⟨_, (true), (by first | rfl | (simp; done) | (simp [*]; done)), H', ⟨by have := HJ12.out; first | omega | exact Nat.le_refl _⟩, ⟨rr HO_13⟩, ⟨rq HO_425001⟩, ⟨rq HO_432001⟩, ⟨rq HO_439001⟩, ⟨rq HO_448001⟩, ⟨rq HO_459001⟩, ⟨rq HO_466001⟩, ⟨rk BK424⟩, ⟨rk BK431⟩, ⟨rk BK438⟩, ⟨rk BK447⟩, ⟨rk BK458⟩, ⟨rk BK465⟩, ⟨rb6 HB GE424 GE431 GE438 GE447 GE458 GE465⟩⟩
)
·(
rw [if_neg c93] at H
have c93b0 : (t440 != t474) = false := by simpa using c93
(try (have c93b1 : decide (t440 = t474) = true := by simpa using c93))
(try (have c93b2 : (t440 == t474) = true := by simpa using c93))
clear c93
(first | rw [c93b0] | (simp only [i64_w, i32_w]; rw [c93b0]) | skip)
have H' := am H
clear H
go_wp2
go_meet
case rel => exact ⟨_, ((t439.toList != t473.toList)), (by first | rfl | (simp; done) | (simp [*]; done)), H', ⟨by have := HJ12.out; first | omega | exact Nat.le_refl _⟩, ⟨rr HO_13⟩, ⟨rq HO_425001⟩, ⟨rq HO_432001⟩, ⟨rq HO_439001⟩, ⟨rq HO_448001⟩, ⟨rq HO_459001⟩, ⟨rq HO_466001⟩, ⟨rk BK424⟩, ⟨rk BK431⟩, ⟨rk BK438⟩, ⟨rk BK447⟩, ⟨rk BK458⟩, ⟨rk BK465⟩, ⟨rb6 HB GE424 GE431 GE438 GE447 GE458 GE465⟩⟩
)
)
case rest => (
clear HC85
try clear c1
try clear c2
try clear p2
try clear c6
try clear c8
try clear c9
try clear c18
try clear c19
try clear c20
try clear c21
try clear c22
try clear c23
try clear c61
try clear c83
try clear c86
try clear c87
try clear c88
try clear c89
try clear c90
try clear c93
try clear c93b0
try clear c93b1
try clear c93b2
try clear hcz91_0
try clear hcz91_1
try clear hcz91_2
try clear hfz91_0
try clear hfz91_1
try clear hfz91_2
try clear p2
obtain ⟨kq, x116_84, rfl, HA, HJ84, HO_13, HO_425001, HO_432001, HO_439001, HO_448001, HO_459001, HO_466001, BK424, BK431, BK438, BK447, BK458, BK465, HB⟩ := hcut
cases kq with
| zero => exact absurd HA.out (by simp [laws_FnKept.j1])
| succ kj84 => (
have H := HA.out
clear HA
simp only [laws_FnKept.j1] at H
by_cases c94 : x116_84 = true
·(
subst c94
have H1 : (some false) = some r := by rw [if_pos rfl] at H; exact H
clear H
have H := H1
clear H1
first
| with_reducible exact absurd (Option.some.inj (H.trans (congrArg some hT_))) Bool.false_ne_true
| (
obtain rfl := Option.some.inj H
go_wp2
go_ret
exact ⟨by first | rfl | (simp [errW_none, errW_some] <;> rfl) | (simp [*, errW_none, errW_some] <;> rfl), rb6 HB GE424 GE431 GE438 GE447 GE458 GE465⟩)
)
·(
replace c94 := Bool.eq_false_iff.mpr c94
subst c94
rw [if_neg (show ¬ (false = true) by decide)] at H
replace H := Option.bind_eq_some_iff.mp H
obtain ⟨⟨t475, t476, t479, t480⟩, A950, H⟩ := H
(try dsimp only at H)
have A95 := am A950
clear A950
have HC96 := am H
clear H
go_upto_region 18 with (first | ((with_reducible refine gate_callee (f := 24) rfl ?_); refine gl_ (some 119) Try.func24 #[.int .i64 t451] ?_; (with_reducible refine (spec_NewHistory.calls t451 t475 t476 t479 t480 _ A95.out).mono ?_); rintro e w97 ⟨v477, rfl, ho0, hb⟩; refine ⟨_, rfl, ?_⟩; replace HO_13 := am (Kd.R_below (rr HO_13) hb); have HO478 := am (Kd.R_lower (Kd.R_new' (Kd.R_new' (Kd.R_new' (Kd.R_new' (Kd.R_new' (Kd.R_new' ho0 (Kd.Q_lt (rq HO_425001))) (Kd.Q_lt (rq HO_432001))) (Kd.Q_lt (rq HO_439001))) (Kd.Q_lt (rq HO_448001))) (Kd.Q_lt (rq HO_459001))) (Kd.Q_lt (rq HO_466001))) (below_size (rb6 HB GE424 GE431 GE438 GE447 GE458 GE465))); replace HO_425001 := am (Kd.Q_elder' (rq HO_425001) (Kd.R_base ho0) hb); replace HO_432001 := am (Kd.Q_elder' (rq HO_432001) (Kd.R_base ho0) hb); replace HO_439001 := am (Kd.Q_elder' (rq HO_439001) (Kd.R_base ho0) hb); replace HO_448001 := am (Kd.Q_elder' (rq HO_448001) (Kd.R_base ho0) hb); replace HO_459001 := am (Kd.Q_elder' (rq HO_459001) (Kd.R_base ho0) hb); replace HO_466001 := am (Kd.Q_elder' (rq HO_466001) (Kd.R_base ho0) hb); replace BK424 := am (blk_below (rk BK424) hb); replace BK431 := am (blk_below (rk BK431) hb); replace BK438 := am (blk_below (rk BK438) hb); replace BK447 := am (blk_below (rk BK447) hb); replace BK458 := am (blk_below (rk BK458) hb); replace BK465 := am (blk_below (rk BK465) hb); replace HB := am (below_step (rb6 HB GE424 GE431 GE438 GE447 GE458 GE465) hb); (try clear hb); (try clear hb2); (try clear hk); (try clear hi); (try clear ho0)) | ((with_reducible refine gate_dst (N := 21) rfl ?_); (try (refine gate_guard (by rfl) ?_; dsimp only)); refine box_event ?hg (N := 21) ?hd (cs := #[.int .i64 0, .slice none 0 0, .int .i64 0]) (t := 26) ?hr ?_; (case hd => rfl); (case hg => rfl); (case hr => first | (go_simp; done) | (go_simp; rfl)); intro gb481 hg w98 hbox hb; replace HO_13 := am (Kd.R_below (rr HO_13) hb); replace HO_425001 := am (Kd.Q_below (rq HO_425001) hb); replace HO_432001 := am (Kd.Q_below (rq HO_432001) hb); replace HO_439001 := am (Kd.Q_below (rq HO_439001) hb); replace HO_448001 := am (Kd.Q_below (rq HO_448001) hb); replace HO_459001 := am (Kd.Q_below (rq HO_459001) hb); replace HO_466001 := am (Kd.Q_below (rq HO_466001) hb); replace HO478 := am (Kd.R_below (rr HO478) hb); have BK481 := am (hbox); have GW481 := am (gw hg (rb6 HB GE424 GE431 GE438 GE447 GE458 GE465)); have GE481 := GW481; replace HB := am (below_step (rb6 HB GE424 GE431 GE438 GE447 GE458 GE465) hb); have NB424_481 := am (nl hg (rk BK424)); have NB481_424 := am (ng hg (rk BK424)); replace BK424 := am (blk_below (rk BK424) hb); have NB431_481 := am (nl hg (rk BK431)); have NB481_431 := am (ng hg (rk BK431)); replace BK431 := am (blk_below (rk BK431) hb); have NB438_481 := am (nl hg (rk BK438)); have NB481_438 := am (ng hg (rk BK438)); replace BK438 := am (blk_below (rk BK438) hb); have NB447_481 := am (nl hg (rk BK447)); have NB481_447 := am (ng hg (rk BK447)); replace BK447 := am (blk_below (rk BK447) hb); have NB458_481 := am (nl hg (rk BK458)); have NB481_458 := am (ng hg (rk BK458)); replace BK458 := am (blk_below (rk BK458) hb); have NB465_481 := am (nl hg (rk BK465)); have NB481_465 := am (ng hg (rk BK465)); replace BK465 := am (blk_below (rk BK465) hb); clear hb hbox hg; have hnb99 := NB481_424.out; have hnc99 := NB424_481.out; have hnb100 := NB481_431.out; have hnc100 := NB431_481.out; have hnb101 := NB481_438.out; have hnc101 := NB438_481.out; have hnb102 := NB481_447.out; have hnc102 := NB447_481.out; have hnb103 := NB481_458.out; have hnc103 := NB458_481.out; have hnb104 := NB481_465.out; have hnc104 := NB465_481.out; have hcz105_0 : w98.cell? ⟨gb481, 0, none⟩ = some (.int .i64 0) := (blk_cell BK481.out 0).trans rfl; have hcz105_1 : w98.cell? ⟨gb481, 1, none⟩ = some (.slice none 0 0) := (blk_cell BK481.out 1).trans rfl; have hcz105_2 : w98.cell? ⟨gb481, 2, none⟩ = some (.int .i64 0) := (blk_cell BK481.out 2).trans rfl; have hfz105_0 := blk_frozen BK481.out 0; have hfz105_1 := blk_frozen BK481.out 1; have hfz105_2 := blk_frozen BK481.out 2; obtain ⟨Ao106, co106, eo106⟩ := Kd.R_slice HO478.out; subst eo106))
(try simp only [Act.put, List.setIfInBounds_toArray, List.set_cons_zero, List.set_cons_succ])
go_cut [130] (fun v130 wc => ∃ (kq : Nat) (x130_95 : Bool), v130 = .bool x130_95 ∧ Aside0 (laws_FnKept.j2 kq t423 t430 t448 x130_95 t418 t419 t422 t425 t426 t429 t441 t442 t445 = some r) ∧ Aside0 (kq ≤ kj84) ∧ Aside0 (Kd.R (Kd.int .i64) 2 wc w.heap.size (fun _ => True) v449 t448) ∧ Aside0 (Kd.Q Kd.string 9 wc w.heap.size (fun k_ => some k_ ≠ ((.slice Ao22 t426.length co22) : Value).ownBlock ∧ some k_ ≠ ((.slice Ao28 t433.length co28) : Value).ownBlock ∧ some k_ ≠ ((.slice Ao36 t442.length co36) : Value).ownBlock ∧ some k_ ≠ ((.slice Ao46 t453.length co46) : Value).ownBlock ∧ some k_ ≠ ((.slice Ao56 t460.length co56) : Value).ownBlock ∧ some k_ ≠ ((.slice Ao106 t476.length co106) : Value).ownBlock) (.slice Ao17 t419.length co17) t419) ∧ Aside0 (Kd.Q Kd.string 9 wc w.heap.size (fun k_ => some k_ ≠ ((.slice Ao17 t419.length co17) : Value).ownBlock ∧ some k_ ≠ ((.slice Ao28 t433.length co28) : Value).ownBlock ∧ some k_ ≠ ((.slice Ao36 t442.length co36) : Value).ownBlock ∧ some k_ ≠ ((.slice Ao46 t453.length co46) : Value).ownBlock ∧ some k_ ≠ ((.slice Ao56 t460.length co56) : Value).ownBlock ∧ some k_ ≠ ((.slice Ao106 t476.length co106) : Value).ownBlock) (.slice Ao22 t426.length co22) t426) ∧ Aside0 (Kd.Q Kd.string 9 wc w.heap.size (fun k_ => some k_ ≠ ((.slice Ao17 t419.length co17) : Value).ownBlock ∧ some k_ ≠ ((.slice Ao22 t426.length co22) : Value).ownBlock ∧ some k_ ≠ ((.slice Ao36 t442.length co36) : Value).ownBlock ∧ some k_ ≠ ((.slice Ao46 t453.length co46) : Value).ownBlock ∧ some k_ ≠ ((.slice Ao56 t460.length co56) : Value).ownBlock ∧ some k_ ≠ ((.slice Ao106 t476.length co106) : Value).ownBlock) (.slice Ao28 t433.length co28) t433) ∧ Aside0 (Kd.Q Kd.string 9 wc w.heap.size (fun k_ => some k_ ≠ ((.slice Ao17 t419.length co17) : Value).ownBlock ∧ some k_ ≠ ((.slice Ao22 t426.length co22) : Value).ownBlock ∧ some k_ ≠ ((.slice Ao28 t433.length co28) : Value).ownBlock ∧ some k_ ≠ ((.slice Ao46 t453.length co46) : Value).ownBlock ∧ some k_ ≠ ((.slice Ao56 t460.length co56) : Value).ownBlock ∧ some k_ ≠ ((.slice Ao106 t476.length co106) : Value).ownBlock) (.slice Ao36 t442.length co36) t442) ∧ Aside0 (Kd.Q Kd.string 9 wc w.heap.size (fun k_ => some k_ ≠ ((.slice Ao17 t419.length co17) : Value).ownBlock ∧ some k_ ≠ ((.slice Ao22 t426.length co22) : Value).ownBlock ∧ some k_ ≠ ((.slice Ao28 t433.length co28) : Value).ownBlock ∧ some k_ ≠ ((.slice Ao36 t442.length co36) : Value).ownBlock ∧ some k_ ≠ ((.slice Ao56 t460.length co56) : Value).ownBlock ∧ some k_ ≠ ((.slice Ao106 t476.length co106) : Value).ownBlock) (.slice Ao46 t453.length co46) t453) ∧ Aside0 (Kd.Q Kd.string 9 wc w.heap.size (fun k_ => some k_ ≠ ((.slice Ao17 t419.length co17) : Value).ownBlock ∧ some k_ ≠ ((.slice Ao22 t426.length co22) : Value).ownBlock ∧ some k_ ≠ ((.slice Ao28 t433.length co28) : Value).ownBlock ∧ some k_ ≠ ((.slice Ao36 t442.length co36) : Value).ownBlock ∧ some k_ ≠ ((.slice Ao46 t453.length co46) : Value).ownBlock ∧ some k_ ≠ ((.slice Ao106 t476.length co106) : Value).ownBlock) (.slice Ao56 t460.length co56) t460) ∧ Aside0 (Kd.Q Kd.string 9 wc w.heap.size (fun k_ => some k_ ≠ ((.slice Ao17 t419.length co17) : Value).ownBlock ∧ some k_ ≠ ((.slice Ao22 t426.length co22) : Value).ownBlock ∧ some k_ ≠ ((.slice Ao28 t433.length co28) : Value).ownBlock ∧ some k_ ≠ ((.slice Ao36 t442.length co36) : Value).ownBlock ∧ some k_ ≠ ((.slice Ao46 t453.length co46) : Value).ownBlock ∧ some k_ ≠ ((.slice Ao56 t460.length co56) : Value).ownBlock) (.slice Ao106 t476.length co106) t476) ∧ Aside0 (wc.heap[gb424]? = some (.cells #[.int .i64 t418, (.slice Ao17 t419.length co17), .int .i64 t422] 26 (0, 0))) ∧ Aside0 (wc.heap[gb431]? = some (.cells #[.int .i64 t425, (.slice Ao22 t426.length co22), .int .i64 t429] 26 (0, 0))) ∧ Aside0 (wc.heap[gb438]? = some (.cells #[.int .i64 t432, (.slice Ao28 t433.length co28), .int .i64 t436] 26 (0, 0))) ∧ Aside0 (wc.heap[gb447]? = some (.cells #[.int .i64 t441, (.slice Ao36 t442.length co36), .int .i64 t445] 26 (0, 0))) ∧ Aside0 (wc.heap[gb458]? = some (.cells #[.int .i64 t452, (.slice Ao46 t453.length co46), .int .i64 t456] 26 (0, 0))) ∧ Aside0 (wc.heap[gb465]? = some (.cells #[.int .i64 t459, (.slice Ao56 t460.length co56), .int .i64 t463] 26 (0, 0))) ∧ Aside0 (wc.heap[gb481]? = some (.cells #[.int .i64 t475, (.slice Ao106 t476.length co106), .int .i64 t479] 26 (0, 0))) ∧ Aside0 (Below w.heap.size w wc))
case first => as_aux_lemma => (
have H := HC96.out
clear HC96
by_cases c107 : (t457 != t480) = true
·(
rw [if_pos c107] at H
have c107b0 : (t457 != t480) = true := c107
(try (have c107b1 : decide (t457 = t480) = false := by simpa using c107))
(try (have c107b2 : (t457 == t480) = false := by simpa using c107))
(try (have c107b3 : ¬ (t457 = t480) := by simpa using c107))
clear c107
(first | rw [c107b0] | (simp only [i64_w, i32_w]; rw [c107b0]) | skip)
have H' := am H
clear H
go_wp2
go_meet
case rel => exact ⟨_, (true), (by first | rfl | (simp; done) | (simp [*]; done)), H', ⟨by have := HJ12.out; have := HJ84.out; first | omega | exact Nat.le_refl _⟩, ⟨Rm3 HO_13 BK481⟩, ⟨Qn3 HO_425001 BK481⟩, ⟨Qn3 HO_432001 BK481⟩, ⟨Qn3 HO_439001 BK481⟩, ⟨Qn3 HO_448001 BK481⟩, ⟨Qn3 HO_459001 BK481⟩, ⟨Qn3 HO_466001 BK481⟩, ⟨Kd.Q_of_R (by (with_reducible repeat (first | apply r1 | apply r2 | apply r3)); exact Kd.R_mono (Kd.R_far (p := ⟨gb481, 2, none⟩) (Kd.R_far (p := ⟨gb481, 1, none⟩) (Kd.R_far (p := ⟨gb481, 0, none⟩) (Kd.R_types HO478.out BK481.out (by decide)) (fun _ hk => hk.2) (.int .i64 t475)) (fun _ hk => hk.2) (.slice Ao106 t476.length co106)) (fun _ hk => hk.2) (.int .i64 t479)) (fun _ hk => ⟨hk.1.1.1.1.1.1.2, ⟨hk.1.1.1.1.1.2, ⟨hk.1.1.1.1.2, ⟨hk.1.1.1.2, ⟨hk.1.1.2, hk.1.2⟩⟩⟩⟩⟩))⟩, ⟨rf3 NB424_481 BK424⟩, ⟨rf3 NB431_481 BK431⟩, ⟨rf3 NB438_481 BK438⟩, ⟨rf3 NB447_481 BK447⟩, ⟨rf3 NB458_481 BK458⟩, ⟨rf3 NB465_481 BK465⟩, ⟨by (with_reducible repeat (first | apply k1 | apply k2 | apply k3)); refine blk_put (cs := #[.int .i64 t475, .slice Ao106 t476.length co106, .int .i64 0]) ?_ 2 _ rfl; (with_reducible repeat (first | apply k1 | apply k2 | apply k3)); refine blk_put (cs := #[.int .i64 t475, .slice none 0 0, .int .i64 0]) ?_ 1 _ rfl; (with_reducible repeat (first | apply k1 | apply k2 | apply k3)); refine blk_put (cs := #[.int .i64 0, .slice none 0 0, .int .i64 0]) ?_ 0 _ rfl; (with_reducible repeat (first | apply k1 | apply k2 | apply k3)); exact BK481.out⟩, ⟨rb7 HB GE424 GE431 GE438 GE447 GE458 GE465 GE481⟩⟩
)
·(
rw [if_neg c107] at H
have c107b0 : (t457 != t480) = false := by simpa using c107
(try (have c107b1 : decide (t457 = t480) = true := by simpa using c107))
(try (have c107b2 : (t457 == t480) = true := by simpa using c107))
clear c107
(first | rw [c107b0] | (simp only [i64_w, i32_w]; rw [c107b0]) | skip)
replace H := Option.bind_eq_some_iff.mp H
obtain ⟨t482, A1080, H⟩ := H
(try dsimp only at H)
have A108 := am A1080
clear A1080
have H' := am H
clear H
have hnb109 := NB458_424.out
have hnc109 := NB424_458.out
have hnb110 := NB458_431.out
have hnc110 := NB431_458.out
have hnb111 := NB458_438.out
have hnc111 := NB438_458.out
have hnb112 := NB458_447.out
have hnc112 := NB447_458.out
have hnb113 := NB458_465.out
have hnc113 := NB465_458.out
have hnb114 := NB458_481.out
have hnc114 := NB481_458.out
have hcz115_0 : w98.cell? ⟨gb458, 0, none⟩ = some (.int .i64 t452) := (blk_cell BK458.out 0).trans rfl
have hcz115_1 : w98.cell? ⟨gb458, 1, none⟩ = some (.slice Ao46 t453.length co46) := (blk_cell BK458.out 1).trans rfl
have hcz115_2 : w98.cell? ⟨gb458, 2, none⟩ = some (.int .i64 t456) := (blk_cell BK458.out 2).trans rfl
have hfz115_0 := blk_frozen BK458.out 0
have hfz115_1 := blk_frozen BK458.out 1
have hfz115_2 := blk_frozen BK458.out 2
have hnb116 := NB481_424.out
have hnc116 := NB424_481.out
have hnb117 := NB481_431.out
have hnc117 := NB431_481.out
have hnb118 := NB481_438.out
have hnc118 := NB438_481.out
have hnb119 := NB481_447.out
have hnc119 := NB447_481.out
have hnb120 := NB481_465.out
have hnc120 := NB465_481.out
have hcz121_0 : w98.cell? ⟨gb481, 0, none⟩ = some (.int .i64 0) := (blk_cell BK481.out 0).trans rfl
have hcz121_1 : w98.cell? ⟨gb481, 1, none⟩ = some (.slice none 0 0) := (blk_cell BK481.out 1).trans rfl
have hcz121_2 : w98.cell? ⟨gb481, 2, none⟩ = some (.int .i64 0) := (blk_cell BK481.out 2).trans rfl
have hfz121_0 := blk_frozen BK481.out 0
have hfz121_1 := blk_frozen BK481.out 1
have hfz121_2 := blk_frozen BK481.out 2
go_wp2_with (first | (go_at_call 18; (with_reducible refine (laws_likeHistory.calls kj84 t452 _ _ t453 t456 t475 _ _ t476 t479 t482 _ ?side1 ?side2 ?side3 ?side4 A108.out).mono ?_); (case side1 => refine (Kd.Q_reads' (e := 9) (base := w.heap.size) (ok := fun k_ => ((some k_ ≠ (.slice Ao17 t419.length co17 : Value).ownBlock ∧ (some k_ ≠ (.slice Ao22 t426.length co22 : Value).ownBlock ∧ (some k_ ≠ (.slice Ao28 t433.length co28 : Value).ownBlock ∧ (some k_ ≠ (.slice Ao36 t442.length co36 : Value).ownBlock ∧ some k_ ≠ (.slice Ao56 t460.length co56 : Value).ownBlock)))) ∧ some k_ ≠ (.slice Ao106 t476.length co106 : Value).ownBlock)) (n := t453.length) (c := co46) ?_).2.2; exact (Qf3 HO_459001 BK481)); (case side2 => exact (Kd.Q_reads' HO_459001.out).2.1); (case side3 => refine (Kd.R_reads' (e := 9) (base := w.heap.size) (ok := fun k_ => ((((((True ∧ some k_ ≠ (.slice Ao17 t419.length co17 : Value).ownBlock) ∧ some k_ ≠ (.slice Ao22 t426.length co22 : Value).ownBlock) ∧ some k_ ≠ (.slice Ao28 t433.length co28 : Value).ownBlock) ∧ some k_ ≠ (.slice Ao36 t442.length co36 : Value).ownBlock) ∧ some k_ ≠ (.slice Ao46 t453.length co46 : Value).ownBlock) ∧ some k_ ≠ (.slice Ao56 t460.length co56 : Value).ownBlock)) (n := t476.length) (c := co106) ?_).2.2; exact (Rf3 HO478 BK481)); (case side4 => exact (Kd.R_reads' HO478.out).2.1); rintro e w122 ⟨rfl, hb⟩; replace HO_13 := am (Kd.R_below (Rf3 HO_13 BK481) hb); replace HO_425001 := am (Kd.Q_below (Qf3 HO_425001 BK481) hb); replace HO_432001 := am (Kd.Q_below (Qf3 HO_432001 BK481) hb); replace HO_439001 := am (Kd.Q_below (Qf3 HO_439001 BK481) hb); replace HO_448001 := am (Kd.Q_below (Qf3 HO_448001 BK481) hb); replace HO_459001 := am (Kd.Q_below (Qf3 HO_459001 BK481) hb); replace HO_466001 := am (Kd.Q_below (Qf3 HO_466001 BK481) hb); replace HO478 := am (Kd.R_below (Rf3 HO478 BK481) hb); replace BK424 := am (blk_below (g := gb424) (o := .cells #[.int .i64 t418, .slice Ao17 t419.length co17, .int .i64 t422] 26 (0, 0)) (rf3 NB424_481 BK424) hb); replace BK431 := am (blk_below (g := gb431) (o := .cells #[.int .i64 t425, .slice Ao22 t426.length co22, .int .i64 t429] 26 (0, 0)) (rf3 NB431_481 BK431) hb); replace BK438 := am (blk_below (g := gb438) (o := .cells #[.int .i64 t432, .slice Ao28 t433.length co28, .int .i64 t436] 26 (0, 0)) (rf3 NB438_481 BK438) hb); replace BK447 := am (blk_below (g := gb447) (o := .cells #[.int .i64 t441, .slice Ao36 t442.length co36, .int .i64 t445] 26 (0, 0)) (rf3 NB447_481 BK447) hb); replace BK458 := am (blk_below (g := gb458) (o := .cells #[.int .i64 t452, .slice Ao46 t453.length co46, .int .i64 t456] 26 (0, 0)) (rf3 NB458_481 BK458) hb); replace BK465 := am (blk_below (g := gb465) (o := .cells #[.int .i64 t459, .slice Ao56 t460.length co56, .int .i64 t463] 26 (0, 0)) (rf3 NB465_481 BK465) hb); replace BK481 := am (blk_below (g := gb481) (o := .cells #[.int .i64 t475, .slice Ao106 t476.length co106, .int .i64 t479] 26 (0, 0)) (rp_0_1_2 BK481) hb); replace HB := am (below_step (rb7 HB GE424 GE431 GE438 GE447 GE458 GE465 GE481) hb); (try clear hb); (try clear hb2); (try clear hk); (try clear hi)))
go_meet
case rel => exact ⟨_, (!t482), (by first | rfl | (simp; done) | (simp [*]; done)), H', ⟨by have := HJ12.out; have := HJ84.out; first | omega | exact Nat.le_refl _⟩, ⟨rr HO_13⟩, ⟨Qn0 HO_425001⟩, ⟨Qn0 HO_432001⟩, ⟨Qn0 HO_439001⟩, ⟨Qn0 HO_448001⟩, ⟨Qn0 HO_459001⟩, ⟨Qn0 HO_466001⟩, ⟨Kd.Q_of_R (by (with_reducible repeat (first | apply r1 | apply r2 | apply r3)); exact Kd.R_mono HO478.out (fun _ hk => ⟨hk.1.1.1.1.1.2, ⟨hk.1.1.1.1.2, ⟨hk.1.1.1.2, ⟨hk.1.1.2, ⟨hk.1.2, hk.2⟩⟩⟩⟩⟩))⟩, ⟨rk BK424⟩, ⟨rk BK431⟩, ⟨rk BK438⟩, ⟨rk BK447⟩, ⟨rk BK458⟩, ⟨rk BK465⟩, ⟨rk BK481⟩, ⟨rb7 HB GE424 GE431 GE438 GE447 GE458 GE465 GE481⟩⟩
)
)
case rest => (
clear HC96
try clear c1
try clear c2
try clear p2
try clear c6
try clear c8
try clear c9
try clear c10
try clear c11
try clear c12
try clear c18
try clear c19
try clear c20
try clear c21
try clear c22
try clear c23
try clear c24
try clear c61
try clear c83
try clear c86
try clear c87
try clear c88
try clear c89
try clear c90
try clear c93
try clear c93b0
try clear c93b1
try clear c93b2
try clear c94
try clear c99
try clear c100
try clear c101
try clear c102
try clear c103
try clear c104
try clear c107
try clear c107b0
try clear c107b1
try clear c107b2
try clear c109
try clear c110
try clear c111
try clear c112
try clear c113
try clear c114
try clear c116
try clear c117
try clear c118
try clear c119
try clear c120
try clear hcz105_0
try clear hcz105_1
try clear hcz105_2
try clear hcz115_0
try clear hcz115_1
try clear hcz115_2
try clear hcz121_0
try clear hcz121_1
try clear hcz121_2
try clear hcz91_0
try clear hcz91_1
try clear hcz91_2
try clear hfz105_0
try clear hfz105_1
try clear hfz105_2
try clear hfz115_0
try clear hfz115_1
try clear hfz115_2
try clear hfz121_0
try clear hfz121_1
try clear hfz121_2
try clear hfz91_0
try clear hfz91_1
try clear hfz91_2
try clear p2
obtain ⟨kq, x130_95, rfl, HA, HJ95, HO_13, HO_425001, HO_432001, HO_439001, HO_448001, HO_459001, HO_466001, HO_482001, BK424, BK431, BK438, BK447, BK458, BK465, BK481, HB⟩ := hcut
cases kq with
| zero => exact absurd HA.out (by simp [laws_FnKept.j2])
| succ kj95 => (
have H := HA.out
clear HA
simp only [laws_FnKept.j2] at H
by_cases c123 : x130_95 = true
·as_aux_lemma => (
subst c123
have H1 : (some false) = some r := by rw [if_pos rfl] at H; exact H
clear H
have H := H1
clear H1
first
| with_reducible exact absurd (Option.some.inj (H.trans (congrArg some hT_))) Bool.false_ne_true
| (
obtain rfl := Option.some.inj H
go_wp2
go_ret
exact ⟨by first | rfl | (simp [errW_none, errW_some] <;> rfl) | (simp [*, errW_none, errW_some] <;> rfl), rb7 HB GE424 GE431 GE438 GE447 GE458 GE465 GE481⟩)
)
·as_aux_lemma => (
replace c123 := Bool.eq_false_iff.mpr c123
subst c123
rw [if_neg (show ¬ (false = true) by decide)] at H
have H' := am H
clear H
go_wp2
go_loopg [23] kj95 (fun kq v23 w' => ∃ (x23_4 : Int), v23 = .int .i64 x23_4 ∧ Aside0 (laws_FnKept.l0 kq t423 t430 t448 x23_4 t418 t419 t422 t425 t426 t429 t441 t442 t445 = some r) ∧ Aside0 (kq ≤ kj95) ∧ Aside0 (Kd.R (Kd.int .i64) 2 w' w.heap.size (fun _ => True) v449 t448) ∧ Aside0 (Kd.Q Kd.string 9 w' w.heap.size (fun k_ => some k_ ≠ ((.slice Ao22 t426.length co22) : Value).ownBlock ∧ some k_ ≠ ((.slice Ao28 t433.length co28) : Value).ownBlock ∧ some k_ ≠ ((.slice Ao36 t442.length co36) : Value).ownBlock ∧ some k_ ≠ ((.slice Ao46 t453.length co46) : Value).ownBlock ∧ some k_ ≠ ((.slice Ao56 t460.length co56) : Value).ownBlock ∧ some k_ ≠ ((.slice Ao106 t476.length co106) : Value).ownBlock) (.slice Ao17 t419.length co17) t419) ∧ Aside0 (Kd.Q Kd.string 9 w' w.heap.size (fun k_ => some k_ ≠ ((.slice Ao17 t419.length co17) : Value).ownBlock ∧ some k_ ≠ ((.slice Ao28 t433.length co28) : Value).ownBlock ∧ some k_ ≠ ((.slice Ao36 t442.length co36) : Value).ownBlock ∧ some k_ ≠ ((.slice Ao46 t453.length co46) : Value).ownBlock ∧ some k_ ≠ ((.slice Ao56 t460.length co56) : Value).ownBlock ∧ some k_ ≠ ((.slice Ao106 t476.length co106) : Value).ownBlock) (.slice Ao22 t426.length co22) t426) ∧ Aside0 (Kd.Q Kd.string 9 w' w.heap.size (fun k_ => some k_ ≠ ((.slice Ao17 t419.length co17) : Value).ownBlock ∧ some k_ ≠ ((.slice Ao22 t426.length co22) : Value).ownBlock ∧ some k_ ≠ ((.slice Ao36 t442.length co36) : Value).ownBlock ∧ some k_ ≠ ((.slice Ao46 t453.length co46) : Value).ownBlock ∧ some k_ ≠ ((.slice Ao56 t460.length co56) : Value).ownBlock ∧ some k_ ≠ ((.slice Ao106 t476.length co106) : Value).ownBlock) (.slice Ao28 t433.length co28) t433) ∧ Aside0 (Kd.Q Kd.string 9 w' w.heap.size (fun k_ => some k_ ≠ ((.slice Ao17 t419.length co17) : Value).ownBlock ∧ some k_ ≠ ((.slice Ao22 t426.length co22) : Value).ownBlock ∧ some k_ ≠ ((.slice Ao28 t433.length co28) : Value).ownBlock ∧ some k_ ≠ ((.slice Ao46 t453.length co46) : Value).ownBlock ∧ some k_ ≠ ((.slice Ao56 t460.length co56) : Value).ownBlock ∧ some k_ ≠ ((.slice Ao106 t476.length co106) : Value).ownBlock) (.slice Ao36 t442.length co36) t442) ∧ Aside0 (Kd.Q Kd.string 9 w' w.heap.size (fun k_ => some k_ ≠ ((.slice Ao17 t419.length co17) : Value).ownBlock ∧ some k_ ≠ ((.slice Ao22 t426.length co22) : Value).ownBlock ∧ some k_ ≠ ((.slice Ao28 t433.length co28) : Value).ownBlock ∧ some k_ ≠ ((.slice Ao36 t442.length co36) : Value).ownBlock ∧ some k_ ≠ ((.slice Ao56 t460.length co56) : Value).ownBlock ∧ some k_ ≠ ((.slice Ao106 t476.length co106) : Value).ownBlock) (.slice Ao46 t453.length co46) t453) ∧ Aside0 (Kd.Q Kd.string 9 w' w.heap.size (fun k_ => some k_ ≠ ((.slice Ao17 t419.length co17) : Value).ownBlock ∧ some k_ ≠ ((.slice Ao22 t426.length co22) : Value).ownBlock ∧ some k_ ≠ ((.slice Ao28 t433.length co28) : Value).ownBlock ∧ some k_ ≠ ((.slice Ao36 t442.length co36) : Value).ownBlock ∧ some k_ ≠ ((.slice Ao46 t453.length co46) : Value).ownBlock ∧ some k_ ≠ ((.slice Ao106 t476.length co106) : Value).ownBlock) (.slice Ao56 t460.length co56) t460) ∧ Aside0 (Kd.Q Kd.string 9 w' w.heap.size (fun k_ => some k_ ≠ ((.slice Ao17 t419.length co17) : Value).ownBlock ∧ some k_ ≠ ((.slice Ao22 t426.length co22) : Value).ownBlock ∧ some k_ ≠ ((.slice Ao28 t433.length co28) : Value).ownBlock ∧ some k_ ≠ ((.slice Ao36 t442.length co36) : Value).ownBlock ∧ some k_ ≠ ((.slice Ao46 t453.length co46) : Value).ownBlock ∧ some k_ ≠ ((.slice Ao56 t460.length co56) : Value).ownBlock) (.slice Ao106 t476.length co106) t476) ∧ Aside0 (w'.heap[gb424]? = some (.cells #[.int .i64 t418, (.slice Ao17 t419.length co17), .int .i64 t422] 26 (0, 0))) ∧ Aside0 (w'.heap[gb431]? = some (.cells #[.int .i64 t425, (.slice Ao22 t426.length co22), .int .i64 t429] 26 (0, 0))) ∧ Aside0 (w'.heap[gb438]? = some (.cells #[.int .i64 t432, (.slice Ao28 t433.length co28), .int .i64 t436] 26 (0, 0))) ∧ Aside0 (w'.heap[gb447]? = some (.cells #[.int .i64 t441, (.slice Ao36 t442.length co36), .int .i64 t445] 26 (0, 0))) ∧ Aside0 (w'.heap[gb458]? = some (.cells #[.int .i64 t452, (.slice Ao46 t453.length co46), .int .i64 t456] 26 (0, 0))) ∧ Aside0 (w'.heap[gb465]? = some (.cells #[.int .i64 t459, (.slice Ao56 t460.length co56), .int .i64 t463] 26 (0, 0))) ∧ Aside0 (w'.heap[gb481]? = some (.cells #[.int .i64 t475, (.slice Ao106 t476.length co106), .int .i64 t479] 26 (0, 0))) ∧ Aside0 (Below w.heap.size w w'))
case atStart => exact ⟨(0), (by first | rfl | (simp; done) | (simp [*]; done)), H', ⟨Nat.le_refl _⟩, ⟨rr HO_13⟩, ⟨rq HO_425001⟩, ⟨rq HO_432001⟩, ⟨rq HO_439001⟩, ⟨rq HO_448001⟩, ⟨rq HO_459001⟩, ⟨rq HO_466001⟩, ⟨rq HO_482001⟩, ⟨rk BK424⟩, ⟨rk BK431⟩, ⟨rk BK438⟩, ⟨rk BK447⟩, ⟨rk BK458⟩, ⟨rk BK465⟩, ⟨rk BK481⟩, ⟨rb7 HB GE424 GE431 GE438 GE447 GE458 GE465 GE481⟩⟩
case round => as_aux_lemma => (
clear H'
try clear c1
try clear c2
try clear p2
try clear c6
try clear c8
try clear c9
try clear c10
try clear c11
try clear c12
try clear c18
try clear c19
try clear c20
try clear c21
try clear c22
try clear c23
try clear c24
try clear c61
try clear c83
try clear c86
try clear c87
try clear c88
try clear c89
try clear c90
try clear c93
try clear c93b0
try clear c93b1
try clear c93b2
try clear c94
try clear c99
try clear c100
try clear c101
try clear c102
try clear c103
try clear c104
try clear c107
try clear c107b0
try clear c107b1
try clear c107b2
try clear c109
try clear c110
try clear c111
try clear c112
try clear c113
try clear c114
try clear c116
try clear c117
try clear c118
try clear c119
try clear c120
try clear c123
try clear hcz105_0
try clear hcz105_1
try clear hcz105_2
try clear hcz115_0
try clear hcz115_1
try clear hcz115_2
try clear hcz121_0
try clear hcz121_1
try clear hcz121_2
try clear hcz91_0
try clear hcz91_1
try clear hcz91_2
try clear hfz105_0
try clear hfz105_1
try clear hfz105_2
try clear hfz115_0
try clear hfz115_1
try clear hfz115_2
try clear hfz121_0
try clear hfz121_1
try clear hfz121_2
try clear hfz91_0
try clear hfz91_1
try clear hfz91_2
try clear p2
obtain ⟨x23_4, rfl, HA, HK4, HO_13, HO_425001, HO_432001, HO_439001, HO_448001, HO_459001, HO_466001, HO_482001, BK424, BK431, BK438, BK447, BK458, BK465, BK481, HB⟩ := hrel
cases gk with
| zero => exact absurd HA.out (by simp [laws_FnKept.l0])
| succ k4 => (
have H := HA.out
clear HA
simp only [laws_FnKept.l0] at H
by_cases c124 : x23_4 < (t448.length : Int)
·as_aux_lemma => (
rw [if_pos c124] at H
have c124b0 : decide (x23_4 < (t448.length : Int)) = true := decide_eq_true c124
clear c124
by_cases c125 : 0 ≤ x23_4
·as_aux_lemma => (
rw [if_pos c125] at H
have c125b0 : decide (0 ≤ x23_4) = true := decide_eq_true c125
clear c125
replace H := Option.bind_eq_some_iff.mp H
obtain ⟨⟨t484, t485⟩, A1260, H⟩ := H
(try dsimp only at H)
have A126 := am A1260
clear A1260
by_cases c127 : t485 = true
·as_aux_lemma => (
subst c127
rw [if_pos rfl] at H
by_cases c128 : x23_4 > 0
·as_aux_lemma => (
rw [if_pos c128] at H
have c128b0 : decide (0 < x23_4) = true := decide_eq_true c128
clear c128
obtain ⟨ji129, hji129⟩ : ∃ j_ : Int, (wrap64 (x23_4 - 1)) = j_ := ⟨_, rfl⟩
replace H : (if 0 ≤ (ji129) then (if (ji129) < (t448.length : Int) then (if (rd t448 x23_4) ≤ (rd t448 (ji129)) then (some false) else (laws_FnKept.l0 k4 t423 t430 t448 (wrap64 (x23_4 + 1)) t418 t419 t422 t425 t426 t429 t441 t442 t445)) else (none)) else (none)) = some r := by first | (rw [hji129] at H; exact H) | (simp only [hji129] at H ⊢; exact H)
(try rw [hji129] at A126)
have hji129w : (IntKind.i64.wrap (x23_4 - 1)) = ji129 := (i64_w _).trans hji129
by_cases c130 : 0 ≤ (ji129)
·as_aux_lemma => (
rw [if_pos c130] at H
have c130b0 : decide (0 ≤ (ji129)) = true := decide_eq_true c130
clear c130
by_cases c131 : (ji129) < (t448.length : Int)
·as_aux_lemma => (
rw [if_pos c131] at H
have c131b0 : decide ((ji129) < (t448.length : Int)) = true := decide_eq_true c131
clear c131
by_cases c132 : (rd t448 x23_4) ≤ (rd t448 (ji129))
·as_aux_lemma => (
rw [if_pos c132] at H
have c132b0 : decide ((rd t448 x23_4) ≤ (rd t448 (ji129))) = true := decide_eq_true c132
clear c132
first
| with_reducible exact absurd (Option.some.inj (H.trans (congrArg some hT_))) Bool.false_ne_true
| (
obtain rfl := Option.some.inj H
obtain ⟨Ao133, co133, eo133⟩ := Kd.R_slice HO_13.out
subst eo133
try go_wp2
replace HO_13 := am (Kd.R_drew HO_13.out)
replace HO_425001 := am (Kd.Q_drew HO_425001.out)
replace HO_432001 := am (Kd.Q_drew HO_432001.out)
replace HO_439001 := am (Kd.Q_drew HO_439001.out)
replace HO_448001 := am (Kd.Q_drew HO_448001.out)
replace HO_459001 := am (Kd.Q_drew HO_459001.out)
replace HO_466001 := am (Kd.Q_drew HO_466001.out)
replace HO_482001 := am (Kd.Q_drew HO_482001.out)
replace BK424 := am (blk_drew BK424.out)
replace BK431 := am (blk_drew BK431.out)
replace BK438 := am (blk_drew BK438.out)
replace BK447 := am (blk_drew BK447.out)
replace BK458 := am (blk_drew BK458.out)
replace BK465 := am (blk_drew BK465.out)
replace BK481 := am (blk_drew BK481.out)
replace HB := am (below_drew1 HB.out)
have p483 : 0 ≤ (x23_4 : Int) := dt_
have q483 : x23_4 < (t448.length : Int) := dt_
obtain ⟨ad483, e483, hx483_0⟩ := Kd.at_int (Kd.R_reads' HO_13.out).2.2 x23_4 p483 q483
cases e483
replace p483 := eq_true p483
replace q483 := eq_true q483
refine start_ (n := 11) (S := fun w' => w'.cell? ⟨gb447, 0, none⟩ = some (.int .i64 t441) ∧ w'.cell? ⟨gb447, 1, none⟩ = some (.slice Ao36 t442.length co36) ∧ w'.cell? ⟨gb447, 2, none⟩ = some (.int .i64 t445) ∧ w'.cell? (ad483.add (x23_4).toNat) = some (.int .i64 (rd t448 x23_4))) (ds := []) (bm 11 0) (by kernel_rfl) rfl rfl ⟨(blk_cell BK447.out 0).trans rfl, (blk_cell BK447.out 1).trans rfl, (blk_cell BK447.out 2).trans rfl, hx483_0⟩ (fun hHeld => ?_); refine with_tabW laws_FnKept.tab23 laws_FnKept.bits23 (fun HT_ HW_ => ?_)
generalize wr.drew = w134 at HO_13 HO_425001 HO_432001 HO_439001 HO_448001 HO_459001 HO_466001 HO_482001 BK424 BK431 BK438 BK447 BK458 BK465 BK481 HB hx483_0 hHeld ⊢
refine pu_ 1 139 (bm 11 2) HT_.out ?_
refine pu_ 2 140 (bm 11 6) HT_.out ?_
refine pu_ 3 141 (bm 11 14) HT_.out ?_
refine take_ (i := 0) (N := some 138) (v := ?_) (a' := ?_) (bm 11 15) rfl rfl (take_ofW HT_.out HW_.out (by kernel_rfl)) (fun _ _ _ h => h) (Or.inl ⟨by rfl, ?_⟩) hHeld ?_ ?_
rotate_left
·(
rintro w' ⟨s0, s1, s2, s3⟩
go_simp
with_reducible rfl
)
rotate_left
·(
simp only [Act.put, List.setIfInBounds_toArray, List.set_cons_zero, List.set_cons_succ, i64_w, i32_w]
rfl
)
refine take_ (i := 4) (N := some 142) (v := ?_) (a' := ?_) (bm 11 31) rfl rfl (take_ofW HT_.out HW_.out (by kernel_rfl)) (fun _ _ _ h => h) (Or.inl ⟨by rfl, ?_⟩) hHeld ?_ ?_
rotate_left
·(
rintro w' ⟨s0, s1, s2, s3⟩
go_simp
with_reducible rfl
)
rotate_left
·(
simp only [Act.put, List.setIfInBounds_toArray, List.set_cons_zero, List.set_cons_succ, i64_w, i32_w]
rfl
)
refine one_ (i := 5) (N := some 143) (bm 11 63) rfl rfl (one_of HT_.out (by kernel_rfl)) (by decide) (fun K hK => ?_)
refine goes_ Try.func12 (by kernel_rfl) rfl #[.agg #[.int .i64 t441, .slice Ao36 t442.length co36, .int .i64 t445], .int .i64 (rd t448 x23_4)] (by rfl) rfl rfl mt ?_
with_reducible refine (impl_LineAt.calls k4 t441 _ _ t442 t445 (rd t448 x23_4) t484 true _ ?side1 ?side2 A126.out).mono ?_
(case side1 => repeat (first | exact (Kd.Q_reads' HO_448001.out).2.2 | (with_reducible refine Kd.C_alloc ?_ _) | (with_reducible refine Kd.C_drewN ?_ _) | (with_reducible refine Kd.C_drew ?_)))
(case side2 => exact (Kd.Q_reads' HO_448001.out).2.1)
rintro e w135 ⟨rfl, hb⟩
have HS3_ := (hb.cell (World.block_lt_of_cell? _ _ (hHeld.2.2.2))).trans (hHeld.2.2.2)
refine ⟨_, rfl, ?_⟩
replace HO_13 := am (Kd.R_below (rr HO_13) hb)
replace HO_425001 := am (Kd.Q_below (rq HO_425001) hb)
replace HO_432001 := am (Kd.Q_below (rq HO_432001) hb)
replace HO_439001 := am (Kd.Q_below (rq HO_439001) hb)
replace HO_448001 := am (Kd.Q_below (rq HO_448001) hb)
replace HO_459001 := am (Kd.Q_below (rq HO_459001) hb)
replace HO_466001 := am (Kd.Q_below (rq HO_466001) hb)
replace HO_482001 := am (Kd.Q_below (rq HO_482001) hb)
replace BK424 := am (blk_below (rk BK424) hb)
replace BK431 := am (blk_below (rk BK431) hb)
replace BK438 := am (blk_below (rk BK438) hb)
replace BK447 := am (blk_below (rk BK447) hb)
replace BK458 := am (blk_below (rk BK458) hb)
replace BK465 := am (blk_below (rk BK465) hb)
replace BK481 := am (blk_below (rk BK481) hb)
replace HB := am (below_step (rb7 HB GE424 GE431 GE438 GE447 GE458 GE465 GE481) hb)
(try clear hb)
refine hK.out _ _ ⟨(blk_cell BK447.out 0).trans rfl, (blk_cell BK447.out 1).trans rfl, (blk_cell BK447.out 2).trans rfl, HS3_⟩ (fun hHeld => ?_)
clear hK K
refine norm_ (a' := _) (show Act.put _ (some 143) _ = _ from na) ?_
refine pu_ 6 137 (bm 11 127) HT_.out ?_
refine pu_ 7 144 (bm 11 255) HT_.out ?_
refine pu_ 8 145 (bm 11 511) HT_.out ?_
refine pu_ 9 24 (bm 11 1023) HT_.out ?_
refine pu_ 10 25 (bm 11 2047) HT_.out ?_
refine done_ (done_of HT_.out (by kernel_rfl)) ?_
try go_wp2
replace HO_13 := am (Kd.R_drew HO_13.out)
replace HO_425001 := am (Kd.Q_drew HO_425001.out)
replace HO_432001 := am (Kd.Q_drew HO_432001.out)
replace HO_439001 := am (Kd.Q_drew HO_439001.out)
replace HO_448001 := am (Kd.Q_drew HO_448001.out)
replace HO_459001 := am (Kd.Q_drew HO_459001.out)
replace HO_466001 := am (Kd.Q_drew HO_466001.out)
replace HO_482001 := am (Kd.Q_drew HO_482001.out)
replace BK424 := am (blk_drew BK424.out)
replace BK431 := am (blk_drew BK431.out)
replace BK438 := am (blk_drew BK438.out)
replace BK447 := am (blk_drew BK447.out)
replace BK458 := am (blk_drew BK458.out)
replace BK465 := am (blk_drew BK465.out)
replace BK481 := am (blk_drew BK481.out)
replace HB := am (below_drew1 HB.out)
have p486 : 0 ≤ (x23_4 : Int) := dt_
have q486 : x23_4 < (t448.length : Int) := dt_
obtain ⟨ad486, e486, hx486_0⟩ := Kd.at_int (Kd.R_reads' HO_13.out).2.2 x23_4 p486 q486
obtain rfl : ad483 = ad486 := (by injection e486)
replace p486 := eq_true p486
replace q486 := eq_true q486
have p487 : 0 ≤ ((ji129) : Int) := dt_
have q487 : (ji129) < (t448.length : Int) := dt_
obtain ⟨ad487, e487, hx487_0⟩ := Kd.at_int (Kd.R_reads' HO_13.out).2.2 (ji129) p487 q487
obtain rfl : ad483 = ad487 := (by injection e487)
replace p487 := eq_true p487
replace q487 := eq_true q487
refine start_ (n := 18) (S := fun w' => w'.cell? (ad483.add (x23_4).toNat) = some (.int .i64 (rd t448 x23_4)) ∧ w'.cell? (ad483.add ((ji129)).toNat) = some (.int .i64 (rd t448 (ji129)))) (ds := []) (bm 18 0) (by kernel_rfl) rfl rfl ⟨hx486_0, hx487_0⟩ (fun hHeld => ?_); refine with_tabW laws_FnKept.tab24 laws_FnKept.bits24 (fun HT_ HW_ => ?_)
generalize w135.drew = w136 at HO_13 HO_425001 HO_432001 HO_439001 HO_448001 HO_459001 HO_466001 HO_482001 BK424 BK431 BK438 BK447 BK458 BK465 BK481 HB hx486_0 hx487_0 hHeld ⊢
refine pu_ 0 146 (bm 18 1) HT_.out ?_
refine pu_ 1 147 (bm 18 3) HT_.out ?_
refine pu_ 2 148 (bm 18 7) HT_.out ?_
refine pu_ 3 149 (bm 18 15) HT_.out ?_
refine pu_ 4 150 (bm 18 31) HT_.out ?_
refine pu_ 5 151 (bm 18 63) HT_.out ?_
refine pu_ 6 152 (bm 18 127) HT_.out ?_
refine pu_ 7 153 (bm 18 255) HT_.out ?_
refine pu_ 8 154 (bm 18 511) HT_.out ?_
refine pu_ 10 156 (bm 18 1535) HT_.out ?_
refine pu_ 11 157 (bm 18 3583) HT_.out ?_
refine pu_ 12 158 (bm 18 7679) HT_.out ?_
refine pu_ 13 159 (bm 18 15871) HT_.out ?_
refine take_ (i := 9) (N := some 155) (v := ?_) (a' := ?_) (bm 18 16383) rfl rfl (take_ofW HT_.out HW_.out (by kernel_rfl)) (fun _ _ _ h => h) (Or.inl ⟨by rfl, ?_⟩) hHeld ?_ ?_
rotate_left
·(
rintro w' ⟨s0, s1⟩
go_simp
with_reducible rfl
)
rotate_left
·(
simp only [Act.put, List.setIfInBounds_toArray, List.set_cons_zero, List.set_cons_succ, i64_w, i32_w]
rfl
)
refine take_ (i := 14) (N := some 160) (v := ?_) (a' := ?_) (bm 18 32767) rfl rfl (take_ofW HT_.out HW_.out (by kernel_rfl)) (fun _ _ _ h => h) (Or.inl ⟨by rfl, ?_⟩) hHeld ?_ ?_
rotate_left
·(
rintro w' ⟨s0, s1⟩
go_simp
with_reducible rfl
)
rotate_left
·(
simp only [Act.put, List.setIfInBounds_toArray, List.set_cons_zero, List.set_cons_succ, i64_w, i32_w]
rfl
)
refine pu_ 15 161 (bm 18 65535) HT_.out ?_
refine pu_ 16 162 (bm 18 131071) HT_.out ?_
refine pu_ 17 163 (bm 18 262143) HT_.out ?_
refine done_ (done_of HT_.out (by kernel_rfl)) ?_
try go_wp2
go_ret
exact ⟨by first | rfl | (simp [errW_none, errW_some] <;> rfl) | (simp only [← hji129]; first | rfl | (simp [errW_none, errW_some] <;> rfl)) | (simp [*, errW_none, errW_some] <;> rfl), rb7 HB GE424 GE431 GE438 GE447 GE458 GE465 GE481⟩)
)
·as_aux_lemma => (
rw [if_neg c132] at H
have c132b0 : decide ((rd t448 x23_4) ≤ (rd t448 (ji129))) = false := decide_eq_false c132
clear c132
have H' := am H
clear H
obtain ⟨Ao137, co137, eo137⟩ := Kd.R_slice HO_13.out
subst eo137
try go_wp2
replace HO_13 := am (Kd.R_drew HO_13.out)
replace HO_425001 := am (Kd.Q_drew HO_425001.out)
replace HO_432001 := am (Kd.Q_drew HO_432001.out)
replace HO_439001 := am (Kd.Q_drew HO_439001.out)
replace HO_448001 := am (Kd.Q_drew HO_448001.out)
replace HO_459001 := am (Kd.Q_drew HO_459001.out)
replace HO_466001 := am (Kd.Q_drew HO_466001.out)
replace HO_482001 := am (Kd.Q_drew HO_482001.out)
replace BK424 := am (blk_drew BK424.out)
replace BK431 := am (blk_drew BK431.out)
replace BK438 := am (blk_drew BK438.out)
replace BK447 := am (blk_drew BK447.out)
replace BK458 := am (blk_drew BK458.out)
replace BK465 := am (blk_drew BK465.out)
replace BK481 := am (blk_drew BK481.out)
replace HB := am (below_drew1 HB.out)
have p483 : 0 ≤ (x23_4 : Int) := dt_
have q483 : x23_4 < (t448.length : Int) := dt_
obtain ⟨ad483, e483, hx483_0⟩ := Kd.at_int (Kd.R_reads' HO_13.out).2.2 x23_4 p483 q483
cases e483
replace p483 := eq_true p483
replace q483 := eq_true q483
refine start_ (n := 11) (S := fun w' => w'.cell? ⟨gb447, 0, none⟩ = some (.int .i64 t441) ∧ w'.cell? ⟨gb447, 1, none⟩ = some (.slice Ao36 t442.length co36) ∧ w'.cell? ⟨gb447, 2, none⟩ = some (.int .i64 t445) ∧ w'.cell? (ad483.add (x23_4).toNat) = some (.int .i64 (rd t448 x23_4))) (ds := []) (bm 11 0) (by kernel_rfl) rfl rfl ⟨(blk_cell BK447.out 0).trans rfl, (blk_cell BK447.out 1).trans rfl, (blk_cell BK447.out 2).trans rfl, hx483_0⟩ (fun hHeld => ?_); refine with_tabW laws_FnKept.tab23 laws_FnKept.bits23 (fun HT_ HW_ => ?_)
generalize wr.drew = w138 at HO_13 HO_425001 HO_432001 HO_439001 HO_448001 HO_459001 HO_466001 HO_482001 BK424 BK431 BK438 BK447 BK458 BK465 BK481 HB hx483_0 hHeld ⊢
refine pu_ 1 139 (bm 11 2) HT_.out ?_
refine pu_ 2 140 (bm 11 6) HT_.out ?_
refine pu_ 3 141 (bm 11 14) HT_.out ?_
refine take_ (i := 0) (N := some 138) (v := ?_) (a' := ?_) (bm 11 15) rfl rfl (take_ofW HT_.out HW_.out (by kernel_rfl)) (fun _ _ _ h => h) (Or.inl ⟨by rfl, ?_⟩) hHeld ?_ ?_
rotate_left
·(
rintro w' ⟨s0, s1, s2, s3⟩
go_simp
with_reducible rfl
)
rotate_left
·(
simp only [Act.put, List.setIfInBounds_toArray, List.set_cons_zero, List.set_cons_succ, i64_w, i32_w]
rfl
)
refine take_ (i := 4) (N := some 142) (v := ?_) (a' := ?_) (bm 11 31) rfl rfl (take_ofW HT_.out HW_.out (by kernel_rfl)) (fun _ _ _ h => h) (Or.inl ⟨by rfl, ?_⟩) hHeld ?_ ?_
rotate_left
·(
rintro w' ⟨s0, s1, s2, s3⟩
go_simp
with_reducible rfl
)
rotate_left
·(
simp only [Act.put, List.setIfInBounds_toArray, List.set_cons_zero, List.set_cons_succ, i64_w, i32_w]
rfl
)
refine one_ (i := 5) (N := some 143) (bm 11 63) rfl rfl (one_of HT_.out (by kernel_rfl)) (by decide) (fun K hK => ?_)
refine goes_ Try.func12 (by kernel_rfl) rfl #[.agg #[.int .i64 t441, .slice Ao36 t442.length co36, .int .i64 t445], .int .i64 (rd t448 x23_4)] (by rfl) rfl rfl mt ?_
with_reducible refine (impl_LineAt.calls k4 t441 _ _ t442 t445 (rd t448 x23_4) t484 true _ ?side1 ?side2 A126.out).mono ?_
(case side1 => repeat (first | exact (Kd.Q_reads' HO_448001.out).2.2 | (with_reducible refine Kd.C_alloc ?_ _) | (with_reducible refine Kd.C_drewN ?_ _) | (with_reducible refine Kd.C_drew ?_)))
(case side2 => exact (Kd.Q_reads' HO_448001.out).2.1)
rintro e w139 ⟨rfl, hb⟩
have HS3_ := (hb.cell (World.block_lt_of_cell? _ _ (hHeld.2.2.2))).trans (hHeld.2.2.2)
refine ⟨_, rfl, ?_⟩
replace HO_13 := am (Kd.R_below (rr HO_13) hb)
replace HO_425001 := am (Kd.Q_below (rq HO_425001) hb)
replace HO_432001 := am (Kd.Q_below (rq HO_432001) hb)
replace HO_439001 := am (Kd.Q_below (rq HO_439001) hb)
replace HO_448001 := am (Kd.Q_below (rq HO_448001) hb)
replace HO_459001 := am (Kd.Q_below (rq HO_459001) hb)
replace HO_466001 := am (Kd.Q_below (rq HO_466001) hb)
replace HO_482001 := am (Kd.Q_below (rq HO_482001) hb)
replace BK424 := am (blk_below (rk BK424) hb)
replace BK431 := am (blk_below (rk BK431) hb)
replace BK438 := am (blk_below (rk BK438) hb)
replace BK447 := am (blk_below (rk BK447) hb)
replace BK458 := am (blk_below (rk BK458) hb)
replace BK465 := am (blk_below (rk BK465) hb)
replace BK481 := am (blk_below (rk BK481) hb)
replace HB := am (below_step (rb7 HB GE424 GE431 GE438 GE447 GE458 GE465 GE481) hb)
(try clear hb)
refine hK.out _ _ ⟨(blk_cell BK447.out 0).trans rfl, (blk_cell BK447.out 1).trans rfl, (blk_cell BK447.out 2).trans rfl, HS3_⟩ (fun hHeld => ?_)
clear hK K
refine norm_ (a' := _) (show Act.put _ (some 143) _ = _ from na) ?_
refine pu_ 6 137 (bm 11 127) HT_.out ?_
refine pu_ 7 144 (bm 11 255) HT_.out ?_
refine pu_ 8 145 (bm 11 511) HT_.out ?_
refine pu_ 9 24 (bm 11 1023) HT_.out ?_
refine pu_ 10 25 (bm 11 2047) HT_.out ?_
refine done_ (done_of HT_.out (by kernel_rfl)) ?_
try go_wp2
replace HO_13 := am (Kd.R_drew HO_13.out)
replace HO_425001 := am (Kd.Q_drew HO_425001.out)
replace HO_432001 := am (Kd.Q_drew HO_432001.out)
replace HO_439001 := am (Kd.Q_drew HO_439001.out)
replace HO_448001 := am (Kd.Q_drew HO_448001.out)
replace HO_459001 := am (Kd.Q_drew HO_459001.out)
replace HO_466001 := am (Kd.Q_drew HO_466001.out)
replace HO_482001 := am (Kd.Q_drew HO_482001.out)
replace BK424 := am (blk_drew BK424.out)
replace BK431 := am (blk_drew BK431.out)
replace BK438 := am (blk_drew BK438.out)
replace BK447 := am (blk_drew BK447.out)
replace BK458 := am (blk_drew BK458.out)
replace BK465 := am (blk_drew BK465.out)
replace BK481 := am (blk_drew BK481.out)
replace HB := am (below_drew1 HB.out)
have p486 : 0 ≤ (x23_4 : Int) := dt_
have q486 : x23_4 < (t448.length : Int) := dt_
obtain ⟨ad486, e486, hx486_0⟩ := Kd.at_int (Kd.R_reads' HO_13.out).2.2 x23_4 p486 q486
obtain rfl : ad483 = ad486 := (by injection e486)
replace p486 := eq_true p486
replace q486 := eq_true q486
have p487 : 0 ≤ ((ji129) : Int) := dt_
have q487 : (ji129) < (t448.length : Int) := dt_
obtain ⟨ad487, e487, hx487_0⟩ := Kd.at_int (Kd.R_reads' HO_13.out).2.2 (ji129) p487 q487
obtain rfl : ad483 = ad487 := (by injection e487)
replace p487 := eq_true p487
replace q487 := eq_true q487
refine start_ (n := 18) (S := fun w' => w'.cell? (ad483.add (x23_4).toNat) = some (.int .i64 (rd t448 x23_4)) ∧ w'.cell? (ad483.add ((ji129)).toNat) = some (.int .i64 (rd t448 (ji129)))) (ds := []) (bm 18 0) (by kernel_rfl) rfl rfl ⟨hx486_0, hx487_0⟩ (fun hHeld => ?_); refine with_tabW laws_FnKept.tab24 laws_FnKept.bits24 (fun HT_ HW_ => ?_)
generalize w139.drew = w140 at HO_13 HO_425001 HO_432001 HO_439001 HO_448001 HO_459001 HO_466001 HO_482001 BK424 BK431 BK438 BK447 BK458 BK465 BK481 HB hx486_0 hx487_0 hHeld ⊢
refine pu_ 0 146 (bm 18 1) HT_.out ?_
refine pu_ 1 147 (bm 18 3) HT_.out ?_
refine pu_ 2 148 (bm 18 7) HT_.out ?_
refine pu_ 3 149 (bm 18 15) HT_.out ?_
refine pu_ 4 150 (bm 18 31) HT_.out ?_
refine pu_ 5 151 (bm 18 63) HT_.out ?_
refine pu_ 6 152 (bm 18 127) HT_.out ?_
refine pu_ 7 153 (bm 18 255) HT_.out ?_
refine pu_ 8 154 (bm 18 511) HT_.out ?_
refine pu_ 10 156 (bm 18 1535) HT_.out ?_
refine pu_ 11 157 (bm 18 3583) HT_.out ?_
refine pu_ 12 158 (bm 18 7679) HT_.out ?_
refine pu_ 13 159 (bm 18 15871) HT_.out ?_
refine take_ (i := 9) (N := some 155) (v := ?_) (a' := ?_) (bm 18 16383) rfl rfl (take_ofW HT_.out HW_.out (by kernel_rfl)) (fun _ _ _ h => h) (Or.inl ⟨by rfl, ?_⟩) hHeld ?_ ?_
rotate_left
·(
rintro w' ⟨s0, s1⟩
go_simp
with_reducible rfl
)
rotate_left
·(
simp only [Act.put, List.setIfInBounds_toArray, List.set_cons_zero, List.set_cons_succ, i64_w, i32_w]
rfl
)
refine take_ (i := 14) (N := some 160) (v := ?_) (a' := ?_) (bm 18 32767) rfl rfl (take_ofW HT_.out HW_.out (by kernel_rfl)) (fun _ _ _ h => h) (Or.inl ⟨by rfl, ?_⟩) hHeld ?_ ?_
rotate_left
·(
rintro w' ⟨s0, s1⟩
go_simp
with_reducible rfl
)
rotate_left
·(
simp only [Act.put, List.setIfInBounds_toArray, List.set_cons_zero, List.set_cons_succ, i64_w, i32_w]
rfl
)
refine pu_ 15 161 (bm 18 65535) HT_.out ?_
refine pu_ 16 162 (bm 18 131071) HT_.out ?_
refine pu_ 17 163 (bm 18 262143) HT_.out ?_
refine done_ (done_of HT_.out (by kernel_rfl)) ?_
try go_wp2
go_roundg k4
case measure => have := HJ12.out; have := HJ84.out; have := HJ95.out; have := HK4.out; omega
case rel => exact ⟨(wrap64 (x23_4 + 1)), (by first | rfl | (simp; done) | (simp [*]; done)), H', ⟨by have := HJ12.out; have := HJ84.out; have := HJ95.out; have := HK4.out; omega⟩, ⟨rr HO_13⟩, ⟨rq HO_425001⟩, ⟨rq HO_432001⟩, ⟨rq HO_439001⟩, ⟨rq HO_448001⟩, ⟨rq HO_459001⟩, ⟨rq HO_466001⟩, ⟨rq HO_482001⟩, ⟨rk BK424⟩, ⟨rk BK431⟩, ⟨rk BK438⟩, ⟨rk BK447⟩, ⟨rk BK458⟩, ⟨rk BK465⟩, ⟨rk BK481⟩, ⟨rb7 HB GE424 GE431 GE438 GE447 GE458 GE465 GE481⟩⟩
)
)
·(
rw [if_neg c131] at H
exact absurd H (by simp)
)
)
·(
rw [if_neg c130] at H
exact absurd H (by simp)
)
)
·as_aux_lemma => (
rw [if_neg c128] at H
have c128b0 : decide (0 < x23_4) = false := decide_eq_false c128
clear c128
have H' := am H
clear H
obtain ⟨Ao141, co141, eo141⟩ := Kd.R_slice HO_13.out
subst eo141
try go_wp2
replace HO_13 := am (Kd.R_drew HO_13.out)
replace HO_425001 := am (Kd.Q_drew HO_425001.out)
replace HO_432001 := am (Kd.Q_drew HO_432001.out)
replace HO_439001 := am (Kd.Q_drew HO_439001.out)
replace HO_448001 := am (Kd.Q_drew HO_448001.out)
replace HO_459001 := am (Kd.Q_drew HO_459001.out)
replace HO_466001 := am (Kd.Q_drew HO_466001.out)
replace HO_482001 := am (Kd.Q_drew HO_482001.out)
replace BK424 := am (blk_drew BK424.out)
replace BK431 := am (blk_drew BK431.out)
replace BK438 := am (blk_drew BK438.out)
replace BK447 := am (blk_drew BK447.out)
replace BK458 := am (blk_drew BK458.out)
replace BK465 := am (blk_drew BK465.out)
replace BK481 := am (blk_drew BK481.out)
replace HB := am (below_drew1 HB.out)
have p483 : 0 ≤ (x23_4 : Int) := dt_
have q483 : x23_4 < (t448.length : Int) := dt_
obtain ⟨ad483, e483, hx483_0⟩ := Kd.at_int (Kd.R_reads' HO_13.out).2.2 x23_4 p483 q483
cases e483
replace p483 := eq_true p483
replace q483 := eq_true q483
refine start_ (n := 11) (S := fun w' => w'.cell? ⟨gb447, 0, none⟩ = some (.int .i64 t441) ∧ w'.cell? ⟨gb447, 1, none⟩ = some (.slice Ao36 t442.length co36) ∧ w'.cell? ⟨gb447, 2, none⟩ = some (.int .i64 t445) ∧ w'.cell? (ad483.add (x23_4).toNat) = some (.int .i64 (rd t448 x23_4))) (ds := []) (bm 11 0) (by kernel_rfl) rfl rfl ⟨(blk_cell BK447.out 0).trans rfl, (blk_cell BK447.out 1).trans rfl, (blk_cell BK447.out 2).trans rfl, hx483_0⟩ (fun hHeld => ?_); refine with_tabW laws_FnKept.tab23 laws_FnKept.bits23 (fun HT_ HW_ => ?_)
generalize wr.drew = w142 at HO_13 HO_425001 HO_432001 HO_439001 HO_448001 HO_459001 HO_466001 HO_482001 BK424 BK431 BK438 BK447 BK458 BK465 BK481 HB hx483_0 hHeld ⊢
refine pu_ 1 139 (bm 11 2) HT_.out ?_
refine pu_ 2 140 (bm 11 6) HT_.out ?_
refine pu_ 3 141 (bm 11 14) HT_.out ?_
refine take_ (i := 0) (N := some 138) (v := ?_) (a' := ?_) (bm 11 15) rfl rfl (take_ofW HT_.out HW_.out (by kernel_rfl)) (fun _ _ _ h => h) (Or.inl ⟨by rfl, ?_⟩) hHeld ?_ ?_
rotate_left
·(
rintro w' ⟨s0, s1, s2, s3⟩
go_simp
with_reducible rfl
)
rotate_left
·(
simp only [Act.put, List.setIfInBounds_toArray, List.set_cons_zero, List.set_cons_succ, i64_w, i32_w]
rfl
)
refine take_ (i := 4) (N := some 142) (v := ?_) (a' := ?_) (bm 11 31) rfl rfl (take_ofW HT_.out HW_.out (by kernel_rfl)) (fun _ _ _ h => h) (Or.inl ⟨by rfl, ?_⟩) hHeld ?_ ?_
rotate_left
·(
rintro w' ⟨s0, s1, s2, s3⟩
go_simp
with_reducible rfl
)
rotate_left
·(
simp only [Act.put, List.setIfInBounds_toArray, List.set_cons_zero, List.set_cons_succ, i64_w, i32_w]
rfl
)
refine one_ (i := 5) (N := some 143) (bm 11 63) rfl rfl (one_of HT_.out (by kernel_rfl)) (by decide) (fun K hK => ?_)
refine goes_ Try.func12 (by kernel_rfl) rfl #[.agg #[.int .i64 t441, .slice Ao36 t442.length co36, .int .i64 t445], .int .i64 (rd t448 x23_4)] (by rfl) rfl rfl mt ?_
with_reducible refine (impl_LineAt.calls k4 t441 _ _ t442 t445 (rd t448 x23_4) t484 true _ ?side1 ?side2 A126.out).mono ?_
(case side1 => repeat (first | exact (Kd.Q_reads' HO_448001.out).2.2 | (with_reducible refine Kd.C_alloc ?_ _) | (with_reducible refine Kd.C_drewN ?_ _) | (with_reducible refine Kd.C_drew ?_)))
(case side2 => exact (Kd.Q_reads' HO_448001.out).2.1)
rintro e w143 ⟨rfl, hb⟩
have HS3_ := (hb.cell (World.block_lt_of_cell? _ _ (hHeld.2.2.2))).trans (hHeld.2.2.2)
refine ⟨_, rfl, ?_⟩
replace HO_13 := am (Kd.R_below (rr HO_13) hb)
replace HO_425001 := am (Kd.Q_below (rq HO_425001) hb)
replace HO_432001 := am (Kd.Q_below (rq HO_432001) hb)
replace HO_439001 := am (Kd.Q_below (rq HO_439001) hb)
replace HO_448001 := am (Kd.Q_below (rq HO_448001) hb)
replace HO_459001 := am (Kd.Q_below (rq HO_459001) hb)
replace HO_466001 := am (Kd.Q_below (rq HO_466001) hb)
replace HO_482001 := am (Kd.Q_below (rq HO_482001) hb)
replace BK424 := am (blk_below (rk BK424) hb)
replace BK431 := am (blk_below (rk BK431) hb)
replace BK438 := am (blk_below (rk BK438) hb)
replace BK447 := am (blk_below (rk BK447) hb)
replace BK458 := am (blk_below (rk BK458) hb)
replace BK465 := am (blk_below (rk BK465) hb)
replace BK481 := am (blk_below (rk BK481) hb)
replace HB := am (below_step (rb7 HB GE424 GE431 GE438 GE447 GE458 GE465 GE481) hb)
(try clear hb)
refine hK.out _ _ ⟨(blk_cell BK447.out 0).trans rfl, (blk_cell BK447.out 1).trans rfl, (blk_cell BK447.out 2).trans rfl, HS3_⟩ (fun hHeld => ?_)
clear hK K
refine norm_ (a' := _) (show Act.put _ (some 143) _ = _ from na) ?_
refine pu_ 6 137 (bm 11 127) HT_.out ?_
refine pu_ 7 144 (bm 11 255) HT_.out ?_
refine pu_ 8 145 (bm 11 511) HT_.out ?_
refine pu_ 9 24 (bm 11 1023) HT_.out ?_
refine pu_ 10 25 (bm 11 2047) HT_.out ?_
refine done_ (done_of HT_.out (by kernel_rfl)) ?_
try go_wp2
replace HO_13 := am (Kd.R_drew HO_13.out)
replace HO_425001 := am (Kd.Q_drew HO_425001.out)
replace HO_432001 := am (Kd.Q_drew HO_432001.out)
replace HO_439001 := am (Kd.Q_drew HO_439001.out)
replace HO_448001 := am (Kd.Q_drew HO_448001.out)
replace HO_459001 := am (Kd.Q_drew HO_459001.out)
replace HO_466001 := am (Kd.Q_drew HO_466001.out)
replace HO_482001 := am (Kd.Q_drew HO_482001.out)
replace BK424 := am (blk_drew BK424.out)
replace BK431 := am (blk_drew BK431.out)
replace BK438 := am (blk_drew BK438.out)
replace BK447 := am (blk_drew BK447.out)
replace BK458 := am (blk_drew BK458.out)
replace BK465 := am (blk_drew BK465.out)
replace BK481 := am (blk_drew BK481.out)
replace HB := am (below_drew1 HB.out)
refine start_ (n := 18) (S := fun w' => True) (ds := []) (bm 18 0) (by kernel_rfl) rfl rfl trivial (fun hHeld => ?_); refine with_tabW laws_FnKept.tab24 laws_FnKept.bits24 (fun HT_ HW_ => ?_)
generalize w143.drew = w144 at HO_13 HO_425001 HO_432001 HO_439001 HO_448001 HO_459001 HO_466001 HO_482001 BK424 BK431 BK438 BK447 BK458 BK465 BK481 HB hHeld ⊢
refine pu_ 0 146 (bm 18 1) HT_.out ?_
refine pu_ 1 147 (bm 18 3) HT_.out ?_
refine pu_ 2 148 (bm 18 7) HT_.out ?_
refine pu_ 3 149 (bm 18 15) HT_.out ?_
refine pu_ 4 150 (bm 18 31) HT_.out ?_
refine pu_ 5 151 (bm 18 63) HT_.out ?_
refine un_ 6 152 (bm 18 127) HT_.out ?_
refine un_ 7 153 (bm 18 255) HT_.out ?_
refine un_ 8 154 (bm 18 511) HT_.out ?_
refine un_ 9 155 (bm 18 1023) HT_.out ?_
refine un_ 10 156 (bm 18 2047) HT_.out ?_
refine un_ 11 157 (bm 18 4095) HT_.out ?_
refine un_ 12 158 (bm 18 8191) HT_.out ?_
refine un_ 13 159 (bm 18 16383) HT_.out ?_
refine un_ 14 160 (bm 18 32767) HT_.out ?_
refine un_ 15 161 (bm 18 65535) HT_.out ?_
refine pu_ 16 162 (bm 18 131071) HT_.out ?_
refine pu_ 17 163 (bm 18 262143) HT_.out ?_
refine done_ (done_of HT_.out (by kernel_rfl)) ?_
try go_wp2
go_roundg k4
case measure => have := HJ12.out; have := HJ84.out; have := HJ95.out; have := HK4.out; omega
case rel => exact ⟨(wrap64 (x23_4 + 1)), (by first | rfl | (simp; done) | (simp [*]; done)), H', ⟨by have := HJ12.out; have := HJ84.out; have := HJ95.out; have := HK4.out; omega⟩, ⟨rr HO_13⟩, ⟨rq HO_425001⟩, ⟨rq HO_432001⟩, ⟨rq HO_439001⟩, ⟨rq HO_448001⟩, ⟨rq HO_459001⟩, ⟨rq HO_466001⟩, ⟨rq HO_482001⟩, ⟨rk BK424⟩, ⟨rk BK431⟩, ⟨rk BK438⟩, ⟨rk BK447⟩, ⟨rk BK458⟩, ⟨rk BK465⟩, ⟨rk BK481⟩, ⟨rb7 HB GE424 GE431 GE438 GE447 GE458 GE465 GE481⟩⟩
)
)
·as_aux_lemma => (
replace c127 := Bool.eq_false_iff.mpr c127
subst c127
have H1 : (some false) = some r := by rw [if_neg (show ¬ (false = true) by decide)] at H; exact H
clear H
have H := H1
clear H1
first
| with_reducible exact absurd (Option.some.inj (H.trans (congrArg some hT_))) Bool.false_ne_true
| (
obtain rfl := Option.some.inj H
obtain ⟨Ao145, co145, eo145⟩ := Kd.R_slice HO_13.out
subst eo145
try go_wp2
replace HO_13 := am (Kd.R_drew HO_13.out)
replace HO_425001 := am (Kd.Q_drew HO_425001.out)
replace HO_432001 := am (Kd.Q_drew HO_432001.out)
replace HO_439001 := am (Kd.Q_drew HO_439001.out)
replace HO_448001 := am (Kd.Q_drew HO_448001.out)
replace HO_459001 := am (Kd.Q_drew HO_459001.out)
replace HO_466001 := am (Kd.Q_drew HO_466001.out)
replace HO_482001 := am (Kd.Q_drew HO_482001.out)
replace BK424 := am (blk_drew BK424.out)
replace BK431 := am (blk_drew BK431.out)
replace BK438 := am (blk_drew BK438.out)
replace BK447 := am (blk_drew BK447.out)
replace BK458 := am (blk_drew BK458.out)
replace BK465 := am (blk_drew BK465.out)
replace BK481 := am (blk_drew BK481.out)
replace HB := am (below_drew1 HB.out)
have p483 : 0 ≤ (x23_4 : Int) := dt_
have q483 : x23_4 < (t448.length : Int) := dt_
obtain ⟨ad483, e483, hx483_0⟩ := Kd.at_int (Kd.R_reads' HO_13.out).2.2 x23_4 p483 q483
cases e483
replace p483 := eq_true p483
replace q483 := eq_true q483
refine start_ (n := 11) (S := fun w' => w'.cell? ⟨gb447, 0, none⟩ = some (.int .i64 t441) ∧ w'.cell? ⟨gb447, 1, none⟩ = some (.slice Ao36 t442.length co36) ∧ w'.cell? ⟨gb447, 2, none⟩ = some (.int .i64 t445) ∧ w'.cell? (ad483.add (x23_4).toNat) = some (.int .i64 (rd t448 x23_4))) (ds := []) (bm 11 0) (by kernel_rfl) rfl rfl ⟨(blk_cell BK447.out 0).trans rfl, (blk_cell BK447.out 1).trans rfl, (blk_cell BK447.out 2).trans rfl, hx483_0⟩ (fun hHeld => ?_); refine with_tabW laws_FnKept.tab23 laws_FnKept.bits23 (fun HT_ HW_ => ?_)
generalize wr.drew = w146 at HO_13 HO_425001 HO_432001 HO_439001 HO_448001 HO_459001 HO_466001 HO_482001 BK424 BK431 BK438 BK447 BK458 BK465 BK481 HB hx483_0 hHeld ⊢
refine pu_ 1 139 (bm 11 2) HT_.out ?_
refine pu_ 2 140 (bm 11 6) HT_.out ?_
refine pu_ 3 141 (bm 11 14) HT_.out ?_
refine take_ (i := 0) (N := some 138) (v := ?_) (a' := ?_) (bm 11 15) rfl rfl (take_ofW HT_.out HW_.out (by kernel_rfl)) (fun _ _ _ h => h) (Or.inl ⟨by rfl, ?_⟩) hHeld ?_ ?_
rotate_left
·(
rintro w' ⟨s0, s1, s2, s3⟩
go_simp
with_reducible rfl
)
rotate_left
·(
simp only [Act.put, List.setIfInBounds_toArray, List.set_cons_zero, List.set_cons_succ, i64_w, i32_w]
rfl
)
refine take_ (i := 4) (N := some 142) (v := ?_) (a' := ?_) (bm 11 31) rfl rfl (take_ofW HT_.out HW_.out (by kernel_rfl)) (fun _ _ _ h => h) (Or.inl ⟨by rfl, ?_⟩) hHeld ?_ ?_
rotate_left
·(
rintro w' ⟨s0, s1, s2, s3⟩
go_simp
with_reducible rfl
)
rotate_left
·(
simp only [Act.put, List.setIfInBounds_toArray, List.set_cons_zero, List.set_cons_succ, i64_w, i32_w]
rfl
)
refine one_ (i := 5) (N := some 143) (bm 11 63) rfl rfl (one_of HT_.out (by kernel_rfl)) (by decide) (fun K hK => ?_)
refine goes_ Try.func12 (by kernel_rfl) rfl #[.agg #[.int .i64 t441, .slice Ao36 t442.length co36, .int .i64 t445], .int .i64 (rd t448 x23_4)] (by rfl) rfl rfl mt ?_
with_reducible refine (impl_LineAt.calls k4 t441 _ _ t442 t445 (rd t448 x23_4) t484 false _ ?side1 ?side2 A126.out).mono ?_
(case side1 => repeat (first | exact (Kd.Q_reads' HO_448001.out).2.2 | (with_reducible refine Kd.C_alloc ?_ _) | (with_reducible refine Kd.C_drewN ?_ _) | (with_reducible refine Kd.C_drew ?_)))
(case side2 => exact (Kd.Q_reads' HO_448001.out).2.1)
rintro e w147 ⟨rfl, hb⟩
have HS3_ := (hb.cell (World.block_lt_of_cell? _ _ (hHeld.2.2.2))).trans (hHeld.2.2.2)
refine ⟨_, rfl, ?_⟩
replace HO_13 := am (Kd.R_below (rr HO_13) hb)
replace HO_425001 := am (Kd.Q_below (rq HO_425001) hb)
replace HO_432001 := am (Kd.Q_below (rq HO_432001) hb)
replace HO_439001 := am (Kd.Q_below (rq HO_439001) hb)
replace HO_448001 := am (Kd.Q_below (rq HO_448001) hb)
replace HO_459001 := am (Kd.Q_below (rq HO_459001) hb)
replace HO_466001 := am (Kd.Q_below (rq HO_466001) hb)
replace HO_482001 := am (Kd.Q_below (rq HO_482001) hb)
replace BK424 := am (blk_below (rk BK424) hb)
replace BK431 := am (blk_below (rk BK431) hb)
replace BK438 := am (blk_below (rk BK438) hb)
replace BK447 := am (blk_below (rk BK447) hb)
replace BK458 := am (blk_below (rk BK458) hb)
replace BK465 := am (blk_below (rk BK465) hb)
replace BK481 := am (blk_below (rk BK481) hb)
replace HB := am (below_step (rb7 HB GE424 GE431 GE438 GE447 GE458 GE465 GE481) hb)
(try clear hb)
refine hK.out _ _ ⟨(blk_cell BK447.out 0).trans rfl, (blk_cell BK447.out 1).trans rfl, (blk_cell BK447.out 2).trans rfl, HS3_⟩ (fun hHeld => ?_)
clear hK K
refine norm_ (a' := _) (show Act.put _ (some 143) _ = _ from na) ?_
refine pu_ 6 137 (bm 11 127) HT_.out ?_
refine pu_ 7 144 (bm 11 255) HT_.out ?_
refine pu_ 8 145 (bm 11 511) HT_.out ?_
refine pu_ 9 24 (bm 11 1023) HT_.out ?_
refine pu_ 10 25 (bm 11 2047) HT_.out ?_
refine done_ (done_of HT_.out (by kernel_rfl)) ?_
try go_wp2
replace HO_13 := am (Kd.R_drew HO_13.out)
replace HO_425001 := am (Kd.Q_drew HO_425001.out)
replace HO_432001 := am (Kd.Q_drew HO_432001.out)
replace HO_439001 := am (Kd.Q_drew HO_439001.out)
replace HO_448001 := am (Kd.Q_drew HO_448001.out)
replace HO_459001 := am (Kd.Q_drew HO_459001.out)
replace HO_466001 := am (Kd.Q_drew HO_466001.out)
replace HO_482001 := am (Kd.Q_drew HO_482001.out)
replace BK424 := am (blk_drew BK424.out)
replace BK431 := am (blk_drew BK431.out)
replace BK438 := am (blk_drew BK438.out)
replace BK447 := am (blk_drew BK447.out)
replace BK458 := am (blk_drew BK458.out)
replace BK465 := am (blk_drew BK465.out)
replace BK481 := am (blk_drew BK481.out)
replace HB := am (below_drew1 HB.out)
refine start_ (n := 18) (S := fun w' => True) (ds := []) (bm 18 0) (by kernel_rfl) rfl rfl trivial (fun hHeld => ?_); refine with_tabW laws_FnKept.tab24 laws_FnKept.bits24 (fun HT_ HW_ => ?_)
generalize w147.drew = w148 at HO_13 HO_425001 HO_432001 HO_439001 HO_448001 HO_459001 HO_466001 HO_482001 BK424 BK431 BK438 BK447 BK458 BK465 BK481 HB hHeld ⊢
refine pu_ 0 146 (bm 18 1) HT_.out ?_
refine pu_ 1 147 (bm 18 3) HT_.out ?_
refine pu_ 2 148 (bm 18 7) HT_.out ?_
refine un_ 3 149 (bm 18 15) HT_.out ?_
refine un_ 4 150 (bm 18 31) HT_.out ?_
refine un_ 5 151 (bm 18 63) HT_.out ?_
refine un_ 6 152 (bm 18 127) HT_.out ?_
refine un_ 7 153 (bm 18 255) HT_.out ?_
refine un_ 8 154 (bm 18 511) HT_.out ?_
refine un_ 9 155 (bm 18 1023) HT_.out ?_
refine un_ 10 156 (bm 18 2047) HT_.out ?_
refine un_ 11 157 (bm 18 4095) HT_.out ?_
refine un_ 12 158 (bm 18 8191) HT_.out ?_
refine un_ 13 159 (bm 18 16383) HT_.out ?_
refine un_ 14 160 (bm 18 32767) HT_.out ?_
refine un_ 15 161 (bm 18 65535) HT_.out ?_
refine un_ 16 162 (bm 18 131071) HT_.out ?_
refine pu_ 17 163 (bm 18 262143) HT_.out ?_
refine done_ (done_of HT_.out (by kernel_rfl)) ?_
try go_wp2
go_ret
exact ⟨by first | rfl | (simp [errW_none, errW_some] <;> rfl) | (simp [*, errW_none, errW_some] <;> rfl), rb7 HB GE424 GE431 GE438 GE447 GE458 GE465 GE481⟩)
)
)
·(
rw [if_neg c125] at H
exact absurd H (by simp)
)
)
·as_aux_lemma => (
rw [if_neg c124] at H
have c124b0 : decide (x23_4 < (t448.length : Int)) = false := decide_eq_false c124
clear c124
by_cases c149 : t430 = true
·as_aux_lemma => (
subst c149
rw [if_pos rfl] at H
replace H := Option.bind_eq_some_iff.mp H
obtain ⟨⟨t489, t490⟩, A1500, H⟩ := H
(try dsimp only at H)
have A150 := am A1500
clear A1500
have HC151 := am H
clear H
obtain ⟨Ao152, co152, eo152⟩ := Kd.R_slice HO_13.out
subst eo152
have hnb153 := NB424_431.out
have hnc153 := NB431_424.out
have hnb154 := NB424_438.out
have hnc154 := NB438_424.out
have hnb155 := NB424_447.out
have hnc155 := NB447_424.out
have hnb156 := NB424_458.out
have hnc156 := NB458_424.out
have hnb157 := NB424_465.out
have hnc157 := NB465_424.out
have hnb158 := NB424_481.out
have hnc158 := NB481_424.out
have hcz159_0 : wr.cell? ⟨gb424, 0, none⟩ = some (.int .i64 t418) := (blk_cell BK424.out 0).trans rfl
have hcz159_1 : wr.cell? ⟨gb424, 1, none⟩ = some (.slice Ao17 t419.length co17) := (blk_cell BK424.out 1).trans rfl
have hcz159_2 : wr.cell? ⟨gb424, 2, none⟩ = some (.int .i64 t422) := (blk_cell BK424.out 2).trans rfl
have hfz159_0 := blk_frozen BK424.out 0
have hfz159_1 := blk_frozen BK424.out 1
have hfz159_2 := blk_frozen BK424.out 2
have hnb160 := NB431_438.out
have hnc160 := NB438_431.out
have hnb161 := NB431_447.out
have hnc161 := NB447_431.out
have hnb162 := NB431_458.out
have hnc162 := NB458_431.out
have hnb163 := NB431_465.out
have hnc163 := NB465_431.out
have hnb164 := NB431_481.out
have hnc164 := NB481_431.out
have hcz165_0 : wr.cell? ⟨gb431, 0, none⟩ = some (.int .i64 t425) := (blk_cell BK431.out 0).trans rfl
have hcz165_1 : wr.cell? ⟨gb431, 1, none⟩ = some (.slice Ao22 t426.length co22) := (blk_cell BK431.out 1).trans rfl
have hcz165_2 : wr.cell? ⟨gb431, 2, none⟩ = some (.int .i64 t429) := (blk_cell BK431.out 2).trans rfl
have hfz165_0 := blk_frozen BK431.out 0
have hfz165_1 := blk_frozen BK431.out 1
have hfz165_2 := blk_frozen BK431.out 2
go_upto_region 30 with (first | ((with_reducible refine gate_callee (f := 12) rfl ?_); refine gl_ (some 178) Try.func12 #[.agg #[.int .i64 t425, .slice Ao22 t426.length co22, .int .i64 t429], .int .i64 (wrap64 (t422 + (t419.length : Int)))] ?_; (with_reducible refine (impl_LineAt.calls k4 t425 _ _ t426 t429 (wrap64 (t422 + (t419.length : Int))) t489 t490 _ ?side1 ?side2 A150.out).mono ?_); (case side1 => repeat (first | exact (Kd.Q_reads' HO_432001.out).2.2 | (with_reducible refine Kd.C_alloc ?_ _) | (with_reducible refine Kd.C_drewN ?_ _) | (with_reducible refine Kd.C_drew ?_))); (case side2 => exact (Kd.Q_reads' HO_432001.out).2.1); rintro e w166 ⟨rfl, hb⟩; refine ⟨_, rfl, ?_⟩; replace HO_13 := am (Kd.R_below (rr HO_13) hb); replace HO_425001 := am (Kd.Q_below (rq HO_425001) hb); replace HO_432001 := am (Kd.Q_below (rq HO_432001) hb); replace HO_439001 := am (Kd.Q_below (rq HO_439001) hb); replace HO_448001 := am (Kd.Q_below (rq HO_448001) hb); replace HO_459001 := am (Kd.Q_below (rq HO_459001) hb); replace HO_466001 := am (Kd.Q_below (rq HO_466001) hb); replace HO_482001 := am (Kd.Q_below (rq HO_482001) hb); replace BK424 := am (blk_below (rk BK424) hb); replace BK431 := am (blk_below (rk BK431) hb); replace BK438 := am (blk_below (rk BK438) hb); replace BK447 := am (blk_below (rk BK447) hb); replace BK458 := am (blk_below (rk BK458) hb); replace BK465 := am (blk_below (rk BK465) hb); replace BK481 := am (blk_below (rk BK481) hb); replace HB := am (below_step (rb7 HB GE424 GE431 GE438 GE447 GE458 GE465 GE481) hb); (try clear hb); (try clear hb2); (try clear hk); (try clear hi)))
(try simp only [Act.put, List.setIfInBounds_toArray, List.set_cons_zero, List.set_cons_succ])
go_cut [203] (fun v203 wc => ∃ (kq : Nat) (x203_150 : Bool), v203 = .bool x203_150 ∧ Aside0 (laws_FnKept.j4 kq (wrap64 (t422 + (t419.length : Int))) x203_150 t418 t419 t422 t425 t426 t429 = some r) ∧ Aside0 (kq ≤ k4) ∧ Aside0 (Kd.Q Kd.string 9 wc w.heap.size (fun k_ => some k_ ≠ ((.slice Ao22 t426.length co22) : Value).ownBlock ∧ some k_ ≠ ((.slice Ao28 t433.length co28) : Value).ownBlock ∧ some k_ ≠ ((.slice Ao36 t442.length co36) : Value).ownBlock ∧ some k_ ≠ ((.slice Ao46 t453.length co46) : Value).ownBlock ∧ some k_ ≠ ((.slice Ao56 t460.length co56) : Value).ownBlock ∧ some k_ ≠ ((.slice Ao106 t476.length co106) : Value).ownBlock) (.slice Ao17 t419.length co17) t419) ∧ Aside0 (Kd.Q Kd.string 9 wc w.heap.size (fun k_ => some k_ ≠ ((.slice Ao17 t419.length co17) : Value).ownBlock ∧ some k_ ≠ ((.slice Ao28 t433.length co28) : Value).ownBlock ∧ some k_ ≠ ((.slice Ao36 t442.length co36) : Value).ownBlock ∧ some k_ ≠ ((.slice Ao46 t453.length co46) : Value).ownBlock ∧ some k_ ≠ ((.slice Ao56 t460.length co56) : Value).ownBlock ∧ some k_ ≠ ((.slice Ao106 t476.length co106) : Value).ownBlock) (.slice Ao22 t426.length co22) t426) ∧ Aside0 (Kd.Q Kd.string 9 wc w.heap.size (fun k_ => some k_ ≠ ((.slice Ao17 t419.length co17) : Value).ownBlock ∧ some k_ ≠ ((.slice Ao22 t426.length co22) : Value).ownBlock ∧ some k_ ≠ ((.slice Ao36 t442.length co36) : Value).ownBlock ∧ some k_ ≠ ((.slice Ao46 t453.length co46) : Value).ownBlock ∧ some k_ ≠ ((.slice Ao56 t460.length co56) : Value).ownBlock ∧ some k_ ≠ ((.slice Ao106 t476.length co106) : Value).ownBlock) (.slice Ao28 t433.length co28) t433) ∧ Aside0 (Kd.Q Kd.string 9 wc w.heap.size (fun k_ => some k_ ≠ ((.slice Ao17 t419.length co17) : Value).ownBlock ∧ some k_ ≠ ((.slice Ao22 t426.length co22) : Value).ownBlock ∧ some k_ ≠ ((.slice Ao28 t433.length co28) : Value).ownBlock ∧ some k_ ≠ ((.slice Ao46 t453.length co46) : Value).ownBlock ∧ some k_ ≠ ((.slice Ao56 t460.length co56) : Value).ownBlock ∧ some k_ ≠ ((.slice Ao106 t476.length co106) : Value).ownBlock) (.slice Ao36 t442.length co36) t442) ∧ Aside0 (Kd.Q Kd.string 9 wc w.heap.size (fun k_ => some k_ ≠ ((.slice Ao17 t419.length co17) : Value).ownBlock ∧ some k_ ≠ ((.slice Ao22 t426.length co22) : Value).ownBlock ∧ some k_ ≠ ((.slice Ao28 t433.length co28) : Value).ownBlock ∧ some k_ ≠ ((.slice Ao36 t442.length co36) : Value).ownBlock ∧ some k_ ≠ ((.slice Ao56 t460.length co56) : Value).ownBlock ∧ some k_ ≠ ((.slice Ao106 t476.length co106) : Value).ownBlock) (.slice Ao46 t453.length co46) t453) ∧ Aside0 (Kd.Q Kd.string 9 wc w.heap.size (fun k_ => some k_ ≠ ((.slice Ao17 t419.length co17) : Value).ownBlock ∧ some k_ ≠ ((.slice Ao22 t426.length co22) : Value).ownBlock ∧ some k_ ≠ ((.slice Ao28 t433.length co28) : Value).ownBlock ∧ some k_ ≠ ((.slice Ao36 t442.length co36) : Value).ownBlock ∧ some k_ ≠ ((.slice Ao46 t453.length co46) : Value).ownBlock ∧ some k_ ≠ ((.slice Ao106 t476.length co106) : Value).ownBlock) (.slice Ao56 t460.length co56) t460) ∧ Aside0 (Kd.Q Kd.string 9 wc w.heap.size (fun k_ => some k_ ≠ ((.slice Ao17 t419.length co17) : Value).ownBlock ∧ some k_ ≠ ((.slice Ao22 t426.length co22) : Value).ownBlock ∧ some k_ ≠ ((.slice Ao28 t433.length co28) : Value).ownBlock ∧ some k_ ≠ ((.slice Ao36 t442.length co36) : Value).ownBlock ∧ some k_ ≠ ((.slice Ao46 t453.length co46) : Value).ownBlock ∧ some k_ ≠ ((.slice Ao56 t460.length co56) : Value).ownBlock) (.slice Ao106 t476.length co106) t476) ∧ Aside0 (wc.heap[gb424]? = some (.cells #[.int .i64 t418, (.slice Ao17 t419.length co17), .int .i64 t422] 26 (0, 0))) ∧ Aside0 (wc.heap[gb431]? = some (.cells #[.int .i64 t425, (.slice Ao22 t426.length co22), .int .i64 t429] 26 (0, 0))) ∧ Aside0 (wc.heap[gb438]? = some (.cells #[.int .i64 t432, (.slice Ao28 t433.length co28), .int .i64 t436] 26 (0, 0))) ∧ Aside0 (wc.heap[gb447]? = some (.cells #[.int .i64 t441, (.slice Ao36 t442.length co36), .int .i64 t445] 26 (0, 0))) ∧ Aside0 (wc.heap[gb458]? = some (.cells #[.int .i64 t452, (.slice Ao46 t453.length co46), .int .i64 t456] 26 (0, 0))) ∧ Aside0 (wc.heap[gb465]? = some (.cells #[.int .i64 t459, (.slice Ao56 t460.length co56), .int .i64 t463] 26 (0, 0))) ∧ Aside0 (wc.heap[gb481]? = some (.cells #[.int .i64 t475, (.slice Ao106 t476.length co106), .int .i64 t479] 26 (0, 0))) ∧ Aside0 (Below w.heap.size w wc))
case first => as_aux_lemma => (
have H := HC151.out
clear HC151
by_cases c167 : t490 = true
·as_aux_lemma => (
subst c167
rw [if_pos rfl] at H
by_cases c168 : t489.toList = t423.toList
·as_aux_lemma => (
rw [if_pos c168] at H
have c168b0 : (t489.toList == t423.toList) = true := beq_iff_eq.mpr c168
have c168b1 : (t489.toList != t423.toList) = false := bne_eq_false_iff_eq.mpr c168
clear c168
(first | rw [c168b0] | rw [c168b1] | (simp only [i64_w, i32_w]; rw [c168b0]) | skip)
replace H := Option.bind_eq_some_iff.mp H
obtain ⟨t491, A1690, H⟩ := H
(try dsimp only at H)
have A169 := am A1690
clear A1690
by_cases c170 : t491 = true
·(
subst c170
rw [if_pos rfl] at H
have H' := am H
clear H
have hnb171 := NB431_424.out
have hnc171 := NB424_431.out
have hnb172 := NB431_438.out
have hnc172 := NB438_431.out
have hnb173 := NB431_447.out
have hnc173 := NB447_431.out
have hnb174 := NB431_458.out
have hnc174 := NB458_431.out
have hnb175 := NB431_465.out
have hnc175 := NB465_431.out
have hnb176 := NB431_481.out
have hnc176 := NB481_431.out
have hcz177_0 : w166.cell? ⟨gb431, 0, none⟩ = some (.int .i64 t425) := (blk_cell BK431.out 0).trans rfl
have hcz177_1 : w166.cell? ⟨gb431, 1, none⟩ = some (.slice Ao22 t426.length co22) := (blk_cell BK431.out 1).trans rfl
have hcz177_2 : w166.cell? ⟨gb431, 2, none⟩ = some (.int .i64 t429) := (blk_cell BK431.out 2).trans rfl
have hfz177_0 := blk_frozen BK431.out 0
have hfz177_1 := blk_frozen BK431.out 1
have hfz177_2 := blk_frozen BK431.out 2
go_wp2_with (first | (go_at_call 19; (with_reducible refine (impl_HistoryOk.calls k4 t425 _ _ t426 t429 true _ ?side1 ?side2 A169.out).mono ?_); (case side1 => repeat (first | exact (Kd.Q_reads' HO_432001.out).2.2 | (with_reducible refine Kd.C_alloc ?_ _) | (with_reducible refine Kd.C_drewN ?_ _) | (with_reducible refine Kd.C_drew ?_))); (case side2 => exact (Kd.Q_reads' HO_432001.out).2.1); rintro e w178 ⟨rfl, hb⟩; replace HO_13 := am (Kd.R_below (rr HO_13) hb); replace HO_425001 := am (Kd.Q_below (rq HO_425001) hb); replace HO_432001 := am (Kd.Q_below (rq HO_432001) hb); replace HO_439001 := am (Kd.Q_below (rq HO_439001) hb); replace HO_448001 := am (Kd.Q_below (rq HO_448001) hb); replace HO_459001 := am (Kd.Q_below (rq HO_459001) hb); replace HO_466001 := am (Kd.Q_below (rq HO_466001) hb); replace HO_482001 := am (Kd.Q_below (rq HO_482001) hb); replace BK424 := am (blk_below (rk BK424) hb); replace BK431 := am (blk_below (rk BK431) hb); replace BK438 := am (blk_below (rk BK438) hb); replace BK447 := am (blk_below (rk BK447) hb); replace BK458 := am (blk_below (rk BK458) hb); replace BK465 := am (blk_below (rk BK465) hb); replace BK481 := am (blk_below (rk BK481) hb); replace HB := am (below_step (rb7 HB GE424 GE431 GE438 GE447 GE458 GE465 GE481) hb); (try clear hb); (try clear hb2); (try clear hk); (try clear hi); have hcz179_0 : w178.cell? ⟨gb431, 0, none⟩ = some (.int .i64 t425) := (blk_cell BK431.out 0).trans rfl; have hcz179_1 : w178.cell? ⟨gb431, 1, none⟩ = some (.slice Ao22 t426.length co22) := (blk_cell BK431.out 1).trans rfl; have hcz179_2 : w178.cell? ⟨gb431, 2, none⟩ = some (.int .i64 t429) := (blk_cell BK431.out 2).trans rfl; have hfz179_0 := blk_frozen BK431.out 0; have hfz179_1 := blk_frozen BK431.out 1; have hfz179_2 := blk_frozen BK431.out 2))
go_meet
case rel => exact ⟨_, (((wrap64 (t429 + (t426.length : Int))) != (wrap64 ((wrap64 (t422 + (t419.length : Int))) + 1)))), (by first | rfl | (simp; done) | (simp [*]; done)), H', ⟨by have := HJ12.out; have := HJ84.out; have := HJ95.out; have := HK4.out; first | omega | exact Nat.le_refl _⟩, ⟨rq HO_425001⟩, ⟨rq HO_432001⟩, ⟨rq HO_439001⟩, ⟨rq HO_448001⟩, ⟨rq HO_459001⟩, ⟨rq HO_466001⟩, ⟨rq HO_482001⟩, ⟨rk BK424⟩, ⟨rk BK431⟩, ⟨rk BK438⟩, ⟨rk BK447⟩, ⟨rk BK458⟩, ⟨rk BK465⟩, ⟨rk BK481⟩, ⟨rb7 HB GE424 GE431 GE438 GE447 GE458 GE465 GE481⟩⟩
)
·(
replace c170 := Bool.eq_false_iff.mpr c170
subst c170
rw [if_neg (show ¬ (false = true) by decide)] at H
have H' := am H
clear H
have hnb180 := NB431_424.out
have hnc180 := NB424_431.out
have hnb181 := NB431_438.out
have hnc181 := NB438_431.out
have hnb182 := NB431_447.out
have hnc182 := NB447_431.out
have hnb183 := NB431_458.out
have hnc183 := NB458_431.out
have hnb184 := NB431_465.out
have hnc184 := NB465_431.out
have hnb185 := NB431_481.out
have hnc185 := NB481_431.out
have hcz186_0 : w166.cell? ⟨gb431, 0, none⟩ = some (.int .i64 t425) := (blk_cell BK431.out 0).trans rfl
have hcz186_1 : w166.cell? ⟨gb431, 1, none⟩ = some (.slice Ao22 t426.length co22) := (blk_cell BK431.out 1).trans rfl
have hcz186_2 : w166.cell? ⟨gb431, 2, none⟩ = some (.int .i64 t429) := (blk_cell BK431.out 2).trans rfl
have hfz186_0 := blk_frozen BK431.out 0
have hfz186_1 := blk_frozen BK431.out 1
have hfz186_2 := blk_frozen BK431.out 2
go_wp2_with (first | (go_at_call 19; (with_reducible refine (impl_HistoryOk.calls k4 t425 _ _ t426 t429 false _ ?side1 ?side2 A169.out).mono ?_); (case side1 => repeat (first | exact (Kd.Q_reads' HO_432001.out).2.2 | (with_reducible refine Kd.C_alloc ?_ _) | (with_reducible refine Kd.C_drewN ?_ _) | (with_reducible refine Kd.C_drew ?_))); (case side2 => exact (Kd.Q_reads' HO_432001.out).2.1); rintro e w187 ⟨rfl, hb⟩; replace HO_13 := am (Kd.R_below (rr HO_13) hb); replace HO_425001 := am (Kd.Q_below (rq HO_425001) hb); replace HO_432001 := am (Kd.Q_below (rq HO_432001) hb); replace HO_439001 := am (Kd.Q_below (rq HO_439001) hb); replace HO_448001 := am (Kd.Q_below (rq HO_448001) hb); replace HO_459001 := am (Kd.Q_below (rq HO_459001) hb); replace HO_466001 := am (Kd.Q_below (rq HO_466001) hb); replace HO_482001 := am (Kd.Q_below (rq HO_482001) hb); replace BK424 := am (blk_below (rk BK424) hb); replace BK431 := am (blk_below (rk BK431) hb); replace BK438 := am (blk_below (rk BK438) hb); replace BK447 := am (blk_below (rk BK447) hb); replace BK458 := am (blk_below (rk BK458) hb); replace BK465 := am (blk_below (rk BK465) hb); replace BK481 := am (blk_below (rk BK481) hb); replace HB := am (below_step (rb7 HB GE424 GE431 GE438 GE447 GE458 GE465 GE481) hb); (try clear hb); (try clear hb2); (try clear hk); (try clear hi)))
go_meet
case rel => exact ⟨_, (true), (by first | rfl | (simp; done) | (simp [*]; done)), H', ⟨by have := HJ12.out; have := HJ84.out; have := HJ95.out; have := HK4.out; first | omega | exact Nat.le_refl _⟩, ⟨rq HO_425001⟩, ⟨rq HO_432001⟩, ⟨rq HO_439001⟩, ⟨rq HO_448001⟩, ⟨rq HO_459001⟩, ⟨rq HO_466001⟩, ⟨rq HO_482001⟩, ⟨rk BK424⟩, ⟨rk BK431⟩, ⟨rk BK438⟩, ⟨rk BK447⟩, ⟨rk BK458⟩, ⟨rk BK465⟩, ⟨rk BK481⟩, ⟨rb7 HB GE424 GE431 GE438 GE447 GE458 GE465 GE481⟩⟩
)
)
·(
rw [if_neg c168] at H
have c168b0 : (t489.toList == t423.toList) = false := beq_eq_false_iff_ne.mpr c168
have c168b1 : (t489.toList != t423.toList) = true := bne_iff_ne.mpr c168
(first | rw [c168b0] | rw [c168b1] | (simp only [i64_w, i32_w]; rw [c168b0]) | skip)
have H' := am H
clear H
go_wp2
go_meet
case rel => exact ⟨_, (true), (by first | rfl | (simp; done) | (simp [*]; done)), H', ⟨by have := HJ12.out; have := HJ84.out; have := HJ95.out; have := HK4.out; first | omega | exact Nat.le_refl _⟩, ⟨rq HO_425001⟩, ⟨rq HO_432001⟩, ⟨rq HO_439001⟩, ⟨rq HO_448001⟩, ⟨rq HO_459001⟩, ⟨rq HO_466001⟩, ⟨rq HO_482001⟩, ⟨rk BK424⟩, ⟨rk BK431⟩, ⟨rk BK438⟩, ⟨rk BK447⟩, ⟨rk BK458⟩, ⟨rk BK465⟩, ⟨rk BK481⟩, ⟨rb7 HB GE424 GE431 GE438 GE447 GE458 GE465 GE481⟩⟩
)
)
·(
replace c167 := Bool.eq_false_iff.mpr c167
subst c167
rw [if_neg (show ¬ (false = true) by decide)] at H
have H' := am H
clear H
go_wp2
go_meet
case rel => exact ⟨_, (true), (by first | rfl | (simp; done) | (simp [*]; done)), H', ⟨by have := HJ12.out; have := HJ84.out; have := HJ95.out; have := HK4.out; first | omega | exact Nat.le_refl _⟩, ⟨rq HO_425001⟩, ⟨rq HO_432001⟩, ⟨rq HO_439001⟩, ⟨rq HO_448001⟩, ⟨rq HO_459001⟩, ⟨rq HO_466001⟩, ⟨rq HO_482001⟩, ⟨rk BK424⟩, ⟨rk BK431⟩, ⟨rk BK438⟩, ⟨rk BK447⟩, ⟨rk BK458⟩, ⟨rk BK465⟩, ⟨rk BK481⟩, ⟨rb7 HB GE424 GE431 GE438 GE447 GE458 GE465 GE481⟩⟩
)
)
case rest => as_aux_lemma => (
clear HC151
try clear c1
try clear p2
try clear p4
try clear q4
try clear hx4
try clear p6
try clear c12
try clear c14
try clear c15
try clear c16
try clear c17
try clear c18
try clear p48
try clear q48
try clear hx48
try clear p64
try clear c124
try clear c124b0
try clear c125
try clear c127
try clear c149
try clear c153
try clear c154
try clear c155
try clear c156
try clear c157
try clear c158
try clear c160
try clear c161
try clear c162
try clear c163
try clear c164
try clear c167
try clear c168
try clear c168b0
try clear c168b1
try clear c170
try clear c171
try clear c172
try clear c173
try clear c174
try clear c175
try clear c176
try clear c180
try clear c181
try clear c182
try clear c183
try clear c184
try clear c185
try clear hcz159_0
try clear hcz159_1
try clear hcz159_2
try clear hcz165_0
try clear hcz165_1
try clear hcz165_2
try clear hcz177_0
try clear hcz177_1
try clear hcz177_2
try clear hcz179_0
try clear hcz179_1
try clear hcz179_2
try clear hcz186_0
try clear hcz186_1
try clear hcz186_2
try clear hfz159_0
try clear hfz159_1
try clear hfz159_2
try clear hfz165_0
try clear hfz165_1
try clear hfz165_2
try clear hfz177_0
try clear hfz177_1
try clear hfz177_2
try clear hfz179_0
try clear hfz179_1
try clear hfz179_2
try clear hfz186_0
try clear hfz186_1
try clear hfz186_2
try clear hx483_0
try clear p483
try clear q483
obtain ⟨kq, x203_150, rfl, HA, HJ150, HO_425001, HO_432001, HO_439001, HO_448001, HO_459001, HO_466001, HO_482001, BK424, BK431, BK438, BK447, BK458, BK465, BK481, HB⟩ := hcut
cases kq with
| zero => exact absurd HA.out (by simp [laws_FnKept.j4])
| succ kj150 => (
have H := HA.out
clear HA
simp only [laws_FnKept.j4] at H
by_cases c188 : x203_150 = true
·as_aux_lemma => (
subst c188
have H1 : (some false) = some r := by rw [if_pos rfl] at H; exact H
clear H
have H := H1
clear H1
first
| with_reducible exact absurd (Option.some.inj (H.trans (congrArg some hT_))) Bool.false_ne_true
| (
obtain rfl := Option.some.inj H
go_wp2
go_ret
exact ⟨by first | rfl | (simp [errW_none, errW_some] <;> rfl) | (simp [*, errW_none, errW_some] <;> rfl), rb7 HB GE424 GE431 GE438 GE447 GE458 GE465 GE481⟩)
)
·as_aux_lemma => (
replace c188 := Bool.eq_false_iff.mpr c188
subst c188
rw [if_neg (show ¬ (false = true) by decide)] at H
have H' := am H
clear H
have hnb189 := NB431_424.out
have hnc189 := NB424_431.out
have hnb190 := NB431_438.out
have hnc190 := NB438_431.out
have hnb191 := NB431_447.out
have hnc191 := NB447_431.out
have hnb192 := NB431_458.out
have hnc192 := NB458_431.out
have hnb193 := NB431_465.out
have hnc193 := NB465_431.out
have hnb194 := NB431_481.out
have hnc194 := NB481_431.out
have hcz195_0 : wc.cell? ⟨gb431, 0, none⟩ = some (.int .i64 t425) := (blk_cell BK431.out 0).trans rfl
have hcz195_1 : wc.cell? ⟨gb431, 1, none⟩ = some (.slice Ao22 t426.length co22) := (blk_cell BK431.out 1).trans rfl
have hcz195_2 : wc.cell? ⟨gb431, 2, none⟩ = some (.int .i64 t429) := (blk_cell BK431.out 2).trans rfl
have hfz195_0 := blk_frozen BK431.out 0
have hfz195_1 := blk_frozen BK431.out 1
have hfz195_2 := blk_frozen BK431.out 2
go_wp2
go_loopg [29] kj150 (fun kq v29 w' => ∃ (x29_6 : Int), v29 = .int .i64 x29_6 ∧ Aside0 (laws_FnKept.l1 kq (wrap64 (t422 + (t419.length : Int))) x29_6 t418 t419 t422 t425 t426 t429 = some r) ∧ Aside0 (kq ≤ kj150) ∧ Aside0 (Kd.Q Kd.string 9 w' w.heap.size (fun k_ => some k_ ≠ ((.slice Ao22 t426.length co22) : Value).ownBlock ∧ some k_ ≠ ((.slice Ao28 t433.length co28) : Value).ownBlock ∧ some k_ ≠ ((.slice Ao36 t442.length co36) : Value).ownBlock ∧ some k_ ≠ ((.slice Ao46 t453.length co46) : Value).ownBlock ∧ some k_ ≠ ((.slice Ao56 t460.length co56) : Value).ownBlock ∧ some k_ ≠ ((.slice Ao106 t476.length co106) : Value).ownBlock) (.slice Ao17 t419.length co17) t419) ∧ Aside0 (Kd.Q Kd.string 9 w' w.heap.size (fun k_ => some k_ ≠ ((.slice Ao17 t419.length co17) : Value).ownBlock ∧ some k_ ≠ ((.slice Ao28 t433.length co28) : Value).ownBlock ∧ some k_ ≠ ((.slice Ao36 t442.length co36) : Value).ownBlock ∧ some k_ ≠ ((.slice Ao46 t453.length co46) : Value).ownBlock ∧ some k_ ≠ ((.slice Ao56 t460.length co56) : Value).ownBlock ∧ some k_ ≠ ((.slice Ao106 t476.length co106) : Value).ownBlock) (.slice Ao22 t426.length co22) t426) ∧ Aside0 (Kd.Q Kd.string 9 w' w.heap.size (fun k_ => some k_ ≠ ((.slice Ao17 t419.length co17) : Value).ownBlock ∧ some k_ ≠ ((.slice Ao22 t426.length co22) : Value).ownBlock ∧ some k_ ≠ ((.slice Ao36 t442.length co36) : Value).ownBlock ∧ some k_ ≠ ((.slice Ao46 t453.length co46) : Value).ownBlock ∧ some k_ ≠ ((.slice Ao56 t460.length co56) : Value).ownBlock ∧ some k_ ≠ ((.slice Ao106 t476.length co106) : Value).ownBlock) (.slice Ao28 t433.length co28) t433) ∧ Aside0 (Kd.Q Kd.string 9 w' w.heap.size (fun k_ => some k_ ≠ ((.slice Ao17 t419.length co17) : Value).ownBlock ∧ some k_ ≠ ((.slice Ao22 t426.length co22) : Value).ownBlock ∧ some k_ ≠ ((.slice Ao28 t433.length co28) : Value).ownBlock ∧ some k_ ≠ ((.slice Ao46 t453.length co46) : Value).ownBlock ∧ some k_ ≠ ((.slice Ao56 t460.length co56) : Value).ownBlock ∧ some k_ ≠ ((.slice Ao106 t476.length co106) : Value).ownBlock) (.slice Ao36 t442.length co36) t442) ∧ Aside0 (Kd.Q Kd.string 9 w' w.heap.size (fun k_ => some k_ ≠ ((.slice Ao17 t419.length co17) : Value).ownBlock ∧ some k_ ≠ ((.slice Ao22 t426.length co22) : Value).ownBlock ∧ some k_ ≠ ((.slice Ao28 t433.length co28) : Value).ownBlock ∧ some k_ ≠ ((.slice Ao36 t442.length co36) : Value).ownBlock ∧ some k_ ≠ ((.slice Ao56 t460.length co56) : Value).ownBlock ∧ some k_ ≠ ((.slice Ao106 t476.length co106) : Value).ownBlock) (.slice Ao46 t453.length co46) t453) ∧ Aside0 (Kd.Q Kd.string 9 w' w.heap.size (fun k_ => some k_ ≠ ((.slice Ao17 t419.length co17) : Value).ownBlock ∧ some k_ ≠ ((.slice Ao22 t426.length co22) : Value).ownBlock ∧ some k_ ≠ ((.slice Ao28 t433.length co28) : Value).ownBlock ∧ some k_ ≠ ((.slice Ao36 t442.length co36) : Value).ownBlock ∧ some k_ ≠ ((.slice Ao46 t453.length co46) : Value).ownBlock ∧ some k_ ≠ ((.slice Ao106 t476.length co106) : Value).ownBlock) (.slice Ao56 t460.length co56) t460) ∧ Aside0 (Kd.Q Kd.string 9 w' w.heap.size (fun k_ => some k_ ≠ ((.slice Ao17 t419.length co17) : Value).ownBlock ∧ some k_ ≠ ((.slice Ao22 t426.length co22) : Value).ownBlock ∧ some k_ ≠ ((.slice Ao28 t433.length co28) : Value).ownBlock ∧ some k_ ≠ ((.slice Ao36 t442.length co36) : Value).ownBlock ∧ some k_ ≠ ((.slice Ao46 t453.length co46) : Value).ownBlock ∧ some k_ ≠ ((.slice Ao56 t460.length co56) : Value).ownBlock) (.slice Ao106 t476.length co106) t476) ∧ Aside0 (w'.heap[gb424]? = some (.cells #[.int .i64 t418, (.slice Ao17 t419.length co17), .int .i64 t422] 26 (0, 0))) ∧ Aside0 (w'.heap[gb431]? = some (.cells #[.int .i64 t425, (.slice Ao22 t426.length co22), .int .i64 t429] 26 (0, 0))) ∧ Aside0 (w'.heap[gb438]? = some (.cells #[.int .i64 t432, (.slice Ao28 t433.length co28), .int .i64 t436] 26 (0, 0))) ∧ Aside0 (w'.heap[gb447]? = some (.cells #[.int .i64 t441, (.slice Ao36 t442.length co36), .int .i64 t445] 26 (0, 0))) ∧ Aside0 (w'.heap[gb458]? = some (.cells #[.int .i64 t452, (.slice Ao46 t453.length co46), .int .i64 t456] 26 (0, 0))) ∧ Aside0 (w'.heap[gb465]? = some (.cells #[.int .i64 t459, (.slice Ao56 t460.length co56), .int .i64 t463] 26 (0, 0))) ∧ Aside0 (w'.heap[gb481]? = some (.cells #[.int .i64 t475, (.slice Ao106 t476.length co106), .int .i64 t479] 26 (0, 0))) ∧ Aside0 (Below w.heap.size w w'))
case atStart => exact ⟨(t429), (by first | rfl | (simp; done) | (simp [*]; done)), H', ⟨Nat.le_refl _⟩, ⟨rq HO_425001⟩, ⟨rq HO_432001⟩, ⟨rq HO_439001⟩, ⟨rq HO_448001⟩, ⟨rq HO_459001⟩, ⟨rq HO_466001⟩, ⟨rq HO_482001⟩, ⟨rk BK424⟩, ⟨rk BK431⟩, ⟨rk BK438⟩, ⟨rk BK447⟩, ⟨rk BK458⟩, ⟨rk BK465⟩, ⟨rk BK481⟩, ⟨rb7 HB GE424 GE431 GE438 GE447 GE458 GE465 GE481⟩⟩
case round => as_aux_lemma => (
clear H'
try clear c1
try clear p2
try clear p4
try clear q4
try clear hx4
try clear p6
try clear c12
try clear c14
try clear c15
try clear c16
try clear c17
try clear c18
try clear c19
try clear p48
try clear q48
try clear hx48
try clear p64
try clear c124
try clear c124b0
try clear c125
try clear c127
try clear c149
try clear c153
try clear c154
try clear c155
try clear c156
try clear c157
try clear c158
try clear c160
try clear c161
try clear c162
try clear c163
try clear c164
try clear c167
try clear c168
try clear c168b0
try clear c168b1
try clear c170
try clear c171
try clear c172
try clear c173
try clear c174
try clear c175
try clear c176
try clear c180
try clear c181
try clear c182
try clear c183
try clear c184
try clear c185
try clear c188
try clear c189
try clear c190
try clear c191
try clear c192
try clear c193
try clear c194
try clear hcz159_0
try clear hcz159_1
try clear hcz159_2
try clear hcz165_0
try clear hcz165_1
try clear hcz165_2
try clear hcz177_0
try clear hcz177_1
try clear hcz177_2
try clear hcz179_0
try clear hcz179_1
try clear hcz179_2
try clear hcz186_0
try clear hcz186_1
try clear hcz186_2
try clear hcz195_0
try clear hcz195_1
try clear hcz195_2
try clear hfz159_0
try clear hfz159_1
try clear hfz159_2
try clear hfz165_0
try clear hfz165_1
try clear hfz165_2
try clear hfz177_0
try clear hfz177_1
try clear hfz177_2
try clear hfz179_0
try clear hfz179_1
try clear hfz179_2
try clear hfz186_0
try clear hfz186_1
try clear hfz186_2
try clear hfz195_0
try clear hfz195_1
try clear hfz195_2
try clear hx483_0
try clear p2
try clear p4
try clear p48
try clear p483
try clear p6
try clear p64
try clear q4
try clear q48
try clear q483
obtain ⟨x29_6, rfl, HA, HK6, HO_425001, HO_432001, HO_439001, HO_448001, HO_459001, HO_466001, HO_482001, BK424, BK431, BK438, BK447, BK458, BK465, BK481, HB⟩ := hrel
cases gk with
| zero => exact absurd HA.out (by simp [laws_FnKept.l1])
| succ k6 => (
have H := HA.out
clear HA
simp only [laws_FnKept.l1] at H
by_cases c196 : x29_6 < (wrap64 (t422 + (t419.length : Int)))
·as_aux_lemma => (
rw [if_pos c196] at H
have c196b0 : decide (x29_6 < (wrap64 (t422 + (t419.length : Int)))) = true := decide_eq_true c196
clear c196
replace H := Option.bind_eq_some_iff.mp H
obtain ⟨⟨t492, t493⟩, A1970, H⟩ := H
(try dsimp only at H)
have A197 := am A1970
clear A1970
replace H := Option.bind_eq_some_iff.mp H
obtain ⟨⟨t494, t495⟩, A1980, H⟩ := H
(try dsimp only at H)
have A198 := am A1980
clear A1980
by_cases c199 : t493 = true
·as_aux_lemma => (
subst c199
rw [if_pos rfl] at H
by_cases c200 : t495 = true
·as_aux_lemma => (
subst c200
rw [if_pos rfl] at H
by_cases c201 : t492.toList = t494.toList
·(
rw [if_pos c201] at H
have c201b0 : (t492.toList == t494.toList) = true := beq_iff_eq.mpr c201
have c201b1 : (t492.toList != t494.toList) = false := bne_eq_false_iff_eq.mpr c201
clear c201
have H' := am H
clear H
have hnb202 := NB431_424.out
have hnc202 := NB424_431.out
have hnb203 := NB431_438.out
have hnc203 := NB438_431.out
have hnb204 := NB431_447.out
have hnc204 := NB447_431.out
have hnb205 := NB431_458.out
have hnc205 := NB458_431.out
have hnb206 := NB431_465.out
have hnc206 := NB465_431.out
have hnb207 := NB431_481.out
have hnc207 := NB481_431.out
have hcz208_0 : wr.cell? ⟨gb431, 0, none⟩ = some (.int .i64 t425) := (blk_cell BK431.out 0).trans rfl
have hcz208_1 : wr.cell? ⟨gb431, 1, none⟩ = some (.slice Ao22 t426.length co22) := (blk_cell BK431.out 1).trans rfl
have hcz208_2 : wr.cell? ⟨gb431, 2, none⟩ = some (.int .i64 t429) := (blk_cell BK431.out 2).trans rfl
have hfz208_0 := blk_frozen BK431.out 0
have hfz208_1 := blk_frozen BK431.out 1
have hfz208_2 := blk_frozen BK431.out 2
go_wp2_with (first | ((with_reducible refine gate_callee (f := 12) rfl ?_); refine gl_ (some 214) Try.func12 #[.agg #[.int .i64 t425, .slice Ao22 t426.length co22, .int .i64 t429], .int .i64 x29_6] ?_; (with_reducible refine (impl_LineAt.calls k6 t425 _ _ t426 t429 x29_6 t492 true _ ?side1 ?side2 A197.out).mono ?_); (case side1 => repeat (first | exact (Kd.Q_reads' HO_432001.out).2.2 | (with_reducible refine Kd.C_alloc ?_ _) | (with_reducible refine Kd.C_drewN ?_ _) | (with_reducible refine Kd.C_drew ?_))); (case side2 => exact (Kd.Q_reads' HO_432001.out).2.1); rintro e w209 ⟨rfl, hb⟩; refine ⟨_, rfl, ?_⟩; replace HO_425001 := am (Kd.Q_below (rq HO_425001) hb); replace HO_432001 := am (Kd.Q_below (rq HO_432001) hb); replace HO_439001 := am (Kd.Q_below (rq HO_439001) hb); replace HO_448001 := am (Kd.Q_below (rq HO_448001) hb); replace HO_459001 := am (Kd.Q_below (rq HO_459001) hb); replace HO_466001 := am (Kd.Q_below (rq HO_466001) hb); replace HO_482001 := am (Kd.Q_below (rq HO_482001) hb); replace BK424 := am (blk_below (rk BK424) hb); replace BK431 := am (blk_below (rk BK431) hb); replace BK438 := am (blk_below (rk BK438) hb); replace BK447 := am (blk_below (rk BK447) hb); replace BK458 := am (blk_below (rk BK458) hb); replace BK465 := am (blk_below (rk BK465) hb); replace BK481 := am (blk_below (rk BK481) hb); replace HB := am (below_step (rb7 HB GE424 GE431 GE438 GE447 GE458 GE465 GE481) hb); (try clear hb); (try clear hb2); (try clear hk); (try clear hi); have hnb210 := NB424_438.out; have hnc210 := NB438_424.out; have hnb211 := NB424_447.out; have hnc211 := NB447_424.out; have hnb212 := NB424_458.out; have hnc212 := NB458_424.out; have hnb213 := NB424_465.out; have hnc213 := NB465_424.out; have hnb214 := NB424_481.out; have hnc214 := NB481_424.out; have hcz215_0 : w209.cell? ⟨gb424, 0, none⟩ = some (.int .i64 t418) := (blk_cell BK424.out 0).trans rfl; have hcz215_1 : w209.cell? ⟨gb424, 1, none⟩ = some (.slice Ao17 t419.length co17) := (blk_cell BK424.out 1).trans rfl; have hcz215_2 : w209.cell? ⟨gb424, 2, none⟩ = some (.int .i64 t422) := (blk_cell BK424.out 2).trans rfl; have hfz215_0 := blk_frozen BK424.out 0; have hfz215_1 := blk_frozen BK424.out 1; have hfz215_2 := blk_frozen BK424.out 2) | ((with_reducible refine gate_callee (f := 12) rfl ?_); refine gl_ (some 220) Try.func12 #[.agg #[.int .i64 t418, .slice Ao17 t419.length co17, .int .i64 t422], .int .i64 x29_6] ?_; (with_reducible refine (impl_LineAt.calls k6 t418 _ _ t419 t422 x29_6 t494 true _ ?side1 ?side2 A198.out).mono ?_); (case side1 => repeat (first | exact (Kd.Q_reads' HO_425001.out).2.2 | (with_reducible refine Kd.C_alloc ?_ _) | (with_reducible refine Kd.C_drewN ?_ _) | (with_reducible refine Kd.C_drew ?_))); (case side2 => exact (Kd.Q_reads' HO_425001.out).2.1); rintro e w216 ⟨rfl, hb⟩; refine ⟨_, rfl, ?_⟩; replace HO_425001 := am (Kd.Q_below (rq HO_425001) hb); replace HO_432001 := am (Kd.Q_below (rq HO_432001) hb); replace HO_439001 := am (Kd.Q_below (rq HO_439001) hb); replace HO_448001 := am (Kd.Q_below (rq HO_448001) hb); replace HO_459001 := am (Kd.Q_below (rq HO_459001) hb); replace HO_466001 := am (Kd.Q_below (rq HO_466001) hb); replace HO_482001 := am (Kd.Q_below (rq HO_482001) hb); replace BK424 := am (blk_below (rk BK424) hb); replace BK431 := am (blk_below (rk BK431) hb); replace BK438 := am (blk_below (rk BK438) hb); replace BK447 := am (blk_below (rk BK447) hb); replace BK458 := am (blk_below (rk BK458) hb); replace BK465 := am (blk_below (rk BK465) hb); replace BK481 := am (blk_below (rk BK481) hb); replace HB := am (below_step (rb7 HB GE424 GE431 GE438 GE447 GE458 GE465 GE481) hb); (try clear hb); (try clear hb2); (try clear hk); (try clear hi)))
go_roundg k6
case measure => have := HJ12.out; have := HJ84.out; have := HJ95.out; have := HK4.out; have := HJ150.out; have := HK6.out; omega
case rel => exact ⟨(wrap64 (x29_6 + 1)), (by first | rfl | (simp; done) | (simp [*]; done)), H', ⟨by have := HJ12.out; have := HJ84.out; have := HJ95.out; have := HK4.out; have := HJ150.out; have := HK6.out; omega⟩, ⟨rq HO_425001⟩, ⟨rq HO_432001⟩, ⟨rq HO_439001⟩, ⟨rq HO_448001⟩, ⟨rq HO_459001⟩, ⟨rq HO_466001⟩, ⟨rq HO_482001⟩, ⟨rk BK424⟩, ⟨rk BK431⟩, ⟨rk BK438⟩, ⟨rk BK447⟩, ⟨rk BK458⟩, ⟨rk BK465⟩, ⟨rk BK481⟩, ⟨rb7 HB GE424 GE431 GE438 GE447 GE458 GE465 GE481⟩⟩
)
·(
rw [if_neg c201] at H
have c201b0 : (t492.toList == t494.toList) = false := beq_eq_false_iff_ne.mpr c201
have c201b1 : (t492.toList != t494.toList) = true := bne_iff_ne.mpr c201
first
| with_reducible exact absurd (Option.some.inj (H.trans (congrArg some hT_))) Bool.false_ne_true
| (
obtain rfl := Option.some.inj H
have hnb217 := NB431_424.out
have hnc217 := NB424_431.out
have hnb218 := NB431_438.out
have hnc218 := NB438_431.out
have hnb219 := NB431_447.out
have hnc219 := NB447_431.out
have hnb220 := NB431_458.out
have hnc220 := NB458_431.out
have hnb221 := NB431_465.out
have hnc221 := NB465_431.out
have hnb222 := NB431_481.out
have hnc222 := NB481_431.out
have hcz223_0 : wr.cell? ⟨gb431, 0, none⟩ = some (.int .i64 t425) := (blk_cell BK431.out 0).trans rfl
have hcz223_1 : wr.cell? ⟨gb431, 1, none⟩ = some (.slice Ao22 t426.length co22) := (blk_cell BK431.out 1).trans rfl
have hcz223_2 : wr.cell? ⟨gb431, 2, none⟩ = some (.int .i64 t429) := (blk_cell BK431.out 2).trans rfl
have hfz223_0 := blk_frozen BK431.out 0
have hfz223_1 := blk_frozen BK431.out 1
have hfz223_2 := blk_frozen BK431.out 2
go_wp2_with (first | ((with_reducible refine gate_callee (f := 12) rfl ?_); refine gl_ (some 214) Try.func12 #[.agg #[.int .i64 t425, .slice Ao22 t426.length co22, .int .i64 t429], .int .i64 x29_6] ?_; (with_reducible refine (impl_LineAt.calls k6 t425 _ _ t426 t429 x29_6 t492 true _ ?side1 ?side2 A197.out).mono ?_); (case side1 => repeat (first | exact (Kd.Q_reads' HO_432001.out).2.2 | (with_reducible refine Kd.C_alloc ?_ _) | (with_reducible refine Kd.C_drewN ?_ _) | (with_reducible refine Kd.C_drew ?_))); (case side2 => exact (Kd.Q_reads' HO_432001.out).2.1); rintro e w224 ⟨rfl, hb⟩; refine ⟨_, rfl, ?_⟩; replace HO_425001 := am (Kd.Q_below (rq HO_425001) hb); replace HO_432001 := am (Kd.Q_below (rq HO_432001) hb); replace HO_439001 := am (Kd.Q_below (rq HO_439001) hb); replace HO_448001 := am (Kd.Q_below (rq HO_448001) hb); replace HO_459001 := am (Kd.Q_below (rq HO_459001) hb); replace HO_466001 := am (Kd.Q_below (rq HO_466001) hb); replace HO_482001 := am (Kd.Q_below (rq HO_482001) hb); replace BK424 := am (blk_below (rk BK424) hb); replace BK431 := am (blk_below (rk BK431) hb); replace BK438 := am (blk_below (rk BK438) hb); replace BK447 := am (blk_below (rk BK447) hb); replace BK458 := am (blk_below (rk BK458) hb); replace BK465 := am (blk_below (rk BK465) hb); replace BK481 := am (blk_below (rk BK481) hb); replace HB := am (below_step (rb7 HB GE424 GE431 GE438 GE447 GE458 GE465 GE481) hb); (try clear hb); (try clear hb2); (try clear hk); (try clear hi); have hnb225 := NB424_438.out; have hnc225 := NB438_424.out; have hnb226 := NB424_447.out; have hnc226 := NB447_424.out; have hnb227 := NB424_458.out; have hnc227 := NB458_424.out; have hnb228 := NB424_465.out; have hnc228 := NB465_424.out; have hnb229 := NB424_481.out; have hnc229 := NB481_424.out; have hcz230_0 : w224.cell? ⟨gb424, 0, none⟩ = some (.int .i64 t418) := (blk_cell BK424.out 0).trans rfl; have hcz230_1 : w224.cell? ⟨gb424, 1, none⟩ = some (.slice Ao17 t419.length co17) := (blk_cell BK424.out 1).trans rfl; have hcz230_2 : w224.cell? ⟨gb424, 2, none⟩ = some (.int .i64 t422) := (blk_cell BK424.out 2).trans rfl; have hfz230_0 := blk_frozen BK424.out 0; have hfz230_1 := blk_frozen BK424.out 1; have hfz230_2 := blk_frozen BK424.out 2) | ((with_reducible refine gate_callee (f := 12) rfl ?_); refine gl_ (some 220) Try.func12 #[.agg #[.int .i64 t418, .slice Ao17 t419.length co17, .int .i64 t422], .int .i64 x29_6] ?_; (with_reducible refine (impl_LineAt.calls k6 t418 _ _ t419 t422 x29_6 t494 true _ ?side1 ?side2 A198.out).mono ?_); (case side1 => repeat (first | exact (Kd.Q_reads' HO_425001.out).2.2 | (with_reducible refine Kd.C_alloc ?_ _) | (with_reducible refine Kd.C_drewN ?_ _) | (with_reducible refine Kd.C_drew ?_))); (case side2 => exact (Kd.Q_reads' HO_425001.out).2.1); rintro e w231 ⟨rfl, hb⟩; refine ⟨_, rfl, ?_⟩; replace HO_425001 := am (Kd.Q_below (rq HO_425001) hb); replace HO_432001 := am (Kd.Q_below (rq HO_432001) hb); replace HO_439001 := am (Kd.Q_below (rq HO_439001) hb); replace HO_448001 := am (Kd.Q_below (rq HO_448001) hb); replace HO_459001 := am (Kd.Q_below (rq HO_459001) hb); replace HO_466001 := am (Kd.Q_below (rq HO_466001) hb); replace HO_482001 := am (Kd.Q_below (rq HO_482001) hb); replace BK424 := am (blk_below (rk BK424) hb); replace BK431 := am (blk_below (rk BK431) hb); replace BK438 := am (blk_below (rk BK438) hb); replace BK447 := am (blk_below (rk BK447) hb); replace BK458 := am (blk_below (rk BK458) hb); replace BK465 := am (blk_below (rk BK465) hb); replace BK481 := am (blk_below (rk BK481) hb); replace HB := am (below_step (rb7 HB GE424 GE431 GE438 GE447 GE458 GE465 GE481) hb); (try clear hb); (try clear hb2); (try clear hk); (try clear hi)))
go_ret
exact ⟨by first | rfl | (simp [errW_none, errW_some] <;> rfl) | (simp [*, errW_none, errW_some] <;> rfl), rb7 HB GE424 GE431 GE438 GE447 GE458 GE465 GE481⟩)
)
)
·(
replace c200 := Bool.eq_false_iff.mpr c200
subst c200
have H1 : (some false) = some r := by rw [if_neg (show ¬ (false = true) by decide)] at H; exact H
clear H
have H := H1
clear H1
first
| with_reducible exact absurd (Option.some.inj (H.trans (congrArg some hT_))) Bool.false_ne_true
| (
obtain rfl := Option.some.inj H
have hnb232 := NB431_424.out
have hnc232 := NB424_431.out
have hnb233 := NB431_438.out
have hnc233 := NB438_431.out
have hnb234 := NB431_447.out
have hnc234 := NB447_431.out
have hnb235 := NB431_458.out
have hnc235 := NB458_431.out
have hnb236 := NB431_465.out
have hnc236 := NB465_431.out
have hnb237 := NB431_481.out
have hnc237 := NB481_431.out
have hcz238_0 : wr.cell? ⟨gb431, 0, none⟩ = some (.int .i64 t425) := (blk_cell BK431.out 0).trans rfl
have hcz238_1 : wr.cell? ⟨gb431, 1, none⟩ = some (.slice Ao22 t426.length co22) := (blk_cell BK431.out 1).trans rfl
have hcz238_2 : wr.cell? ⟨gb431, 2, none⟩ = some (.int .i64 t429) := (blk_cell BK431.out 2).trans rfl
have hfz238_0 := blk_frozen BK431.out 0
have hfz238_1 := blk_frozen BK431.out 1
have hfz238_2 := blk_frozen BK431.out 2
go_wp2_with (first | ((with_reducible refine gate_callee (f := 12) rfl ?_); refine gl_ (some 214) Try.func12 #[.agg #[.int .i64 t425, .slice Ao22 t426.length co22, .int .i64 t429], .int .i64 x29_6] ?_; (with_reducible refine (impl_LineAt.calls k6 t425 _ _ t426 t429 x29_6 t492 true _ ?side1 ?side2 A197.out).mono ?_); (case side1 => repeat (first | exact (Kd.Q_reads' HO_432001.out).2.2 | (with_reducible refine Kd.C_alloc ?_ _) | (with_reducible refine Kd.C_drewN ?_ _) | (with_reducible refine Kd.C_drew ?_))); (case side2 => exact (Kd.Q_reads' HO_432001.out).2.1); rintro e w239 ⟨rfl, hb⟩; refine ⟨_, rfl, ?_⟩; replace HO_425001 := am (Kd.Q_below (rq HO_425001) hb); replace HO_432001 := am (Kd.Q_below (rq HO_432001) hb); replace HO_439001 := am (Kd.Q_below (rq HO_439001) hb); replace HO_448001 := am (Kd.Q_below (rq HO_448001) hb); replace HO_459001 := am (Kd.Q_below (rq HO_459001) hb); replace HO_466001 := am (Kd.Q_below (rq HO_466001) hb); replace HO_482001 := am (Kd.Q_below (rq HO_482001) hb); replace BK424 := am (blk_below (rk BK424) hb); replace BK431 := am (blk_below (rk BK431) hb); replace BK438 := am (blk_below (rk BK438) hb); replace BK447 := am (blk_below (rk BK447) hb); replace BK458 := am (blk_below (rk BK458) hb); replace BK465 := am (blk_below (rk BK465) hb); replace BK481 := am (blk_below (rk BK481) hb); replace HB := am (below_step (rb7 HB GE424 GE431 GE438 GE447 GE458 GE465 GE481) hb); (try clear hb); (try clear hb2); (try clear hk); (try clear hi); have hnb240 := NB424_438.out; have hnc240 := NB438_424.out; have hnb241 := NB424_447.out; have hnc241 := NB447_424.out; have hnb242 := NB424_458.out; have hnc242 := NB458_424.out; have hnb243 := NB424_465.out; have hnc243 := NB465_424.out; have hnb244 := NB424_481.out; have hnc244 := NB481_424.out; have hcz245_0 : w239.cell? ⟨gb424, 0, none⟩ = some (.int .i64 t418) := (blk_cell BK424.out 0).trans rfl; have hcz245_1 : w239.cell? ⟨gb424, 1, none⟩ = some (.slice Ao17 t419.length co17) := (blk_cell BK424.out 1).trans rfl; have hcz245_2 : w239.cell? ⟨gb424, 2, none⟩ = some (.int .i64 t422) := (blk_cell BK424.out 2).trans rfl; have hfz245_0 := blk_frozen BK424.out 0; have hfz245_1 := blk_frozen BK424.out 1; have hfz245_2 := blk_frozen BK424.out 2) | ((with_reducible refine gate_callee (f := 12) rfl ?_); refine gl_ (some 220) Try.func12 #[.agg #[.int .i64 t418, .slice Ao17 t419.length co17, .int .i64 t422], .int .i64 x29_6] ?_; (with_reducible refine (impl_LineAt.calls k6 t418 _ _ t419 t422 x29_6 t494 false _ ?side1 ?side2 A198.out).mono ?_); (case side1 => repeat (first | exact (Kd.Q_reads' HO_425001.out).2.2 | (with_reducible refine Kd.C_alloc ?_ _) | (with_reducible refine Kd.C_drewN ?_ _) | (with_reducible refine Kd.C_drew ?_))); (case side2 => exact (Kd.Q_reads' HO_425001.out).2.1); rintro e w246 ⟨rfl, hb⟩; refine ⟨_, rfl, ?_⟩; replace HO_425001 := am (Kd.Q_below (rq HO_425001) hb); replace HO_432001 := am (Kd.Q_below (rq HO_432001) hb); replace HO_439001 := am (Kd.Q_below (rq HO_439001) hb); replace HO_448001 := am (Kd.Q_below (rq HO_448001) hb); replace HO_459001 := am (Kd.Q_below (rq HO_459001) hb); replace HO_466001 := am (Kd.Q_below (rq HO_466001) hb); replace HO_482001 := am (Kd.Q_below (rq HO_482001) hb); replace BK424 := am (blk_below (rk BK424) hb); replace BK431 := am (blk_below (rk BK431) hb); replace BK438 := am (blk_below (rk BK438) hb); replace BK447 := am (blk_below (rk BK447) hb); replace BK458 := am (blk_below (rk BK458) hb); replace BK465 := am (blk_below (rk BK465) hb); replace BK481 := am (blk_below (rk BK481) hb); replace HB := am (below_step (rb7 HB GE424 GE431 GE438 GE447 GE458 GE465 GE481) hb); (try clear hb); (try clear hb2); (try clear hk); (try clear hi)))
go_ret
exact ⟨by first | rfl | (simp [errW_none, errW_some] <;> rfl) | (simp [*, errW_none, errW_some] <;> rfl), rb7 HB GE424 GE431 GE438 GE447 GE458 GE465 GE481⟩)
)
)
·(
replace c199 := Bool.eq_false_iff.mpr c199
subst c199
have H1 : (some false) = some r := by rw [if_neg (show ¬ (false = true) by decide)] at H; exact H
clear H
have H := H1
clear H1
first
| with_reducible exact absurd (Option.some.inj (H.trans (congrArg some hT_))) Bool.false_ne_true
| (
obtain rfl := Option.some.inj H
have hnb247 := NB431_424.out
have hnc247 := NB424_431.out
have hnb248 := NB431_438.out
have hnc248 := NB438_431.out
have hnb249 := NB431_447.out
have hnc249 := NB447_431.out
have hnb250 := NB431_458.out
have hnc250 := NB458_431.out
have hnb251 := NB431_465.out
have hnc251 := NB465_431.out
have hnb252 := NB431_481.out
have hnc252 := NB481_431.out
have hcz253_0 : wr.cell? ⟨gb431, 0, none⟩ = some (.int .i64 t425) := (blk_cell BK431.out 0).trans rfl
have hcz253_1 : wr.cell? ⟨gb431, 1, none⟩ = some (.slice Ao22 t426.length co22) := (blk_cell BK431.out 1).trans rfl
have hcz253_2 : wr.cell? ⟨gb431, 2, none⟩ = some (.int .i64 t429) := (blk_cell BK431.out 2).trans rfl
have hfz253_0 := blk_frozen BK431.out 0
have hfz253_1 := blk_frozen BK431.out 1
have hfz253_2 := blk_frozen BK431.out 2
go_wp2_with (first | ((with_reducible refine gate_callee (f := 12) rfl ?_); refine gl_ (some 214) Try.func12 #[.agg #[.int .i64 t425, .slice Ao22 t426.length co22, .int .i64 t429], .int .i64 x29_6] ?_; (with_reducible refine (impl_LineAt.calls k6 t425 _ _ t426 t429 x29_6 t492 false _ ?side1 ?side2 A197.out).mono ?_); (case side1 => repeat (first | exact (Kd.Q_reads' HO_432001.out).2.2 | (with_reducible refine Kd.C_alloc ?_ _) | (with_reducible refine Kd.C_drewN ?_ _) | (with_reducible refine Kd.C_drew ?_))); (case side2 => exact (Kd.Q_reads' HO_432001.out).2.1); rintro e w254 ⟨rfl, hb⟩; refine ⟨_, rfl, ?_⟩; replace HO_425001 := am (Kd.Q_below (rq HO_425001) hb); replace HO_432001 := am (Kd.Q_below (rq HO_432001) hb); replace HO_439001 := am (Kd.Q_below (rq HO_439001) hb); replace HO_448001 := am (Kd.Q_below (rq HO_448001) hb); replace HO_459001 := am (Kd.Q_below (rq HO_459001) hb); replace HO_466001 := am (Kd.Q_below (rq HO_466001) hb); replace HO_482001 := am (Kd.Q_below (rq HO_482001) hb); replace BK424 := am (blk_below (rk BK424) hb); replace BK431 := am (blk_below (rk BK431) hb); replace BK438 := am (blk_below (rk BK438) hb); replace BK447 := am (blk_below (rk BK447) hb); replace BK458 := am (blk_below (rk BK458) hb); replace BK465 := am (blk_below (rk BK465) hb); replace BK481 := am (blk_below (rk BK481) hb); replace HB := am (below_step (rb7 HB GE424 GE431 GE438 GE447 GE458 GE465 GE481) hb); (try clear hb); (try clear hb2); (try clear hk); (try clear hi); have hnb255 := NB424_438.out; have hnc255 := NB438_424.out; have hnb256 := NB424_447.out; have hnc256 := NB447_424.out; have hnb257 := NB424_458.out; have hnc257 := NB458_424.out; have hnb258 := NB424_465.out; have hnc258 := NB465_424.out; have hnb259 := NB424_481.out; have hnc259 := NB481_424.out; have hcz260_0 : w254.cell? ⟨gb424, 0, none⟩ = some (.int .i64 t418) := (blk_cell BK424.out 0).trans rfl; have hcz260_1 : w254.cell? ⟨gb424, 1, none⟩ = some (.slice Ao17 t419.length co17) := (blk_cell BK424.out 1).trans rfl; have hcz260_2 : w254.cell? ⟨gb424, 2, none⟩ = some (.int .i64 t422) := (blk_cell BK424.out 2).trans rfl; have hfz260_0 := blk_frozen BK424.out 0; have hfz260_1 := blk_frozen BK424.out 1; have hfz260_2 := blk_frozen BK424.out 2) | ((with_reducible refine gate_callee (f := 12) rfl ?_); refine gl_ (some 220) Try.func12 #[.agg #[.int .i64 t418, .slice Ao17 t419.length co17, .int .i64 t422], .int .i64 x29_6] ?_; (with_reducible refine (impl_LineAt.calls k6 t418 _ _ t419 t422 x29_6 t494 t495 _ ?side1 ?side2 A198.out).mono ?_); (case side1 => repeat (first | exact (Kd.Q_reads' HO_425001.out).2.2 | (with_reducible refine Kd.C_alloc ?_ _) | (with_reducible refine Kd.C_drewN ?_ _) | (with_reducible refine Kd.C_drew ?_))); (case side2 => exact (Kd.Q_reads' HO_425001.out).2.1); rintro e w261 ⟨rfl, hb⟩; refine ⟨_, rfl, ?_⟩; replace HO_425001 := am (Kd.Q_below (rq HO_425001) hb); replace HO_432001 := am (Kd.Q_below (rq HO_432001) hb); replace HO_439001 := am (Kd.Q_below (rq HO_439001) hb); replace HO_448001 := am (Kd.Q_below (rq HO_448001) hb); replace HO_459001 := am (Kd.Q_below (rq HO_459001) hb); replace HO_466001 := am (Kd.Q_below (rq HO_466001) hb); replace HO_482001 := am (Kd.Q_below (rq HO_482001) hb); replace BK424 := am (blk_below (rk BK424) hb); replace BK431 := am (blk_below (rk BK431) hb); replace BK438 := am (blk_below (rk BK438) hb); replace BK447 := am (blk_below (rk BK447) hb); replace BK458 := am (blk_below (rk BK458) hb); replace BK465 := am (blk_below (rk BK465) hb); replace BK481 := am (blk_below (rk BK481) hb); replace HB := am (below_step (rb7 HB GE424 GE431 GE438 GE447 GE458 GE465 GE481) hb); (try clear hb); (try clear hb2); (try clear hk); (try clear hi)))
go_ret
exact ⟨by first | rfl | (simp [errW_none, errW_some] <;> rfl) | (simp [*, errW_none, errW_some] <;> rfl), rb7 HB GE424 GE431 GE438 GE447 GE458 GE465 GE481⟩)
)
)
·(
rw [if_neg c196] at H
have c196b0 : decide (x29_6 < (wrap64 (t422 + (t419.length : Int)))) = false := decide_eq_false c196
clear c196
first
| with_reducible exact absurd (Option.some.inj (H.trans (congrArg some hT_))) Bool.false_ne_true
| (
obtain rfl := Option.some.inj H
go_wp2
go_ret
exact ⟨by first | rfl | (simp [errW_none, errW_some] <;> rfl) | (simp [*, errW_none, errW_some] <;> rfl), rb7 HB GE424 GE431 GE438 GE447 GE458 GE465 GE481⟩)
)
)
)
)
)
)
)
·(
replace c149 := Bool.eq_false_iff.mpr c149
subst c149
rw [if_neg (show ¬ (false = true) by decide)] at H
replace H := Option.bind_eq_some_iff.mp H
obtain ⟨t488, A2620, H⟩ := H
replace H : (some t488) = some r := H
have A262 := am A2620
clear A2620
first
| with_reducible exact absurd (Option.some.inj (H.trans (congrArg some hT_))) Bool.false_ne_true
| (
obtain rfl := Option.some.inj H
obtain ⟨Ao263, co263, eo263⟩ := Kd.R_slice HO_13.out
subst eo263
have hnb264 := NB431_424.out
have hnc264 := NB424_431.out
have hnb265 := NB431_438.out
have hnc265 := NB438_431.out
have hnb266 := NB431_447.out
have hnc266 := NB447_431.out
have hnb267 := NB431_458.out
have hnc267 := NB458_431.out
have hnb268 := NB431_465.out
have hnc268 := NB465_431.out
have hnb269 := NB431_481.out
have hnc269 := NB481_431.out
have hcz270_0 : wr.cell? ⟨gb431, 0, none⟩ = some (.int .i64 t425) := (blk_cell BK431.out 0).trans rfl
have hcz270_1 : wr.cell? ⟨gb431, 1, none⟩ = some (.slice Ao22 t426.length co22) := (blk_cell BK431.out 1).trans rfl
have hcz270_2 : wr.cell? ⟨gb431, 2, none⟩ = some (.int .i64 t429) := (blk_cell BK431.out 2).trans rfl
have hfz270_0 := blk_frozen BK431.out 0
have hfz270_1 := blk_frozen BK431.out 1
have hfz270_2 := blk_frozen BK431.out 2
go_wp2_with (first | ((with_reducible refine gate_callee (f := 18) rfl ?_); refine gl_ (some 168) Try.func18 #[.agg #[.int .i64 t425, .slice Ao22 t426.length co22, .int .i64 t429], .agg #[.int .i64 0, .slice none 0 0, .int .i64 0]] ?_; (refine (laws_likeHistory.calls k4 t425 _ _ t426 t429 0 _ _ ([] : List ByteArray) 0 t488 _ ?side1 ?side2 ?side3 ?side4 A262.out).mono ?_); (case side1 => repeat (first | exact (Kd.Q_reads' HO_432001.out).2.2 | (with_reducible refine Kd.C_alloc ?_ _) | (with_reducible refine Kd.C_drewN ?_ _) | (with_reducible refine Kd.C_drew ?_))); (case side2 => exact (Kd.Q_reads' HO_432001.out).2.1); (case side3 => exact Kd.C_nil _ _); (case side4 => exact Nat.le_refl _); rintro e w271 ⟨rfl, hb⟩; refine ⟨_, rfl, ?_⟩; replace HO_13 := am (Kd.R_below (rr HO_13) hb); replace HO_425001 := am (Kd.Q_below (rq HO_425001) hb); replace HO_432001 := am (Kd.Q_below (rq HO_432001) hb); replace HO_439001 := am (Kd.Q_below (rq HO_439001) hb); replace HO_448001 := am (Kd.Q_below (rq HO_448001) hb); replace HO_459001 := am (Kd.Q_below (rq HO_459001) hb); replace HO_466001 := am (Kd.Q_below (rq HO_466001) hb); replace HO_482001 := am (Kd.Q_below (rq HO_482001) hb); replace BK424 := am (blk_below (rk BK424) hb); replace BK431 := am (blk_below (rk BK431) hb); replace BK438 := am (blk_below (rk BK438) hb); replace BK447 := am (blk_below (rk BK447) hb); replace BK458 := am (blk_below (rk BK458) hb); replace BK465 := am (blk_below (rk BK465) hb); replace BK481 := am (blk_below (rk BK481) hb); replace HB := am (below_step (rb7 HB GE424 GE431 GE438 GE447 GE458 GE465 GE481) hb); (try clear hb); (try clear hb2); (try clear hk); (try clear hi)))
go_ret
exact ⟨by first | rfl | (simp [errW_none, errW_some] <;> rfl) | (simp [*, errW_none, errW_some] <;> rfl), rb7 HB GE424 GE431 GE438 GE447 GE458 GE465 GE481⟩)
)
)
)
)
)
)
)
)
)
)
)
)
)
)
)

/-- THE ONE PURE STATEMENT of laws_FnKept: yours. -/
def laws_FnKept.Pure : Prop := ∀ (l0 : List Int), l0.length ≤ maxLen → l0.length * 1 ≤ 140737488351232 → (∀ x ∈ l0, (Lit.int .u8 x).wf = true) → ∃ k, laws_FnKept.f k l0 = some true

end Go.Proofs.Ytalopdcephohgaa.RA
