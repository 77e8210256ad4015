/- Contracts of Go functions that laws of this seat reach: each Lean function answers as its Go function does. No condition. Written by wip/tools/inj.py, over the kit's print. -/
import Derived.Test.YtbgekmchjdkjiaaDoorPBx0
import Derived.Test.YtbgekmchjdkjiaaDoorPBx1
import Derived.Test.YtbgekmchjdkjiaaDoorPBx2
import Derived.Test.YtbgekmchjdkjiaaDoorPBx5
import Derived.Test.YtbgekmchjdkjiaaDoorPBx6
import Derived.Test.YtbgekmchjdkjiaaDoorPBx8
import Derived.Test.YtbgekmchjdkjiaaDoorPBx9
import Derived.Test.YtbgekmchjdkjiaaDoorPBx11
import Derived.Test.YtbgekmchjdkjiaaDoorPBx13
import Derived.Test.YtbgekmchjdkjiaaDoorPBx14
namespace Go.Proofs.YtbgekmchjdkjiaaDoor.PB
open Go.RowKit Go.Proofs.YtbgekmchjdkjiaaDoorW.PrintWords Go.Proofs.YtbgekmchjdkjiaaDoorW.PrintLast Go.Proofs.YtbgekmchjdkjiaaDoorW.PrintMore
attribute [local go_sem] max2_int min2_int max_two min_two max_three min_three max_four min_four   -- for this text's walks alone
set_option linter.unusedVariables false
set_option linter.unusedSimpArgs false

attribute [local go_sem high] eqA25
/-! ### laws_FnStyles: function 5 -/
mutual
def laws_FnStyles.j0 : Nat → List Int → ByteArray → Bool → Int → Int → Bool → Bool → Bool → Int → Int → Bool → Bool → Bool → Int → Int → Bool → Bool → Bool → Option (Bool)
 | 0, _, _, _, _, _, _, _, _, _, _, _, _, _, _, _, _, _, _ => none
 | k + 1, x8, x9, x57, x400000, x400001, x400002, x400003, x400004, x411000, x411001, x411002, x411003, x411004, x412000, x412001, x412002, x412003, x412004 => if x57 = true then (some false) else ((impl_StyleOk.f x411000 x411001 x411002 x411003 x411004).bind fun t428 => (if t428 = true then ((impl_StyleOk.f x412000 x412001 x412002 x412003 x412004).bind fun t429 => (laws_FnStyles.j1 k x8 x9 (!t429) x400000 x400001 x400002 x400003 x400004 x411000 x411001 x411002 x411003 x411004 x412000 x412001 x412002 x412003 x412004)) else (laws_FnStyles.j1 k x8 x9 true x400000 x400001 x400002 x400003 x400004 x411000 x411001 x411002 x411003 x411004 x412000 x412001 x412002 x412003 x412004)))
def laws_FnStyles.j1 : Nat → List Int → ByteArray → Bool → Int → Int → Bool → Bool → Bool → Int → Int → Bool → Bool → Bool → Int → Int → Bool → Bool → Bool → Option (Bool)
 | 0, _, _, _, _, _, _, _, _, _, _, _, _, _, _, _, _, _, _ => none
 | k + 1, x8, x9, x65, x400000, x400001, x400002, x400003, x400004, x411000, x411001, x411002, x411003, x411004, x412000, x412001, x412002, x412003, x412004 => if x65 = true then (if (x8.length : Int) = 0 then (some (x9.toList == ([] : List UInt8))) else (some false)) else ((impl_StyleOk.f x400000 x400001 x400002 x400003 x400004).bind fun t430 => (if t430 = true then (if ((x411000 == x412000 && (x411001 == x412001 && (x411002 == x412002 && (x411003 == x412003 && (x411004 == x412004))))) == ((x8.length : Int) == 0)) = true then (if (x411000 == x412000 && (x411001 == x412001 && (x411002 == x412002 && (x411003 == x412003 && (x411004 == x412004))))) = true then (if ((x9.toList == ([] : List UInt8)) == (x411000 == x412000 && (x411001 == x412001 && (x411002 == x412002 && (x411003 == x412003 && (x411004 == x412004)))))) = true then ((impl_Styled.f k x411000 x411001 x411002 x411003 x411004 (([0] : List Int))).bind fun bt434 => (some (bt434.1 == 0 && (bt434.2.1 == 0 && (!bt434.2.2.1 && (!bt434.2.2.2.1 && (!bt434.2.2.2.2))))))) else (some false)) else ((impl_Styled.f k x411000 x411001 x411002 x411003 x411004 x8).bind fun bt439 => (if (bt439.1 == x412000 && (bt439.2.1 == x412001 && (bt439.2.2.1 == x412002 && (bt439.2.2.2.1 == x412003 && (bt439.2.2.2.2 == x412004))))) = true then (if ((x9.toList == ([] : List UInt8)) == (x411000 == x412000 && (x411001 == x412001 && (x411002 == x412002 && (x411003 == x412003 && (x411004 == x412004)))))) = true then ((impl_Styled.f k x411000 x411001 x411002 x411003 x411004 (([0] : List Int))).bind fun bt447 => (some (bt447.1 == 0 && (bt447.2.1 == 0 && (!bt447.2.2.1 && (!bt447.2.2.2.1 && (!bt447.2.2.2.2))))))) else (some false)) else (some false)))) else (some false)) else (some false)))
end
def laws_FnStyles.f (k : Nat) (l0 : List Int) : Option (Bool) := (laws_big.f l0).bind fun t384 => (if t384 = true then (some true) else ((spec_DrawStyled.f k l0).bind fun bt385 => ((impl_Styled.f k bt385.1 bt385.2.1 bt385.2.2.1 bt385.2.2.2.1 bt385.2.2.2.2.1 bt385.2.2.2.2.2).bind fun bt394 => ((spec_DrawParams.f k l0).bind fun bt400 => ((impl_Params.f k bt400.1 bt400.2.1 bt400.2.2.1 bt400.2.2.2.1 bt400.2.2.2.2.1 bt400.2.2.2.2.2.1 bt400.2.2.2.2.2.2.1 bt400.2.2.2.2.2.2.2.1 bt400.2.2.2.2.2.2.2.2.1 bt400.2.2.2.2.2.2.2.2.2).bind fun t412 => ((impl_Sign.f k bt400.1 bt400.2.1 bt400.2.2.1 bt400.2.2.2.1 bt400.2.2.2.2.1 bt400.2.2.2.2.2.1 bt400.2.2.2.2.2.2.1 bt400.2.2.2.2.2.2.2.1 bt400.2.2.2.2.2.2.2.2.1 bt400.2.2.2.2.2.2.2.2.2).bind fun t415 => ((spec_Styled.f k bt385.1 bt385.2.1 bt385.2.2.1 bt385.2.2.2.1 bt385.2.2.2.2.1 bt385.2.2.2.2.2).bind fun bt416 => (if (!(bt394.1 == bt416.1) || (!(bt394.2.1 == bt416.2.1) || (!(bt394.2.2.1 == bt416.2.2.1) || (!(bt394.2.2.2.1 == bt416.2.2.2.1) || (!(bt394.2.2.2.2 == bt416.2.2.2.2)))))) = true then (laws_FnStyles.j0 k t412 t415 true bt394.1 bt394.2.1 bt394.2.2.1 bt394.2.2.2.1 bt394.2.2.2.2 bt400.1 bt400.2.1 bt400.2.2.1 bt400.2.2.2.1 bt400.2.2.2.2.1 bt400.2.2.2.2.2.1 bt400.2.2.2.2.2.2.1 bt400.2.2.2.2.2.2.2.1 bt400.2.2.2.2.2.2.2.2.1 bt400.2.2.2.2.2.2.2.2.2) else ((spec_Params.f k bt400.1 bt400.2.1 bt400.2.2.1 bt400.2.2.2.1 bt400.2.2.2.2.1 bt400.2.2.2.2.2.1 bt400.2.2.2.2.2.2.1 bt400.2.2.2.2.2.2.2.1 bt400.2.2.2.2.2.2.2.2.1 bt400.2.2.2.2.2.2.2.2.2).bind fun t421 => ((laws_likeInts.f k t412 t421).bind fun t424 => (if t424 = true then ((spec_Sign.f k bt400.1 bt400.2.1 bt400.2.2.1 bt400.2.2.2.1 bt400.2.2.2.2.1 bt400.2.2.2.2.2.1 bt400.2.2.2.2.2.2.1 bt400.2.2.2.2.2.2.2.1 bt400.2.2.2.2.2.2.2.2.1 bt400.2.2.2.2.2.2.2.2.2).bind fun t425 => (if t415.toList = t425.toList then ((impl_StyleOk.f bt385.1 bt385.2.1 bt385.2.2.1 bt385.2.2.2.1 bt385.2.2.2.2.1).bind fun t426 => ((spec_StyleOk.f bt385.1 bt385.2.1 bt385.2.2.1 bt385.2.2.2.1 bt385.2.2.2.2.1).bind fun t427 => (laws_FnStyles.j0 k t412 t415 (t426 != t427) bt394.1 bt394.2.1 bt394.2.2.1 bt394.2.2.2.1 bt394.2.2.2.2 bt400.1 bt400.2.1 bt400.2.2.1 bt400.2.2.2.1 bt400.2.2.2.2.1 bt400.2.2.2.2.2.1 bt400.2.2.2.2.2.2.1 bt400.2.2.2.2.2.2.2.1 bt400.2.2.2.2.2.2.2.2.1 bt400.2.2.2.2.2.2.2.2.2))) else (laws_FnStyles.j0 k t412 t415 true bt394.1 bt394.2.1 bt394.2.2.1 bt394.2.2.2.1 bt394.2.2.2.2 bt400.1 bt400.2.1 bt400.2.2.1 bt400.2.2.2.1 bt400.2.2.2.2.1 bt400.2.2.2.2.2.1 bt400.2.2.2.2.2.2.1 bt400.2.2.2.2.2.2.2.1 bt400.2.2.2.2.2.2.2.2.1 bt400.2.2.2.2.2.2.2.2.2))) else (laws_FnStyles.j0 k t412 t415 true bt394.1 bt394.2.1 bt394.2.2.1 bt394.2.2.2.1 bt394.2.2.2.2 bt400.1 bt400.2.1 bt400.2.2.1 bt400.2.2.2.1 bt400.2.2.2.2.1 bt400.2.2.2.2.2.1 bt400.2.2.2.2.2.2.1 bt400.2.2.2.2.2.2.2.1 bt400.2.2.2.2.2.2.2.2.1 bt400.2.2.2.2.2.2.2.2.2))))))))))))
theorem laws_FnStyles.mono_l : ∀ k, (∀ y0 y1 y2 y3 y4 y5 y6 y7 y8 y9 y10 y11 y12 y13 y14 y15 y16 y17, LeO (laws_FnStyles.j0 k y0 y1 y2 y3 y4 y5 y6 y7 y8 y9 y10 y11 y12 y13 y14 y15 y16 y17) (laws_FnStyles.j0 (k + 1) y0 y1 y2 y3 y4 y5 y6 y7 y8 y9 y10 y11 y12 y13 y14 y15 y16 y17)) ∧ (∀ y0 y1 y2 y3 y4 y5 y6 y7 y8 y9 y10 y11 y12 y13 y14 y15 y16 y17, LeO (laws_FnStyles.j1 k y0 y1 y2 y3 y4 y5 y6 y7 y8 y9 y10 y11 y12 y13 y14 y15 y16 y17) (laws_FnStyles.j1 (k + 1) y0 y1 y2 y3 y4 y5 y6 y7 y8 y9 y10 y11 y12 y13 y14 y15 y16 y17))
 | 0 => ⟨fun _ _ _ _ _ _ _ _ _ _ _ _ _ _ _ _ _ _ r h => by simp [laws_FnStyles.j0] at h, fun _ _ _ _ _ _ _ _ _ _ _ _ _ _ _ _ _ _ r h => by simp [laws_FnStyles.j1] at h⟩
 | k + 1 => by
  obtain ⟨ih0, ih1⟩ := laws_FnStyles.mono_l k
  refine ⟨?_, ?_⟩
  ·intro y0 y1 y2 y3 y4 y5 y6 y7 y8 y9 y10 y11 y12 y13 y14 y15 y16 y17
   unfold laws_FnStyles.j0
   repeat' first
   | (with_reducible exact ih0 _ _ _ _ _ _ _ _ _ _ _ _ _ _ _ _ _ _)
   | (with_reducible exact ih1 _ _ _ _ _ _ _ _ _ _ _ _ _ _ _ _ _ _)
   | (with_reducible exact impl_Params.mono _ _ _ _ _ _ _ _ _ _ _)
   | (with_reducible exact impl_Sign.mono _ _ _ _ _ _ _ _ _ _ _)
   | (with_reducible exact impl_Styled.mono _ _ _ _ _ _ _)
   | (with_reducible exact laws_likeInts.mono _ _ _)
   | (with_reducible exact spec_DrawParams.mono _ _)
   | (with_reducible exact spec_DrawStyled.mono _ _)
   | (with_reducible exact spec_Params.mono _ _ _ _ _ _ _ _ _ _ _)
   | (with_reducible exact spec_Sign.mono _ _ _ _ _ _ _ _ _ _ _)
   | (with_reducible exact spec_Styled.mono _ _ _ _ _ _ _)
   | (with_reducible exact LeO.refl _)
   | (with_reducible exact LeO.none _)
   | (with_reducible refine LeO.ite ?_ ?_)
   | (with_reducible refine LeO.bind ?_ (fun _ => ?_))
   | exact ih0 _ _ _ _ _ _ _ _ _ _ _ _ _ _ _ _ _ _
   | exact ih1 _ _ _ _ _ _ _ _ _ _ _ _ _ _ _ _ _ _
   | exact impl_Params.mono _ _ _ _ _ _ _ _ _ _ _
   | exact impl_Sign.mono _ _ _ _ _ _ _ _ _ _ _
   | exact impl_Styled.mono _ _ _ _ _ _ _
   | exact laws_likeInts.mono _ _ _
   | exact spec_DrawParams.mono _ _
   | exact spec_DrawStyled.mono _ _
   | exact spec_Params.mono _ _ _ _ _ _ _ _ _ _ _
   | exact spec_Sign.mono _ _ _ _ _ _ _ _ _ _ _
   | exact spec_Styled.mono _ _ _ _ _ _ _
   | exact LeO.none _
   | refine LeO.ite ?_ ?_
   | refine LeO.bind ?_ (fun _ => ?_)
  ·intro y0 y1 y2 y3 y4 y5 y6 y7 y8 y9 y10 y11 y12 y13 y14 y15 y16 y17
   unfold laws_FnStyles.j1
   repeat' first
   | (with_reducible exact ih0 _ _ _ _ _ _ _ _ _ _ _ _ _ _ _ _ _ _)
   | (with_reducible exact ih1 _ _ _ _ _ _ _ _ _ _ _ _ _ _ _ _ _ _)
   | (with_reducible exact impl_Params.mono _ _ _ _ _ _ _ _ _ _ _)
   | (with_reducible exact impl_Sign.mono _ _ _ _ _ _ _ _ _ _ _)
   | (with_reducible exact impl_Styled.mono _ _ _ _ _ _ _)
   | (with_reducible exact laws_likeInts.mono _ _ _)
   | (with_reducible exact spec_DrawParams.mono _ _)
   | (with_reducible exact spec_DrawStyled.mono _ _)
   | (with_reducible exact spec_Params.mono _ _ _ _ _ _ _ _ _ _ _)
   | (with_reducible exact spec_Sign.mono _ _ _ _ _ _ _ _ _ _ _)
   | (with_reducible exact spec_Styled.mono _ _ _ _ _ _ _)
   | (with_reducible exact LeO.refl _)
   | (with_reducible exact LeO.none _)
   | (with_reducible refine LeO.ite ?_ ?_)
   | (with_reducible refine LeO.bind ?_ (fun _ => ?_))
   | exact ih0 _ _ _ _ _ _ _ _ _ _ _ _ _ _ _ _ _ _
   | exact ih1 _ _ _ _ _ _ _ _ _ _ _ _ _ _ _ _ _ _
   | exact impl_Params.mono _ _ _ _ _ _ _ _ _ _ _
   | exact impl_Sign.mono _ _ _ _ _ _ _ _ _ _ _
   | exact impl_Styled.mono _ _ _ _ _ _ _
   | exact laws_likeInts.mono _ _ _
   | exact spec_DrawParams.mono _ _
   | exact spec_DrawStyled.mono _ _
   | exact spec_Params.mono _ _ _ _ _ _ _ _ _ _ _
   | exact spec_Sign.mono _ _ _ _ _ _ _ _ _ _ _
   | exact spec_Styled.mono _ _ _ _ _ _ _
   | exact LeO.none _
   | refine LeO.ite ?_ ?_
   | refine LeO.bind ?_ (fun _ => ?_)
theorem laws_FnStyles.mono : ∀ a0 k, LeO (laws_FnStyles.f k a0) (laws_FnStyles.f (k + 1) a0) := by
 intro a0 k
 obtain ⟨ih0, ih1⟩ := laws_FnStyles.mono_l k
 unfold laws_FnStyles.f
 repeat' first
   | (with_reducible exact ih0 _ _ _ _ _ _ _ _ _ _ _ _ _ _ _ _ _ _)
   | (with_reducible exact ih1 _ _ _ _ _ _ _ _ _ _ _ _ _ _ _ _ _ _)
   | (with_reducible exact impl_Params.mono _ _ _ _ _ _ _ _ _ _ _)
   | (with_reducible exact impl_Sign.mono _ _ _ _ _ _ _ _ _ _ _)
   | (with_reducible exact impl_Styled.mono _ _ _ _ _ _ _)
   | (with_reducible exact laws_likeInts.mono _ _ _)
   | (with_reducible exact spec_DrawParams.mono _ _)
   | (with_reducible exact spec_DrawStyled.mono _ _)
   | (with_reducible exact spec_Params.mono _ _ _ _ _ _ _ _ _ _ _)
   | (with_reducible exact spec_Sign.mono _ _ _ _ _ _ _ _ _ _ _)
   | (with_reducible exact spec_Styled.mono _ _ _ _ _ _ _)
   | (with_reducible exact LeO.refl _)
   | (with_reducible exact LeO.none _)
   | (with_reducible refine LeO.ite ?_ ?_)
   | (with_reducible refine LeO.bind ?_ (fun _ => ?_))
   | exact ih0 _ _ _ _ _ _ _ _ _ _ _ _ _ _ _ _ _ _
   | exact ih1 _ _ _ _ _ _ _ _ _ _ _ _ _ _ _ _ _ _
   | exact impl_Params.mono _ _ _ _ _ _ _ _ _ _ _
   | exact impl_Sign.mono _ _ _ _ _ _ _ _ _ _ _
   | exact impl_Styled.mono _ _ _ _ _ _ _
   | exact laws_likeInts.mono _ _ _
   | exact spec_DrawParams.mono _ _
   | exact spec_DrawStyled.mono _ _
   | exact spec_Params.mono _ _ _ _ _ _ _ _ _ _ _
   | exact spec_Sign.mono _ _ _ _ _ _ _ _ _ _ _
   | exact spec_Styled.mono _ _ _ _ _ _ _
   | exact LeO.none _
   | refine LeO.ite ?_ ?_
   | refine LeO.bind ?_ (fun _ => ?_)
def laws_FnStyles.T8 : Bool × List (List Nat × List Nat) := (true, [([], []), ([], []), ([], []), ([1, 2], [1, 2]), ([0, 3], [0, 3]), ([4, 3], [4]), ([5], [5]), ([5], [5]), ([5], [5]), ([7, 8, 5, 5], [5, 7, 8]), ([6, 9, 9, 5], [5, 6, 9]), ([10, 5], [5, 10]), ([5, 11], [5, 11]), ([12, 10], [12]), ([13], [13]), ([13], [13]), ([13], [13]), ([15, 16, 13, 13], [13, 15, 16]), ([14, 17, 13], [13, 14, 17]), ([13, 18], [13, 18]), ([19, 17], [19]), ([20], [20]), ([21, 20, 20], [20, 21]), ([20], [20]), ([23, 22, 20], [20, 23]), ([22, 24, 20], [20, 22, 24]), ([20, 25], [20, 25])])
def laws_FnStyles.B8 : List Nat := [0, 0, 0, 6, 15, 31, 63, 63, 63, 447, 1023, 2047, 4095, 8191, 16383, 16383, 16383, 114687, 262143, 524287, 1048575, 2097151, 4194303, 2097151, 16777215, 33554431, 67108863]
theorem laws_FnStyles.tab8 : rtab .any (opsOf Tryd.f5 8) = laws_FnStyles.T8 := by kernel_rfl
theorem laws_FnStyles.bits8 : waitsOk laws_FnStyles.T8.2 laws_FnStyles.B8 = true := by kernel_rfl
def laws_FnStyles.T12 : Bool × List (List Nat × List Nat) := (true, [([], []), ([0], [0]), ([1, 1], [1]), ([2], [2]), ([2], [2]), ([3, 4, 2], [2, 3, 4]), ([2], [2]), ([6, 2], [2, 6]), ([7, 2], [2, 7]), ([5, 8, 2], [2, 5, 8]), ([2, 9], [2, 9]), ([10, 2], [10]), ([11], [11]), ([11], [11]), ([12, 13, 11], [11, 12, 13]), ([14, 11, 11], [11, 14]), ([15], [15]), ([15], [15]), ([16, 17, 15, 15], [15, 16, 17]), ([15], [15]), ([18, 19, 15], [15, 18, 19]), ([15, 20, 11], [11, 15, 20]), ([11, 21], [11, 21]), ([22, 18], [22]), ([23], [23]), ([24, 23], [23, 24]), ([23], [23]), ([23], [23]), ([26, 27, 23], [23, 26, 27]), ([25, 28, 23], [23, 25, 28]), ([23, 29], [23, 29]), ([30, 23], [30]), ([31], [31]), ([31], [31]), ([32, 33, 31, 31], [31, 32, 33]), ([31], [31]), ([34, 35, 31], [31, 34, 35]), ([31, 36], [31, 36]), ([37, 34, 0, 1, 2, 3, 4, 5, 6, 7, 8, 9, 10, 11, 12, 13, 14, 15, 16, 17, 18, 19, 20, 21, 22, 23, 24, 25, 26, 27, 28, 29, 30, 31, 32, 33, 34, 35, 36, 37], [37])])
def laws_FnStyles.B12 : List Nat := [0, 1, 3, 7, 7, 31, 7, 71, 199, 511, 1023, 2047, 4095, 4095, 16383, 32767, 65535, 65535, 262143, 65535, 1048575, 2097151, 4194303, 8388607, 16777215, 33554431, 16777215, 16777215, 218103807, 536870911, 1073741823, 2147483647, 4294967295, 4294967295, 17179869183, 4294967295, 68719476735, 137438953471, 274877906943]
theorem laws_FnStyles.tab12 : rtab .any (opsOf Tryd.f5 12) = laws_FnStyles.T12 := by kernel_rfl
theorem laws_FnStyles.bits12 : waitsOk laws_FnStyles.T12.2 laws_FnStyles.B12 = true := by kernel_rfl
set_option maxHeartbeats 8000000 in
set_option maxRecDepth 100000 in
theorem laws_FnStyles.calls (k : Nat) (A0 : Option Addr) (c0 : Nat) (l0 : List Int) (r : Bool) (w : World) (hr0 : Kd.C (Kd.int .u8) w A0 l0.length l0) (hc0 : l0.length ≤ c0) (h : laws_FnStyles.f k l0 = some r) (hT_ : r = true) :
  Calls Tryd.prog 5 #[.slice A0 l0.length c0] w fun e w' => e = .returned (.bool r) ∧ Below w.heap.size w w' := by
 have hu25 := Tryd.underlying25
 have HR0 := am hr0
 have HC0 := am hc0
 clear hr0 hc0
 have HB := am (Below.refl w.heap.size w)
 have H : ((laws_big.f l0).bind fun t384 => (if t384 = true then (some true) else ((spec_DrawStyled.f k l0).bind fun bt385 => ((impl_Styled.f k bt385.1 bt385.2.1 bt385.2.2.1 bt385.2.2.2.1 bt385.2.2.2.2.1 bt385.2.2.2.2.2).bind fun bt394 => ((spec_DrawParams.f k l0).bind fun bt400 => ((impl_Params.f k bt400.1 bt400.2.1 bt400.2.2.1 bt400.2.2.2.1 bt400.2.2.2.2.1 bt400.2.2.2.2.2.1 bt400.2.2.2.2.2.2.1 bt400.2.2.2.2.2.2.2.1 bt400.2.2.2.2.2.2.2.2.1 bt400.2.2.2.2.2.2.2.2.2).bind fun t412 => ((impl_Sign.f k bt400.1 bt400.2.1 bt400.2.2.1 bt400.2.2.2.1 bt400.2.2.2.2.1 bt400.2.2.2.2.2.1 bt400.2.2.2.2.2.2.1 bt400.2.2.2.2.2.2.2.1 bt400.2.2.2.2.2.2.2.2.1 bt400.2.2.2.2.2.2.2.2.2).bind fun t415 => ((spec_Styled.f k bt385.1 bt385.2.1 bt385.2.2.1 bt385.2.2.2.1 bt385.2.2.2.2.1 bt385.2.2.2.2.2).bind fun bt416 => (if (!(bt394.1 == bt416.1) || (!(bt394.2.1 == bt416.2.1) || (!(bt394.2.2.1 == bt416.2.2.1) || (!(bt394.2.2.2.1 == bt416.2.2.2.1) || (!(bt394.2.2.2.2 == bt416.2.2.2.2)))))) = true then (laws_FnStyles.j0 k t412 t415 true bt394.1 bt394.2.1 bt394.2.2.1 bt394.2.2.2.1 bt394.2.2.2.2 bt400.1 bt400.2.1 bt400.2.2.1 bt400.2.2.2.1 bt400.2.2.2.2.1 bt400.2.2.2.2.2.1 bt400.2.2.2.2.2.2.1 bt400.2.2.2.2.2.2.2.1 bt400.2.2.2.2.2.2.2.2.1 bt400.2.2.2.2.2.2.2.2.2) else ((spec_Params.f k bt400.1 bt400.2.1 bt400.2.2.1 bt400.2.2.2.1 bt400.2.2.2.2.1 bt400.2.2.2.2.2.1 bt400.2.2.2.2.2.2.1 bt400.2.2.2.2.2.2.2.1 bt400.2.2.2.2.2.2.2.2.1 bt400.2.2.2.2.2.2.2.2.2).bind fun t421 => ((laws_likeInts.f k t412 t421).bind fun t424 => (if t424 = true then ((spec_Sign.f k bt400.1 bt400.2.1 bt400.2.2.1 bt400.2.2.2.1 bt400.2.2.2.2.1 bt400.2.2.2.2.2.1 bt400.2.2.2.2.2.2.1 bt400.2.2.2.2.2.2.2.1 bt400.2.2.2.2.2.2.2.2.1 bt400.2.2.2.2.2.2.2.2.2).bind fun t425 => (if t415.toList = t425.toList then ((impl_StyleOk.f bt385.1 bt385.2.1 bt385.2.2.1 bt385.2.2.2.1 bt385.2.2.2.2.1).bind fun t426 => ((spec_StyleOk.f bt385.1 bt385.2.1 bt385.2.2.1 bt385.2.2.2.1 bt385.2.2.2.2.1).bind fun t427 => (laws_FnStyles.j0 k t412 t415 (t426 != t427) bt394.1 bt394.2.1 bt394.2.2.1 bt394.2.2.2.1 bt394.2.2.2.2 bt400.1 bt400.2.1 bt400.2.2.1 bt400.2.2.2.1 bt400.2.2.2.2.1 bt400.2.2.2.2.2.1 bt400.2.2.2.2.2.2.1 bt400.2.2.2.2.2.2.2.1 bt400.2.2.2.2.2.2.2.2.1 bt400.2.2.2.2.2.2.2.2.2))) else (laws_FnStyles.j0 k t412 t415 true bt394.1 bt394.2.1 bt394.2.2.1 bt394.2.2.2.1 bt394.2.2.2.2 bt400.1 bt400.2.1 bt400.2.2.1 bt400.2.2.2.1 bt400.2.2.2.2.1 bt400.2.2.2.2.2.1 bt400.2.2.2.2.2.2.1 bt400.2.2.2.2.2.2.2.1 bt400.2.2.2.2.2.2.2.2.1 bt400.2.2.2.2.2.2.2.2.2))) else (laws_FnStyles.j0 k t412 t415 true bt394.1 bt394.2.1 bt394.2.2.1 bt394.2.2.2.1 bt394.2.2.2.2 bt400.1 bt400.2.1 bt400.2.2.1 bt400.2.2.2.1 bt400.2.2.2.2.1 bt400.2.2.2.2.2.1 bt400.2.2.2.2.2.2.1 bt400.2.2.2.2.2.2.2.1 bt400.2.2.2.2.2.2.2.2.1 bt400.2.2.2.2.2.2.2.2.2))))))))))))) = some r := h
 clear h
 replace H := Option.bind_eq_some_iff.mp H
 obtain ⟨t384, A20, H⟩ := H
 replace H : (if t384 = true then (some true) else ((spec_DrawStyled.f k l0).bind fun bt385 => ((impl_Styled.f k bt385.1 bt385.2.1 bt385.2.2.1 bt385.2.2.2.1 bt385.2.2.2.2.1 bt385.2.2.2.2.2).bind fun bt394 => ((spec_DrawParams.f k l0).bind fun bt400 => ((impl_Params.f k bt400.1 bt400.2.1 bt400.2.2.1 bt400.2.2.2.1 bt400.2.2.2.2.1 bt400.2.2.2.2.2.1 bt400.2.2.2.2.2.2.1 bt400.2.2.2.2.2.2.2.1 bt400.2.2.2.2.2.2.2.2.1 bt400.2.2.2.2.2.2.2.2.2).bind fun t412 => ((impl_Sign.f k bt400.1 bt400.2.1 bt400.2.2.1 bt400.2.2.2.1 bt400.2.2.2.2.1 bt400.2.2.2.2.2.1 bt400.2.2.2.2.2.2.1 bt400.2.2.2.2.2.2.2.1 bt400.2.2.2.2.2.2.2.2.1 bt400.2.2.2.2.2.2.2.2.2).bind fun t415 => ((spec_Styled.f k bt385.1 bt385.2.1 bt385.2.2.1 bt385.2.2.2.1 bt385.2.2.2.2.1 bt385.2.2.2.2.2).bind fun bt416 => (if (!(bt394.1 == bt416.1) || (!(bt394.2.1 == bt416.2.1) || (!(bt394.2.2.1 == bt416.2.2.1) || (!(bt394.2.2.2.1 == bt416.2.2.2.1) || (!(bt394.2.2.2.2 == bt416.2.2.2.2)))))) = true then (laws_FnStyles.j0 k t412 t415 true bt394.1 bt394.2.1 bt394.2.2.1 bt394.2.2.2.1 bt394.2.2.2.2 bt400.1 bt400.2.1 bt400.2.2.1 bt400.2.2.2.1 bt400.2.2.2.2.1 bt400.2.2.2.2.2.1 bt400.2.2.2.2.2.2.1 bt400.2.2.2.2.2.2.2.1 bt400.2.2.2.2.2.2.2.2.1 bt400.2.2.2.2.2.2.2.2.2) else ((spec_Params.f k bt400.1 bt400.2.1 bt400.2.2.1 bt400.2.2.2.1 bt400.2.2.2.2.1 bt400.2.2.2.2.2.1 bt400.2.2.2.2.2.2.1 bt400.2.2.2.2.2.2.2.1 bt400.2.2.2.2.2.2.2.2.1 bt400.2.2.2.2.2.2.2.2.2).bind fun t421 => ((laws_likeInts.f k t412 t421).bind fun t424 => (if t424 = true then ((spec_Sign.f k bt400.1 bt400.2.1 bt400.2.2.1 bt400.2.2.2.1 bt400.2.2.2.2.1 bt400.2.2.2.2.2.1 bt400.2.2.2.2.2.2.1 bt400.2.2.2.2.2.2.2.1 bt400.2.2.2.2.2.2.2.2.1 bt400.2.2.2.2.2.2.2.2.2).bind fun t425 => (if t415.toList = t425.toList then ((impl_StyleOk.f bt385.1 bt385.2.1 bt385.2.2.1 bt385.2.2.2.1 bt385.2.2.2.2.1).bind fun t426 => ((spec_StyleOk.f bt385.1 bt385.2.1 bt385.2.2.1 bt385.2.2.2.1 bt385.2.2.2.2.1).bind fun t427 => (laws_FnStyles.j0 k t412 t415 (t426 != t427) bt394.1 bt394.2.1 bt394.2.2.1 bt394.2.2.2.1 bt394.2.2.2.2 bt400.1 bt400.2.1 bt400.2.2.1 bt400.2.2.2.1 bt400.2.2.2.2.1 bt400.2.2.2.2.2.1 bt400.2.2.2.2.2.2.1 bt400.2.2.2.2.2.2.2.1 bt400.2.2.2.2.2.2.2.2.1 bt400.2.2.2.2.2.2.2.2.2))) else (laws_FnStyles.j0 k t412 t415 true bt394.1 bt394.2.1 bt394.2.2.1 bt394.2.2.2.1 bt394.2.2.2.2 bt400.1 bt400.2.1 bt400.2.2.1 bt400.2.2.2.1 bt400.2.2.2.2.1 bt400.2.2.2.2.2.1 bt400.2.2.2.2.2.2.1 bt400.2.2.2.2.2.2.2.1 bt400.2.2.2.2.2.2.2.2.1 bt400.2.2.2.2.2.2.2.2.2))) else (laws_FnStyles.j0 k t412 t415 true bt394.1 bt394.2.1 bt394.2.2.1 bt394.2.2.2.1 bt394.2.2.2.2 bt400.1 bt400.2.1 bt400.2.2.1 bt400.2.2.2.1 bt400.2.2.2.2.1 bt400.2.2.2.2.2.1 bt400.2.2.2.2.2.2.1 bt400.2.2.2.2.2.2.2.1 bt400.2.2.2.2.2.2.2.2.1 bt400.2.2.2.2.2.2.2.2.2)))))))))))) = some r := H
 have A2 := am A20
 clear A20
 by_cases c3 : t384 = true
 ·subst c3
  have H1 : (some true) = some r := by rw [if_pos rfl] at H; exact H
  clear H
  have H := H1
  clear H1
  first
  | with_reducible exact absurd (Option.some.inj (H.trans (congrArg some hT_))) Bool.false_ne_true
  | (
    obtain rfl := Option.some.inj H
    go_enter Tryd.func5, Tryd.ntmps5
    go_wp2_with (first | ((with_reducible refine gate_callee (f := 14) rfl ?_); refine gl_ (some 11) Tryd.func14 #[.slice A0 l0.length c0] ?_; (with_reducible refine (laws_big.calls _ _ l0 true _ ?side1 ?side2 A2.out).mono ?_); (case side1 => exact rc (HR0.out)); (case side2 => exact HC0.out); rintro e w' ⟨rfl, ⟨nd, rfl⟩⟩; refine ⟨_, rfl, ?_⟩))
    go_ret
    exact ⟨by first | rfl | (simp [errW_none, errW_some] <;> rfl) | (simp [*, errW_none, errW_some] <;> rfl), by repeat (first | (with_reducible first | exact HB.out | apply b1 | apply b2 | apply b3) | exact HB.out)⟩)
 ·replace c3 := Bool.eq_false_iff.mpr c3
  subst c3
  have H1 : ((spec_DrawStyled.f k l0).bind fun bt385 => ((impl_Styled.f k bt385.1 bt385.2.1 bt385.2.2.1 bt385.2.2.2.1 bt385.2.2.2.2.1 bt385.2.2.2.2.2).bind fun bt394 => ((spec_DrawParams.f k l0).bind fun bt400 => ((impl_Params.f k bt400.1 bt400.2.1 bt400.2.2.1 bt400.2.2.2.1 bt400.2.2.2.2.1 bt400.2.2.2.2.2.1 bt400.2.2.2.2.2.2.1 bt400.2.2.2.2.2.2.2.1 bt400.2.2.2.2.2.2.2.2.1 bt400.2.2.2.2.2.2.2.2.2).bind fun t412 => ((impl_Sign.f k bt400.1 bt400.2.1 bt400.2.2.1 bt400.2.2.2.1 bt400.2.2.2.2.1 bt400.2.2.2.2.2.1 bt400.2.2.2.2.2.2.1 bt400.2.2.2.2.2.2.2.1 bt400.2.2.2.2.2.2.2.2.1 bt400.2.2.2.2.2.2.2.2.2).bind fun t415 => ((spec_Styled.f k bt385.1 bt385.2.1 bt385.2.2.1 bt385.2.2.2.1 bt385.2.2.2.2.1 bt385.2.2.2.2.2).bind fun bt416 => (if (!(bt394.1 == bt416.1) || (!(bt394.2.1 == bt416.2.1) || (!(bt394.2.2.1 == bt416.2.2.1) || (!(bt394.2.2.2.1 == bt416.2.2.2.1) || (!(bt394.2.2.2.2 == bt416.2.2.2.2)))))) = true then (laws_FnStyles.j0 k t412 t415 true bt394.1 bt394.2.1 bt394.2.2.1 bt394.2.2.2.1 bt394.2.2.2.2 bt400.1 bt400.2.1 bt400.2.2.1 bt400.2.2.2.1 bt400.2.2.2.2.1 bt400.2.2.2.2.2.1 bt400.2.2.2.2.2.2.1 bt400.2.2.2.2.2.2.2.1 bt400.2.2.2.2.2.2.2.2.1 bt400.2.2.2.2.2.2.2.2.2) else ((spec_Params.f k bt400.1 bt400.2.1 bt400.2.2.1 bt400.2.2.2.1 bt400.2.2.2.2.1 bt400.2.2.2.2.2.1 bt400.2.2.2.2.2.2.1 bt400.2.2.2.2.2.2.2.1 bt400.2.2.2.2.2.2.2.2.1 bt400.2.2.2.2.2.2.2.2.2).bind fun t421 => ((laws_likeInts.f k t412 t421).bind fun t424 => (if t424 = true then ((spec_Sign.f k bt400.1 bt400.2.1 bt400.2.2.1 bt400.2.2.2.1 bt400.2.2.2.2.1 bt400.2.2.2.2.2.1 bt400.2.2.2.2.2.2.1 bt400.2.2.2.2.2.2.2.1 bt400.2.2.2.2.2.2.2.2.1 bt400.2.2.2.2.2.2.2.2.2).bind fun t425 => (if t415.toList = t425.toList then ((impl_StyleOk.f bt385.1 bt385.2.1 bt385.2.2.1 bt385.2.2.2.1 bt385.2.2.2.2.1).bind fun t426 => ((spec_StyleOk.f bt385.1 bt385.2.1 bt385.2.2.1 bt385.2.2.2.1 bt385.2.2.2.2.1).bind fun t427 => (laws_FnStyles.j0 k t412 t415 (t426 != t427) bt394.1 bt394.2.1 bt394.2.2.1 bt394.2.2.2.1 bt394.2.2.2.2 bt400.1 bt400.2.1 bt400.2.2.1 bt400.2.2.2.1 bt400.2.2.2.2.1 bt400.2.2.2.2.2.1 bt400.2.2.2.2.2.2.1 bt400.2.2.2.2.2.2.2.1 bt400.2.2.2.2.2.2.2.2.1 bt400.2.2.2.2.2.2.2.2.2))) else (laws_FnStyles.j0 k t412 t415 true bt394.1 bt394.2.1 bt394.2.2.1 bt394.2.2.2.1 bt394.2.2.2.2 bt400.1 bt400.2.1 bt400.2.2.1 bt400.2.2.2.1 bt400.2.2.2.2.1 bt400.2.2.2.2.2.1 bt400.2.2.2.2.2.2.1 bt400.2.2.2.2.2.2.2.1 bt400.2.2.2.2.2.2.2.2.1 bt400.2.2.2.2.2.2.2.2.2))) else (laws_FnStyles.j0 k t412 t415 true bt394.1 bt394.2.1 bt394.2.2.1 bt394.2.2.2.1 bt394.2.2.2.2 bt400.1 bt400.2.1 bt400.2.2.1 bt400.2.2.2.1 bt400.2.2.2.2.1 bt400.2.2.2.2.2.1 bt400.2.2.2.2.2.2.1 bt400.2.2.2.2.2.2.2.1 bt400.2.2.2.2.2.2.2.2.1 bt400.2.2.2.2.2.2.2.2.2))))))))))) = some r := by rw [if_neg (show ¬ (false = true) by decide)] at H; exact H
  clear H
  have H := H1
  clear H1
  replace H := Option.bind_eq_some_iff.mp H
  obtain ⟨⟨t385, t386, t387, t388, t389, t390⟩, A40, H⟩ := H
  replace H : ((impl_Styled.f k t385 t386 t387 t388 t389 t390).bind fun bt394 => ((spec_DrawParams.f k l0).bind fun bt400 => ((impl_Params.f k bt400.1 bt400.2.1 bt400.2.2.1 bt400.2.2.2.1 bt400.2.2.2.2.1 bt400.2.2.2.2.2.1 bt400.2.2.2.2.2.2.1 bt400.2.2.2.2.2.2.2.1 bt400.2.2.2.2.2.2.2.2.1 bt400.2.2.2.2.2.2.2.2.2).bind fun t412 => ((impl_Sign.f k bt400.1 bt400.2.1 bt400.2.2.1 bt400.2.2.2.1 bt400.2.2.2.2.1 bt400.2.2.2.2.2.1 bt400.2.2.2.2.2.2.1 bt400.2.2.2.2.2.2.2.1 bt400.2.2.2.2.2.2.2.2.1 bt400.2.2.2.2.2.2.2.2.2).bind fun t415 => ((spec_Styled.f k t385 t386 t387 t388 t389 t390).bind fun bt416 => (if (!(bt394.1 == bt416.1) || (!(bt394.2.1 == bt416.2.1) || (!(bt394.2.2.1 == bt416.2.2.1) || (!(bt394.2.2.2.1 == bt416.2.2.2.1) || (!(bt394.2.2.2.2 == bt416.2.2.2.2)))))) = true then (laws_FnStyles.j0 k t412 t415 true bt394.1 bt394.2.1 bt394.2.2.1 bt394.2.2.2.1 bt394.2.2.2.2 bt400.1 bt400.2.1 bt400.2.2.1 bt400.2.2.2.1 bt400.2.2.2.2.1 bt400.2.2.2.2.2.1 bt400.2.2.2.2.2.2.1 bt400.2.2.2.2.2.2.2.1 bt400.2.2.2.2.2.2.2.2.1 bt400.2.2.2.2.2.2.2.2.2) else ((spec_Params.f k bt400.1 bt400.2.1 bt400.2.2.1 bt400.2.2.2.1 bt400.2.2.2.2.1 bt400.2.2.2.2.2.1 bt400.2.2.2.2.2.2.1 bt400.2.2.2.2.2.2.2.1 bt400.2.2.2.2.2.2.2.2.1 bt400.2.2.2.2.2.2.2.2.2).bind fun t421 => ((laws_likeInts.f k t412 t421).bind fun t424 => (if t424 = true then ((spec_Sign.f k bt400.1 bt400.2.1 bt400.2.2.1 bt400.2.2.2.1 bt400.2.2.2.2.1 bt400.2.2.2.2.2.1 bt400.2.2.2.2.2.2.1 bt400.2.2.2.2.2.2.2.1 bt400.2.2.2.2.2.2.2.2.1 bt400.2.2.2.2.2.2.2.2.2).bind fun t425 => (if t415.toList = t425.toList then ((impl_StyleOk.f t385 t386 t387 t388 t389).bind fun t426 => ((spec_StyleOk.f t385 t386 t387 t388 t389).bind fun t427 => (laws_FnStyles.j0 k t412 t415 (t426 != t427) bt394.1 bt394.2.1 bt394.2.2.1 bt394.2.2.2.1 bt394.2.2.2.2 bt400.1 bt400.2.1 bt400.2.2.1 bt400.2.2.2.1 bt400.2.2.2.2.1 bt400.2.2.2.2.2.1 bt400.2.2.2.2.2.2.1 bt400.2.2.2.2.2.2.2.1 bt400.2.2.2.2.2.2.2.2.1 bt400.2.2.2.2.2.2.2.2.2))) else (laws_FnStyles.j0 k t412 t415 true bt394.1 bt394.2.1 bt394.2.2.1 bt394.2.2.2.1 bt394.2.2.2.2 bt400.1 bt400.2.1 bt400.2.2.1 bt400.2.2.2.1 bt400.2.2.2.2.1 bt400.2.2.2.2.2.1 bt400.2.2.2.2.2.2.1 bt400.2.2.2.2.2.2.2.1 bt400.2.2.2.2.2.2.2.2.1 bt400.2.2.2.2.2.2.2.2.2))) else (laws_FnStyles.j0 k t412 t415 true bt394.1 bt394.2.1 bt394.2.2.1 bt394.2.2.2.1 bt394.2.2.2.2 bt400.1 bt400.2.1 bt400.2.2.1 bt400.2.2.2.1 bt400.2.2.2.2.1 bt400.2.2.2.2.2.1 bt400.2.2.2.2.2.2.1 bt400.2.2.2.2.2.2.2.1 bt400.2.2.2.2.2.2.2.2.1 bt400.2.2.2.2.2.2.2.2.2)))))))))) = some r := H
  have A4 := am A40
  clear A40
  replace H := Option.bind_eq_some_iff.mp H
  obtain ⟨⟨t394, t395, t396, t397, t398⟩, A50, H⟩ := H
  replace H : ((spec_DrawParams.f k l0).bind fun bt400 => ((impl_Params.f k bt400.1 bt400.2.1 bt400.2.2.1 bt400.2.2.2.1 bt400.2.2.2.2.1 bt400.2.2.2.2.2.1 bt400.2.2.2.2.2.2.1 bt400.2.2.2.2.2.2.2.1 bt400.2.2.2.2.2.2.2.2.1 bt400.2.2.2.2.2.2.2.2.2).bind fun t412 => ((impl_Sign.f k bt400.1 bt400.2.1 bt400.2.2.1 bt400.2.2.2.1 bt400.2.2.2.2.1 bt400.2.2.2.2.2.1 bt400.2.2.2.2.2.2.1 bt400.2.2.2.2.2.2.2.1 bt400.2.2.2.2.2.2.2.2.1 bt400.2.2.2.2.2.2.2.2.2).bind fun t415 => ((spec_Styled.f k t385 t386 t387 t388 t389 t390).bind fun bt416 => (if (!(t394 == bt416.1) || (!(t395 == bt416.2.1) || (!(t396 == bt416.2.2.1) || (!(t397 == bt416.2.2.2.1) || (!(t398 == bt416.2.2.2.2)))))) = true then (laws_FnStyles.j0 k t412 t415 true t394 t395 t396 t397 t398 bt400.1 bt400.2.1 bt400.2.2.1 bt400.2.2.2.1 bt400.2.2.2.2.1 bt400.2.2.2.2.2.1 bt400.2.2.2.2.2.2.1 bt400.2.2.2.2.2.2.2.1 bt400.2.2.2.2.2.2.2.2.1 bt400.2.2.2.2.2.2.2.2.2) else ((spec_Params.f k bt400.1 bt400.2.1 bt400.2.2.1 bt400.2.2.2.1 bt400.2.2.2.2.1 bt400.2.2.2.2.2.1 bt400.2.2.2.2.2.2.1 bt400.2.2.2.2.2.2.2.1 bt400.2.2.2.2.2.2.2.2.1 bt400.2.2.2.2.2.2.2.2.2).bind fun t421 => ((laws_likeInts.f k t412 t421).bind fun t424 => (if t424 = true then ((spec_Sign.f k bt400.1 bt400.2.1 bt400.2.2.1 bt400.2.2.2.1 bt400.2.2.2.2.1 bt400.2.2.2.2.2.1 bt400.2.2.2.2.2.2.1 bt400.2.2.2.2.2.2.2.1 bt400.2.2.2.2.2.2.2.2.1 bt400.2.2.2.2.2.2.2.2.2).bind fun t425 => (if t415.toList = t425.toList then ((impl_StyleOk.f t385 t386 t387 t388 t389).bind fun t426 => ((spec_StyleOk.f t385 t386 t387 t388 t389).bind fun t427 => (laws_FnStyles.j0 k t412 t415 (t426 != t427) t394 t395 t396 t397 t398 bt400.1 bt400.2.1 bt400.2.2.1 bt400.2.2.2.1 bt400.2.2.2.2.1 bt400.2.2.2.2.2.1 bt400.2.2.2.2.2.2.1 bt400.2.2.2.2.2.2.2.1 bt400.2.2.2.2.2.2.2.2.1 bt400.2.2.2.2.2.2.2.2.2))) else (laws_FnStyles.j0 k t412 t415 true t394 t395 t396 t397 t398 bt400.1 bt400.2.1 bt400.2.2.1 bt400.2.2.2.1 bt400.2.2.2.2.1 bt400.2.2.2.2.2.1 bt400.2.2.2.2.2.2.1 bt400.2.2.2.2.2.2.2.1 bt400.2.2.2.2.2.2.2.2.1 bt400.2.2.2.2.2.2.2.2.2))) else (laws_FnStyles.j0 k t412 t415 true t394 t395 t396 t397 t398 bt400.1 bt400.2.1 bt400.2.2.1 bt400.2.2.2.1 bt400.2.2.2.2.1 bt400.2.2.2.2.2.1 bt400.2.2.2.2.2.2.1 bt400.2.2.2.2.2.2.2.1 bt400.2.2.2.2.2.2.2.2.1 bt400.2.2.2.2.2.2.2.2.2))))))))) = some r := H
  have A5 := am A50
  clear A50
  replace H := Option.bind_eq_some_iff.mp H
  obtain ⟨⟨t400, t401, t402, t403, t404, t405, t406, t407, t408, t409⟩, A60, H⟩ := H
  replace H : ((impl_Params.f k t400 t401 t402 t403 t404 t405 t406 t407 t408 t409).bind fun t412 => ((impl_Sign.f k t400 t401 t402 t403 t404 t405 t406 t407 t408 t409).bind fun t415 => ((spec_Styled.f k t385 t386 t387 t388 t389 t390).bind fun bt416 => (if (!(t394 == bt416.1) || (!(t395 == bt416.2.1) || (!(t396 == bt416.2.2.1) || (!(t397 == bt416.2.2.2.1) || (!(t398 == bt416.2.2.2.2)))))) = true then (laws_FnStyles.j0 k t412 t415 true t394 t395 t396 t397 t398 t400 t401 t402 t403 t404 t405 t406 t407 t408 t409) else ((spec_Params.f k t400 t401 t402 t403 t404 t405 t406 t407 t408 t409).bind fun t421 => ((laws_likeInts.f k t412 t421).bind fun t424 => (if t424 = true then ((spec_Sign.f k t400 t401 t402 t403 t404 t405 t406 t407 t408 t409).bind fun t425 => (if t415.toList = t425.toList then ((impl_StyleOk.f t385 t386 t387 t388 t389).bind fun t426 => ((spec_StyleOk.f t385 t386 t387 t388 t389).bind fun t427 => (laws_FnStyles.j0 k t412 t415 (t426 != t427) t394 t395 t396 t397 t398 t400 t401 t402 t403 t404 t405 t406 t407 t408 t409))) else (laws_FnStyles.j0 k t412 t415 true t394 t395 t396 t397 t398 t400 t401 t402 t403 t404 t405 t406 t407 t408 t409))) else (laws_FnStyles.j0 k t412 t415 true t394 t395 t396 t397 t398 t400 t401 t402 t403 t404 t405 t406 t407 t408 t409)))))))) = some r := H
  have A6 := am A60
  clear A60
  replace H := Option.bind_eq_some_iff.mp H
  obtain ⟨t412, A70, H⟩ := H
  replace H : ((impl_Sign.f k t400 t401 t402 t403 t404 t405 t406 t407 t408 t409).bind fun t415 => ((spec_Styled.f k t385 t386 t387 t388 t389 t390).bind fun bt416 => (if (!(t394 == bt416.1) || (!(t395 == bt416.2.1) || (!(t396 == bt416.2.2.1) || (!(t397 == bt416.2.2.2.1) || (!(t398 == bt416.2.2.2.2)))))) = true then (laws_FnStyles.j0 k t412 t415 true t394 t395 t396 t397 t398 t400 t401 t402 t403 t404 t405 t406 t407 t408 t409) else ((spec_Params.f k t400 t401 t402 t403 t404 t405 t406 t407 t408 t409).bind fun t421 => ((laws_likeInts.f k t412 t421).bind fun t424 => (if t424 = true then ((spec_Sign.f k t400 t401 t402 t403 t404 t405 t406 t407 t408 t409).bind fun t425 => (if t415.toList = t425.toList then ((impl_StyleOk.f t385 t386 t387 t388 t389).bind fun t426 => ((spec_StyleOk.f t385 t386 t387 t388 t389).bind fun t427 => (laws_FnStyles.j0 k t412 t415 (t426 != t427) t394 t395 t396 t397 t398 t400 t401 t402 t403 t404 t405 t406 t407 t408 t409))) else (laws_FnStyles.j0 k t412 t415 true t394 t395 t396 t397 t398 t400 t401 t402 t403 t404 t405 t406 t407 t408 t409))) else (laws_FnStyles.j0 k t412 t415 true t394 t395 t396 t397 t398 t400 t401 t402 t403 t404 t405 t406 t407 t408 t409))))))) = some r := H
  have A7 := am A70
  clear A70
  replace H := Option.bind_eq_some_iff.mp H
  obtain ⟨t415, A80, H⟩ := H
  replace H : ((spec_Styled.f k t385 t386 t387 t388 t389 t390).bind fun bt416 => (if (!(t394 == bt416.1) || (!(t395 == bt416.2.1) || (!(t396 == bt416.2.2.1) || (!(t397 == bt416.2.2.2.1) || (!(t398 == bt416.2.2.2.2)))))) = true then (laws_FnStyles.j0 k t412 t415 true t394 t395 t396 t397 t398 t400 t401 t402 t403 t404 t405 t406 t407 t408 t409) else ((spec_Params.f k t400 t401 t402 t403 t404 t405 t406 t407 t408 t409).bind fun t421 => ((laws_likeInts.f k t412 t421).bind fun t424 => (if t424 = true then ((spec_Sign.f k t400 t401 t402 t403 t404 t405 t406 t407 t408 t409).bind fun t425 => (if t415.toList = t425.toList then ((impl_StyleOk.f t385 t386 t387 t388 t389).bind fun t426 => ((spec_StyleOk.f t385 t386 t387 t388 t389).bind fun t427 => (laws_FnStyles.j0 k t412 t415 (t426 != t427) t394 t395 t396 t397 t398 t400 t401 t402 t403 t404 t405 t406 t407 t408 t409))) else (laws_FnStyles.j0 k t412 t415 true t394 t395 t396 t397 t398 t400 t401 t402 t403 t404 t405 t406 t407 t408 t409))) else (laws_FnStyles.j0 k t412 t415 true t394 t395 t396 t397 t398 t400 t401 t402 t403 t404 t405 t406 t407 t408 t409)))))) = some r := H
  have A8 := am A80
  clear A80
  have HC9 := am H
  clear H
  go_enter Tryd.func5, Tryd.ntmps5
  go_upto_region 8 with (first | ((with_reducible refine gate_callee (f := 14) rfl ?_); refine gl_ (some 11) Tryd.func14 #[.slice A0 l0.length c0] ?_; (with_reducible refine (laws_big.calls _ _ l0 false _ ?side1 ?side2 A2.out).mono ?_); (case side1 => exact rc (HR0.out)); (case side2 => exact HC0.out); rintro e w' ⟨rfl, ⟨nd, rfl⟩⟩; refine ⟨_, rfl, ?_⟩) | ((with_reducible refine gate_callee (f := 15) rfl ?_); refine gl_ (some 14) Tryd.func15 #[.slice A0 l0.length c0] ?_; (with_reducible refine (spec_DrawStyled.calls k _ _ l0 t385 t386 t387 t388 t389 t390 _ ?side1 ?side2 A4.out).mono ?_); (case side1 => exact rc (HR0.out)); (case side2 => exact HC0.out); rintro e w10 ⟨v391, rfl, ho0, hb⟩; refine ⟨_, rfl, ?_⟩; have n0_ := am (Kd.R_lower ho0 (below_size (rb HB))); have n1_ := am (below_step (rb HB) hb); clear HB; have HO392 := n0_; have HB := n1_; clear n0_ n1_; (try clear hb); (try clear hb2); (try clear hk); (try clear hi); (try clear ho0)) | ((with_reducible refine gate_dst (N := 3) rfl ?_); (try (refine gate_guard (by rfl) ?_; dsimp only)); refine box_event ?hg (N := 3) ?hd (cs := #[.int .i64 0, .int .i64 0, .bool false, .bool false, .bool false]) (t := 25) ?hr ?_; (case hd => rfl); (case hg => rfl); (case hr => first | (go_simp; done) | (go_simp; rfl)); intro gb393 hg w11 hbox hb; have n0_ := am (Kd.R_below (rr HO392) hb); have n1_ := am (below_step (rb HB) hb); have n2_ := am (hbox); have n3_ := am ((by rw [hg]; exact (below_size (rb HB)) : w.heap.size ≤ gb393)); have n4_ := am ((by rw [hg]; exact (below_size (rb HB)) : w.heap.size ≤ gb393)); clear HO392; clear HB; have HO392 := n0_; have HB := n1_; have BK393 := n2_; have GW393 := n3_; have GE393 := n4_; clear n0_ n1_ n2_ n3_ n4_; clear hb hbox hg; have hcz12_0 : w11.cell? ⟨gb393, 0, none⟩ = some (.int .i64 0) := (blk_cell BK393.out 0).trans rfl; have hcz12_1 : w11.cell? ⟨gb393, 1, none⟩ = some (.int .i64 0) := (blk_cell BK393.out 1).trans rfl; have hcz12_2 : w11.cell? ⟨gb393, 2, none⟩ = some (.bool false) := (blk_cell BK393.out 2).trans rfl; have hcz12_3 : w11.cell? ⟨gb393, 3, none⟩ = some (.bool false) := (blk_cell BK393.out 3).trans rfl; have hcz12_4 : w11.cell? ⟨gb393, 4, none⟩ = some (.bool false) := (blk_cell BK393.out 4).trans rfl; have hfz12_0 := blk_frozen BK393.out 0; have hfz12_1 := blk_frozen BK393.out 1; have hfz12_2 := blk_frozen BK393.out 2; have hfz12_3 := blk_frozen BK393.out 3; have hfz12_4 := blk_frozen BK393.out 4; obtain ⟨Ao13, co13, eo13⟩ := Kd.R_slice HO392.out; subst eo13) | ((with_reducible refine gate_callee (f := 16) rfl ?_); refine gl_ (some 19) Tryd.func16 #[.agg #[.int .i64 t385, .int .i64 t386, .bool t387, .bool t388, .bool t389], .slice Ao13 t390.length co13] ?_; (with_reducible refine (impl_Styled.calls k t385 t386 t387 t388 t389 _ _ t390 t394 t395 t396 t397 t398 _ ?side1 ?side2 A5.out).mono ?_); (case side1 => refine (Kd.R_reads' (e := 2) (base := w.heap.size) (ok := fun k_ => True) (n := t390.length) (c := co13) ?_).2.2; exact (by (with_reducible repeat (first | apply r1 | apply r2 | apply r3)); exact (Kd.R_mono (Kd.R_far (p := ⟨gb393, 4, none⟩) (Kd.R_far (p := ⟨gb393, 3, none⟩) (Kd.R_far (p := ⟨gb393, 2, none⟩) (Kd.R_far (p := ⟨gb393, 1, none⟩) (Kd.R_far (p := ⟨gb393, 0, none⟩) (Kd.R_types HO392.out BK393.out (by decide)) (fun _ hk => hk.2) (.int .i64 t385)) (fun _ hk => hk.2) (.int .i64 t386)) (fun _ hk => hk.2) (.bool t387)) (fun _ hk => hk.2) (.bool t388)) (fun _ hk => hk.2) (.bool t389)) (fun _ h_ => h_.1)))); (case side2 => exact (Kd.R_reads' HO392.out).2.1); rintro e w14 ⟨rfl, hb⟩; refine ⟨_, rfl, ?_⟩; have n0_ := am (Kd.R_below (by (with_reducible repeat (first | apply r1 | apply r2 | apply r3)); exact (Kd.R_mono (Kd.R_far (p := ⟨gb393, 4, none⟩) (Kd.R_far (p := ⟨gb393, 3, none⟩) (Kd.R_far (p := ⟨gb393, 2, none⟩) (Kd.R_far (p := ⟨gb393, 1, none⟩) (Kd.R_far (p := ⟨gb393, 0, none⟩) (Kd.R_types HO392.out BK393.out (by decide)) (fun _ hk => hk.2) (.int .i64 t385)) (fun _ hk => hk.2) (.int .i64 t386)) (fun _ hk => hk.2) (.bool t387)) (fun _ hk => hk.2) (.bool t388)) (fun _ hk => hk.2) (.bool t389)) (fun _ h_ => h_.1))) hb); have n1_ := am (blk_below (g := gb393) (o := .cells #[.int .i64 t385, .int .i64 t386, .bool t387, .bool t388, .bool t389] 25 (0, 0)) (by (with_reducible repeat (first | apply k1 | apply k2 | apply k3)); refine blk_put (cs := #[.int .i64 t385, .int .i64 t386, .bool t387, .bool t388, .bool false]) ?_ 4 _ rfl; (with_reducible repeat (first | apply k1 | apply k2 | apply k3)); refine blk_put (cs := #[.int .i64 t385, .int .i64 t386, .bool t387, .bool false, .bool false]) ?_ 3 _ rfl; (with_reducible repeat (first | apply k1 | apply k2 | apply k3)); refine blk_put (cs := #[.int .i64 t385, .int .i64 t386, .bool false, .bool false, .bool false]) ?_ 2 _ rfl; (with_reducible repeat (first | apply k1 | apply k2 | apply k3)); refine blk_put (cs := #[.int .i64 t385, .int .i64 0, .bool false, .bool false, .bool false]) ?_ 1 _ rfl; (with_reducible repeat (first | apply k1 | apply k2 | apply k3)); refine blk_put (cs := #[.int .i64 0, .int .i64 0, .bool false, .bool false, .bool false]) ?_ 0 _ rfl; (with_reducible repeat (first | apply k1 | apply k2 | apply k3)); exact BK393.out) hb); have n2_ := am (below_step (rb1 HB GE393) hb); clear HO392; clear BK393; clear HB; have HO392 := n0_; have BK393 := n1_; have HB := n2_; clear n0_ n1_ n2_; (try clear hb); (try clear hb2); (try clear hk); (try clear hi)) | ((with_reducible refine gate_dst (N := 5) rfl ?_); (try (refine gate_guard (by rfl) ?_; dsimp only)); refine box_event ?hg (N := 5) ?hd (cs := #[.int .i64 0, .int .i64 0, .bool false, .bool false, .bool false]) (t := 25) ?hr ?_; (case hd => rfl); (case hg => rfl); (case hr => first | (go_simp; done) | (go_simp; rfl)); intro gb399 hg w15 hbox hb; have n0_ := am (Kd.R_below (rr HO392) hb); have n1_ := am (blk_below (g := gb393) (o := .cells #[.int .i64 t385, .int .i64 t386, .bool t387, .bool t388, .bool t389] 25 (0, 0)) (rk BK393) hb); have n2_ := am (below_step (rb1 HB GE393) hb); have n3_ := am (hbox); have n4_ := am ((by rw [hg]; exact (below_size (rb1 HB GE393)) : w.heap.size ≤ gb399)); have n5_ := am ((by rw [hg]; exact (below_size (rb1 HB GE393)) : w.heap.size ≤ gb399)); have n6_ := am ((by rw [hg]; exact Nat.ne_of_lt (blk_lt (g := gb393) (o := .cells #[.int .i64 t385, .int .i64 t386, .bool t387, .bool t388, .bool t389] 25 (0, 0)) (rk BK393)) : gb393 ≠ gb399)); have n7_ := am ((by rw [hg]; exact Nat.ne_of_gt (blk_lt (g := gb393) (o := .cells #[.int .i64 t385, .int .i64 t386, .bool t387, .bool t388, .bool t389] 25 (0, 0)) (rk BK393)) : gb399 ≠ gb393)); clear HO392; clear BK393; clear HB; have HO392 := n0_; have BK393 := n1_; have HB := n2_; have BK399 := n3_; have GW399 := n4_; have GE399 := n5_; have NB393_399 := n6_; have NB399_393 := n7_; clear n0_ n1_ n2_ n3_ n4_ n5_ n6_ n7_; clear hb hbox hg; have hnb16 := NB399_393.out; have hnc16 := NB393_399.out; have hcz17_0 : w15.cell? ⟨gb399, 0, none⟩ = some (.int .i64 0) := (blk_cell BK399.out 0).trans rfl; have hcz17_1 : w15.cell? ⟨gb399, 1, none⟩ = some (.int .i64 0) := (blk_cell BK399.out 1).trans rfl; have hcz17_2 : w15.cell? ⟨gb399, 2, none⟩ = some (.bool false) := (blk_cell BK399.out 2).trans rfl; have hcz17_3 : w15.cell? ⟨gb399, 3, none⟩ = some (.bool false) := (blk_cell BK399.out 3).trans rfl; have hcz17_4 : w15.cell? ⟨gb399, 4, none⟩ = some (.bool false) := (blk_cell BK399.out 4).trans rfl; have hfz17_0 := blk_frozen BK399.out 0; have hfz17_1 := blk_frozen BK399.out 1; have hfz17_2 := blk_frozen BK399.out 2; have hfz17_3 := blk_frozen BK399.out 3; have hfz17_4 := blk_frozen BK399.out 4) | ((with_reducible refine gate_callee (f := 17) rfl ?_); refine gl_ (some 22) Tryd.func17 #[.slice A0 l0.length c0] ?_; (with_reducible refine (spec_DrawParams.calls k _ _ l0 t400 t401 t402 t403 t404 t405 t406 t407 t408 t409 _ ?side1 ?side2 A6.out).mono ?_); (case side1 => exact Kd.C_below HR0.out (by repeat (first | (with_reducible first | exact HB.out | apply b1 | apply b2 | apply b3 | refine below_set ?_ GE393.out | refine below_set ?_ GE399.out) | exact HB.out))); (case side2 => exact HC0.out); rintro e w18 ⟨rfl, hb⟩; refine ⟨_, rfl, ?_⟩; have n0_ := am (Kd.R_below (by (with_reducible repeat (first | apply r1 | apply r2 | apply r3)); exact (Kd.R_mono (Kd.R_far (p := ⟨gb399, 4, none⟩) (Kd.R_far (p := ⟨gb399, 3, none⟩) (Kd.R_far (p := ⟨gb399, 2, none⟩) (Kd.R_far (p := ⟨gb399, 1, none⟩) (Kd.R_far (p := ⟨gb399, 0, none⟩) (Kd.R_types HO392.out BK399.out (by decide)) (fun _ hk => hk.2) (.int .i64 t394)) (fun _ hk => hk.2) (.int .i64 t395)) (fun _ hk => hk.2) (.bool t396)) (fun _ hk => hk.2) (.bool t397)) (fun _ hk => hk.2) (.bool t398)) (fun _ h_ => h_.1))) hb); have n1_ := am (blk_below (g := gb393) (o := .cells #[.int .i64 t385, .int .i64 t386, .bool t387, .bool t388, .bool t389] 25 (0, 0)) (by (with_reducible repeat (first | apply k1 | apply k2 | apply k3)); refine blk_far ?_ NB393_399.out _; (with_reducible repeat (first | apply k1 | apply k2 | apply k3)); refine blk_far ?_ NB393_399.out _; (with_reducible repeat (first | apply k1 | apply k2 | apply k3)); refine blk_far ?_ NB393_399.out _; (with_reducible repeat (first | apply k1 | apply k2 | apply k3)); refine blk_far ?_ NB393_399.out _; (with_reducible repeat (first | apply k1 | apply k2 | apply k3)); refine blk_far ?_ NB393_399.out _; (with_reducible repeat (first | apply k1 | apply k2 | apply k3)); exact BK393.out) hb); have n2_ := am (blk_below (g := gb399) (o := .cells #[.int .i64 t394, .int .i64 t395, .bool t396, .bool t397, .bool t398] 25 (0, 0)) (by (with_reducible repeat (first | apply k1 | apply k2 | apply k3)); refine blk_put (cs := #[.int .i64 t394, .int .i64 t395, .bool t396, .bool t397, .bool false]) ?_ 4 _ rfl; (with_reducible repeat (first | apply k1 | apply k2 | apply k3)); refine blk_put (cs := #[.int .i64 t394, .int .i64 t395, .bool t396, .bool false, .bool false]) ?_ 3 _ rfl; (with_reducible repeat (first | apply k1 | apply k2 | apply k3)); refine blk_put (cs := #[.int .i64 t394, .int .i64 t395, .bool false, .bool false, .bool false]) ?_ 2 _ rfl; (with_reducible repeat (first | apply k1 | apply k2 | apply k3)); refine blk_put (cs := #[.int .i64 t394, .int .i64 0, .bool false, .bool false, .bool false]) ?_ 1 _ rfl; (with_reducible repeat (first | apply k1 | apply k2 | apply k3)); refine blk_put (cs := #[.int .i64 0, .int .i64 0, .bool false, .bool false, .bool false]) ?_ 0 _ rfl; (with_reducible repeat (first | apply k1 | apply k2 | apply k3)); exact BK399.out) hb); have n3_ := am (below_step (by repeat (first | (with_reducible first | exact HB.out | apply b1 | apply b2 | apply b3 | refine below_set ?_ GE393.out | refine below_set ?_ GE399.out) | exact HB.out)) hb); clear HO392; clear BK393; clear BK399; clear HB; have HO392 := n0_; have BK393 := n1_; have BK399 := n2_; have HB := n3_; clear n0_ n1_ n2_ n3_; (try clear hb); (try clear hb2); (try clear hk); (try clear hi)) | ((with_reducible refine gate_dst (N := 6) rfl ?_); (try (refine gate_guard (by rfl) ?_; dsimp only)); refine box_event ?hg (N := 6) ?hd (cs := #[.int .i64 0, .int .i64 0, .bool false, .bool false, .bool false]) (t := 25) ?hr ?_; (case hd => rfl); (case hg => rfl); (case hr => first | (go_simp; done) | (go_simp; rfl)); intro gb410 hg w19 hbox hb; have n0_ := am (Kd.R_below (rr HO392) hb); have n1_ := am (blk_below (g := gb393) (o := .cells #[.int .i64 t385, .int .i64 t386, .bool t387, .bool t388, .bool t389] 25 (0, 0)) (rk BK393) hb); have n2_ := am (blk_below (g := gb399) (o := .cells #[.int .i64 t394, .int .i64 t395, .bool t396, .bool t397, .bool t398] 25 (0, 0)) (rk BK399) hb); have n3_ := am (below_step (by repeat (first | (with_reducible first | exact HB.out | apply b1 | apply b2 | apply b3 | refine below_set ?_ GE393.out | refine below_set ?_ GE399.out) | exact HB.out)) hb); have n4_ := am (hbox); have n5_ := am ((by rw [hg]; exact (below_size (by repeat (first | (with_reducible first | exact HB.out | apply b1 | apply b2 | apply b3 | refine below_set ?_ GE393.out | refine below_set ?_ GE399.out) | exact HB.out))) : w.heap.size ≤ gb410)); have n6_ := am ((by rw [hg]; exact (below_size (by repeat (first | (with_reducible first | exact HB.out | apply b1 | apply b2 | apply b3 | refine below_set ?_ GE393.out | refine below_set ?_ GE399.out) | exact HB.out))) : w.heap.size ≤ gb410)); have n7_ := am ((by rw [hg]; exact Nat.ne_of_lt (blk_lt (g := gb393) (o := .cells #[.int .i64 t385, .int .i64 t386, .bool t387, .bool t388, .bool t389] 25 (0, 0)) (rk BK393)) : gb393 ≠ gb410)); have n8_ := am ((by rw [hg]; exact Nat.ne_of_gt (blk_lt (g := gb393) (o := .cells #[.int .i64 t385, .int .i64 t386, .bool t387, .bool t388, .bool t389] 25 (0, 0)) (rk BK393)) : gb410 ≠ gb393)); have n9_ := am ((by rw [hg]; exact Nat.ne_of_lt (blk_lt (g := gb399) (o := .cells #[.int .i64 t394, .int .i64 t395, .bool t396, .bool t397, .bool t398] 25 (0, 0)) (rk BK399)) : gb399 ≠ gb410)); have n10_ := am ((by rw [hg]; exact Nat.ne_of_gt (blk_lt (g := gb399) (o := .cells #[.int .i64 t394, .int .i64 t395, .bool t396, .bool t397, .bool t398] 25 (0, 0)) (rk BK399)) : gb410 ≠ gb399)); clear HO392; clear BK393; clear BK399; clear HB; have HO392 := n0_; have BK393 := n1_; have BK399 := n2_; have HB := n3_; have BK410 := n4_; have GW410 := n5_; have GE410 := n6_; have NB393_410 := n7_; have NB410_393 := n8_; have NB399_410 := n9_; have NB410_399 := n10_; clear n0_ n1_ n2_ n3_ n4_ n5_ n6_ n7_ n8_ n9_ n10_; clear hb hbox hg) | ((with_reducible refine gate_dst (N := 7) rfl ?_); (try (refine gate_guard (by rfl) ?_; dsimp only)); refine box_event ?hg (N := 7) ?hd (cs := #[.int .i64 0, .int .i64 0, .bool false, .bool false, .bool false]) (t := 25) ?hr ?_; (case hd => rfl); (case hg => rfl); (case hr => first | (go_simp; done) | (go_simp; rfl)); intro gb411 hg w20 hbox hb; have n0_ := am (Kd.R_below (rr HO392) hb); have n1_ := am (blk_below (g := gb393) (o := .cells #[.int .i64 t385, .int .i64 t386, .bool t387, .bool t388, .bool t389] 25 (0, 0)) (rk BK393) hb); have n2_ := am (blk_below (g := gb399) (o := .cells #[.int .i64 t394, .int .i64 t395, .bool t396, .bool t397, .bool t398] 25 (0, 0)) (rk BK399) hb); have n3_ := am (blk_below (g := gb410) (o := .cells #[.int .i64 0, .int .i64 0, .bool false, .bool false, .bool false] 25 (0, 0)) (rk BK410) hb); have n4_ := am (below_step (by repeat (first | (with_reducible first | exact HB.out | apply b1 | apply b2 | apply b3 | refine below_set ?_ GE393.out | refine below_set ?_ GE399.out | refine below_set ?_ GE410.out) | exact HB.out)) hb); have n5_ := am (hbox); have n6_ := am ((by rw [hg]; exact (below_size (by repeat (first | (with_reducible first | exact HB.out | apply b1 | apply b2 | apply b3 | refine below_set ?_ GE393.out | refine below_set ?_ GE399.out | refine below_set ?_ GE410.out) | exact HB.out))) : w.heap.size ≤ gb411)); have n7_ := am ((by rw [hg]; exact (below_size (by repeat (first | (with_reducible first | exact HB.out | apply b1 | apply b2 | apply b3 | refine below_set ?_ GE393.out | refine below_set ?_ GE399.out | refine below_set ?_ GE410.out) | exact HB.out))) : w.heap.size ≤ gb411)); have n8_ := am ((by rw [hg]; exact Nat.ne_of_lt (blk_lt (g := gb393) (o := .cells #[.int .i64 t385, .int .i64 t386, .bool t387, .bool t388, .bool t389] 25 (0, 0)) (rk BK393)) : gb393 ≠ gb411)); have n9_ := am ((by rw [hg]; exact Nat.ne_of_gt (blk_lt (g := gb393) (o := .cells #[.int .i64 t385, .int .i64 t386, .bool t387, .bool t388, .bool t389] 25 (0, 0)) (rk BK393)) : gb411 ≠ gb393)); have n10_ := am ((by rw [hg]; exact Nat.ne_of_lt (blk_lt (g := gb399) (o := .cells #[.int .i64 t394, .int .i64 t395, .bool t396, .bool t397, .bool t398] 25 (0, 0)) (rk BK399)) : gb399 ≠ gb411)); have n11_ := am ((by rw [hg]; exact Nat.ne_of_gt (blk_lt (g := gb399) (o := .cells #[.int .i64 t394, .int .i64 t395, .bool t396, .bool t397, .bool t398] 25 (0, 0)) (rk BK399)) : gb411 ≠ gb399)); have n12_ := am ((by rw [hg]; exact Nat.ne_of_lt (blk_lt (g := gb410) (o := .cells #[.int .i64 0, .int .i64 0, .bool false, .bool false, .bool false] 25 (0, 0)) (rk BK410)) : gb410 ≠ gb411)); have n13_ := am ((by rw [hg]; exact Nat.ne_of_gt (blk_lt (g := gb410) (o := .cells #[.int .i64 0, .int .i64 0, .bool false, .bool false, .bool false] 25 (0, 0)) (rk BK410)) : gb411 ≠ gb410)); clear HO392; clear BK393; clear BK399; clear BK410; clear HB; have HO392 := n0_; have BK393 := n1_; have BK399 := n2_; have BK410 := n3_; have HB := n4_; have BK411 := n5_; have GW411 := n6_; have GE411 := n7_; have NB393_411 := n8_; have NB411_393 := n9_; have NB399_411 := n10_; have NB411_399 := n11_; have NB410_411 := n12_; have NB411_410 := n13_; clear n0_ n1_ n2_ n3_ n4_ n5_ n6_ n7_ n8_ n9_ n10_ n11_ n12_ n13_; clear hb hbox hg; have hnb21 := NB410_393.out; have hnc21 := NB393_410.out; have hnb22 := NB410_399.out; have hnc22 := NB399_410.out; have hnb23 := NB410_411.out; have hnc23 := NB411_410.out; have hcz24_0 : w20.cell? ⟨gb410, 0, none⟩ = some (.int .i64 0) := (blk_cell BK410.out 0).trans rfl; have hcz24_1 : w20.cell? ⟨gb410, 1, none⟩ = some (.int .i64 0) := (blk_cell BK410.out 1).trans rfl; have hcz24_2 : w20.cell? ⟨gb410, 2, none⟩ = some (.bool false) := (blk_cell BK410.out 2).trans rfl; have hcz24_3 : w20.cell? ⟨gb410, 3, none⟩ = some (.bool false) := (blk_cell BK410.out 3).trans rfl; have hcz24_4 : w20.cell? ⟨gb410, 4, none⟩ = some (.bool false) := (blk_cell BK410.out 4).trans rfl; have hfz24_0 := blk_frozen BK410.out 0; have hfz24_1 := blk_frozen BK410.out 1; have hfz24_2 := blk_frozen BK410.out 2; have hfz24_3 := blk_frozen BK410.out 3; have hfz24_4 := blk_frozen BK410.out 4; have hnb25 := NB411_393.out; have hnc25 := NB393_411.out; have hnb26 := NB411_399.out; have hnc26 := NB399_411.out; have hcz27_0 : w20.cell? ⟨gb411, 0, none⟩ = some (.int .i64 0) := (blk_cell BK411.out 0).trans rfl; have hcz27_1 : w20.cell? ⟨gb411, 1, none⟩ = some (.int .i64 0) := (blk_cell BK411.out 1).trans rfl; have hcz27_2 : w20.cell? ⟨gb411, 2, none⟩ = some (.bool false) := (blk_cell BK411.out 2).trans rfl; have hcz27_3 : w20.cell? ⟨gb411, 3, none⟩ = some (.bool false) := (blk_cell BK411.out 3).trans rfl; have hcz27_4 : w20.cell? ⟨gb411, 4, none⟩ = some (.bool false) := (blk_cell BK411.out 4).trans rfl; have hfz27_0 := blk_frozen BK411.out 0; have hfz27_1 := blk_frozen BK411.out 1; have hfz27_2 := blk_frozen BK411.out 2; have hfz27_3 := blk_frozen BK411.out 3; have hfz27_4 := blk_frozen BK411.out 4) | ((with_reducible refine gate_callee (f := 18) rfl ?_); refine gl_ (some 27) Tryd.func18 #[.agg #[.int .i64 t400, .int .i64 t401, .bool t402, .bool t403, .bool t404], .agg #[.int .i64 t405, .int .i64 t406, .bool t407, .bool t408, .bool t409]] ?_; (with_reducible refine (impl_Params.calls k t400 t401 t402 t403 t404 t405 t406 t407 t408 t409 t412 _ A7.out).mono ?_); rintro e w28 ⟨v413, rfl, ho0, hb⟩; refine ⟨_, rfl, ?_⟩; have n0_ := am (Kd.R_elder' (by (with_reducible repeat (first | apply r1 | apply r2 | apply r3)); exact (Kd.R_mono (Kd.R_mono (Kd.R_far (p := ⟨gb411, 4, none⟩) (Kd.R_far (p := ⟨gb411, 3, none⟩) (Kd.R_far (p := ⟨gb411, 2, none⟩) (Kd.R_far (p := ⟨gb411, 1, none⟩) (Kd.R_far (p := ⟨gb411, 0, none⟩) (Kd.R_far (p := ⟨gb410, 4, none⟩) (Kd.R_far (p := ⟨gb410, 3, none⟩) (Kd.R_far (p := ⟨gb410, 2, none⟩) (Kd.R_far (p := ⟨gb410, 1, none⟩) (Kd.R_far (p := ⟨gb410, 0, none⟩) (Kd.R_types (Kd.R_types HO392.out BK410.out (by decide)) BK411.out (by decide)) (fun _ hk => hk.1.2) (.int .i64 t400)) (fun _ hk => hk.1.2) (.int .i64 t401)) (fun _ hk => hk.1.2) (.bool t402)) (fun _ hk => hk.1.2) (.bool t403)) (fun _ hk => hk.1.2) (.bool t404)) (fun _ hk => hk.2) (.int .i64 t405)) (fun _ hk => hk.2) (.int .i64 t406)) (fun _ hk => hk.2) (.bool t407)) (fun _ hk => hk.2) (.bool t408)) (fun _ hk => hk.2) (.bool t409)) (fun _ h_ => h_.1)) (fun _ h_ => h_.1))) (Kd.R_base ho0) hb); have n1_ := am (Kd.R_lower (Kd.R_new' ho0 (Kd.R_lt (by (with_reducible repeat (first | apply r1 | apply r2 | apply r3)); exact (Kd.R_mono (Kd.R_mono (Kd.R_far (p := ⟨gb411, 4, none⟩) (Kd.R_far (p := ⟨gb411, 3, none⟩) (Kd.R_far (p := ⟨gb411, 2, none⟩) (Kd.R_far (p := ⟨gb411, 1, none⟩) (Kd.R_far (p := ⟨gb411, 0, none⟩) (Kd.R_far (p := ⟨gb410, 4, none⟩) (Kd.R_far (p := ⟨gb410, 3, none⟩) (Kd.R_far (p := ⟨gb410, 2, none⟩) (Kd.R_far (p := ⟨gb410, 1, none⟩) (Kd.R_far (p := ⟨gb410, 0, none⟩) (Kd.R_types (Kd.R_types HO392.out BK410.out (by decide)) BK411.out (by decide)) (fun _ hk => hk.1.2) (.int .i64 t400)) (fun _ hk => hk.1.2) (.int .i64 t401)) (fun _ hk => hk.1.2) (.bool t402)) (fun _ hk => hk.1.2) (.bool t403)) (fun _ hk => hk.1.2) (.bool t404)) (fun _ hk => hk.2) (.int .i64 t405)) (fun _ hk => hk.2) (.int .i64 t406)) (fun _ hk => hk.2) (.bool t407)) (fun _ hk => hk.2) (.bool t408)) (fun _ hk => hk.2) (.bool t409)) (fun _ h_ => h_.1)) (fun _ h_ => h_.1))))) (below_size (by repeat (first | (with_reducible first | exact HB.out | apply b1 | apply b2 | apply b3 | refine below_set ?_ GE393.out | refine below_set ?_ GE399.out | refine below_set ?_ GE410.out | refine below_set ?_ GE411.out) | exact HB.out)))); have n2_ := am (blk_below (g := gb393) (o := .cells #[.int .i64 t385, .int .i64 t386, .bool t387, .bool t388, .bool t389] 25 (0, 0)) (by (with_reducible repeat (first | apply k1 | apply k2 | apply k3)); refine blk_far ?_ NB393_411.out _; (with_reducible repeat (first | apply k1 | apply k2 | apply k3)); refine blk_far ?_ NB393_411.out _; (with_reducible repeat (first | apply k1 | apply k2 | apply k3)); refine blk_far ?_ NB393_411.out _; (with_reducible repeat (first | apply k1 | apply k2 | apply k3)); refine blk_far ?_ NB393_411.out _; (with_reducible repeat (first | apply k1 | apply k2 | apply k3)); refine blk_far ?_ NB393_411.out _; (with_reducible repeat (first | apply k1 | apply k2 | apply k3)); refine blk_far ?_ NB393_410.out _; (with_reducible repeat (first | apply k1 | apply k2 | apply k3)); refine blk_far ?_ NB393_410.out _; (with_reducible repeat (first | apply k1 | apply k2 | apply k3)); refine blk_far ?_ NB393_410.out _; (with_reducible repeat (first | apply k1 | apply k2 | apply k3)); refine blk_far ?_ NB393_410.out _; (with_reducible repeat (first | apply k1 | apply k2 | apply k3)); refine blk_far ?_ NB393_410.out _; (with_reducible repeat (first | apply k1 | apply k2 | apply k3)); exact BK393.out) hb); have n3_ := am (blk_below (g := gb399) (o := .cells #[.int .i64 t394, .int .i64 t395, .bool t396, .bool t397, .bool t398] 25 (0, 0)) (by (with_reducible repeat (first | apply k1 | apply k2 | apply k3)); refine blk_far ?_ NB399_411.out _; (with_reducible repeat (first | apply k1 | apply k2 | apply k3)); refine blk_far ?_ NB399_411.out _; (with_reducible repeat (first | apply k1 | apply k2 | apply k3)); refine blk_far ?_ NB399_411.out _; (with_reducible repeat (first | apply k1 | apply k2 | apply k3)); refine blk_far ?_ NB399_411.out _; (with_reducible repeat (first | apply k1 | apply k2 | apply k3)); refine blk_far ?_ NB399_411.out _; (with_reducible repeat (first | apply k1 | apply k2 | apply k3)); refine blk_far ?_ NB399_410.out _; (with_reducible repeat (first | apply k1 | apply k2 | apply k3)); refine blk_far ?_ NB399_410.out _; (with_reducible repeat (first | apply k1 | apply k2 | apply k3)); refine blk_far ?_ NB399_410.out _; (with_reducible repeat (first | apply k1 | apply k2 | apply k3)); refine blk_far ?_ NB399_410.out _; (with_reducible repeat (first | apply k1 | apply k2 | apply k3)); refine blk_far ?_ NB399_410.out _; (with_reducible repeat (first | apply k1 | apply k2 | apply k3)); exact BK399.out) hb); have n4_ := am (blk_below (g := gb410) (o := .cells #[.int .i64 t400, .int .i64 t401, .bool t402, .bool t403, .bool t404] 25 (0, 0)) (by (with_reducible repeat (first | apply k1 | apply k2 | apply k3)); refine blk_far ?_ NB410_411.out _; (with_reducible repeat (first | apply k1 | apply k2 | apply k3)); refine blk_far ?_ NB410_411.out _; (with_reducible repeat (first | apply k1 | apply k2 | apply k3)); refine blk_far ?_ NB410_411.out _; (with_reducible repeat (first | apply k1 | apply k2 | apply k3)); refine blk_far ?_ NB410_411.out _; (with_reducible repeat (first | apply k1 | apply k2 | apply k3)); refine blk_far ?_ NB410_411.out _; (with_reducible repeat (first | apply k1 | apply k2 | apply k3)); refine blk_put (cs := #[.int .i64 t400, .int .i64 t401, .bool t402, .bool t403, .bool false]) ?_ 4 _ rfl; (with_reducible repeat (first | apply k1 | apply k2 | apply k3)); refine blk_put (cs := #[.int .i64 t400, .int .i64 t401, .bool t402, .bool false, .bool false]) ?_ 3 _ rfl; (with_reducible repeat (first | apply k1 | apply k2 | apply k3)); refine blk_put (cs := #[.int .i64 t400, .int .i64 t401, .bool false, .bool false, .bool false]) ?_ 2 _ rfl; (with_reducible repeat (first | apply k1 | apply k2 | apply k3)); refine blk_put (cs := #[.int .i64 t400, .int .i64 0, .bool false, .bool false, .bool false]) ?_ 1 _ rfl; (with_reducible repeat (first | apply k1 | apply k2 | apply k3)); refine blk_put (cs := #[.int .i64 0, .int .i64 0, .bool false, .bool false, .bool false]) ?_ 0 _ rfl; (with_reducible repeat (first | apply k1 | apply k2 | apply k3)); exact BK410.out) hb); have n5_ := am (blk_below (g := gb411) (o := .cells #[.int .i64 t405, .int .i64 t406, .bool t407, .bool t408, .bool t409] 25 (0, 0)) (by (with_reducible repeat (first | apply k1 | apply k2 | apply k3)); refine blk_put (cs := #[.int .i64 t405, .int .i64 t406, .bool t407, .bool t408, .bool false]) ?_ 4 _ rfl; (with_reducible repeat (first | apply k1 | apply k2 | apply k3)); refine blk_put (cs := #[.int .i64 t405, .int .i64 t406, .bool t407, .bool false, .bool false]) ?_ 3 _ rfl; (with_reducible repeat (first | apply k1 | apply k2 | apply k3)); refine blk_put (cs := #[.int .i64 t405, .int .i64 t406, .bool false, .bool false, .bool false]) ?_ 2 _ rfl; (with_reducible repeat (first | apply k1 | apply k2 | apply k3)); refine blk_put (cs := #[.int .i64 t405, .int .i64 0, .bool false, .bool false, .bool false]) ?_ 1 _ rfl; (with_reducible repeat (first | apply k1 | apply k2 | apply k3)); refine blk_put (cs := #[.int .i64 0, .int .i64 0, .bool false, .bool false, .bool false]) ?_ 0 _ rfl; (with_reducible repeat (first | apply k1 | apply k2 | apply k3)); refine blk_far ?_ NB411_410.out _; (with_reducible repeat (first | apply k1 | apply k2 | apply k3)); refine blk_far ?_ NB411_410.out _; (with_reducible repeat (first | apply k1 | apply k2 | apply k3)); refine blk_far ?_ NB411_410.out _; (with_reducible repeat (first | apply k1 | apply k2 | apply k3)); refine blk_far ?_ NB411_410.out _; (with_reducible repeat (first | apply k1 | apply k2 | apply k3)); refine blk_far ?_ NB411_410.out _; (with_reducible repeat (first | apply k1 | apply k2 | apply k3)); exact BK411.out) hb); have n6_ := am (below_step (by repeat (first | (with_reducible first | exact HB.out | apply b1 | apply b2 | apply b3 | refine below_set ?_ GE393.out | refine below_set ?_ GE399.out | refine below_set ?_ GE410.out | refine below_set ?_ GE411.out) | exact HB.out)) hb); clear HO392; clear BK393; clear BK399; clear BK410; clear BK411; clear HB; have HO392 := n0_; have HO414 := n1_; have BK393 := n2_; have BK399 := n3_; have BK410 := n4_; have BK411 := n5_; have HB := n6_; clear n0_ n1_ n2_ n3_ n4_ n5_ n6_; (try clear hb); (try clear hb2); (try clear hk); (try clear hi); (try clear ho0); have hcz29_0 : w28.cell? ⟨gb410, 0, none⟩ = some (.int .i64 t400) := (blk_cell BK410.out 0).trans rfl; have hcz29_1 : w28.cell? ⟨gb410, 1, none⟩ = some (.int .i64 t401) := (blk_cell BK410.out 1).trans rfl; have hcz29_2 : w28.cell? ⟨gb410, 2, none⟩ = some (.bool t402) := (blk_cell BK410.out 2).trans rfl; have hcz29_3 : w28.cell? ⟨gb410, 3, none⟩ = some (.bool t403) := (blk_cell BK410.out 3).trans rfl; have hcz29_4 : w28.cell? ⟨gb410, 4, none⟩ = some (.bool t404) := (blk_cell BK410.out 4).trans rfl; have hfz29_0 := blk_frozen BK410.out 0; have hfz29_1 := blk_frozen BK410.out 1; have hfz29_2 := blk_frozen BK410.out 2; have hfz29_3 := blk_frozen BK410.out 3; have hfz29_4 := blk_frozen BK410.out 4; have hcz30_0 : w28.cell? ⟨gb411, 0, none⟩ = some (.int .i64 t405) := (blk_cell BK411.out 0).trans rfl; have hcz30_1 : w28.cell? ⟨gb411, 1, none⟩ = some (.int .i64 t406) := (blk_cell BK411.out 1).trans rfl; have hcz30_2 : w28.cell? ⟨gb411, 2, none⟩ = some (.bool t407) := (blk_cell BK411.out 2).trans rfl; have hcz30_3 : w28.cell? ⟨gb411, 3, none⟩ = some (.bool t408) := (blk_cell BK411.out 3).trans rfl; have hcz30_4 : w28.cell? ⟨gb411, 4, none⟩ = some (.bool t409) := (blk_cell BK411.out 4).trans rfl; have hfz30_0 := blk_frozen BK411.out 0; have hfz30_1 := blk_frozen BK411.out 1; have hfz30_2 := blk_frozen BK411.out 2; have hfz30_3 := blk_frozen BK411.out 3; have hfz30_4 := blk_frozen BK411.out 4) | ((with_reducible refine gate_callee (f := 8) rfl ?_); refine gl_ (some 30) Tryd.func8 #[.agg #[.int .i64 t400, .int .i64 t401, .bool t402, .bool t403, .bool t404], .agg #[.int .i64 t405, .int .i64 t406, .bool t407, .bool t408, .bool t409]] ?_; (with_reducible refine (impl_Sign.calls k t400 t401 t402 t403 t404 t405 t406 t407 t408 t409 t415 _ A8.out).mono ?_); rintro e w31 ⟨rfl, hb⟩; refine ⟨_, rfl, ?_⟩; have n0_ := am (Kd.R_below (rr HO392) hb); have n1_ := am (Kd.R_below (rr HO414) hb); have n2_ := am (blk_below (g := gb393) (o := .cells #[.int .i64 t385, .int .i64 t386, .bool t387, .bool t388, .bool t389] 25 (0, 0)) (rk BK393) hb); have n3_ := am (blk_below (g := gb399) (o := .cells #[.int .i64 t394, .int .i64 t395, .bool t396, .bool t397, .bool t398] 25 (0, 0)) (rk BK399) hb); have n4_ := am (blk_below (g := gb410) (o := .cells #[.int .i64 t400, .int .i64 t401, .bool t402, .bool t403, .bool t404] 25 (0, 0)) (rk BK410) hb); have n5_ := am (blk_below (g := gb411) (o := .cells #[.int .i64 t405, .int .i64 t406, .bool t407, .bool t408, .bool t409] 25 (0, 0)) (rk BK411) hb); have n6_ := am (below_step (by repeat (first | (with_reducible first | exact HB.out | apply b1 | apply b2 | apply b3 | refine below_set ?_ GE393.out | refine below_set ?_ GE399.out | refine below_set ?_ GE410.out | refine below_set ?_ GE411.out) | exact HB.out)) hb); clear HO392; clear HO414; clear BK393; clear BK399; clear BK410; clear BK411; clear HB; have HO392 := n0_; have HO414 := n1_; have BK393 := n2_; have BK399 := n3_; have BK410 := n4_; have BK411 := n5_; have HB := n6_; clear n0_ n1_ n2_ n3_ n4_ n5_ n6_; (try clear hb); (try clear hb2); (try clear hk); (try clear hi)))
  (try simp only [Act.put, List.setIfInBounds_toArray, List.set_cons_zero, List.set_cons_succ])
  go_cut [57] (fun v57 wc => ∃ (kq : Nat) (x57_8 : Bool), v57 = .bool x57_8 ∧ Aside0 (laws_FnStyles.j0 kq t412 t415 x57_8 t394 t395 t396 t397 t398 t400 t401 t402 t403 t404 t405 t406 t407 t408 t409 = some r) ∧ Aside0 (kq ≤ k) ∧ Aside0 (Kd.R (Kd.int .i64) 2 wc w.heap.size (fun _ => True) v413 t412) ∧ Aside0 (wc.heap[gb393]? = some (.cells #[.int .i64 t385, .int .i64 t386, .bool t387, .bool t388, .bool t389] 25 (0, 0))) ∧ Aside0 (wc.heap[gb399]? = some (.cells #[.int .i64 t394, .int .i64 t395, .bool t396, .bool t397, .bool t398] 25 (0, 0))) ∧ Aside0 (wc.heap[gb410]? = some (.cells #[.int .i64 t400, .int .i64 t401, .bool t402, .bool t403, .bool t404] 25 (0, 0))) ∧ Aside0 (wc.heap[gb411]? = some (.cells #[.int .i64 t405, .int .i64 t406, .bool t407, .bool t408, .bool t409] 25 (0, 0))) ∧ Aside0 (Below w.heap.size w wc))
  case first =>
   have H := HC9.out
   clear HC9
   replace H := Option.bind_eq_some_iff.mp H
   obtain ⟨⟨t416, t417, t418, t419, t420⟩, A320, H⟩ := H
   replace H : (if (!(t394 == t416) || (!(t395 == t417) || (!(t396 == t418) || (!(t397 == t419) || (!(t398 == t420)))))) = true then (laws_FnStyles.j0 k t412 t415 true t394 t395 t396 t397 t398 t400 t401 t402 t403 t404 t405 t406 t407 t408 t409) else ((spec_Params.f k t400 t401 t402 t403 t404 t405 t406 t407 t408 t409).bind fun t421 => ((laws_likeInts.f k t412 t421).bind fun t424 => (if t424 = true then ((spec_Sign.f k t400 t401 t402 t403 t404 t405 t406 t407 t408 t409).bind fun t425 => (if t415.toList = t425.toList then ((impl_StyleOk.f t385 t386 t387 t388 t389).bind fun t426 => ((spec_StyleOk.f t385 t386 t387 t388 t389).bind fun t427 => (laws_FnStyles.j0 k t412 t415 (t426 != t427) t394 t395 t396 t397 t398 t400 t401 t402 t403 t404 t405 t406 t407 t408 t409))) else (laws_FnStyles.j0 k t412 t415 true t394 t395 t396 t397 t398 t400 t401 t402 t403 t404 t405 t406 t407 t408 t409))) else (laws_FnStyles.j0 k t412 t415 true t394 t395 t396 t397 t398 t400 t401 t402 t403 t404 t405 t406 t407 t408 t409))))) = some r := H
   have A32 := am A320
   clear A320
   by_cases c33 : (!(t394 == t416) || (!(t395 == t417) || (!(t396 == t418) || (!(t397 == t419) || (!(t398 == t420)))))) = true
   ·rw [if_pos c33] at H
    have c33b0 : (!(t394 == t416) || (!(t395 == t417) || (!(t396 == t418) || (!(t397 == t419) || (!(t398 == t420)))))) = true := c33
    clear c33
    (first | rw [c33b0] | (simp only [i64_w, i32_w]; rw [c33b0]) | skip)
    have H' := am H
    clear H
    try go_wp2
    have n0_ := am (Kd.R_drew HO392.out)
    have n1_ := am (Kd.R_drew HO414.out)
    have n2_ := am (blk_drew BK393.out)
    have n3_ := am (blk_drew BK399.out)
    have n4_ := am (blk_drew BK410.out)
    have n5_ := am (blk_drew BK411.out)
    have n6_ := am (below_drew1 HB.out)
    clear HO392
    clear HO414
    clear BK393
    clear BK399
    clear BK410
    clear BK411
    clear HB
    have HO392 := n0_
    have HO414 := n1_
    have BK393 := n2_
    have BK399 := n3_
    have BK410 := n4_
    have BK411 := n5_
    have HB := n6_
    clear n0_ n1_ n2_ n3_ n4_ n5_ n6_
    refine start_ (n := 27) (S := fun w' => w'.cell? ⟨gb399, 0, none⟩ = some (.int .i64 t394) ∧ w'.cell? ⟨gb399, 1, none⟩ = some (.int .i64 t395) ∧ w'.cell? ⟨gb399, 2, none⟩ = some (.bool t396) ∧ w'.cell? ⟨gb399, 3, none⟩ = some (.bool t397) ∧ w'.cell? ⟨gb399, 4, none⟩ = some (.bool t398) ∧ w'.cell? ⟨gb393, 0, none⟩ = some (.int .i64 t385) ∧ w'.cell? ⟨gb393, 1, none⟩ = some (.int .i64 t386) ∧ w'.cell? ⟨gb393, 2, none⟩ = some (.bool t387) ∧ w'.cell? ⟨gb393, 3, none⟩ = some (.bool t388) ∧ w'.cell? ⟨gb393, 4, none⟩ = some (.bool t389)) (ds := []) (bm 27 0) (by kernel_rfl) rfl rfl ⟨(blk_cell BK399.out 0).trans rfl, (blk_cell BK399.out 1).trans rfl, (blk_cell BK399.out 2).trans rfl, (blk_cell BK399.out 3).trans rfl, (blk_cell BK399.out 4).trans rfl, (blk_cell BK393.out 0).trans rfl, (blk_cell BK393.out 1).trans rfl, (blk_cell BK393.out 2).trans rfl, (blk_cell BK393.out 3).trans rfl, (blk_cell BK393.out 4).trans rfl⟩ (fun hHeld => ?_); refine with_tabW laws_FnStyles.tab8 laws_FnStyles.bits8 (fun HT_ HW_ => ?_)
    generalize w31.drew = w34 at HO392 HO414 BK393 BK399 BK410 BK411 HB hHeld ⊢
    refine pu_ 2 33 (bm 27 4) HT_.out ?_
    refine take_ (i := 0) (N := some 31) (v := ?_) (a' := ?_) (bm 27 5) rfl rfl (take_ofW HT_.out HW_.out (by kernel_rfl)) (fun _ _ _ h => h) (Or.inl ⟨by rfl, ?_⟩) hHeld ?_ ?_
    rotate_left
    ·rintro w' ⟨s0, s1, s2, s3, s4, s5, s6, s7, s8, s9⟩
     go_simp
     with_reducible rfl
    rotate_left
    ·simp only [Act.put, List.setIfInBounds_toArray, List.set_cons_zero, List.set_cons_succ, i64_w, i32_w]
     rfl
    refine take_ (i := 1) (N := some 32) (v := ?_) (a' := ?_) (bm 27 7) rfl rfl (take_ofW HT_.out HW_.out (by kernel_rfl)) (fun _ _ _ h => h) (Or.inl ⟨by rfl, ?_⟩) hHeld ?_ ?_
    rotate_left
    ·rintro w' ⟨s0, s1, s2, s3, s4, s5, s6, s7, s8, s9⟩
     go_simp
     with_reducible rfl
    rotate_left
    ·simp only [Act.put, List.setIfInBounds_toArray, List.set_cons_zero, List.set_cons_succ, i64_w, i32_w]
     rfl
    refine one_ (i := 3) (N := some 34) (bm 27 15) rfl rfl (one_of HT_.out (by kernel_rfl)) (by decide) (fun K hK => ?_)
    refine goes_ Tryd.func19 (by kernel_rfl) rfl #[.agg #[.int .i64 t385, .int .i64 t386, .bool t387, .bool t388, .bool t389], .slice Ao13 t390.length co13] (by rfl) rfl rfl (by (try simp only [List.map_toArray, List.map_cons, List.map_nil]); first | done | rfl | (simp only [List.length_drop, List.length_take]; rfl)) ?_
    with_reducible refine (spec_Styled.calls k t385 t386 t387 t388 t389 _ _ t390 t416 t417 t418 t419 t420 _ ?side1 ?side2 A32.out).mono ?_
    (case side1 => repeat (first | exact (Kd.R_reads' HO392.out).2.2 | (with_reducible refine Kd.C_alloc ?_ _) | (with_reducible refine Kd.C_drewN ?_ _) | (with_reducible refine Kd.C_drew ?_)))
    (case side2 => exact (Kd.R_reads' HO392.out).2.1)
    rintro e w35 ⟨rfl, hb⟩
    refine ⟨_, rfl, ?_⟩
    have n0_ := am (Kd.R_below (rr HO392) hb)
    have n1_ := am (Kd.R_below (rr HO414) hb)
    have n2_ := am (blk_below (g := gb393) (o := .cells #[.int .i64 t385, .int .i64 t386, .bool t387, .bool t388, .bool t389] 25 (0, 0)) (rk BK393) hb)
    have n3_ := am (blk_below (g := gb399) (o := .cells #[.int .i64 t394, .int .i64 t395, .bool t396, .bool t397, .bool t398] 25 (0, 0)) (rk BK399) hb)
    have n4_ := am (blk_below (g := gb410) (o := .cells #[.int .i64 t400, .int .i64 t401, .bool t402, .bool t403, .bool t404] 25 (0, 0)) (rk BK410) hb)
    have n5_ := am (blk_below (g := gb411) (o := .cells #[.int .i64 t405, .int .i64 t406, .bool t407, .bool t408, .bool t409] 25 (0, 0)) (rk BK411) hb)
    have n6_ := am (below_step (by repeat (first | (with_reducible first | exact HB.out | apply b1 | apply b2 | apply b3 | refine below_set ?_ GE393.out | refine below_set ?_ GE399.out | refine below_set ?_ GE410.out | refine below_set ?_ GE411.out) | exact HB.out)) hb)
    clear HO392
    clear HO414
    clear BK393
    clear BK399
    clear BK410
    clear BK411
    clear HB
    have HO392 := n0_
    have HO414 := n1_
    have BK393 := n2_
    have BK399 := n3_
    have BK410 := n4_
    have BK411 := n5_
    have HB := n6_
    clear n0_ n1_ n2_ n3_ n4_ n5_ n6_
    (try clear hb)
    (try clear hb2)
    (try clear hk)
    (try clear hi)
    refine hK.out _ _ ⟨(blk_cell BK399.out 0).trans rfl, (blk_cell BK399.out 1).trans rfl, (blk_cell BK399.out 2).trans rfl, (blk_cell BK399.out 3).trans rfl, (blk_cell BK399.out 4).trans rfl, (blk_cell BK393.out 0).trans rfl, (blk_cell BK393.out 1).trans rfl, (blk_cell BK393.out 2).trans rfl, (blk_cell BK393.out 3).trans rfl, (blk_cell BK393.out 4).trans rfl⟩ (fun hHeld => ?_)
    clear hK K
    refine norm_ (a' := ?_) ?_ ?_
    rotate_left
    ·show Act.put _ (some 34) _ = _
     simp only [Act.put, List.setIfInBounds_toArray, List.set_cons_zero, List.set_cons_succ, i64_w, i32_w]
     rfl
    refine pu_ 4 35 (bm 27 31) HT_.out ?_
    refine pu_ 5 36 (bm 27 63) HT_.out ?_
    refine un_ 6 37 (bm 27 127) HT_.out ?_
    refine un_ 7 38 (bm 27 255) HT_.out ?_
    refine un_ 8 39 (bm 27 511) HT_.out ?_
    refine un_ 9 40 (bm 27 1023) HT_.out ?_
    refine un_ 10 41 (bm 27 2047) HT_.out ?_
    refine un_ 11 42 (bm 27 4095) HT_.out ?_
    refine pu_ 12 43 (bm 27 8191) HT_.out ?_
    refine pu_ 13 44 (bm 27 16383) HT_.out ?_
    refine un_ 14 45 (bm 27 32767) HT_.out ?_
    refine un_ 15 46 (bm 27 65535) HT_.out ?_
    refine un_ 16 47 (bm 27 131071) HT_.out ?_
    refine un_ 17 48 (bm 27 262143) HT_.out ?_
    refine un_ 18 49 (bm 27 524287) HT_.out ?_
    refine pu_ 19 50 (bm 27 1048575) HT_.out ?_
    refine pu_ 20 51 (bm 27 2097151) HT_.out ?_
    refine un_ 21 52 (bm 27 4194303) HT_.out ?_
    refine un_ 22 53 (bm 27 8388607) HT_.out ?_
    refine un_ 23 54 (bm 27 16777215) HT_.out ?_
    refine un_ 24 55 (bm 27 33554431) HT_.out ?_
    refine un_ 25 56 (bm 27 67108863) HT_.out ?_
    refine pu_ 26 57 (bm 27 134217727) HT_.out ?_
    refine done_ (done_of HT_.out (by kernel_rfl)) ?_
    try go_wp2
    go_meet
    case rel => exact ⟨_, (true), (by first | rfl | (simp; done) | (simp [*]; done)), H', ⟨by first | omega | exact Nat.le_refl _⟩, ⟨by (with_reducible repeat (first | apply r1 | apply r2 | apply r3)); exact Kd.R_mono HO414.out (fun _ hk => trivial)⟩, ⟨rk BK393⟩, ⟨rk BK399⟩, ⟨rk BK410⟩, ⟨rk BK411⟩, ⟨by repeat (first | (with_reducible first | exact HB.out | apply b1 | apply b2 | apply b3 | refine below_set ?_ GE393.out | refine below_set ?_ GE399.out | refine below_set ?_ GE410.out | refine below_set ?_ GE411.out) | exact HB.out)⟩⟩
   ·rw [if_neg c33] at H
    have c33b0 : (!(t394 == t416) || (!(t395 == t417) || (!(t396 == t418) || (!(t397 == t419) || (!(t398 == t420)))))) = false := by simpa using c33
    clear c33
    (first | rw [c33b0] | (simp only [i64_w, i32_w]; rw [c33b0]) | skip)
    replace H := Option.bind_eq_some_iff.mp H
    obtain ⟨t421, A360, H⟩ := H
    replace H : ((laws_likeInts.f k t412 t421).bind fun t424 => (if t424 = true then ((spec_Sign.f k t400 t401 t402 t403 t404 t405 t406 t407 t408 t409).bind fun t425 => (if t415.toList = t425.toList then ((impl_StyleOk.f t385 t386 t387 t388 t389).bind fun t426 => ((spec_StyleOk.f t385 t386 t387 t388 t389).bind fun t427 => (laws_FnStyles.j0 k t412 t415 (t426 != t427) t394 t395 t396 t397 t398 t400 t401 t402 t403 t404 t405 t406 t407 t408 t409))) else (laws_FnStyles.j0 k t412 t415 true t394 t395 t396 t397 t398 t400 t401 t402 t403 t404 t405 t406 t407 t408 t409))) else (laws_FnStyles.j0 k t412 t415 true t394 t395 t396 t397 t398 t400 t401 t402 t403 t404 t405 t406 t407 t408 t409))) = some r := H
    have A36 := am A360
    clear A360
    replace H := Option.bind_eq_some_iff.mp H
    obtain ⟨t424, A370, H⟩ := H
    replace H : (if t424 = true then ((spec_Sign.f k t400 t401 t402 t403 t404 t405 t406 t407 t408 t409).bind fun t425 => (if t415.toList = t425.toList then ((impl_StyleOk.f t385 t386 t387 t388 t389).bind fun t426 => ((spec_StyleOk.f t385 t386 t387 t388 t389).bind fun t427 => (laws_FnStyles.j0 k t412 t415 (t426 != t427) t394 t395 t396 t397 t398 t400 t401 t402 t403 t404 t405 t406 t407 t408 t409))) else (laws_FnStyles.j0 k t412 t415 true t394 t395 t396 t397 t398 t400 t401 t402 t403 t404 t405 t406 t407 t408 t409))) else (laws_FnStyles.j0 k t412 t415 true t394 t395 t396 t397 t398 t400 t401 t402 t403 t404 t405 t406 t407 t408 t409)) = some r := H
    have A37 := am A370
    clear A370
    by_cases c38 : t424 = true
    ·subst c38
     have H1 : ((spec_Sign.f k t400 t401 t402 t403 t404 t405 t406 t407 t408 t409).bind fun t425 => (if t415.toList = t425.toList then ((impl_StyleOk.f t385 t386 t387 t388 t389).bind fun t426 => ((spec_StyleOk.f t385 t386 t387 t388 t389).bind fun t427 => (laws_FnStyles.j0 k t412 t415 (t426 != t427) t394 t395 t396 t397 t398 t400 t401 t402 t403 t404 t405 t406 t407 t408 t409))) else (laws_FnStyles.j0 k t412 t415 true t394 t395 t396 t397 t398 t400 t401 t402 t403 t404 t405 t406 t407 t408 t409))) = some r := by rw [if_pos rfl] at H; exact H
     clear H
     have H := H1
     clear H1
     replace H := Option.bind_eq_some_iff.mp H
     obtain ⟨t425, A390, H⟩ := H
     replace H : (if t415.toList = t425.toList then ((impl_StyleOk.f t385 t386 t387 t388 t389).bind fun t426 => ((spec_StyleOk.f t385 t386 t387 t388 t389).bind fun t427 => (laws_FnStyles.j0 k t412 t415 (t426 != t427) t394 t395 t396 t397 t398 t400 t401 t402 t403 t404 t405 t406 t407 t408 t409))) else (laws_FnStyles.j0 k t412 t415 true t394 t395 t396 t397 t398 t400 t401 t402 t403 t404 t405 t406 t407 t408 t409)) = some r := H
     have A39 := am A390
     clear A390
     by_cases c40 : t415.toList = t425.toList
     ·rw [if_pos c40] at H
      have c40b0 : (t415.toList == t425.toList) = true := beq_iff_eq.mpr c40
      have c40b1 : (t415.toList != t425.toList) = false := bne_eq_false_iff_eq.mpr c40
      clear c40
      replace H := Option.bind_eq_some_iff.mp H
      obtain ⟨t426, A410, H⟩ := H
      replace H : ((spec_StyleOk.f t385 t386 t387 t388 t389).bind fun t427 => (laws_FnStyles.j0 k t412 t415 (t426 != t427) t394 t395 t396 t397 t398 t400 t401 t402 t403 t404 t405 t406 t407 t408 t409)) = some r := H
      have A41 := am A410
      clear A410
      replace H := Option.bind_eq_some_iff.mp H
      obtain ⟨t427, A420, H⟩ := H
      replace H : (laws_FnStyles.j0 k t412 t415 (t426 != t427) t394 t395 t396 t397 t398 t400 t401 t402 t403 t404 t405 t406 t407 t408 t409) = some r := H
      have A42 := am A420
      clear A420
      have H' := am H
      clear H
      try go_wp2
      have n0_ := am (Kd.R_drew HO392.out)
      have n1_ := am (Kd.R_drew HO414.out)
      have n2_ := am (blk_drew BK393.out)
      have n3_ := am (blk_drew BK399.out)
      have n4_ := am (blk_drew BK410.out)
      have n5_ := am (blk_drew BK411.out)
      have n6_ := am (below_drew1 HB.out)
      clear HO392
      clear HO414
      clear BK393
      clear BK399
      clear BK410
      clear BK411
      clear HB
      have HO392 := n0_
      have HO414 := n1_
      have BK393 := n2_
      have BK399 := n3_
      have BK410 := n4_
      have BK411 := n5_
      have HB := n6_
      clear n0_ n1_ n2_ n3_ n4_ n5_ n6_
      refine start_ (n := 27) (S := fun w' => w'.cell? ⟨gb399, 0, none⟩ = some (.int .i64 t394) ∧ w'.cell? ⟨gb399, 1, none⟩ = some (.int .i64 t395) ∧ w'.cell? ⟨gb399, 2, none⟩ = some (.bool t396) ∧ w'.cell? ⟨gb399, 3, none⟩ = some (.bool t397) ∧ w'.cell? ⟨gb399, 4, none⟩ = some (.bool t398) ∧ w'.cell? ⟨gb393, 0, none⟩ = some (.int .i64 t385) ∧ w'.cell? ⟨gb393, 1, none⟩ = some (.int .i64 t386) ∧ w'.cell? ⟨gb393, 2, none⟩ = some (.bool t387) ∧ w'.cell? ⟨gb393, 3, none⟩ = some (.bool t388) ∧ w'.cell? ⟨gb393, 4, none⟩ = some (.bool t389) ∧ w'.cell? ⟨gb410, 0, none⟩ = some (.int .i64 t400) ∧ w'.cell? ⟨gb410, 1, none⟩ = some (.int .i64 t401) ∧ w'.cell? ⟨gb410, 2, none⟩ = some (.bool t402) ∧ w'.cell? ⟨gb410, 3, none⟩ = some (.bool t403) ∧ w'.cell? ⟨gb410, 4, none⟩ = some (.bool t404) ∧ w'.cell? ⟨gb411, 0, none⟩ = some (.int .i64 t405) ∧ w'.cell? ⟨gb411, 1, none⟩ = some (.int .i64 t406) ∧ w'.cell? ⟨gb411, 2, none⟩ = some (.bool t407) ∧ w'.cell? ⟨gb411, 3, none⟩ = some (.bool t408) ∧ w'.cell? ⟨gb411, 4, none⟩ = some (.bool t409)) (ds := []) (bm 27 0) (by kernel_rfl) rfl rfl ⟨(blk_cell BK399.out 0).trans rfl, (blk_cell BK399.out 1).trans rfl, (blk_cell BK399.out 2).trans rfl, (blk_cell BK399.out 3).trans rfl, (blk_cell BK399.out 4).trans rfl, (blk_cell BK393.out 0).trans rfl, (blk_cell BK393.out 1).trans rfl, (blk_cell BK393.out 2).trans rfl, (blk_cell BK393.out 3).trans rfl, (blk_cell BK393.out 4).trans rfl, (blk_cell BK410.out 0).trans rfl, (blk_cell BK410.out 1).trans rfl, (blk_cell BK410.out 2).trans rfl, (blk_cell BK410.out 3).trans rfl, (blk_cell BK410.out 4).trans rfl, (blk_cell BK411.out 0).trans rfl, (blk_cell BK411.out 1).trans rfl, (blk_cell BK411.out 2).trans rfl, (blk_cell BK411.out 3).trans rfl, (blk_cell BK411.out 4).trans rfl⟩ (fun hHeld => ?_); refine with_tabW laws_FnStyles.tab8 laws_FnStyles.bits8 (fun HT_ HW_ => ?_)
      generalize w31.drew = w43 at HO392 HO414 BK393 BK399 BK410 BK411 HB hHeld ⊢
      refine pu_ 2 33 (bm 27 4) HT_.out ?_
      refine take_ (i := 0) (N := some 31) (v := ?_) (a' := ?_) (bm 27 5) rfl rfl (take_ofW HT_.out HW_.out (by kernel_rfl)) (fun _ _ _ h => h) (Or.inl ⟨by rfl, ?_⟩) hHeld ?_ ?_
      rotate_left
      ·rintro w' ⟨s0, s1, s2, s3, s4, s5, s6, s7, s8, s9, s10, s11, s12, s13, s14, s15, s16, s17, s18, s19⟩
       go_simp
       with_reducible rfl
      rotate_left
      ·simp only [Act.put, List.setIfInBounds_toArray, List.set_cons_zero, List.set_cons_succ, i64_w, i32_w]
       rfl
      refine take_ (i := 1) (N := some 32) (v := ?_) (a' := ?_) (bm 27 7) rfl rfl (take_ofW HT_.out HW_.out (by kernel_rfl)) (fun _ _ _ h => h) (Or.inl ⟨by rfl, ?_⟩) hHeld ?_ ?_
      rotate_left
      ·rintro w' ⟨s0, s1, s2, s3, s4, s5, s6, s7, s8, s9, s10, s11, s12, s13, s14, s15, s16, s17, s18, s19⟩
       go_simp
       with_reducible rfl
      rotate_left
      ·simp only [Act.put, List.setIfInBounds_toArray, List.set_cons_zero, List.set_cons_succ, i64_w, i32_w]
       rfl
      refine one_ (i := 3) (N := some 34) (bm 27 15) rfl rfl (one_of HT_.out (by kernel_rfl)) (by decide) (fun K hK => ?_)
      refine goes_ Tryd.func19 (by kernel_rfl) rfl #[.agg #[.int .i64 t385, .int .i64 t386, .bool t387, .bool t388, .bool t389], .slice Ao13 t390.length co13] (by rfl) rfl rfl (by (try simp only [List.map_toArray, List.map_cons, List.map_nil]); first | done | rfl | (simp only [List.length_drop, List.length_take]; rfl)) ?_
      with_reducible refine (spec_Styled.calls k t385 t386 t387 t388 t389 _ _ t390 t416 t417 t418 t419 t420 _ ?side1 ?side2 A32.out).mono ?_
      (case side1 => repeat (first | exact (Kd.R_reads' HO392.out).2.2 | (with_reducible refine Kd.C_alloc ?_ _) | (with_reducible refine Kd.C_drewN ?_ _) | (with_reducible refine Kd.C_drew ?_)))
      (case side2 => exact (Kd.R_reads' HO392.out).2.1)
      rintro e w44 ⟨rfl, hb⟩
      refine ⟨_, rfl, ?_⟩
      have n0_ := am (Kd.R_below (rr HO392) hb)
      have n1_ := am (Kd.R_below (rr HO414) hb)
      have n2_ := am (blk_below (g := gb393) (o := .cells #[.int .i64 t385, .int .i64 t386, .bool t387, .bool t388, .bool t389] 25 (0, 0)) (rk BK393) hb)
      have n3_ := am (blk_below (g := gb399) (o := .cells #[.int .i64 t394, .int .i64 t395, .bool t396, .bool t397, .bool t398] 25 (0, 0)) (rk BK399) hb)
      have n4_ := am (blk_below (g := gb410) (o := .cells #[.int .i64 t400, .int .i64 t401, .bool t402, .bool t403, .bool t404] 25 (0, 0)) (rk BK410) hb)
      have n5_ := am (blk_below (g := gb411) (o := .cells #[.int .i64 t405, .int .i64 t406, .bool t407, .bool t408, .bool t409] 25 (0, 0)) (rk BK411) hb)
      have n6_ := am (below_step (by repeat (first | (with_reducible first | exact HB.out | apply b1 | apply b2 | apply b3 | refine below_set ?_ GE393.out | refine below_set ?_ GE399.out | refine below_set ?_ GE410.out | refine below_set ?_ GE411.out) | exact HB.out)) hb)
      clear HO392
      clear HO414
      clear BK393
      clear BK399
      clear BK410
      clear BK411
      clear HB
      have HO392 := n0_
      have HO414 := n1_
      have BK393 := n2_
      have BK399 := n3_
      have BK410 := n4_
      have BK411 := n5_
      have HB := n6_
      clear n0_ n1_ n2_ n3_ n4_ n5_ n6_
      (try clear hb)
      (try clear hb2)
      (try clear hk)
      (try clear hi)
      refine hK.out _ _ ⟨(blk_cell BK399.out 0).trans rfl, (blk_cell BK399.out 1).trans rfl, (blk_cell BK399.out 2).trans rfl, (blk_cell BK399.out 3).trans rfl, (blk_cell BK399.out 4).trans rfl, (blk_cell BK393.out 0).trans rfl, (blk_cell BK393.out 1).trans rfl, (blk_cell BK393.out 2).trans rfl, (blk_cell BK393.out 3).trans rfl, (blk_cell BK393.out 4).trans rfl, (blk_cell BK410.out 0).trans rfl, (blk_cell BK410.out 1).trans rfl, (blk_cell BK410.out 2).trans rfl, (blk_cell BK410.out 3).trans rfl, (blk_cell BK410.out 4).trans rfl, (blk_cell BK411.out 0).trans rfl, (blk_cell BK411.out 1).trans rfl, (blk_cell BK411.out 2).trans rfl, (blk_cell BK411.out 3).trans rfl, (blk_cell BK411.out 4).trans rfl⟩ (fun hHeld => ?_)
      clear hK K
      refine norm_ (a' := ?_) ?_ ?_
      rotate_left
      ·show Act.put _ (some 34) _ = _
       simp only [Act.put, List.setIfInBounds_toArray, List.set_cons_zero, List.set_cons_succ, i64_w, i32_w]
       rfl
      refine pu_ 4 35 (bm 27 31) HT_.out ?_
      refine pu_ 5 36 (bm 27 63) HT_.out ?_
      refine pu_ 6 37 (bm 27 127) HT_.out ?_
      refine take_ (i := 7) (N := some 38) (v := ?_) (a' := ?_) (bm 27 255) rfl rfl (take_ofW HT_.out HW_.out (by kernel_rfl)) (fun _ _ _ h => h) (Or.inl ⟨by rfl, ?_⟩) hHeld ?_ ?_
      rotate_left
      ·rintro w' ⟨s0, s1, s2, s3, s4, s5, s6, s7, s8, s9, s10, s11, s12, s13, s14, s15, s16, s17, s18, s19⟩
       go_simp
       with_reducible rfl
      rotate_left
      ·simp only [Act.put, List.setIfInBounds_toArray, List.set_cons_zero, List.set_cons_succ, i64_w, i32_w]
       rfl
      refine take_ (i := 8) (N := some 39) (v := ?_) (a' := ?_) (bm 27 511) rfl rfl (take_ofW HT_.out HW_.out (by kernel_rfl)) (fun _ _ _ h => h) (Or.inl ⟨by rfl, ?_⟩) hHeld ?_ ?_
      rotate_left
      ·rintro w' ⟨s0, s1, s2, s3, s4, s5, s6, s7, s8, s9, s10, s11, s12, s13, s14, s15, s16, s17, s18, s19⟩
       go_simp
       with_reducible rfl
      rotate_left
      ·simp only [Act.put, List.setIfInBounds_toArray, List.set_cons_zero, List.set_cons_succ, i64_w, i32_w]
       rfl
      refine one_ (i := 9) (N := some 40) (bm 27 1023) rfl rfl (one_of HT_.out (by kernel_rfl)) (by decide) (fun K hK => ?_)
      refine goes_ Tryd.func21 (by kernel_rfl) rfl #[.agg #[.int .i64 t400, .int .i64 t401, .bool t402, .bool t403, .bool t404], .agg #[.int .i64 t405, .int .i64 t406, .bool t407, .bool t408, .bool t409]] (by rfl) rfl rfl (by (try simp only [List.map_toArray, List.map_cons, List.map_nil]); first | done | rfl | (simp only [List.length_drop, List.length_take]; rfl)) ?_
      with_reducible refine (spec_Params.calls k t400 t401 t402 t403 t404 t405 t406 t407 t408 t409 t421 _ A36.out).mono ?_
      rintro e w45 ⟨v422, rfl, ho0, hb⟩
      refine ⟨_, rfl, ?_⟩
      have n0_ := am (Kd.R_elder' (rr HO392) (Kd.R_base ho0) hb)
      have n1_ := am (Kd.R_elder' (rr HO414) (Kd.R_base ho0) hb)
      have n2_ := am (Kd.R_lower (Kd.R_new' (Kd.R_new' ho0 (Kd.R_lt (rr HO392))) (Kd.R_lt (rr HO414))) (below_size (by repeat (first | (with_reducible first | exact HB.out | apply b1 | apply b2 | apply b3 | refine below_set ?_ GE393.out | refine below_set ?_ GE399.out | refine below_set ?_ GE410.out | refine below_set ?_ GE411.out) | exact HB.out))))
      have n3_ := am (blk_below (g := gb393) (o := .cells #[.int .i64 t385, .int .i64 t386, .bool t387, .bool t388, .bool t389] 25 (0, 0)) (rk BK393) hb)
      have n4_ := am (blk_below (g := gb399) (o := .cells #[.int .i64 t394, .int .i64 t395, .bool t396, .bool t397, .bool t398] 25 (0, 0)) (rk BK399) hb)
      have n5_ := am (blk_below (g := gb410) (o := .cells #[.int .i64 t400, .int .i64 t401, .bool t402, .bool t403, .bool t404] 25 (0, 0)) (rk BK410) hb)
      have n6_ := am (blk_below (g := gb411) (o := .cells #[.int .i64 t405, .int .i64 t406, .bool t407, .bool t408, .bool t409] 25 (0, 0)) (rk BK411) hb)
      have n7_ := am (below_step (by repeat (first | (with_reducible first | exact HB.out | apply b1 | apply b2 | apply b3 | refine below_set ?_ GE393.out | refine below_set ?_ GE399.out | refine below_set ?_ GE410.out | refine below_set ?_ GE411.out) | exact HB.out)) hb)
      clear HO392
      clear HO414
      clear BK393
      clear BK399
      clear BK410
      clear BK411
      clear HB
      have HO392 := n0_
      have HO414 := n1_
      have HO423 := n2_
      have BK393 := n3_
      have BK399 := n4_
      have BK410 := n5_
      have BK411 := n6_
      have HB := n7_
      clear n0_ n1_ n2_ n3_ n4_ n5_ n6_ n7_
      (try clear hb)
      (try clear hb2)
      (try clear hk)
      (try clear hi)
      (try clear ho0)
      obtain ⟨Ao46, co46, eo46⟩ := Kd.R_slice HO414.out
      (first | subst eo46 | (injection eo46 with f1_ f2_ f3_; have f4_ := f1_.symm; have f5_ := f3_.symm; clear f1_ f2_ f3_; subst f4_; subst f5_))
      obtain ⟨Ao47, co47, eo47⟩ := Kd.R_slice HO423.out
      (first | subst eo47 | (injection eo47 with f1_ f2_ f3_; have f4_ := f1_.symm; have f5_ := f3_.symm; clear f1_ f2_ f3_; subst f4_; subst f5_))
      refine hK.out _ _ ⟨(blk_cell BK399.out 0).trans rfl, (blk_cell BK399.out 1).trans rfl, (blk_cell BK399.out 2).trans rfl, (blk_cell BK399.out 3).trans rfl, (blk_cell BK399.out 4).trans rfl, (blk_cell BK393.out 0).trans rfl, (blk_cell BK393.out 1).trans rfl, (blk_cell BK393.out 2).trans rfl, (blk_cell BK393.out 3).trans rfl, (blk_cell BK393.out 4).trans rfl, (blk_cell BK410.out 0).trans rfl, (blk_cell BK410.out 1).trans rfl, (blk_cell BK410.out 2).trans rfl, (blk_cell BK410.out 3).trans rfl, (blk_cell BK410.out 4).trans rfl, (blk_cell BK411.out 0).trans rfl, (blk_cell BK411.out 1).trans rfl, (blk_cell BK411.out 2).trans rfl, (blk_cell BK411.out 3).trans rfl, (blk_cell BK411.out 4).trans rfl⟩ (fun hHeld => ?_)
      clear hK K
      refine norm_ (a' := ?_) ?_ ?_
      rotate_left
      ·show Act.put _ (some 40) _ = _
       simp only [Act.put, List.setIfInBounds_toArray, List.set_cons_zero, List.set_cons_succ, i64_w, i32_w]
       rfl
      refine one_ (i := 10) (N := some 41) (bm 27 2047) rfl rfl (one_of HT_.out (by kernel_rfl)) (by decide) (fun K hK => ?_)
      refine goes_ Tryd.func20 (by kernel_rfl) rfl #[.slice Ao46 t412.length co46, .slice Ao47 t421.length co47] (by rfl) rfl rfl (by (try simp only [List.map_toArray, List.map_cons, List.map_nil]); first | done | rfl | (simp only [List.length_drop, List.length_take]; rfl)) ?_
      with_reducible refine (laws_likeInts.calls k _ _ t412 _ _ t421 true _ ?side1 ?side2 ?side3 ?side4 A37.out).mono ?_
      (case side1 => repeat (first | exact (Kd.R_reads' HO414.out).2.2 | (with_reducible refine Kd.C_alloc ?_ _) | (with_reducible refine Kd.C_drewN ?_ _) | (with_reducible refine Kd.C_drew ?_)))
      (case side2 => exact (Kd.R_reads' HO414.out).2.1)
      (case side3 => repeat (first | exact (Kd.R_reads' HO423.out).2.2 | (with_reducible refine Kd.C_alloc ?_ _) | (with_reducible refine Kd.C_drewN ?_ _) | (with_reducible refine Kd.C_drew ?_)))
      (case side4 => exact (Kd.R_reads' HO423.out).2.1)
      rintro e w' ⟨rfl, ⟨nd, rfl⟩⟩
      refine ⟨_, rfl, ?_⟩
      refine hK.out _ _ ⟨(blk_cell BK399.out 0).trans rfl, (blk_cell BK399.out 1).trans rfl, (blk_cell BK399.out 2).trans rfl, (blk_cell BK399.out 3).trans rfl, (blk_cell BK399.out 4).trans rfl, (blk_cell BK393.out 0).trans rfl, (blk_cell BK393.out 1).trans rfl, (blk_cell BK393.out 2).trans rfl, (blk_cell BK393.out 3).trans rfl, (blk_cell BK393.out 4).trans rfl, (blk_cell BK410.out 0).trans rfl, (blk_cell BK410.out 1).trans rfl, (blk_cell BK410.out 2).trans rfl, (blk_cell BK410.out 3).trans rfl, (blk_cell BK410.out 4).trans rfl, (blk_cell BK411.out 0).trans rfl, (blk_cell BK411.out 1).trans rfl, (blk_cell BK411.out 2).trans rfl, (blk_cell BK411.out 3).trans rfl, (blk_cell BK411.out 4).trans rfl⟩ (fun hHeld => ?_)
      clear hK K
      refine norm_ (a' := ?_) ?_ ?_
      rotate_left
      ·show Act.put _ (some 41) _ = _
       simp only [Act.put, List.setIfInBounds_toArray, List.set_cons_zero, List.set_cons_succ, i64_w, i32_w]
       rfl
      refine pu_ 11 42 (bm 27 4095) HT_.out ?_
      refine pu_ 12 43 (bm 27 8191) HT_.out ?_
      refine pu_ 13 44 (bm 27 16383) HT_.out ?_
      refine pu_ 14 45 (bm 27 32767) HT_.out ?_
      refine take_ (i := 15) (N := some 46) (v := ?_) (a' := ?_) (bm 27 65535) rfl rfl (take_ofW HT_.out HW_.out (by kernel_rfl)) (fun _ _ _ h => h) (Or.inl ⟨by rfl, ?_⟩) hHeld ?_ ?_
      rotate_left
      ·rintro w' ⟨s0, s1, s2, s3, s4, s5, s6, s7, s8, s9, s10, s11, s12, s13, s14, s15, s16, s17, s18, s19⟩
       go_simp
       with_reducible rfl
      rotate_left
      ·simp only [Act.put, List.setIfInBounds_toArray, List.set_cons_zero, List.set_cons_succ, i64_w, i32_w]
       rfl
      refine take_ (i := 16) (N := some 47) (v := ?_) (a' := ?_) (bm 27 131071) rfl rfl (take_ofW HT_.out HW_.out (by kernel_rfl)) (fun _ _ _ h => h) (Or.inl ⟨by rfl, ?_⟩) hHeld ?_ ?_
      rotate_left
      ·rintro w' ⟨s0, s1, s2, s3, s4, s5, s6, s7, s8, s9, s10, s11, s12, s13, s14, s15, s16, s17, s18, s19⟩
       go_simp
       with_reducible rfl
      rotate_left
      ·simp only [Act.put, List.setIfInBounds_toArray, List.set_cons_zero, List.set_cons_succ, i64_w, i32_w]
       rfl
      refine one_ (i := 17) (N := some 48) (bm 27 262143) rfl rfl (one_of HT_.out (by kernel_rfl)) (by decide) (fun K hK => ?_)
      refine goes_ Tryd.func6 (by kernel_rfl) rfl #[.agg #[.int .i64 t400, .int .i64 t401, .bool t402, .bool t403, .bool t404], .agg #[.int .i64 t405, .int .i64 t406, .bool t407, .bool t408, .bool t409]] (by rfl) rfl rfl (by (try simp only [List.map_toArray, List.map_cons, List.map_nil]); first | done | rfl | (simp only [List.length_drop, List.length_take]; rfl)) ?_
      with_reducible refine (spec_Sign.calls k t400 t401 t402 t403 t404 t405 t406 t407 t408 t409 t425 _ A39.out).mono ?_
      rintro e w48 ⟨rfl, hb⟩
      refine ⟨_, rfl, ?_⟩
      have n0_ := am (Kd.R_below (rr HO392) hb)
      have n1_ := am (Kd.R_below (rr HO414) hb)
      have n2_ := am (Kd.R_below (rr HO423) hb)
      have n3_ := am (blk_below (g := gb393) (o := .cells #[.int .i64 t385, .int .i64 t386, .bool t387, .bool t388, .bool t389] 25 (0, 0)) (rk BK393) hb)
      have n4_ := am (blk_below (g := gb399) (o := .cells #[.int .i64 t394, .int .i64 t395, .bool t396, .bool t397, .bool t398] 25 (0, 0)) (rk BK399) hb)
      have n5_ := am (blk_below (g := gb410) (o := .cells #[.int .i64 t400, .int .i64 t401, .bool t402, .bool t403, .bool t404] 25 (0, 0)) (rk BK410) hb)
      have n6_ := am (blk_below (g := gb411) (o := .cells #[.int .i64 t405, .int .i64 t406, .bool t407, .bool t408, .bool t409] 25 (0, 0)) (rk BK411) hb)
      have n7_ := am (below_step (by repeat (first | (with_reducible first | exact HB.out | apply b1 | apply b2 | apply b3 | refine below_set ?_ GE393.out | refine below_set ?_ GE399.out | refine below_set ?_ GE410.out | refine below_set ?_ GE411.out) | exact HB.out)) hb)
      clear HO392
      clear HO414
      clear HO423
      clear BK393
      clear BK399
      clear BK410
      clear BK411
      clear HB
      have HO392 := n0_
      have HO414 := n1_
      have HO423 := n2_
      have BK393 := n3_
      have BK399 := n4_
      have BK410 := n5_
      have BK411 := n6_
      have HB := n7_
      clear n0_ n1_ n2_ n3_ n4_ n5_ n6_ n7_
      (try clear hb)
      (try clear hb2)
      (try clear hk)
      (try clear hi)
      refine hK.out _ _ ⟨(blk_cell BK399.out 0).trans rfl, (blk_cell BK399.out 1).trans rfl, (blk_cell BK399.out 2).trans rfl, (blk_cell BK399.out 3).trans rfl, (blk_cell BK399.out 4).trans rfl, (blk_cell BK393.out 0).trans rfl, (blk_cell BK393.out 1).trans rfl, (blk_cell BK393.out 2).trans rfl, (blk_cell BK393.out 3).trans rfl, (blk_cell BK393.out 4).trans rfl, (blk_cell BK410.out 0).trans rfl, (blk_cell BK410.out 1).trans rfl, (blk_cell BK410.out 2).trans rfl, (blk_cell BK410.out 3).trans rfl, (blk_cell BK410.out 4).trans rfl, (blk_cell BK411.out 0).trans rfl, (blk_cell BK411.out 1).trans rfl, (blk_cell BK411.out 2).trans rfl, (blk_cell BK411.out 3).trans rfl, (blk_cell BK411.out 4).trans rfl⟩ (fun hHeld => ?_)
      clear hK K
      refine norm_ (a' := ?_) ?_ ?_
      rotate_left
      ·show Act.put _ (some 48) _ = _
       simp only [Act.put, List.setIfInBounds_toArray, List.set_cons_zero, List.set_cons_succ, i64_w, i32_w]
       rfl
      refine pu_ 18 49 (bm 27 524287) HT_.out ?_
      refine pu_ 19 50 (bm 27 1048575) HT_.out ?_
      refine pu_ 20 51 (bm 27 2097151) HT_.out ?_
      refine take_ (i := 21) (N := some 52) (v := ?_) (a' := ?_) (bm 27 4194303) rfl rfl (take_ofW HT_.out HW_.out (by kernel_rfl)) (fun _ _ _ h => h) (Or.inl ⟨by rfl, ?_⟩) hHeld ?_ ?_
      rotate_left
      ·rintro w' ⟨s0, s1, s2, s3, s4, s5, s6, s7, s8, s9, s10, s11, s12, s13, s14, s15, s16, s17, s18, s19⟩
       go_simp
       with_reducible rfl
      rotate_left
      ·simp only [Act.put, List.setIfInBounds_toArray, List.set_cons_zero, List.set_cons_succ, i64_w, i32_w]
       rfl
      refine take_ (i := 23) (N := some 54) (v := ?_) (a' := ?_) (bm 27 12582911) rfl rfl (take_ofW HT_.out HW_.out (by kernel_rfl)) (fun _ _ _ h => h) (Or.inl ⟨by rfl, ?_⟩) hHeld ?_ ?_
      rotate_left
      ·rintro w' ⟨s0, s1, s2, s3, s4, s5, s6, s7, s8, s9, s10, s11, s12, s13, s14, s15, s16, s17, s18, s19⟩
       go_simp
       with_reducible rfl
      rotate_left
      ·simp only [Act.put, List.setIfInBounds_toArray, List.set_cons_zero, List.set_cons_succ, i64_w, i32_w]
       rfl
      refine one_ (i := 22) (N := some 53) (bm 27 16777215) rfl rfl (one_of HT_.out (by kernel_rfl)) (by decide) (fun K hK => ?_)
      refine goes_ Tryd.func22 (by kernel_rfl) rfl #[.agg #[.int .i64 t385, .int .i64 t386, .bool t387, .bool t388, .bool t389]] (by rfl) rfl rfl (by (try simp only [List.map_toArray, List.map_cons, List.map_nil]); first | done | rfl | (simp only [List.length_drop, List.length_take]; rfl)) ?_
      with_reducible refine (impl_StyleOk.calls t385 t386 t387 t388 t389 t426 _ A41.out).mono ?_
      rintro e w49 ⟨rfl, hb⟩
      refine ⟨_, rfl, ?_⟩
      have n0_ := am (Kd.R_below (rr HO392) hb)
      have n1_ := am (Kd.R_below (rr HO414) hb)
      have n2_ := am (Kd.R_below (rr HO423) hb)
      have n3_ := am (blk_below (g := gb393) (o := .cells #[.int .i64 t385, .int .i64 t386, .bool t387, .bool t388, .bool t389] 25 (0, 0)) (rk BK393) hb)
      have n4_ := am (blk_below (g := gb399) (o := .cells #[.int .i64 t394, .int .i64 t395, .bool t396, .bool t397, .bool t398] 25 (0, 0)) (rk BK399) hb)
      have n5_ := am (blk_below (g := gb410) (o := .cells #[.int .i64 t400, .int .i64 t401, .bool t402, .bool t403, .bool t404] 25 (0, 0)) (rk BK410) hb)
      have n6_ := am (blk_below (g := gb411) (o := .cells #[.int .i64 t405, .int .i64 t406, .bool t407, .bool t408, .bool t409] 25 (0, 0)) (rk BK411) hb)
      have n7_ := am (below_step (by repeat (first | (with_reducible first | exact HB.out | apply b1 | apply b2 | apply b3 | refine below_set ?_ GE393.out | refine below_set ?_ GE399.out | refine below_set ?_ GE410.out | refine below_set ?_ GE411.out) | exact HB.out)) hb)
      clear HO392
      clear HO414
      clear HO423
      clear BK393
      clear BK399
      clear BK410
      clear BK411
      clear HB
      have HO392 := n0_
      have HO414 := n1_
      have HO423 := n2_
      have BK393 := n3_
      have BK399 := n4_
      have BK410 := n5_
      have BK411 := n6_
      have HB := n7_
      clear n0_ n1_ n2_ n3_ n4_ n5_ n6_ n7_
      (try clear hb)
      (try clear hb2)
      (try clear hk)
      (try clear hi)
      refine hK.out _ _ ⟨(blk_cell BK399.out 0).trans rfl, (blk_cell BK399.out 1).trans rfl, (blk_cell BK399.out 2).trans rfl, (blk_cell BK399.out 3).trans rfl, (blk_cell BK399.out 4).trans rfl, (blk_cell BK393.out 0).trans rfl, (blk_cell BK393.out 1).trans rfl, (blk_cell BK393.out 2).trans rfl, (blk_cell BK393.out 3).trans rfl, (blk_cell BK393.out 4).trans rfl, (blk_cell BK410.out 0).trans rfl, (blk_cell BK410.out 1).trans rfl, (blk_cell BK410.out 2).trans rfl, (blk_cell BK410.out 3).trans rfl, (blk_cell BK410.out 4).trans rfl, (blk_cell BK411.out 0).trans rfl, (blk_cell BK411.out 1).trans rfl, (blk_cell BK411.out 2).trans rfl, (blk_cell BK411.out 3).trans rfl, (blk_cell BK411.out 4).trans rfl⟩ (fun hHeld => ?_)
      clear hK K
      refine norm_ (a' := ?_) ?_ ?_
      rotate_left
      ·show Act.put _ (some 53) _ = _
       simp only [Act.put, List.setIfInBounds_toArray, List.set_cons_zero, List.set_cons_succ, i64_w, i32_w]
       rfl
      refine one_ (i := 24) (N := some 55) (bm 27 33554431) rfl rfl (one_of HT_.out (by kernel_rfl)) (by decide) (fun K hK => ?_)
      refine goes_ Tryd.func23 (by kernel_rfl) rfl #[.agg #[.int .i64 t385, .int .i64 t386, .bool t387, .bool t388, .bool t389]] (by rfl) rfl rfl (by (try simp only [List.map_toArray, List.map_cons, List.map_nil]); first | done | rfl | (simp only [List.length_drop, List.length_take]; rfl)) ?_
      with_reducible refine (spec_StyleOk.calls t385 t386 t387 t388 t389 t427 _ A42.out).mono ?_
      rintro e w50 ⟨rfl, hb⟩
      refine ⟨_, rfl, ?_⟩
      have n0_ := am (Kd.R_below (rr HO392) hb)
      have n1_ := am (Kd.R_below (rr HO414) hb)
      have n2_ := am (Kd.R_below (rr HO423) hb)
      have n3_ := am (blk_below (g := gb393) (o := .cells #[.int .i64 t385, .int .i64 t386, .bool t387, .bool t388, .bool t389] 25 (0, 0)) (rk BK393) hb)
      have n4_ := am (blk_below (g := gb399) (o := .cells #[.int .i64 t394, .int .i64 t395, .bool t396, .bool t397, .bool t398] 25 (0, 0)) (rk BK399) hb)
      have n5_ := am (blk_below (g := gb410) (o := .cells #[.int .i64 t400, .int .i64 t401, .bool t402, .bool t403, .bool t404] 25 (0, 0)) (rk BK410) hb)
      have n6_ := am (blk_below (g := gb411) (o := .cells #[.int .i64 t405, .int .i64 t406, .bool t407, .bool t408, .bool t409] 25 (0, 0)) (rk BK411) hb)
      have n7_ := am (below_step (by repeat (first | (with_reducible first | exact HB.out | apply b1 | apply b2 | apply b3 | refine below_set ?_ GE393.out | refine below_set ?_ GE399.out | refine below_set ?_ GE410.out | refine below_set ?_ GE411.out) | exact HB.out)) hb)
      clear HO392
      clear HO414
      clear HO423
      clear BK393
      clear BK399
      clear BK410
      clear BK411
      clear HB
      have HO392 := n0_
      have HO414 := n1_
      have HO423 := n2_
      have BK393 := n3_
      have BK399 := n4_
      have BK410 := n5_
      have BK411 := n6_
      have HB := n7_
      clear n0_ n1_ n2_ n3_ n4_ n5_ n6_ n7_
      (try clear hb)
      (try clear hb2)
      (try clear hk)
      (try clear hi)
      refine hK.out _ _ ⟨(blk_cell BK399.out 0).trans rfl, (blk_cell BK399.out 1).trans rfl, (blk_cell BK399.out 2).trans rfl, (blk_cell BK399.out 3).trans rfl, (blk_cell BK399.out 4).trans rfl, (blk_cell BK393.out 0).trans rfl, (blk_cell BK393.out 1).trans rfl, (blk_cell BK393.out 2).trans rfl, (blk_cell BK393.out 3).trans rfl, (blk_cell BK393.out 4).trans rfl, (blk_cell BK410.out 0).trans rfl, (blk_cell BK410.out 1).trans rfl, (blk_cell BK410.out 2).trans rfl, (blk_cell BK410.out 3).trans rfl, (blk_cell BK410.out 4).trans rfl, (blk_cell BK411.out 0).trans rfl, (blk_cell BK411.out 1).trans rfl, (blk_cell BK411.out 2).trans rfl, (blk_cell BK411.out 3).trans rfl, (blk_cell BK411.out 4).trans rfl⟩ (fun hHeld => ?_)
      clear hK K
      refine norm_ (a' := ?_) ?_ ?_
      rotate_left
      ·show Act.put _ (some 55) _ = _
       simp only [Act.put, List.setIfInBounds_toArray, List.set_cons_zero, List.set_cons_succ, i64_w, i32_w]
       rfl
      refine pu_ 25 56 (bm 27 67108863) HT_.out ?_
      refine pu_ 26 57 (bm 27 134217727) HT_.out ?_
      refine done_ (done_of HT_.out (by kernel_rfl)) ?_
      try go_wp2
      go_meet
      case rel => exact ⟨_, ((t426 != t427)), (by first | rfl | (simp; done) | (simp [*]; done)), H', ⟨by first | omega | exact Nat.le_refl _⟩, ⟨by (with_reducible repeat (first | apply r1 | apply r2 | apply r3)); exact Kd.R_mono HO414.out (fun _ hk => trivial)⟩, ⟨rk BK393⟩, ⟨rk BK399⟩, ⟨rk BK410⟩, ⟨rk BK411⟩, ⟨by repeat (first | (with_reducible first | exact HB.out | apply b1 | apply b2 | apply b3 | refine below_set ?_ GE393.out | refine below_set ?_ GE399.out | refine below_set ?_ GE410.out | refine below_set ?_ GE411.out) | exact HB.out)⟩⟩
     ·rw [if_neg c40] at H
      have c40b0 : (t415.toList == t425.toList) = false := beq_eq_false_iff_ne.mpr c40
      have c40b1 : (t415.toList != t425.toList) = true := bne_iff_ne.mpr c40
      have H' := am H
      clear H
      try go_wp2
      have n0_ := am (Kd.R_drew HO392.out)
      have n1_ := am (Kd.R_drew HO414.out)
      have n2_ := am (blk_drew BK393.out)
      have n3_ := am (blk_drew BK399.out)
      have n4_ := am (blk_drew BK410.out)
      have n5_ := am (blk_drew BK411.out)
      have n6_ := am (below_drew1 HB.out)
      clear HO392
      clear HO414
      clear BK393
      clear BK399
      clear BK410
      clear BK411
      clear HB
      have HO392 := n0_
      have HO414 := n1_
      have BK393 := n2_
      have BK399 := n3_
      have BK410 := n4_
      have BK411 := n5_
      have HB := n6_
      clear n0_ n1_ n2_ n3_ n4_ n5_ n6_
      refine start_ (n := 27) (S := fun w' => w'.cell? ⟨gb399, 0, none⟩ = some (.int .i64 t394) ∧ w'.cell? ⟨gb399, 1, none⟩ = some (.int .i64 t395) ∧ w'.cell? ⟨gb399, 2, none⟩ = some (.bool t396) ∧ w'.cell? ⟨gb399, 3, none⟩ = some (.bool t397) ∧ w'.cell? ⟨gb399, 4, none⟩ = some (.bool t398) ∧ w'.cell? ⟨gb393, 0, none⟩ = some (.int .i64 t385) ∧ w'.cell? ⟨gb393, 1, none⟩ = some (.int .i64 t386) ∧ w'.cell? ⟨gb393, 2, none⟩ = some (.bool t387) ∧ w'.cell? ⟨gb393, 3, none⟩ = some (.bool t388) ∧ w'.cell? ⟨gb393, 4, none⟩ = some (.bool t389) ∧ w'.cell? ⟨gb410, 0, none⟩ = some (.int .i64 t400) ∧ w'.cell? ⟨gb410, 1, none⟩ = some (.int .i64 t401) ∧ w'.cell? ⟨gb410, 2, none⟩ = some (.bool t402) ∧ w'.cell? ⟨gb410, 3, none⟩ = some (.bool t403) ∧ w'.cell? ⟨gb410, 4, none⟩ = some (.bool t404) ∧ w'.cell? ⟨gb411, 0, none⟩ = some (.int .i64 t405) ∧ w'.cell? ⟨gb411, 1, none⟩ = some (.int .i64 t406) ∧ w'.cell? ⟨gb411, 2, none⟩ = some (.bool t407) ∧ w'.cell? ⟨gb411, 3, none⟩ = some (.bool t408) ∧ w'.cell? ⟨gb411, 4, none⟩ = some (.bool t409)) (ds := []) (bm 27 0) (by kernel_rfl) rfl rfl ⟨(blk_cell BK399.out 0).trans rfl, (blk_cell BK399.out 1).trans rfl, (blk_cell BK399.out 2).trans rfl, (blk_cell BK399.out 3).trans rfl, (blk_cell BK399.out 4).trans rfl, (blk_cell BK393.out 0).trans rfl, (blk_cell BK393.out 1).trans rfl, (blk_cell BK393.out 2).trans rfl, (blk_cell BK393.out 3).trans rfl, (blk_cell BK393.out 4).trans rfl, (blk_cell BK410.out 0).trans rfl, (blk_cell BK410.out 1).trans rfl, (blk_cell BK410.out 2).trans rfl, (blk_cell BK410.out 3).trans rfl, (blk_cell BK410.out 4).trans rfl, (blk_cell BK411.out 0).trans rfl, (blk_cell BK411.out 1).trans rfl, (blk_cell BK411.out 2).trans rfl, (blk_cell BK411.out 3).trans rfl, (blk_cell BK411.out 4).trans rfl⟩ (fun hHeld => ?_); refine with_tabW laws_FnStyles.tab8 laws_FnStyles.bits8 (fun HT_ HW_ => ?_)
      generalize w31.drew = w51 at HO392 HO414 BK393 BK399 BK410 BK411 HB hHeld ⊢
      refine pu_ 2 33 (bm 27 4) HT_.out ?_
      refine take_ (i := 0) (N := some 31) (v := ?_) (a' := ?_) (bm 27 5) rfl rfl (take_ofW HT_.out HW_.out (by kernel_rfl)) (fun _ _ _ h => h) (Or.inl ⟨by rfl, ?_⟩) hHeld ?_ ?_
      rotate_left
      ·rintro w' ⟨s0, s1, s2, s3, s4, s5, s6, s7, s8, s9, s10, s11, s12, s13, s14, s15, s16, s17, s18, s19⟩
       go_simp
       with_reducible rfl
      rotate_left
      ·simp only [Act.put, List.setIfInBounds_toArray, List.set_cons_zero, List.set_cons_succ, i64_w, i32_w]
       rfl
      refine take_ (i := 1) (N := some 32) (v := ?_) (a' := ?_) (bm 27 7) rfl rfl (take_ofW HT_.out HW_.out (by kernel_rfl)) (fun _ _ _ h => h) (Or.inl ⟨by rfl, ?_⟩) hHeld ?_ ?_
      rotate_left
      ·rintro w' ⟨s0, s1, s2, s3, s4, s5, s6, s7, s8, s9, s10, s11, s12, s13, s14, s15, s16, s17, s18, s19⟩
       go_simp
       with_reducible rfl
      rotate_left
      ·simp only [Act.put, List.setIfInBounds_toArray, List.set_cons_zero, List.set_cons_succ, i64_w, i32_w]
       rfl
      refine one_ (i := 3) (N := some 34) (bm 27 15) rfl rfl (one_of HT_.out (by kernel_rfl)) (by decide) (fun K hK => ?_)
      refine goes_ Tryd.func19 (by kernel_rfl) rfl #[.agg #[.int .i64 t385, .int .i64 t386, .bool t387, .bool t388, .bool t389], .slice Ao13 t390.length co13] (by rfl) rfl rfl (by (try simp only [List.map_toArray, List.map_cons, List.map_nil]); first | done | rfl | (simp only [List.length_drop, List.length_take]; rfl)) ?_
      with_reducible refine (spec_Styled.calls k t385 t386 t387 t388 t389 _ _ t390 t416 t417 t418 t419 t420 _ ?side1 ?side2 A32.out).mono ?_
      (case side1 => repeat (first | exact (Kd.R_reads' HO392.out).2.2 | (with_reducible refine Kd.C_alloc ?_ _) | (with_reducible refine Kd.C_drewN ?_ _) | (with_reducible refine Kd.C_drew ?_)))
      (case side2 => exact (Kd.R_reads' HO392.out).2.1)
      rintro e w52 ⟨rfl, hb⟩
      refine ⟨_, rfl, ?_⟩
      have n0_ := am (Kd.R_below (rr HO392) hb)
      have n1_ := am (Kd.R_below (rr HO414) hb)
      have n2_ := am (blk_below (g := gb393) (o := .cells #[.int .i64 t385, .int .i64 t386, .bool t387, .bool t388, .bool t389] 25 (0, 0)) (rk BK393) hb)
      have n3_ := am (blk_below (g := gb399) (o := .cells #[.int .i64 t394, .int .i64 t395, .bool t396, .bool t397, .bool t398] 25 (0, 0)) (rk BK399) hb)
      have n4_ := am (blk_below (g := gb410) (o := .cells #[.int .i64 t400, .int .i64 t401, .bool t402, .bool t403, .bool t404] 25 (0, 0)) (rk BK410) hb)
      have n5_ := am (blk_below (g := gb411) (o := .cells #[.int .i64 t405, .int .i64 t406, .bool t407, .bool t408, .bool t409] 25 (0, 0)) (rk BK411) hb)
      have n6_ := am (below_step (by repeat (first | (with_reducible first | exact HB.out | apply b1 | apply b2 | apply b3 | refine below_set ?_ GE393.out | refine below_set ?_ GE399.out | refine below_set ?_ GE410.out | refine below_set ?_ GE411.out) | exact HB.out)) hb)
      clear HO392
      clear HO414
      clear BK393
      clear BK399
      clear BK410
      clear BK411
      clear HB
      have HO392 := n0_
      have HO414 := n1_
      have BK393 := n2_
      have BK399 := n3_
      have BK410 := n4_
      have BK411 := n5_
      have HB := n6_
      clear n0_ n1_ n2_ n3_ n4_ n5_ n6_
      (try clear hb)
      (try clear hb2)
      (try clear hk)
      (try clear hi)
      refine hK.out _ _ ⟨(blk_cell BK399.out 0).trans rfl, (blk_cell BK399.out 1).trans rfl, (blk_cell BK399.out 2).trans rfl, (blk_cell BK399.out 3).trans rfl, (blk_cell BK399.out 4).trans rfl, (blk_cell BK393.out 0).trans rfl, (blk_cell BK393.out 1).trans rfl, (blk_cell BK393.out 2).trans rfl, (blk_cell BK393.out 3).trans rfl, (blk_cell BK393.out 4).trans rfl, (blk_cell BK410.out 0).trans rfl, (blk_cell BK410.out 1).trans rfl, (blk_cell BK410.out 2).trans rfl, (blk_cell BK410.out 3).trans rfl, (blk_cell BK410.out 4).trans rfl, (blk_cell BK411.out 0).trans rfl, (blk_cell BK411.out 1).trans rfl, (blk_cell BK411.out 2).trans rfl, (blk_cell BK411.out 3).trans rfl, (blk_cell BK411.out 4).trans rfl⟩ (fun hHeld => ?_)
      clear hK K
      refine norm_ (a' := ?_) ?_ ?_
      rotate_left
      ·show Act.put _ (some 34) _ = _
       simp only [Act.put, List.setIfInBounds_toArray, List.set_cons_zero, List.set_cons_succ, i64_w, i32_w]
       rfl
      refine pu_ 4 35 (bm 27 31) HT_.out ?_
      refine pu_ 5 36 (bm 27 63) HT_.out ?_
      refine pu_ 6 37 (bm 27 127) HT_.out ?_
      refine take_ (i := 7) (N := some 38) (v := ?_) (a' := ?_) (bm 27 255) rfl rfl (take_ofW HT_.out HW_.out (by kernel_rfl)) (fun _ _ _ h => h) (Or.inl ⟨by rfl, ?_⟩) hHeld ?_ ?_
      rotate_left
      ·rintro w' ⟨s0, s1, s2, s3, s4, s5, s6, s7, s8, s9, s10, s11, s12, s13, s14, s15, s16, s17, s18, s19⟩
       go_simp
       with_reducible rfl
      rotate_left
      ·simp only [Act.put, List.setIfInBounds_toArray, List.set_cons_zero, List.set_cons_succ, i64_w, i32_w]
       rfl
      refine take_ (i := 8) (N := some 39) (v := ?_) (a' := ?_) (bm 27 511) rfl rfl (take_ofW HT_.out HW_.out (by kernel_rfl)) (fun _ _ _ h => h) (Or.inl ⟨by rfl, ?_⟩) hHeld ?_ ?_
      rotate_left
      ·rintro w' ⟨s0, s1, s2, s3, s4, s5, s6, s7, s8, s9, s10, s11, s12, s13, s14, s15, s16, s17, s18, s19⟩
       go_simp
       with_reducible rfl
      rotate_left
      ·simp only [Act.put, List.setIfInBounds_toArray, List.set_cons_zero, List.set_cons_succ, i64_w, i32_w]
       rfl
      refine one_ (i := 9) (N := some 40) (bm 27 1023) rfl rfl (one_of HT_.out (by kernel_rfl)) (by decide) (fun K hK => ?_)
      refine goes_ Tryd.func21 (by kernel_rfl) rfl #[.agg #[.int .i64 t400, .int .i64 t401, .bool t402, .bool t403, .bool t404], .agg #[.int .i64 t405, .int .i64 t406, .bool t407, .bool t408, .bool t409]] (by rfl) rfl rfl (by (try simp only [List.map_toArray, List.map_cons, List.map_nil]); first | done | rfl | (simp only [List.length_drop, List.length_take]; rfl)) ?_
      with_reducible refine (spec_Params.calls k t400 t401 t402 t403 t404 t405 t406 t407 t408 t409 t421 _ A36.out).mono ?_
      rintro e w53 ⟨v422, rfl, ho0, hb⟩
      refine ⟨_, rfl, ?_⟩
      have n0_ := am (Kd.R_elder' (rr HO392) (Kd.R_base ho0) hb)
      have n1_ := am (Kd.R_elder' (rr HO414) (Kd.R_base ho0) hb)
      have n2_ := am (Kd.R_lower (Kd.R_new' (Kd.R_new' ho0 (Kd.R_lt (rr HO392))) (Kd.R_lt (rr HO414))) (below_size (by repeat (first | (with_reducible first | exact HB.out | apply b1 | apply b2 | apply b3 | refine below_set ?_ GE393.out | refine below_set ?_ GE399.out | refine below_set ?_ GE410.out | refine below_set ?_ GE411.out) | exact HB.out))))
      have n3_ := am (blk_below (g := gb393) (o := .cells #[.int .i64 t385, .int .i64 t386, .bool t387, .bool t388, .bool t389] 25 (0, 0)) (rk BK393) hb)
      have n4_ := am (blk_below (g := gb399) (o := .cells #[.int .i64 t394, .int .i64 t395, .bool t396, .bool t397, .bool t398] 25 (0, 0)) (rk BK399) hb)
      have n5_ := am (blk_below (g := gb410) (o := .cells #[.int .i64 t400, .int .i64 t401, .bool t402, .bool t403, .bool t404] 25 (0, 0)) (rk BK410) hb)
      have n6_ := am (blk_below (g := gb411) (o := .cells #[.int .i64 t405, .int .i64 t406, .bool t407, .bool t408, .bool t409] 25 (0, 0)) (rk BK411) hb)
      have n7_ := am (below_step (by repeat (first | (with_reducible first | exact HB.out | apply b1 | apply b2 | apply b3 | refine below_set ?_ GE393.out | refine below_set ?_ GE399.out | refine below_set ?_ GE410.out | refine below_set ?_ GE411.out) | exact HB.out)) hb)
      clear HO392
      clear HO414
      clear BK393
      clear BK399
      clear BK410
      clear BK411
      clear HB
      have HO392 := n0_
      have HO414 := n1_
      have HO423 := n2_
      have BK393 := n3_
      have BK399 := n4_
      have BK410 := n5_
      have BK411 := n6_
      have HB := n7_
      clear n0_ n1_ n2_ n3_ n4_ n5_ n6_ n7_
      (try clear hb)
      (try clear hb2)
      (try clear hk)
      (try clear hi)
      (try clear ho0)
      obtain ⟨Ao54, co54, eo54⟩ := Kd.R_slice HO414.out
      (first | subst eo54 | (injection eo54 with f1_ f2_ f3_; have f4_ := f1_.symm; have f5_ := f3_.symm; clear f1_ f2_ f3_; subst f4_; subst f5_))
      obtain ⟨Ao55, co55, eo55⟩ := Kd.R_slice HO423.out
      (first | subst eo55 | (injection eo55 with f1_ f2_ f3_; have f4_ := f1_.symm; have f5_ := f3_.symm; clear f1_ f2_ f3_; subst f4_; subst f5_))
      refine hK.out _ _ ⟨(blk_cell BK399.out 0).trans rfl, (blk_cell BK399.out 1).trans rfl, (blk_cell BK399.out 2).trans rfl, (blk_cell BK399.out 3).trans rfl, (blk_cell BK399.out 4).trans rfl, (blk_cell BK393.out 0).trans rfl, (blk_cell BK393.out 1).trans rfl, (blk_cell BK393.out 2).trans rfl, (blk_cell BK393.out 3).trans rfl, (blk_cell BK393.out 4).trans rfl, (blk_cell BK410.out 0).trans rfl, (blk_cell BK410.out 1).trans rfl, (blk_cell BK410.out 2).trans rfl, (blk_cell BK410.out 3).trans rfl, (blk_cell BK410.out 4).trans rfl, (blk_cell BK411.out 0).trans rfl, (blk_cell BK411.out 1).trans rfl, (blk_cell BK411.out 2).trans rfl, (blk_cell BK411.out 3).trans rfl, (blk_cell BK411.out 4).trans rfl⟩ (fun hHeld => ?_)
      clear hK K
      refine norm_ (a' := ?_) ?_ ?_
      rotate_left
      ·show Act.put _ (some 40) _ = _
       simp only [Act.put, List.setIfInBounds_toArray, List.set_cons_zero, List.set_cons_succ, i64_w, i32_w]
       rfl
      refine one_ (i := 10) (N := some 41) (bm 27 2047) rfl rfl (one_of HT_.out (by kernel_rfl)) (by decide) (fun K hK => ?_)
      refine goes_ Tryd.func20 (by kernel_rfl) rfl #[.slice Ao54 t412.length co54, .slice Ao55 t421.length co55] (by rfl) rfl rfl (by (try simp only [List.map_toArray, List.map_cons, List.map_nil]); first | done | rfl | (simp only [List.length_drop, List.length_take]; rfl)) ?_
      with_reducible refine (laws_likeInts.calls k _ _ t412 _ _ t421 true _ ?side1 ?side2 ?side3 ?side4 A37.out).mono ?_
      (case side1 => repeat (first | exact (Kd.R_reads' HO414.out).2.2 | (with_reducible refine Kd.C_alloc ?_ _) | (with_reducible refine Kd.C_drewN ?_ _) | (with_reducible refine Kd.C_drew ?_)))
      (case side2 => exact (Kd.R_reads' HO414.out).2.1)
      (case side3 => repeat (first | exact (Kd.R_reads' HO423.out).2.2 | (with_reducible refine Kd.C_alloc ?_ _) | (with_reducible refine Kd.C_drewN ?_ _) | (with_reducible refine Kd.C_drew ?_)))
      (case side4 => exact (Kd.R_reads' HO423.out).2.1)
      rintro e w' ⟨rfl, ⟨nd, rfl⟩⟩
      refine ⟨_, rfl, ?_⟩
      refine hK.out _ _ ⟨(blk_cell BK399.out 0).trans rfl, (blk_cell BK399.out 1).trans rfl, (blk_cell BK399.out 2).trans rfl, (blk_cell BK399.out 3).trans rfl, (blk_cell BK399.out 4).trans rfl, (blk_cell BK393.out 0).trans rfl, (blk_cell BK393.out 1).trans rfl, (blk_cell BK393.out 2).trans rfl, (blk_cell BK393.out 3).trans rfl, (blk_cell BK393.out 4).trans rfl, (blk_cell BK410.out 0).trans rfl, (blk_cell BK410.out 1).trans rfl, (blk_cell BK410.out 2).trans rfl, (blk_cell BK410.out 3).trans rfl, (blk_cell BK410.out 4).trans rfl, (blk_cell BK411.out 0).trans rfl, (blk_cell BK411.out 1).trans rfl, (blk_cell BK411.out 2).trans rfl, (blk_cell BK411.out 3).trans rfl, (blk_cell BK411.out 4).trans rfl⟩ (fun hHeld => ?_)
      clear hK K
      refine norm_ (a' := ?_) ?_ ?_
      rotate_left
      ·show Act.put _ (some 41) _ = _
       simp only [Act.put, List.setIfInBounds_toArray, List.set_cons_zero, List.set_cons_succ, i64_w, i32_w]
       rfl
      refine pu_ 11 42 (bm 27 4095) HT_.out ?_
      refine pu_ 12 43 (bm 27 8191) HT_.out ?_
      refine pu_ 13 44 (bm 27 16383) HT_.out ?_
      refine pu_ 14 45 (bm 27 32767) HT_.out ?_
      refine take_ (i := 15) (N := some 46) (v := ?_) (a' := ?_) (bm 27 65535) rfl rfl (take_ofW HT_.out HW_.out (by kernel_rfl)) (fun _ _ _ h => h) (Or.inl ⟨by rfl, ?_⟩) hHeld ?_ ?_
      rotate_left
      ·rintro w' ⟨s0, s1, s2, s3, s4, s5, s6, s7, s8, s9, s10, s11, s12, s13, s14, s15, s16, s17, s18, s19⟩
       go_simp
       with_reducible rfl
      rotate_left
      ·simp only [Act.put, List.setIfInBounds_toArray, List.set_cons_zero, List.set_cons_succ, i64_w, i32_w]
       rfl
      refine take_ (i := 16) (N := some 47) (v := ?_) (a' := ?_) (bm 27 131071) rfl rfl (take_ofW HT_.out HW_.out (by kernel_rfl)) (fun _ _ _ h => h) (Or.inl ⟨by rfl, ?_⟩) hHeld ?_ ?_
      rotate_left
      ·rintro w' ⟨s0, s1, s2, s3, s4, s5, s6, s7, s8, s9, s10, s11, s12, s13, s14, s15, s16, s17, s18, s19⟩
       go_simp
       with_reducible rfl
      rotate_left
      ·simp only [Act.put, List.setIfInBounds_toArray, List.set_cons_zero, List.set_cons_succ, i64_w, i32_w]
       rfl
      refine one_ (i := 17) (N := some 48) (bm 27 262143) rfl rfl (one_of HT_.out (by kernel_rfl)) (by decide) (fun K hK => ?_)
      refine goes_ Tryd.func6 (by kernel_rfl) rfl #[.agg #[.int .i64 t400, .int .i64 t401, .bool t402, .bool t403, .bool t404], .agg #[.int .i64 t405, .int .i64 t406, .bool t407, .bool t408, .bool t409]] (by rfl) rfl rfl (by (try simp only [List.map_toArray, List.map_cons, List.map_nil]); first | done | rfl | (simp only [List.length_drop, List.length_take]; rfl)) ?_
      with_reducible refine (spec_Sign.calls k t400 t401 t402 t403 t404 t405 t406 t407 t408 t409 t425 _ A39.out).mono ?_
      rintro e w56 ⟨rfl, hb⟩
      refine ⟨_, rfl, ?_⟩
      have n0_ := am (Kd.R_below (rr HO392) hb)
      have n1_ := am (Kd.R_below (rr HO414) hb)
      have n2_ := am (Kd.R_below (rr HO423) hb)
      have n3_ := am (blk_below (g := gb393) (o := .cells #[.int .i64 t385, .int .i64 t386, .bool t387, .bool t388, .bool t389] 25 (0, 0)) (rk BK393) hb)
      have n4_ := am (blk_below (g := gb399) (o := .cells #[.int .i64 t394, .int .i64 t395, .bool t396, .bool t397, .bool t398] 25 (0, 0)) (rk BK399) hb)
      have n5_ := am (blk_below (g := gb410) (o := .cells #[.int .i64 t400, .int .i64 t401, .bool t402, .bool t403, .bool t404] 25 (0, 0)) (rk BK410) hb)
      have n6_ := am (blk_below (g := gb411) (o := .cells #[.int .i64 t405, .int .i64 t406, .bool t407, .bool t408, .bool t409] 25 (0, 0)) (rk BK411) hb)
      have n7_ := am (below_step (by repeat (first | (with_reducible first | exact HB.out | apply b1 | apply b2 | apply b3 | refine below_set ?_ GE393.out | refine below_set ?_ GE399.out | refine below_set ?_ GE410.out | refine below_set ?_ GE411.out) | exact HB.out)) hb)
      clear HO392
      clear HO414
      clear HO423
      clear BK393
      clear BK399
      clear BK410
      clear BK411
      clear HB
      have HO392 := n0_
      have HO414 := n1_
      have HO423 := n2_
      have BK393 := n3_
      have BK399 := n4_
      have BK410 := n5_
      have BK411 := n6_
      have HB := n7_
      clear n0_ n1_ n2_ n3_ n4_ n5_ n6_ n7_
      (try clear hb)
      (try clear hb2)
      (try clear hk)
      (try clear hi)
      refine hK.out _ _ ⟨(blk_cell BK399.out 0).trans rfl, (blk_cell BK399.out 1).trans rfl, (blk_cell BK399.out 2).trans rfl, (blk_cell BK399.out 3).trans rfl, (blk_cell BK399.out 4).trans rfl, (blk_cell BK393.out 0).trans rfl, (blk_cell BK393.out 1).trans rfl, (blk_cell BK393.out 2).trans rfl, (blk_cell BK393.out 3).trans rfl, (blk_cell BK393.out 4).trans rfl, (blk_cell BK410.out 0).trans rfl, (blk_cell BK410.out 1).trans rfl, (blk_cell BK410.out 2).trans rfl, (blk_cell BK410.out 3).trans rfl, (blk_cell BK410.out 4).trans rfl, (blk_cell BK411.out 0).trans rfl, (blk_cell BK411.out 1).trans rfl, (blk_cell BK411.out 2).trans rfl, (blk_cell BK411.out 3).trans rfl, (blk_cell BK411.out 4).trans rfl⟩ (fun hHeld => ?_)
      clear hK K
      refine norm_ (a' := ?_) ?_ ?_
      rotate_left
      ·show Act.put _ (some 48) _ = _
       simp only [Act.put, List.setIfInBounds_toArray, List.set_cons_zero, List.set_cons_succ, i64_w, i32_w]
       rfl
      refine pu_ 18 49 (bm 27 524287) HT_.out ?_
      refine pu_ 19 50 (bm 27 1048575) HT_.out ?_
      refine pu_ 20 51 (bm 27 2097151) HT_.out ?_
      refine un_ 21 52 (bm 27 4194303) HT_.out ?_
      refine un_ 22 53 (bm 27 8388607) HT_.out ?_
      refine un_ 23 54 (bm 27 16777215) HT_.out ?_
      refine un_ 24 55 (bm 27 33554431) HT_.out ?_
      refine un_ 25 56 (bm 27 67108863) HT_.out ?_
      refine pu_ 26 57 (bm 27 134217727) HT_.out ?_
      refine done_ (done_of HT_.out (by kernel_rfl)) ?_
      try go_wp2
      go_meet
      case rel => exact ⟨_, (true), (by first | rfl | (simp; done) | (simp [*]; done)), H', ⟨by first | omega | exact Nat.le_refl _⟩, ⟨by (with_reducible repeat (first | apply r1 | apply r2 | apply r3)); exact Kd.R_mono HO414.out (fun _ hk => trivial)⟩, ⟨rk BK393⟩, ⟨rk BK399⟩, ⟨rk BK410⟩, ⟨rk BK411⟩, ⟨by repeat (first | (with_reducible first | exact HB.out | apply b1 | apply b2 | apply b3 | refine below_set ?_ GE393.out | refine below_set ?_ GE399.out | refine below_set ?_ GE410.out | refine below_set ?_ GE411.out) | exact HB.out)⟩⟩
    ·replace c38 := Bool.eq_false_iff.mpr c38
     subst c38
     have H1 : (laws_FnStyles.j0 k t412 t415 true t394 t395 t396 t397 t398 t400 t401 t402 t403 t404 t405 t406 t407 t408 t409) = some r := by rw [if_neg (show ¬ (false = true) by decide)] at H; exact H
     clear H
     have H := H1
     clear H1
     have H' := am H
     clear H
     try go_wp2
     have n0_ := am (Kd.R_drew HO392.out)
     have n1_ := am (Kd.R_drew HO414.out)
     have n2_ := am (blk_drew BK393.out)
     have n3_ := am (blk_drew BK399.out)
     have n4_ := am (blk_drew BK410.out)
     have n5_ := am (blk_drew BK411.out)
     have n6_ := am (below_drew1 HB.out)
     clear HO392
     clear HO414
     clear BK393
     clear BK399
     clear BK410
     clear BK411
     clear HB
     have HO392 := n0_
     have HO414 := n1_
     have BK393 := n2_
     have BK399 := n3_
     have BK410 := n4_
     have BK411 := n5_
     have HB := n6_
     clear n0_ n1_ n2_ n3_ n4_ n5_ n6_
     refine start_ (n := 27) (S := fun w' => w'.cell? ⟨gb399, 0, none⟩ = some (.int .i64 t394) ∧ w'.cell? ⟨gb399, 1, none⟩ = some (.int .i64 t395) ∧ w'.cell? ⟨gb399, 2, none⟩ = some (.bool t396) ∧ w'.cell? ⟨gb399, 3, none⟩ = some (.bool t397) ∧ w'.cell? ⟨gb399, 4, none⟩ = some (.bool t398) ∧ w'.cell? ⟨gb393, 0, none⟩ = some (.int .i64 t385) ∧ w'.cell? ⟨gb393, 1, none⟩ = some (.int .i64 t386) ∧ w'.cell? ⟨gb393, 2, none⟩ = some (.bool t387) ∧ w'.cell? ⟨gb393, 3, none⟩ = some (.bool t388) ∧ w'.cell? ⟨gb393, 4, none⟩ = some (.bool t389) ∧ w'.cell? ⟨gb410, 0, none⟩ = some (.int .i64 t400) ∧ w'.cell? ⟨gb410, 1, none⟩ = some (.int .i64 t401) ∧ w'.cell? ⟨gb410, 2, none⟩ = some (.bool t402) ∧ w'.cell? ⟨gb410, 3, none⟩ = some (.bool t403) ∧ w'.cell? ⟨gb410, 4, none⟩ = some (.bool t404) ∧ w'.cell? ⟨gb411, 0, none⟩ = some (.int .i64 t405) ∧ w'.cell? ⟨gb411, 1, none⟩ = some (.int .i64 t406) ∧ w'.cell? ⟨gb411, 2, none⟩ = some (.bool t407) ∧ w'.cell? ⟨gb411, 3, none⟩ = some (.bool t408) ∧ w'.cell? ⟨gb411, 4, none⟩ = some (.bool t409)) (ds := []) (bm 27 0) (by kernel_rfl) rfl rfl ⟨(blk_cell BK399.out 0).trans rfl, (blk_cell BK399.out 1).trans rfl, (blk_cell BK399.out 2).trans rfl, (blk_cell BK399.out 3).trans rfl, (blk_cell BK399.out 4).trans rfl, (blk_cell BK393.out 0).trans rfl, (blk_cell BK393.out 1).trans rfl, (blk_cell BK393.out 2).trans rfl, (blk_cell BK393.out 3).trans rfl, (blk_cell BK393.out 4).trans rfl, (blk_cell BK410.out 0).trans rfl, (blk_cell BK410.out 1).trans rfl, (blk_cell BK410.out 2).trans rfl, (blk_cell BK410.out 3).trans rfl, (blk_cell BK410.out 4).trans rfl, (blk_cell BK411.out 0).trans rfl, (blk_cell BK411.out 1).trans rfl, (blk_cell BK411.out 2).trans rfl, (blk_cell BK411.out 3).trans rfl, (blk_cell BK411.out 4).trans rfl⟩ (fun hHeld => ?_); refine with_tabW laws_FnStyles.tab8 laws_FnStyles.bits8 (fun HT_ HW_ => ?_)
     generalize w31.drew = w57 at HO392 HO414 BK393 BK399 BK410 BK411 HB hHeld ⊢
     refine pu_ 2 33 (bm 27 4) HT_.out ?_
     refine take_ (i := 0) (N := some 31) (v := ?_) (a' := ?_) (bm 27 5) rfl rfl (take_ofW HT_.out HW_.out (by kernel_rfl)) (fun _ _ _ h => h) (Or.inl ⟨by rfl, ?_⟩) hHeld ?_ ?_
     rotate_left
     ·rintro w' ⟨s0, s1, s2, s3, s4, s5, s6, s7, s8, s9, s10, s11, s12, s13, s14, s15, s16, s17, s18, s19⟩
      go_simp
      with_reducible rfl
     rotate_left
     ·simp only [Act.put, List.setIfInBounds_toArray, List.set_cons_zero, List.set_cons_succ, i64_w, i32_w]
      rfl
     refine take_ (i := 1) (N := some 32) (v := ?_) (a' := ?_) (bm 27 7) rfl rfl (take_ofW HT_.out HW_.out (by kernel_rfl)) (fun _ _ _ h => h) (Or.inl ⟨by rfl, ?_⟩) hHeld ?_ ?_
     rotate_left
     ·rintro w' ⟨s0, s1, s2, s3, s4, s5, s6, s7, s8, s9, s10, s11, s12, s13, s14, s15, s16, s17, s18, s19⟩
      go_simp
      with_reducible rfl
     rotate_left
     ·simp only [Act.put, List.setIfInBounds_toArray, List.set_cons_zero, List.set_cons_succ, i64_w, i32_w]
      rfl
     refine one_ (i := 3) (N := some 34) (bm 27 15) rfl rfl (one_of HT_.out (by kernel_rfl)) (by decide) (fun K hK => ?_)
     refine goes_ Tryd.func19 (by kernel_rfl) rfl #[.agg #[.int .i64 t385, .int .i64 t386, .bool t387, .bool t388, .bool t389], .slice Ao13 t390.length co13] (by rfl) rfl rfl (by (try simp only [List.map_toArray, List.map_cons, List.map_nil]); first | done | rfl | (simp only [List.length_drop, List.length_take]; rfl)) ?_
     with_reducible refine (spec_Styled.calls k t385 t386 t387 t388 t389 _ _ t390 t416 t417 t418 t419 t420 _ ?side1 ?side2 A32.out).mono ?_
     (case side1 => repeat (first | exact (Kd.R_reads' HO392.out).2.2 | (with_reducible refine Kd.C_alloc ?_ _) | (with_reducible refine Kd.C_drewN ?_ _) | (with_reducible refine Kd.C_drew ?_)))
     (case side2 => exact (Kd.R_reads' HO392.out).2.1)
     rintro e w58 ⟨rfl, hb⟩
     refine ⟨_, rfl, ?_⟩
     have n0_ := am (Kd.R_below (rr HO392) hb)
     have n1_ := am (Kd.R_below (rr HO414) hb)
     have n2_ := am (blk_below (g := gb393) (o := .cells #[.int .i64 t385, .int .i64 t386, .bool t387, .bool t388, .bool t389] 25 (0, 0)) (rk BK393) hb)
     have n3_ := am (blk_below (g := gb399) (o := .cells #[.int .i64 t394, .int .i64 t395, .bool t396, .bool t397, .bool t398] 25 (0, 0)) (rk BK399) hb)
     have n4_ := am (blk_below (g := gb410) (o := .cells #[.int .i64 t400, .int .i64 t401, .bool t402, .bool t403, .bool t404] 25 (0, 0)) (rk BK410) hb)
     have n5_ := am (blk_below (g := gb411) (o := .cells #[.int .i64 t405, .int .i64 t406, .bool t407, .bool t408, .bool t409] 25 (0, 0)) (rk BK411) hb)
     have n6_ := am (below_step (by repeat (first | (with_reducible first | exact HB.out | apply b1 | apply b2 | apply b3 | refine below_set ?_ GE393.out | refine below_set ?_ GE399.out | refine below_set ?_ GE410.out | refine below_set ?_ GE411.out) | exact HB.out)) hb)
     clear HO392
     clear HO414
     clear BK393
     clear BK399
     clear BK410
     clear BK411
     clear HB
     have HO392 := n0_
     have HO414 := n1_
     have BK393 := n2_
     have BK399 := n3_
     have BK410 := n4_
     have BK411 := n5_
     have HB := n6_
     clear n0_ n1_ n2_ n3_ n4_ n5_ n6_
     (try clear hb)
     (try clear hb2)
     (try clear hk)
     (try clear hi)
     refine hK.out _ _ ⟨(blk_cell BK399.out 0).trans rfl, (blk_cell BK399.out 1).trans rfl, (blk_cell BK399.out 2).trans rfl, (blk_cell BK399.out 3).trans rfl, (blk_cell BK399.out 4).trans rfl, (blk_cell BK393.out 0).trans rfl, (blk_cell BK393.out 1).trans rfl, (blk_cell BK393.out 2).trans rfl, (blk_cell BK393.out 3).trans rfl, (blk_cell BK393.out 4).trans rfl, (blk_cell BK410.out 0).trans rfl, (blk_cell BK410.out 1).trans rfl, (blk_cell BK410.out 2).trans rfl, (blk_cell BK410.out 3).trans rfl, (blk_cell BK410.out 4).trans rfl, (blk_cell BK411.out 0).trans rfl, (blk_cell BK411.out 1).trans rfl, (blk_cell BK411.out 2).trans rfl, (blk_cell BK411.out 3).trans rfl, (blk_cell BK411.out 4).trans rfl⟩ (fun hHeld => ?_)
     clear hK K
     refine norm_ (a' := ?_) ?_ ?_
     rotate_left
     ·show Act.put _ (some 34) _ = _
      simp only [Act.put, List.setIfInBounds_toArray, List.set_cons_zero, List.set_cons_succ, i64_w, i32_w]
      rfl
     refine pu_ 4 35 (bm 27 31) HT_.out ?_
     refine pu_ 5 36 (bm 27 63) HT_.out ?_
     refine pu_ 6 37 (bm 27 127) HT_.out ?_
     refine take_ (i := 7) (N := some 38) (v := ?_) (a' := ?_) (bm 27 255) rfl rfl (take_ofW HT_.out HW_.out (by kernel_rfl)) (fun _ _ _ h => h) (Or.inl ⟨by rfl, ?_⟩) hHeld ?_ ?_
     rotate_left
     ·rintro w' ⟨s0, s1, s2, s3, s4, s5, s6, s7, s8, s9, s10, s11, s12, s13, s14, s15, s16, s17, s18, s19⟩
      go_simp
      with_reducible rfl
     rotate_left
     ·simp only [Act.put, List.setIfInBounds_toArray, List.set_cons_zero, List.set_cons_succ, i64_w, i32_w]
      rfl
     refine take_ (i := 8) (N := some 39) (v := ?_) (a' := ?_) (bm 27 511) rfl rfl (take_ofW HT_.out HW_.out (by kernel_rfl)) (fun _ _ _ h => h) (Or.inl ⟨by rfl, ?_⟩) hHeld ?_ ?_
     rotate_left
     ·rintro w' ⟨s0, s1, s2, s3, s4, s5, s6, s7, s8, s9, s10, s11, s12, s13, s14, s15, s16, s17, s18, s19⟩
      go_simp
      with_reducible rfl
     rotate_left
     ·simp only [Act.put, List.setIfInBounds_toArray, List.set_cons_zero, List.set_cons_succ, i64_w, i32_w]
      rfl
     refine one_ (i := 9) (N := some 40) (bm 27 1023) rfl rfl (one_of HT_.out (by kernel_rfl)) (by decide) (fun K hK => ?_)
     refine goes_ Tryd.func21 (by kernel_rfl) rfl #[.agg #[.int .i64 t400, .int .i64 t401, .bool t402, .bool t403, .bool t404], .agg #[.int .i64 t405, .int .i64 t406, .bool t407, .bool t408, .bool t409]] (by rfl) rfl rfl (by (try simp only [List.map_toArray, List.map_cons, List.map_nil]); first | done | rfl | (simp only [List.length_drop, List.length_take]; rfl)) ?_
     with_reducible refine (spec_Params.calls k t400 t401 t402 t403 t404 t405 t406 t407 t408 t409 t421 _ A36.out).mono ?_
     rintro e w59 ⟨v422, rfl, ho0, hb⟩
     refine ⟨_, rfl, ?_⟩
     have n0_ := am (Kd.R_elder' (rr HO392) (Kd.R_base ho0) hb)
     have n1_ := am (Kd.R_elder' (rr HO414) (Kd.R_base ho0) hb)
     have n2_ := am (Kd.R_lower (Kd.R_new' (Kd.R_new' ho0 (Kd.R_lt (rr HO392))) (Kd.R_lt (rr HO414))) (below_size (by repeat (first | (with_reducible first | exact HB.out | apply b1 | apply b2 | apply b3 | refine below_set ?_ GE393.out | refine below_set ?_ GE399.out | refine below_set ?_ GE410.out | refine below_set ?_ GE411.out) | exact HB.out))))
     have n3_ := am (blk_below (g := gb393) (o := .cells #[.int .i64 t385, .int .i64 t386, .bool t387, .bool t388, .bool t389] 25 (0, 0)) (rk BK393) hb)
     have n4_ := am (blk_below (g := gb399) (o := .cells #[.int .i64 t394, .int .i64 t395, .bool t396, .bool t397, .bool t398] 25 (0, 0)) (rk BK399) hb)
     have n5_ := am (blk_below (g := gb410) (o := .cells #[.int .i64 t400, .int .i64 t401, .bool t402, .bool t403, .bool t404] 25 (0, 0)) (rk BK410) hb)
     have n6_ := am (blk_below (g := gb411) (o := .cells #[.int .i64 t405, .int .i64 t406, .bool t407, .bool t408, .bool t409] 25 (0, 0)) (rk BK411) hb)
     have n7_ := am (below_step (by repeat (first | (with_reducible first | exact HB.out | apply b1 | apply b2 | apply b3 | refine below_set ?_ GE393.out | refine below_set ?_ GE399.out | refine below_set ?_ GE410.out | refine below_set ?_ GE411.out) | exact HB.out)) hb)
     clear HO392
     clear HO414
     clear BK393
     clear BK399
     clear BK410
     clear BK411
     clear HB
     have HO392 := n0_
     have HO414 := n1_
     have HO423 := n2_
     have BK393 := n3_
     have BK399 := n4_
     have BK410 := n5_
     have BK411 := n6_
     have HB := n7_
     clear n0_ n1_ n2_ n3_ n4_ n5_ n6_ n7_
     (try clear hb)
     (try clear hb2)
     (try clear hk)
     (try clear hi)
     (try clear ho0)
     obtain ⟨Ao60, co60, eo60⟩ := Kd.R_slice HO414.out
     (first | subst eo60 | (injection eo60 with f1_ f2_ f3_; have f4_ := f1_.symm; have f5_ := f3_.symm; clear f1_ f2_ f3_; subst f4_; subst f5_))
     obtain ⟨Ao61, co61, eo61⟩ := Kd.R_slice HO423.out
     (first | subst eo61 | (injection eo61 with f1_ f2_ f3_; have f4_ := f1_.symm; have f5_ := f3_.symm; clear f1_ f2_ f3_; subst f4_; subst f5_))
     refine hK.out _ _ ⟨(blk_cell BK399.out 0).trans rfl, (blk_cell BK399.out 1).trans rfl, (blk_cell BK399.out 2).trans rfl, (blk_cell BK399.out 3).trans rfl, (blk_cell BK399.out 4).trans rfl, (blk_cell BK393.out 0).trans rfl, (blk_cell BK393.out 1).trans rfl, (blk_cell BK393.out 2).trans rfl, (blk_cell BK393.out 3).trans rfl, (blk_cell BK393.out 4).trans rfl, (blk_cell BK410.out 0).trans rfl, (blk_cell BK410.out 1).trans rfl, (blk_cell BK410.out 2).trans rfl, (blk_cell BK410.out 3).trans rfl, (blk_cell BK410.out 4).trans rfl, (blk_cell BK411.out 0).trans rfl, (blk_cell BK411.out 1).trans rfl, (blk_cell BK411.out 2).trans rfl, (blk_cell BK411.out 3).trans rfl, (blk_cell BK411.out 4).trans rfl⟩ (fun hHeld => ?_)
     clear hK K
     refine norm_ (a' := ?_) ?_ ?_
     rotate_left
     ·show Act.put _ (some 40) _ = _
      simp only [Act.put, List.setIfInBounds_toArray, List.set_cons_zero, List.set_cons_succ, i64_w, i32_w]
      rfl
     refine one_ (i := 10) (N := some 41) (bm 27 2047) rfl rfl (one_of HT_.out (by kernel_rfl)) (by decide) (fun K hK => ?_)
     refine goes_ Tryd.func20 (by kernel_rfl) rfl #[.slice Ao60 t412.length co60, .slice Ao61 t421.length co61] (by rfl) rfl rfl (by (try simp only [List.map_toArray, List.map_cons, List.map_nil]); first | done | rfl | (simp only [List.length_drop, List.length_take]; rfl)) ?_
     with_reducible refine (laws_likeInts.calls k _ _ t412 _ _ t421 false _ ?side1 ?side2 ?side3 ?side4 A37.out).mono ?_
     (case side1 => repeat (first | exact (Kd.R_reads' HO414.out).2.2 | (with_reducible refine Kd.C_alloc ?_ _) | (with_reducible refine Kd.C_drewN ?_ _) | (with_reducible refine Kd.C_drew ?_)))
     (case side2 => exact (Kd.R_reads' HO414.out).2.1)
     (case side3 => repeat (first | exact (Kd.R_reads' HO423.out).2.2 | (with_reducible refine Kd.C_alloc ?_ _) | (with_reducible refine Kd.C_drewN ?_ _) | (with_reducible refine Kd.C_drew ?_)))
     (case side4 => exact (Kd.R_reads' HO423.out).2.1)
     rintro e w' ⟨rfl, ⟨nd, rfl⟩⟩
     refine ⟨_, rfl, ?_⟩
     refine hK.out _ _ ⟨(blk_cell BK399.out 0).trans rfl, (blk_cell BK399.out 1).trans rfl, (blk_cell BK399.out 2).trans rfl, (blk_cell BK399.out 3).trans rfl, (blk_cell BK399.out 4).trans rfl, (blk_cell BK393.out 0).trans rfl, (blk_cell BK393.out 1).trans rfl, (blk_cell BK393.out 2).trans rfl, (blk_cell BK393.out 3).trans rfl, (blk_cell BK393.out 4).trans rfl, (blk_cell BK410.out 0).trans rfl, (blk_cell BK410.out 1).trans rfl, (blk_cell BK410.out 2).trans rfl, (blk_cell BK410.out 3).trans rfl, (blk_cell BK410.out 4).trans rfl, (blk_cell BK411.out 0).trans rfl, (blk_cell BK411.out 1).trans rfl, (blk_cell BK411.out 2).trans rfl, (blk_cell BK411.out 3).trans rfl, (blk_cell BK411.out 4).trans rfl⟩ (fun hHeld => ?_)
     clear hK K
     refine norm_ (a' := ?_) ?_ ?_
     rotate_left
     ·show Act.put _ (some 41) _ = _
      simp only [Act.put, List.setIfInBounds_toArray, List.set_cons_zero, List.set_cons_succ, i64_w, i32_w]
      rfl
     refine pu_ 11 42 (bm 27 4095) HT_.out ?_
     refine pu_ 12 43 (bm 27 8191) HT_.out ?_
     refine pu_ 13 44 (bm 27 16383) HT_.out ?_
     refine un_ 14 45 (bm 27 32767) HT_.out ?_
     refine un_ 15 46 (bm 27 65535) HT_.out ?_
     refine un_ 16 47 (bm 27 131071) HT_.out ?_
     refine un_ 17 48 (bm 27 262143) HT_.out ?_
     refine un_ 18 49 (bm 27 524287) HT_.out ?_
     refine pu_ 19 50 (bm 27 1048575) HT_.out ?_
     refine pu_ 20 51 (bm 27 2097151) HT_.out ?_
     refine un_ 21 52 (bm 27 4194303) HT_.out ?_
     refine un_ 22 53 (bm 27 8388607) HT_.out ?_
     refine un_ 23 54 (bm 27 16777215) HT_.out ?_
     refine un_ 24 55 (bm 27 33554431) HT_.out ?_
     refine un_ 25 56 (bm 27 67108863) HT_.out ?_
     refine pu_ 26 57 (bm 27 134217727) HT_.out ?_
     refine done_ (done_of HT_.out (by kernel_rfl)) ?_
     try go_wp2
     go_meet
     case rel => exact ⟨_, (true), (by first | rfl | (simp; done) | (simp [*]; done)), H', ⟨by first | omega | exact Nat.le_refl _⟩, ⟨by (with_reducible repeat (first | apply r1 | apply r2 | apply r3)); exact Kd.R_mono HO414.out (fun _ hk => trivial)⟩, ⟨rk BK393⟩, ⟨rk BK399⟩, ⟨rk BK410⟩, ⟨rk BK411⟩, ⟨by repeat (first | (with_reducible first | exact HB.out | apply b1 | apply b2 | apply b3 | refine below_set ?_ GE393.out | refine below_set ?_ GE399.out | refine below_set ?_ GE410.out | refine below_set ?_ GE411.out) | exact HB.out)⟩⟩
  case rest =>
   clear HC9
   try clear c1
   try clear c2
   try clear p2
   try clear c3
   try clear c6
   try clear c19
   try clear c20
   try clear c21
   try clear c38
   obtain ⟨kq, x57_8, rfl, HA, HJ8, HO_8, BK393, BK399, BK410, BK411, HB⟩ := hcut
   cases kq with
   | zero => exact absurd HA.out (by simp [laws_FnStyles.j0])
   | succ kj8 =>
    have H := HA.out
    clear HA
    simp only [laws_FnStyles.j0] at H
    by_cases c62 : x57_8 = true
    ·subst c62
     have H1 : (some false) = some r := by rw [if_pos rfl] at H; exact H
     clear H
     have H := H1
     clear H1
     first
     | with_reducible exact absurd (Option.some.inj (H.trans (congrArg some hT_))) Bool.false_ne_true
     | (
       obtain rfl := Option.some.inj H
       go_wp2
       go_ret
       exact ⟨by first | rfl | (simp [errW_none, errW_some] <;> rfl) | (simp [*, errW_none, errW_some] <;> rfl), by repeat (first | (with_reducible first | exact HB.out | apply b1 | apply b2 | apply b3 | refine below_set ?_ GE393.out | refine below_set ?_ GE399.out | refine below_set ?_ GE410.out | refine below_set ?_ GE411.out) | exact HB.out)⟩)
    ·replace c62 := Bool.eq_false_iff.mpr c62
     subst c62
     have H1 : ((impl_StyleOk.f t400 t401 t402 t403 t404).bind fun t428 => (if t428 = true then ((impl_StyleOk.f t405 t406 t407 t408 t409).bind fun t429 => (laws_FnStyles.j1 kj8 t412 t415 (!t429) t394 t395 t396 t397 t398 t400 t401 t402 t403 t404 t405 t406 t407 t408 t409)) else (laws_FnStyles.j1 kj8 t412 t415 true t394 t395 t396 t397 t398 t400 t401 t402 t403 t404 t405 t406 t407 t408 t409))) = some r := by rw [if_neg (show ¬ (false = true) by decide)] at H; exact H
     clear H
     have H := H1
     clear H1
     have HC63 := am H
     clear H
     go_upto_region 10 with (fail)
     go_cut [65] (fun v65 wc => ∃ (kq : Nat) (x65_62 : Bool), v65 = .bool x65_62 ∧ Aside0 (laws_FnStyles.j1 kq t412 t415 x65_62 t394 t395 t396 t397 t398 t400 t401 t402 t403 t404 t405 t406 t407 t408 t409 = some r) ∧ Aside0 (kq ≤ kj8) ∧ Aside0 (Kd.R (Kd.int .i64) 2 wc w.heap.size (fun _ => True) v413 t412) ∧ Aside0 (wc.heap[gb393]? = some (.cells #[.int .i64 t385, .int .i64 t386, .bool t387, .bool t388, .bool t389] 25 (0, 0))) ∧ Aside0 (wc.heap[gb399]? = some (.cells #[.int .i64 t394, .int .i64 t395, .bool t396, .bool t397, .bool t398] 25 (0, 0))) ∧ Aside0 (wc.heap[gb410]? = some (.cells #[.int .i64 t400, .int .i64 t401, .bool t402, .bool t403, .bool t404] 25 (0, 0))) ∧ Aside0 (wc.heap[gb411]? = some (.cells #[.int .i64 t405, .int .i64 t406, .bool t407, .bool t408, .bool t409] 25 (0, 0))) ∧ Aside0 (Below w.heap.size w wc))
     case first =>
      have H := HC63.out
      clear HC63
      replace H := Option.bind_eq_some_iff.mp H
      obtain ⟨t428, A640, H⟩ := H
      replace H : (if t428 = true then ((impl_StyleOk.f t405 t406 t407 t408 t409).bind fun t429 => (laws_FnStyles.j1 kj8 t412 t415 (!t429) t394 t395 t396 t397 t398 t400 t401 t402 t403 t404 t405 t406 t407 t408 t409)) else (laws_FnStyles.j1 kj8 t412 t415 true t394 t395 t396 t397 t398 t400 t401 t402 t403 t404 t405 t406 t407 t408 t409)) = some r := H
      have A64 := am A640
      clear A640
      by_cases c65 : t428 = true
      ·subst c65
       have H1 : ((impl_StyleOk.f t405 t406 t407 t408 t409).bind fun t429 => (laws_FnStyles.j1 kj8 t412 t415 (!t429) t394 t395 t396 t397 t398 t400 t401 t402 t403 t404 t405 t406 t407 t408 t409)) = some r := by rw [if_pos rfl] at H; exact H
       clear H
       have H := H1
       clear H1
       replace H := Option.bind_eq_some_iff.mp H
       obtain ⟨t429, A660, H⟩ := H
       replace H : (laws_FnStyles.j1 kj8 t412 t415 (!t429) t394 t395 t396 t397 t398 t400 t401 t402 t403 t404 t405 t406 t407 t408 t409) = some r := H
       have A66 := am A660
       clear A660
       have H' := am H
       clear H
       have hnb67 := NB410_393.out
       have hnc67 := NB393_410.out
       have hnb68 := NB410_399.out
       have hnc68 := NB399_410.out
       have hnb69 := NB410_411.out
       have hnc69 := NB411_410.out
       have hcz70_0 : wc.cell? ⟨gb410, 0, none⟩ = some (.int .i64 t400) := (blk_cell BK410.out 0).trans rfl
       have hcz70_1 : wc.cell? ⟨gb410, 1, none⟩ = some (.int .i64 t401) := (blk_cell BK410.out 1).trans rfl
       have hcz70_2 : wc.cell? ⟨gb410, 2, none⟩ = some (.bool t402) := (blk_cell BK410.out 2).trans rfl
       have hcz70_3 : wc.cell? ⟨gb410, 3, none⟩ = some (.bool t403) := (blk_cell BK410.out 3).trans rfl
       have hcz70_4 : wc.cell? ⟨gb410, 4, none⟩ = some (.bool t404) := (blk_cell BK410.out 4).trans rfl
       have hfz70_0 := blk_frozen BK410.out 0
       have hfz70_1 := blk_frozen BK410.out 1
       have hfz70_2 := blk_frozen BK410.out 2
       have hfz70_3 := blk_frozen BK410.out 3
       have hfz70_4 := blk_frozen BK410.out 4
       go_wp2_with (first | ((with_reducible refine gate_callee (f := 22) rfl ?_); refine gl_ (some 59) Tryd.func22 #[.agg #[.int .i64 t400, .int .i64 t401, .bool t402, .bool t403, .bool t404]] ?_; (with_reducible refine (impl_StyleOk.calls t400 t401 t402 t403 t404 true _ A64.out).mono ?_); rintro e w71 ⟨rfl, hb⟩; refine ⟨_, rfl, ?_⟩; have n0_ := am (Kd.R_below (rr HO_8) hb); have n1_ := am (blk_below (g := gb393) (o := .cells #[.int .i64 t385, .int .i64 t386, .bool t387, .bool t388, .bool t389] 25 (0, 0)) (rk BK393) hb); have n2_ := am (blk_below (g := gb399) (o := .cells #[.int .i64 t394, .int .i64 t395, .bool t396, .bool t397, .bool t398] 25 (0, 0)) (rk BK399) hb); have n3_ := am (blk_below (g := gb410) (o := .cells #[.int .i64 t400, .int .i64 t401, .bool t402, .bool t403, .bool t404] 25 (0, 0)) (rk BK410) hb); have n4_ := am (blk_below (g := gb411) (o := .cells #[.int .i64 t405, .int .i64 t406, .bool t407, .bool t408, .bool t409] 25 (0, 0)) (rk BK411) hb); have n5_ := am (below_step (by repeat (first | (with_reducible first | exact HB.out | apply b1 | apply b2 | apply b3 | refine below_set ?_ GE393.out | refine below_set ?_ GE399.out | refine below_set ?_ GE410.out | refine below_set ?_ GE411.out) | exact HB.out)) hb); clear HO_8; clear BK393; clear BK399; clear BK410; clear BK411; clear HB; have HO_8 := n0_; have BK393 := n1_; have BK399 := n2_; have BK410 := n3_; have BK411 := n4_; have HB := n5_; clear n0_ n1_ n2_ n3_ n4_ n5_; (try clear hb); (try clear hb2); (try clear hk); (try clear hi); have hnb72 := NB411_393.out; have hnc72 := NB393_411.out; have hnb73 := NB411_399.out; have hnc73 := NB399_411.out; have hcz74_0 : w71.cell? ⟨gb411, 0, none⟩ = some (.int .i64 t405) := (blk_cell BK411.out 0).trans rfl; have hcz74_1 : w71.cell? ⟨gb411, 1, none⟩ = some (.int .i64 t406) := (blk_cell BK411.out 1).trans rfl; have hcz74_2 : w71.cell? ⟨gb411, 2, none⟩ = some (.bool t407) := (blk_cell BK411.out 2).trans rfl; have hcz74_3 : w71.cell? ⟨gb411, 3, none⟩ = some (.bool t408) := (blk_cell BK411.out 3).trans rfl; have hcz74_4 : w71.cell? ⟨gb411, 4, none⟩ = some (.bool t409) := (blk_cell BK411.out 4).trans rfl; have hfz74_0 := blk_frozen BK411.out 0; have hfz74_1 := blk_frozen BK411.out 1; have hfz74_2 := blk_frozen BK411.out 2; have hfz74_3 := blk_frozen BK411.out 3; have hfz74_4 := blk_frozen BK411.out 4) | (go_at_call 22; (with_reducible refine (impl_StyleOk.calls t405 t406 t407 t408 t409 t429 _ A66.out).mono ?_); rintro e w75 ⟨rfl, hb⟩; have n0_ := am (Kd.R_below (rr HO_8) hb); have n1_ := am (blk_below (g := gb393) (o := .cells #[.int .i64 t385, .int .i64 t386, .bool t387, .bool t388, .bool t389] 25 (0, 0)) (rk BK393) hb); have n2_ := am (blk_below (g := gb399) (o := .cells #[.int .i64 t394, .int .i64 t395, .bool t396, .bool t397, .bool t398] 25 (0, 0)) (rk BK399) hb); have n3_ := am (blk_below (g := gb410) (o := .cells #[.int .i64 t400, .int .i64 t401, .bool t402, .bool t403, .bool t404] 25 (0, 0)) (rk BK410) hb); have n4_ := am (blk_below (g := gb411) (o := .cells #[.int .i64 t405, .int .i64 t406, .bool t407, .bool t408, .bool t409] 25 (0, 0)) (rk BK411) hb); have n5_ := am (below_step (by repeat (first | (with_reducible first | exact HB.out | apply b1 | apply b2 | apply b3 | refine below_set ?_ GE393.out | refine below_set ?_ GE399.out | refine below_set ?_ GE410.out | refine below_set ?_ GE411.out) | exact HB.out)) hb); clear HO_8; clear BK393; clear BK399; clear BK410; clear BK411; clear HB; have HO_8 := n0_; have BK393 := n1_; have BK399 := n2_; have BK410 := n3_; have BK411 := n4_; have HB := n5_; clear n0_ n1_ n2_ n3_ n4_ n5_; (try clear hb); (try clear hb2); (try clear hk); (try clear hi)))
       go_meet
       case rel => exact ⟨_, (!t429), (by first | rfl | (simp; done) | (simp [*]; done)), H', ⟨by have := HJ8.out; first | omega | exact Nat.le_refl _⟩, ⟨rr HO_8⟩, ⟨rk BK393⟩, ⟨rk BK399⟩, ⟨rk BK410⟩, ⟨rk BK411⟩, ⟨by repeat (first | (with_reducible first | exact HB.out | apply b1 | apply b2 | apply b3 | refine below_set ?_ GE393.out | refine below_set ?_ GE399.out | refine below_set ?_ GE410.out | refine below_set ?_ GE411.out) | exact HB.out)⟩⟩
      ·replace c65 := Bool.eq_false_iff.mpr c65
       subst c65
       have H1 : (laws_FnStyles.j1 kj8 t412 t415 true t394 t395 t396 t397 t398 t400 t401 t402 t403 t404 t405 t406 t407 t408 t409) = some r := by rw [if_neg (show ¬ (false = true) by decide)] at H; exact H
       clear H
       have H := H1
       clear H1
       have H' := am H
       clear H
       have hnb76 := NB410_393.out
       have hnc76 := NB393_410.out
       have hnb77 := NB410_399.out
       have hnc77 := NB399_410.out
       have hnb78 := NB410_411.out
       have hnc78 := NB411_410.out
       have hcz79_0 : wc.cell? ⟨gb410, 0, none⟩ = some (.int .i64 t400) := (blk_cell BK410.out 0).trans rfl
       have hcz79_1 : wc.cell? ⟨gb410, 1, none⟩ = some (.int .i64 t401) := (blk_cell BK410.out 1).trans rfl
       have hcz79_2 : wc.cell? ⟨gb410, 2, none⟩ = some (.bool t402) := (blk_cell BK410.out 2).trans rfl
       have hcz79_3 : wc.cell? ⟨gb410, 3, none⟩ = some (.bool t403) := (blk_cell BK410.out 3).trans rfl
       have hcz79_4 : wc.cell? ⟨gb410, 4, none⟩ = some (.bool t404) := (blk_cell BK410.out 4).trans rfl
       have hfz79_0 := blk_frozen BK410.out 0
       have hfz79_1 := blk_frozen BK410.out 1
       have hfz79_2 := blk_frozen BK410.out 2
       have hfz79_3 := blk_frozen BK410.out 3
       have hfz79_4 := blk_frozen BK410.out 4
       go_wp2_with (first | ((with_reducible refine gate_callee (f := 22) rfl ?_); refine gl_ (some 59) Tryd.func22 #[.agg #[.int .i64 t400, .int .i64 t401, .bool t402, .bool t403, .bool t404]] ?_; (with_reducible refine (impl_StyleOk.calls t400 t401 t402 t403 t404 false _ A64.out).mono ?_); rintro e w80 ⟨rfl, hb⟩; refine ⟨_, rfl, ?_⟩; have n0_ := am (Kd.R_below (rr HO_8) hb); have n1_ := am (blk_below (g := gb393) (o := .cells #[.int .i64 t385, .int .i64 t386, .bool t387, .bool t388, .bool t389] 25 (0, 0)) (rk BK393) hb); have n2_ := am (blk_below (g := gb399) (o := .cells #[.int .i64 t394, .int .i64 t395, .bool t396, .bool t397, .bool t398] 25 (0, 0)) (rk BK399) hb); have n3_ := am (blk_below (g := gb410) (o := .cells #[.int .i64 t400, .int .i64 t401, .bool t402, .bool t403, .bool t404] 25 (0, 0)) (rk BK410) hb); have n4_ := am (blk_below (g := gb411) (o := .cells #[.int .i64 t405, .int .i64 t406, .bool t407, .bool t408, .bool t409] 25 (0, 0)) (rk BK411) hb); have n5_ := am (below_step (by repeat (first | (with_reducible first | exact HB.out | apply b1 | apply b2 | apply b3 | refine below_set ?_ GE393.out | refine below_set ?_ GE399.out | refine below_set ?_ GE410.out | refine below_set ?_ GE411.out) | exact HB.out)) hb); clear HO_8; clear BK393; clear BK399; clear BK410; clear BK411; clear HB; have HO_8 := n0_; have BK393 := n1_; have BK399 := n2_; have BK410 := n3_; have BK411 := n4_; have HB := n5_; clear n0_ n1_ n2_ n3_ n4_ n5_; (try clear hb); (try clear hb2); (try clear hk); (try clear hi)))
       go_meet
       case rel => exact ⟨_, (true), (by first | rfl | (simp; done) | (simp [*]; done)), H', ⟨by have := HJ8.out; first | omega | exact Nat.le_refl _⟩, ⟨rr HO_8⟩, ⟨rk BK393⟩, ⟨rk BK399⟩, ⟨rk BK410⟩, ⟨rk BK411⟩, ⟨by repeat (first | (with_reducible first | exact HB.out | apply b1 | apply b2 | apply b3 | refine below_set ?_ GE393.out | refine below_set ?_ GE399.out | refine below_set ?_ GE410.out | refine below_set ?_ GE411.out) | exact HB.out)⟩⟩
     case rest =>
      clear HC63
      try clear c1
      try clear c2
      try clear p2
      try clear c3
      try clear c6
      try clear c7
      try clear c19
      try clear c20
      try clear c21
      try clear c22
      try clear c38
      try clear c62
      try clear c65
      try clear c67
      try clear c68
      try clear c69
      try clear c72
      try clear c73
      try clear c76
      try clear c77
      try clear c78
      try clear hcz70_0
      try clear hcz70_1
      try clear hcz70_2
      try clear hcz70_3
      try clear hcz70_4
      try clear hcz74_0
      try clear hcz74_1
      try clear hcz74_2
      try clear hcz74_3
      try clear hcz74_4
      try clear hcz79_0
      try clear hcz79_1
      try clear hcz79_2
      try clear hcz79_3
      try clear hcz79_4
      try clear hfz70_0
      try clear hfz70_1
      try clear hfz70_2
      try clear hfz70_3
      try clear hfz70_4
      try clear hfz74_0
      try clear hfz74_1
      try clear hfz74_2
      try clear hfz74_3
      try clear hfz74_4
      try clear hfz79_0
      try clear hfz79_1
      try clear hfz79_2
      try clear hfz79_3
      try clear hfz79_4
      try clear p2
      obtain ⟨kq, x65_62, rfl, HA, HJ62, HO_8, BK393, BK399, BK410, BK411, HB⟩ := hcut
      cases kq with
      | zero => exact absurd HA.out (by simp [laws_FnStyles.j1])
      | succ kj62 =>
       have H := HA.out
       clear HA
       simp only [laws_FnStyles.j1] at H
       by_cases c81 : x65_62 = true
       ·subst c81
        have H1 : (if (t412.length : Int) = 0 then (some (t415.toList == ([] : List UInt8))) else (some false)) = some r := by rw [if_pos rfl] at H; exact H
        clear H
        have H := H1
        clear H1
        by_cases c82 : (t412.length : Int) = 0
        ·rw [if_pos c82] at H
         have c82b0 : ((t412.length : Int) == 0) = true := beq_iff_eq.mpr c82
         have c82b1 : ((t412.length : Int) != 0) = false := bne_eq_false_iff_eq.mpr c82
         clear c82
         first
         | with_reducible exact absurd (Option.some.inj (H.trans (congrArg some hT_))) Bool.false_ne_true
         | (
           obtain rfl := Option.some.inj H
           obtain ⟨Ao83, co83, eo83⟩ := Kd.R_slice HO_8.out
           subst eo83
           go_wp2
           go_ret
           exact ⟨by first | rfl | (simp [errW_none, errW_some] <;> rfl) | (simp [*, errW_none, errW_some] <;> rfl), by repeat (first | (with_reducible first | exact HB.out | apply b1 | apply b2 | apply b3 | refine below_set ?_ GE393.out | refine below_set ?_ GE399.out | refine below_set ?_ GE410.out | refine below_set ?_ GE411.out) | exact HB.out)⟩)
        ·rw [if_neg c82] at H
         have c82b0 : ((t412.length : Int) == 0) = false := beq_eq_false_iff_ne.mpr c82
         have c82b1 : ((t412.length : Int) != 0) = true := bne_iff_ne.mpr c82
         have c82b2 : ¬ (t412 = []) := fun h_ => c82 (by rw [h_]; rfl)
         first
         | with_reducible exact absurd (Option.some.inj (H.trans (congrArg some hT_))) Bool.false_ne_true
         | (
           obtain rfl := Option.some.inj H
           obtain ⟨Ao84, co84, eo84⟩ := Kd.R_slice HO_8.out
           subst eo84
           go_wp2
           go_ret
           exact ⟨by first | rfl | (simp [errW_none, errW_some] <;> rfl) | (simp [*, errW_none, errW_some] <;> rfl), by repeat (first | (with_reducible first | exact HB.out | apply b1 | apply b2 | apply b3 | refine below_set ?_ GE393.out | refine below_set ?_ GE399.out | refine below_set ?_ GE410.out | refine below_set ?_ GE411.out) | exact HB.out)⟩)
       ·replace c81 := Bool.eq_false_iff.mpr c81
        subst c81
        have H1 : ((impl_StyleOk.f t394 t395 t396 t397 t398).bind fun t430 => (if t430 = true then (if ((t400 == t405 && (t401 == t406 && (t402 == t407 && (t403 == t408 && (t404 == t409))))) == ((t412.length : Int) == 0)) = true then (if (t400 == t405 && (t401 == t406 && (t402 == t407 && (t403 == t408 && (t404 == t409))))) = true then (if ((t415.toList == ([] : List UInt8)) == (t400 == t405 && (t401 == t406 && (t402 == t407 && (t403 == t408 && (t404 == t409)))))) = true then ((impl_Styled.f kj62 t400 t401 t402 t403 t404 (([0] : List Int))).bind fun bt434 => (some (bt434.1 == 0 && (bt434.2.1 == 0 && (!bt434.2.2.1 && (!bt434.2.2.2.1 && (!bt434.2.2.2.2))))))) else (some false)) else ((impl_Styled.f kj62 t400 t401 t402 t403 t404 t412).bind fun bt439 => (if (bt439.1 == t405 && (bt439.2.1 == t406 && (bt439.2.2.1 == t407 && (bt439.2.2.2.1 == t408 && (bt439.2.2.2.2 == t409))))) = true then (if ((t415.toList == ([] : List UInt8)) == (t400 == t405 && (t401 == t406 && (t402 == t407 && (t403 == t408 && (t404 == t409)))))) = true then ((impl_Styled.f kj62 t400 t401 t402 t403 t404 (([0] : List Int))).bind fun bt447 => (some (bt447.1 == 0 && (bt447.2.1 == 0 && (!bt447.2.2.1 && (!bt447.2.2.2.1 && (!bt447.2.2.2.2))))))) else (some false)) else (some false)))) else (some false)) else (some false))) = some r := by rw [if_neg (show ¬ (false = true) by decide)] at H; exact H
        clear H
        have H := H1
        clear H1
        replace H := Option.bind_eq_some_iff.mp H
        obtain ⟨t430, A850, H⟩ := H
        replace H : (if t430 = true then (if ((t400 == t405 && (t401 == t406 && (t402 == t407 && (t403 == t408 && (t404 == t409))))) == ((t412.length : Int) == 0)) = true then (if (t400 == t405 && (t401 == t406 && (t402 == t407 && (t403 == t408 && (t404 == t409))))) = true then (if ((t415.toList == ([] : List UInt8)) == (t400 == t405 && (t401 == t406 && (t402 == t407 && (t403 == t408 && (t404 == t409)))))) = true then ((impl_Styled.f kj62 t400 t401 t402 t403 t404 (([0] : List Int))).bind fun bt434 => (some (bt434.1 == 0 && (bt434.2.1 == 0 && (!bt434.2.2.1 && (!bt434.2.2.2.1 && (!bt434.2.2.2.2))))))) else (some false)) else ((impl_Styled.f kj62 t400 t401 t402 t403 t404 t412).bind fun bt439 => (if (bt439.1 == t405 && (bt439.2.1 == t406 && (bt439.2.2.1 == t407 && (bt439.2.2.2.1 == t408 && (bt439.2.2.2.2 == t409))))) = true then (if ((t415.toList == ([] : List UInt8)) == (t400 == t405 && (t401 == t406 && (t402 == t407 && (t403 == t408 && (t404 == t409)))))) = true then ((impl_Styled.f kj62 t400 t401 t402 t403 t404 (([0] : List Int))).bind fun bt447 => (some (bt447.1 == 0 && (bt447.2.1 == 0 && (!bt447.2.2.1 && (!bt447.2.2.2.1 && (!bt447.2.2.2.2))))))) else (some false)) else (some false)))) else (some false)) else (some false)) = some r := H
        have A85 := am A850
        clear A850
        by_cases c86 : t430 = true
        ·subst c86
         have H1 : (if ((t400 == t405 && (t401 == t406 && (t402 == t407 && (t403 == t408 && (t404 == t409))))) == ((t412.length : Int) == 0)) = true then (if (t400 == t405 && (t401 == t406 && (t402 == t407 && (t403 == t408 && (t404 == t409))))) = true then (if ((t415.toList == ([] : List UInt8)) == (t400 == t405 && (t401 == t406 && (t402 == t407 && (t403 == t408 && (t404 == t409)))))) = true then ((impl_Styled.f kj62 t400 t401 t402 t403 t404 (([0] : List Int))).bind fun bt434 => (some (bt434.1 == 0 && (bt434.2.1 == 0 && (!bt434.2.2.1 && (!bt434.2.2.2.1 && (!bt434.2.2.2.2))))))) else (some false)) else ((impl_Styled.f kj62 t400 t401 t402 t403 t404 t412).bind fun bt439 => (if (bt439.1 == t405 && (bt439.2.1 == t406 && (bt439.2.2.1 == t407 && (bt439.2.2.2.1 == t408 && (bt439.2.2.2.2 == t409))))) = true then (if ((t415.toList == ([] : List UInt8)) == (t400 == t405 && (t401 == t406 && (t402 == t407 && (t403 == t408 && (t404 == t409)))))) = true then ((impl_Styled.f kj62 t400 t401 t402 t403 t404 (([0] : List Int))).bind fun bt447 => (some (bt447.1 == 0 && (bt447.2.1 == 0 && (!bt447.2.2.1 && (!bt447.2.2.2.1 && (!bt447.2.2.2.2))))))) else (some false)) else (some false)))) else (some false)) = some r := by rw [if_pos rfl] at H; exact H
         clear H
         have H := H1
         clear H1
         by_cases c87 : ((t400 == t405 && (t401 == t406 && (t402 == t407 && (t403 == t408 && (t404 == t409))))) == ((t412.length : Int) == 0)) = true
         ·rw [if_pos c87] at H
          have c87b0 : ((t400 == t405 && (t401 == t406 && (t402 == t407 && (t403 == t408 && (t404 == t409))))) == ((t412.length : Int) == 0)) = true := c87
          (try (have c87b1 : decide ((t400 == t405 && (t401 == t406 && (t402 == t407 && (t403 == t408 && (t404 == t409))))) = ((t412.length : Int) == 0)) = true := by simpa using c87))
          (try (have c87b2 : ((t400 == t405 && (t401 == t406 && (t402 == t407 && (t403 == t408 && (t404 == t409))))) == ((t412.length : Int) == 0)) = true := by simpa using c87))
          clear c87
          by_cases c88 : (t400 == t405 && (t401 == t406 && (t402 == t407 && (t403 == t408 && (t404 == t409))))) = true
          ·rw [if_pos c88] at H
           have c88b0 : (t400 == t405 && (t401 == t406 && (t402 == t407 && (t403 == t408 && (t404 == t409))))) = true := c88
           have c88x : ((t412.length : Int) == 0) = true := by rw [c88b0] at c87b0; simpa using c87b0
           (try (have c88b1 : decide (t400 = t405 && (t401 == t406 && (t402 == t407 && (t403 == t408 && (t404 == t409))))) = true := by simpa using c88))
           (try (have c88b2 : (t400 == t405 && (t401 == t406 && (t402 == t407 && (t403 == t408 && (t404 == t409))))) = true := by simpa using c88))
           clear c88
           by_cases c89 : ((t415.toList == ([] : List UInt8)) == (t400 == t405 && (t401 == t406 && (t402 == t407 && (t403 == t408 && (t404 == t409)))))) = true
           ·rw [if_pos c89] at H
            have c89b0 : ((t415.toList == ([] : List UInt8)) == (t400 == t405 && (t401 == t406 && (t402 == t407 && (t403 == t408 && (t404 == t409)))))) = true := c89
            have c89x : (t415.toList == ([] : List UInt8)) = true := by rw [c88b0] at c89b0; simpa using c89b0
            (try (have c89b1 : decide ((t415.toList == ([] : List UInt8)) = (t400 == t405 && (t401 == t406 && (t402 == t407 && (t403 == t408 && (t404 == t409)))))) = true := by simpa using c89))
            (try (have c89b2 : ((t415.toList == ([] : List UInt8)) == (t400 == t405 && (t401 == t406 && (t402 == t407 && (t403 == t408 && (t404 == t409)))))) = true := by simpa using c89))
            clear c89
            obtain ⟨y431, hy431⟩ : ∃ y_ : List Int, y_ = (([0] : List Int)) := ⟨_, rfl⟩
            replace H : ((impl_Styled.f kj62 t400 t401 t402 t403 t404 y431).bind fun bt434 => (some (bt434.1 == 0 && (bt434.2.1 == 0 && (!bt434.2.2.1 && (!bt434.2.2.2.1 && (!bt434.2.2.2.2))))))) = some r := by first | (rw [hy431]; with_reducible exact H) | (rw [hy431]; exact H) | exact H
            have Ny431 := am hy431
            clear hy431
            replace H := Option.bind_eq_some_iff.mp H
            obtain ⟨⟨t434, t435, t436, t437, t438⟩, A900, H⟩ := H
            replace H : (some (t434 == 0 && (t435 == 0 && (!t436 && (!t437 && (!t438)))))) = some r := H
            have A90 := am A900
            clear A900
            first
            | with_reducible exact absurd (Option.some.inj (H.trans (congrArg some hT_))) Bool.false_ne_true
            | (
              obtain rfl := Option.some.inj H
              try go_wp2
              have n0_ := am (Kd.R_drew HO_8.out)
              have n1_ := am (blk_drew BK393.out)
              have n2_ := am (blk_drew BK399.out)
              have n3_ := am (blk_drew BK410.out)
              have n4_ := am (blk_drew BK411.out)
              have n5_ := am (below_drew1 HB.out)
              clear HO_8
              clear BK393
              clear BK399
              clear BK410
              clear BK411
              clear HB
              have HO_8 := n0_
              have BK393 := n1_
              have BK399 := n2_
              have BK410 := n3_
              have BK411 := n4_
              have HB := n5_
              clear n0_ n1_ n2_ n3_ n4_ n5_
              refine start_ (n := 39) (S := fun w' => w'.cell? ⟨gb399, 0, none⟩ = some (.int .i64 t394) ∧ w'.cell? ⟨gb399, 1, none⟩ = some (.int .i64 t395) ∧ w'.cell? ⟨gb399, 2, none⟩ = some (.bool t396) ∧ w'.cell? ⟨gb399, 3, none⟩ = some (.bool t397) ∧ w'.cell? ⟨gb399, 4, none⟩ = some (.bool t398) ∧ w'.cell? ⟨gb410, 0, none⟩ = some (.int .i64 t400) ∧ w'.cell? ⟨gb410, 1, none⟩ = some (.int .i64 t401) ∧ w'.cell? ⟨gb410, 2, none⟩ = some (.bool t402) ∧ w'.cell? ⟨gb410, 3, none⟩ = some (.bool t403) ∧ w'.cell? ⟨gb410, 4, none⟩ = some (.bool t404) ∧ w'.cell? ⟨gb411, 0, none⟩ = some (.int .i64 t405) ∧ w'.cell? ⟨gb411, 1, none⟩ = some (.int .i64 t406) ∧ w'.cell? ⟨gb411, 2, none⟩ = some (.bool t407) ∧ w'.cell? ⟨gb411, 3, none⟩ = some (.bool t408) ∧ w'.cell? ⟨gb411, 4, none⟩ = some (.bool t409)) (ds := []) (bm 39 0) (by kernel_rfl) rfl rfl ⟨(blk_cell BK399.out 0).trans rfl, (blk_cell BK399.out 1).trans rfl, (blk_cell BK399.out 2).trans rfl, (blk_cell BK399.out 3).trans rfl, (blk_cell BK399.out 4).trans rfl, (blk_cell BK410.out 0).trans rfl, (blk_cell BK410.out 1).trans rfl, (blk_cell BK410.out 2).trans rfl, (blk_cell BK410.out 3).trans rfl, (blk_cell BK410.out 4).trans rfl, (blk_cell BK411.out 0).trans rfl, (blk_cell BK411.out 1).trans rfl, (blk_cell BK411.out 2).trans rfl, (blk_cell BK411.out 3).trans rfl, (blk_cell BK411.out 4).trans rfl⟩ (fun hHeld => ?_); refine with_tabW laws_FnStyles.tab12 laws_FnStyles.bits12 (fun HT_ HW_ => ?_)
              generalize wc.drew = w91 at HO_8 BK393 BK399 BK410 BK411 HB hHeld ⊢
              refine take_ (i := 0) (N := some 73) (v := ?_) (a' := ?_) (bm 39 1) rfl rfl (take_ofW HT_.out HW_.out (by kernel_rfl)) (fun _ _ _ h => h) (Or.inl ⟨by rfl, ?_⟩) hHeld ?_ ?_
              rotate_left
              ·rintro w' ⟨s0, s1, s2, s3, s4, s5, s6, s7, s8, s9, s10, s11, s12, s13, s14⟩
               go_simp
               with_reducible rfl
              rotate_left
              ·simp only [Act.put, List.setIfInBounds_toArray, List.set_cons_zero, List.set_cons_succ, i64_w, i32_w]
               rfl
              refine one_ (i := 1) (N := some 74) (bm 39 3) rfl rfl (one_of HT_.out (by kernel_rfl)) (by decide) (fun K hK => ?_)
              refine goes_ Tryd.func22 (by kernel_rfl) rfl #[.agg #[.int .i64 t394, .int .i64 t395, .bool t396, .bool t397, .bool t398]] (by rfl) rfl rfl (by (try simp only [List.map_toArray, List.map_cons, List.map_nil]); first | done | rfl | (simp only [List.length_drop, List.length_take]; rfl)) ?_
              with_reducible refine (impl_StyleOk.calls t394 t395 t396 t397 t398 true _ A85.out).mono ?_
              rintro e w92 ⟨rfl, hb⟩
              refine ⟨_, rfl, ?_⟩
              have n0_ := am (Kd.R_below (rr HO_8) hb)
              have n1_ := am (blk_below (g := gb393) (o := .cells #[.int .i64 t385, .int .i64 t386, .bool t387, .bool t388, .bool t389] 25 (0, 0)) (rk BK393) hb)
              have n2_ := am (blk_below (g := gb399) (o := .cells #[.int .i64 t394, .int .i64 t395, .bool t396, .bool t397, .bool t398] 25 (0, 0)) (rk BK399) hb)
              have n3_ := am (blk_below (g := gb410) (o := .cells #[.int .i64 t400, .int .i64 t401, .bool t402, .bool t403, .bool t404] 25 (0, 0)) (rk BK410) hb)
              have n4_ := am (blk_below (g := gb411) (o := .cells #[.int .i64 t405, .int .i64 t406, .bool t407, .bool t408, .bool t409] 25 (0, 0)) (rk BK411) hb)
              have n5_ := am (below_step (by repeat (first | (with_reducible first | exact HB.out | apply b1 | apply b2 | apply b3 | refine below_set ?_ GE393.out | refine below_set ?_ GE399.out | refine below_set ?_ GE410.out | refine below_set ?_ GE411.out) | exact HB.out)) hb)
              clear HO_8
              clear BK393
              clear BK399
              clear BK410
              clear BK411
              clear HB
              have HO_8 := n0_
              have BK393 := n1_
              have BK399 := n2_
              have BK410 := n3_
              have BK411 := n4_
              have HB := n5_
              clear n0_ n1_ n2_ n3_ n4_ n5_
              (try clear hb)
              (try clear hb2)
              (try clear hk)
              (try clear hi)
              obtain ⟨Ao93, co93, eo93⟩ := Kd.R_slice HO_8.out
              (first | subst eo93 | (injection eo93 with f1_ f2_ f3_; have f4_ := f1_.symm; have f5_ := f3_.symm; clear f1_ f2_ f3_; subst f4_; subst f5_))
              refine hK.out _ _ ⟨(blk_cell BK399.out 0).trans rfl, (blk_cell BK399.out 1).trans rfl, (blk_cell BK399.out 2).trans rfl, (blk_cell BK399.out 3).trans rfl, (blk_cell BK399.out 4).trans rfl, (blk_cell BK410.out 0).trans rfl, (blk_cell BK410.out 1).trans rfl, (blk_cell BK410.out 2).trans rfl, (blk_cell BK410.out 3).trans rfl, (blk_cell BK410.out 4).trans rfl, (blk_cell BK411.out 0).trans rfl, (blk_cell BK411.out 1).trans rfl, (blk_cell BK411.out 2).trans rfl, (blk_cell BK411.out 3).trans rfl, (blk_cell BK411.out 4).trans rfl⟩ (fun hHeld => ?_)
              clear hK K
              refine norm_ (a' := ?_) ?_ ?_
              rotate_left
              ·show Act.put _ (some 74) _ = _
               simp only [Act.put, List.setIfInBounds_toArray, List.set_cons_zero, List.set_cons_succ, i64_w, i32_w]
               rfl
              refine pu_ 2 75 (bm 39 7) HT_.out ?_
              refine pu_ 6 79 (bm 39 71) HT_.out ?_
              refine pu_ 7 80 (bm 39 199) HT_.out ?_
              refine pu_ 8 81 (bm 39 455) HT_.out ?_
              refine take_ (i := 3) (N := some 76) (v := ?_) (a' := ?_) (bm 39 463) rfl rfl (take_ofW HT_.out HW_.out (by kernel_rfl)) (fun _ _ _ h => h) (Or.inl ⟨by rfl, ?_⟩) hHeld ?_ ?_
              rotate_left
              ·rintro w' ⟨s0, s1, s2, s3, s4, s5, s6, s7, s8, s9, s10, s11, s12, s13, s14⟩
               go_simp
               with_reducible rfl
              rotate_left
              ·simp only [Act.put, List.setIfInBounds_toArray, List.set_cons_zero, List.set_cons_succ, i64_w, i32_w]
               rfl
              refine take_ (i := 4) (N := some 77) (v := ?_) (a' := ?_) (bm 39 479) rfl rfl (take_ofW HT_.out HW_.out (by kernel_rfl)) (fun _ _ _ h => h) (Or.inl ⟨by rfl, ?_⟩) hHeld ?_ ?_
              rotate_left
              ·rintro w' ⟨s0, s1, s2, s3, s4, s5, s6, s7, s8, s9, s10, s11, s12, s13, s14⟩
               go_simp
               with_reducible rfl
              rotate_left
              ·simp only [Act.put, List.setIfInBounds_toArray, List.set_cons_zero, List.set_cons_succ, i64_w, i32_w]
               rfl
              refine pu_ 5 78 (bm 39 511) HT_.out ?_
              refine pu_ 9 82 (bm 39 1023) HT_.out ?_
              refine pu_ 10 83 (bm 39 2047) HT_.out ?_
              refine pu_ 11 84 (bm 39 4095) HT_.out ?_
              refine take_ (i := 12) (N := some 85) (v := ?_) (a' := ?_) (bm 39 8191) rfl rfl (take_ofW HT_.out HW_.out (by kernel_rfl)) (fun _ _ _ h => h) (Or.inl ⟨by rfl, ?_⟩) hHeld ?_ ?_
              rotate_left
              ·rintro w' ⟨s0, s1, s2, s3, s4, s5, s6, s7, s8, s9, s10, s11, s12, s13, s14⟩
               go_simp
               with_reducible rfl
              rotate_left
              ·simp only [Act.put, List.setIfInBounds_toArray, List.set_cons_zero, List.set_cons_succ, i64_w, i32_w]
               rfl
              refine take_ (i := 13) (N := some 86) (v := ?_) (a' := ?_) (bm 39 16383) rfl rfl (take_ofW HT_.out HW_.out (by kernel_rfl)) (fun _ _ _ h => h) (Or.inl ⟨by rfl, ?_⟩) hHeld ?_ ?_
              rotate_left
              ·rintro w' ⟨s0, s1, s2, s3, s4, s5, s6, s7, s8, s9, s10, s11, s12, s13, s14⟩
               go_simp
               with_reducible rfl
              rotate_left
              ·simp only [Act.put, List.setIfInBounds_toArray, List.set_cons_zero, List.set_cons_succ, i64_w, i32_w]
               rfl
              refine pu_ 14 87 (bm 39 32767) HT_.out ?_
              refine pu_ 15 88 (bm 39 65535) HT_.out ?_
              refine un_ 16 89 (bm 39 131071) HT_.out ?_
              refine un_ 17 90 (bm 39 262143) HT_.out ?_
              refine un_ 18 91 (bm 39 524287) HT_.out ?_
              refine un_ 19 92 (bm 39 1048575) HT_.out ?_
              refine un_ 20 93 (bm 39 2097151) HT_.out ?_
              refine pu_ 21 94 (bm 39 4194303) HT_.out ?_
              refine pu_ 22 95 (bm 39 8388607) HT_.out ?_
              refine pu_ 23 96 (bm 39 16777215) HT_.out ?_
              refine pu_ 24 97 (bm 39 33554431) HT_.out ?_
              refine pu_ 25 98 (bm 39 67108863) HT_.out ?_
              refine take_ (i := 26) (N := some 99) (v := ?_) (a' := ?_) (bm 39 134217727) rfl rfl (take_ofW HT_.out HW_.out (by kernel_rfl)) (fun _ _ _ h => h) (Or.inl ⟨by rfl, ?_⟩) hHeld ?_ ?_
              rotate_left
              ·rintro w' ⟨s0, s1, s2, s3, s4, s5, s6, s7, s8, s9, s10, s11, s12, s13, s14⟩
               go_simp
               with_reducible rfl
              rotate_left
              ·simp only [Act.put, List.setIfInBounds_toArray, List.set_cons_zero, List.set_cons_succ, i64_w, i32_w]
               rfl
              refine take_ (i := 27) (N := some 100) (v := ?_) (a' := ?_) (bm 39 268435455) rfl rfl (take_ofW HT_.out HW_.out (by kernel_rfl)) (fun _ _ _ h => h) (Or.inl ⟨by rfl, ?_⟩) hHeld ?_ ?_
              rotate_left
              ·rintro w' ⟨s0, s1, s2, s3, s4, s5, s6, s7, s8, s9, s10, s11, s12, s13, s14⟩
               go_simp
               with_reducible rfl
              rotate_left
              ·simp only [Act.put, List.setIfInBounds_toArray, List.set_cons_zero, List.set_cons_succ, i64_w, i32_w]
               rfl
              refine pu_ 28 101 (bm 39 536870911) HT_.out ?_
              refine pu_ 29 102 (bm 39 1073741823) HT_.out ?_
              refine pu_ 30 103 (bm 39 2147483647) HT_.out ?_
              refine pu_ 31 104 (bm 39 4294967295) HT_.out ?_
              refine pu_ 35 108 (bm 39 38654705663) HT_.out ?_
              refine take_ (i := 32) (N := some 105) (v := ?_) (a' := ?_) (bm 39 42949672959) rfl rfl (take_ofW HT_.out HW_.out (by kernel_rfl)) (fun _ _ _ h => h) (Or.inl ⟨by rfl, ?_⟩) hHeld ?_ ?_
              rotate_left
              ·rintro w' ⟨s0, s1, s2, s3, s4, s5, s6, s7, s8, s9, s10, s11, s12, s13, s14⟩
               go_simp
               with_reducible rfl
              rotate_left
              ·simp only [Act.put, List.setIfInBounds_toArray, List.set_cons_zero, List.set_cons_succ, i64_w, i32_w]
               rfl
              refine one_ (i := 33) (N := some 106) (bm 39 51539607551) rfl rfl (one_of HT_.out (by kernel_rfl)) (by decide) (fun K hK => ?_)
              refine Kd.R_lit_step (Kd.int .i64) _ 2 ?hg (N := 106) ?hd (xs := ([0] : List Int)) (inner := [.int .i64 0]) (ok := fun _ => True) (okp := fun _ => True) ?hr ?hp (fun _ hk => hk) trivial (Below.refl _ _) (Nat.le_refl _) (by simp) ?_; (case hd => rfl); (case hg => rfl); (case hr => first | (go_simp; done) | (go_simp; rfl)); (case hp => exact (Reps.one (show Kd.M (Kd.int .i64) _ _ _ 0 [.int .i64 0] from rfl) (Reps.none _ _)))
              intro v432 w94 ho95 hb hg_ hnew_
              clear hg_ hnew_
              (first | rw [← Ny431.out] at ho95 | (simp only [Int.reduceToNat] at ho95; rw [← Ny431.out] at ho95))
              have n0_ := am (Kd.R_elder' (rr HO_8) (Kd.R_base ho95) hb)
              have n1_ := am (Kd.R_lower (Kd.R_new' ho95 (Kd.R_lt (rr HO_8))) (below_size (by repeat (first | (with_reducible first | exact HB.out | apply b1 | apply b2 | apply b3 | refine below_set ?_ GE393.out | refine below_set ?_ GE399.out | refine below_set ?_ GE410.out | refine below_set ?_ GE411.out) | exact HB.out))))
              have n2_ := am (blk_below (g := gb393) (o := .cells #[.int .i64 t385, .int .i64 t386, .bool t387, .bool t388, .bool t389] 25 (0, 0)) (rk BK393) hb)
              have n3_ := am (blk_below (g := gb399) (o := .cells #[.int .i64 t394, .int .i64 t395, .bool t396, .bool t397, .bool t398] 25 (0, 0)) (rk BK399) hb)
              have n4_ := am (blk_below (g := gb410) (o := .cells #[.int .i64 t400, .int .i64 t401, .bool t402, .bool t403, .bool t404] 25 (0, 0)) (rk BK410) hb)
              have n5_ := am (blk_below (g := gb411) (o := .cells #[.int .i64 t405, .int .i64 t406, .bool t407, .bool t408, .bool t409] 25 (0, 0)) (rk BK411) hb)
              have n6_ := am (below_step (by repeat (first | (with_reducible first | exact HB.out | apply b1 | apply b2 | apply b3 | refine below_set ?_ GE393.out | refine below_set ?_ GE399.out | refine below_set ?_ GE410.out | refine below_set ?_ GE411.out) | exact HB.out)) hb)
              clear HO_8
              clear BK393
              clear BK399
              clear BK410
              clear BK411
              clear HB
              have HO_8 := n0_
              have HO433 := n1_
              have BK393 := n2_
              have BK399 := n3_
              have BK410 := n4_
              have BK411 := n5_
              have HB := n6_
              clear n0_ n1_ n2_ n3_ n4_ n5_ n6_
              clear hb ho95
              obtain ⟨Ao96, co96, eo96⟩ := Kd.R_slice HO433.out
              (first | subst eo96 | (injection eo96 with f1_ f2_ f3_; have f4_ := f1_.symm; have f5_ := f3_.symm; clear f1_ f2_ f3_; subst f4_; subst f5_))
              refine hK.out _ _ ⟨(blk_cell BK399.out 0).trans rfl, (blk_cell BK399.out 1).trans rfl, (blk_cell BK399.out 2).trans rfl, (blk_cell BK399.out 3).trans rfl, (blk_cell BK399.out 4).trans rfl, (blk_cell BK410.out 0).trans rfl, (blk_cell BK410.out 1).trans rfl, (blk_cell BK410.out 2).trans rfl, (blk_cell BK410.out 3).trans rfl, (blk_cell BK410.out 4).trans rfl, (blk_cell BK411.out 0).trans rfl, (blk_cell BK411.out 1).trans rfl, (blk_cell BK411.out 2).trans rfl, (blk_cell BK411.out 3).trans rfl, (blk_cell BK411.out 4).trans rfl⟩ (fun hHeld => ?_)
              clear hK K
              refine norm_ (a' := ?_) ?_ ?_
              rotate_left
              ·show Act.put _ (some 106) _ = _
               simp only [Act.put, List.setIfInBounds_toArray, List.set_cons_zero, List.set_cons_succ, i64_w, i32_w]
               rfl
              refine one_ (i := 34) (N := some 107) (bm 39 68719476735) rfl rfl (one_of HT_.out (by kernel_rfl)) (by decide) (fun K hK => ?_)
              refine goes_ Tryd.func16 (by kernel_rfl) rfl #[.agg #[.int .i64 t400, .int .i64 t401, .bool t402, .bool t403, .bool t404], .slice Ao96 y431.length co96] (by rfl) rfl rfl (by (try simp only [List.map_toArray, List.map_cons, List.map_nil]); first | done | rfl | (simp only [List.length_drop, List.length_take]; rfl)) ?_
              with_reducible refine (impl_Styled.calls kj62 t400 t401 t402 t403 t404 _ _ y431 t434 t435 t436 t437 t438 _ ?side1 ?side2 A90.out).mono ?_
              (case side1 => repeat (first | exact (Kd.R_reads' HO433.out).2.2 | (with_reducible refine Kd.C_alloc ?_ _) | (with_reducible refine Kd.C_drewN ?_ _) | (with_reducible refine Kd.C_drew ?_)))
              (case side2 => exact (Kd.R_reads' HO433.out).2.1)
              rintro e w97 ⟨rfl, hb⟩
              refine ⟨_, rfl, ?_⟩
              have n0_ := am (Kd.R_below (rr HO_8) hb)
              have n1_ := am (Kd.R_below (rr HO433) hb)
              have n2_ := am (blk_below (g := gb393) (o := .cells #[.int .i64 t385, .int .i64 t386, .bool t387, .bool t388, .bool t389] 25 (0, 0)) (rk BK393) hb)
              have n3_ := am (blk_below (g := gb399) (o := .cells #[.int .i64 t394, .int .i64 t395, .bool t396, .bool t397, .bool t398] 25 (0, 0)) (rk BK399) hb)
              have n4_ := am (blk_below (g := gb410) (o := .cells #[.int .i64 t400, .int .i64 t401, .bool t402, .bool t403, .bool t404] 25 (0, 0)) (rk BK410) hb)
              have n5_ := am (blk_below (g := gb411) (o := .cells #[.int .i64 t405, .int .i64 t406, .bool t407, .bool t408, .bool t409] 25 (0, 0)) (rk BK411) hb)
              have n6_ := am (below_step (by repeat (first | (with_reducible first | exact HB.out | apply b1 | apply b2 | apply b3 | refine below_set ?_ GE393.out | refine below_set ?_ GE399.out | refine below_set ?_ GE410.out | refine below_set ?_ GE411.out) | exact HB.out)) hb)
              clear HO_8
              clear HO433
              clear BK393
              clear BK399
              clear BK410
              clear BK411
              clear HB
              have HO_8 := n0_
              have HO433 := n1_
              have BK393 := n2_
              have BK399 := n3_
              have BK410 := n4_
              have BK411 := n5_
              have HB := n6_
              clear n0_ n1_ n2_ n3_ n4_ n5_ n6_
              (try clear hb)
              (try clear hb2)
              (try clear hk)
              (try clear hi)
              refine hK.out _ _ ⟨(blk_cell BK399.out 0).trans rfl, (blk_cell BK399.out 1).trans rfl, (blk_cell BK399.out 2).trans rfl, (blk_cell BK399.out 3).trans rfl, (blk_cell BK399.out 4).trans rfl, (blk_cell BK410.out 0).trans rfl, (blk_cell BK410.out 1).trans rfl, (blk_cell BK410.out 2).trans rfl, (blk_cell BK410.out 3).trans rfl, (blk_cell BK410.out 4).trans rfl, (blk_cell BK411.out 0).trans rfl, (blk_cell BK411.out 1).trans rfl, (blk_cell BK411.out 2).trans rfl, (blk_cell BK411.out 3).trans rfl, (blk_cell BK411.out 4).trans rfl⟩ (fun hHeld => ?_)
              clear hK K
              refine norm_ (a' := ?_) ?_ ?_
              rotate_left
              ·show Act.put _ (some 107) _ = _
               simp only [Act.put, List.setIfInBounds_toArray, List.set_cons_zero, List.set_cons_succ, i64_w, i32_w]
               rfl
              refine pu_ 36 109 (bm 39 137438953471) HT_.out ?_
              refine pu_ 37 110 (bm 39 274877906943) HT_.out ?_
              refine pu_ 38 2 (bm 39 549755813887) HT_.out ?_
              refine done_ (done_of HT_.out (by kernel_rfl)) ?_
              try go_wp2
              go_ret
              exact ⟨by first | rfl | (simp [errW_none, errW_some] <;> rfl) | (simp [*, errW_none, errW_some] <;> rfl), by repeat (first | (with_reducible first | exact HB.out | apply b1 | apply b2 | apply b3 | refine below_set ?_ GE393.out | refine below_set ?_ GE399.out | refine below_set ?_ GE410.out | refine below_set ?_ GE411.out) | exact HB.out)⟩)
           ·rw [if_neg c89] at H
            have c89b0 : ((t415.toList == ([] : List UInt8)) == (t400 == t405 && (t401 == t406 && (t402 == t407 && (t403 == t408 && (t404 == t409)))))) = false := by simpa using c89
            (try (have c89b1 : decide ((t415.toList == ([] : List UInt8)) = (t400 == t405 && (t401 == t406 && (t402 == t407 && (t403 == t408 && (t404 == t409)))))) = false := by simpa using c89))
            (try (have c89b2 : ((t415.toList == ([] : List UInt8)) == (t400 == t405 && (t401 == t406 && (t402 == t407 && (t403 == t408 && (t404 == t409)))))) = false := by simpa using c89))
            (try (have c89b3 : ¬ ((t415.toList == ([] : List UInt8)) = (t400 == t405 && (t401 == t406 && (t402 == t407 && (t403 == t408 && (t404 == t409)))))) := by simpa using c89))
            clear c89
            first
            | with_reducible exact absurd (Option.some.inj (H.trans (congrArg some hT_))) Bool.false_ne_true
            | (
              obtain rfl := Option.some.inj H
              try go_wp2
              have n0_ := am (Kd.R_drew HO_8.out)
              have n1_ := am (blk_drew BK393.out)
              have n2_ := am (blk_drew BK399.out)
              have n3_ := am (blk_drew BK410.out)
              have n4_ := am (blk_drew BK411.out)
              have n5_ := am (below_drew1 HB.out)
              clear HO_8
              clear BK393
              clear BK399
              clear BK410
              clear BK411
              clear HB
              have HO_8 := n0_
              have BK393 := n1_
              have BK399 := n2_
              have BK410 := n3_
              have BK411 := n4_
              have HB := n5_
              clear n0_ n1_ n2_ n3_ n4_ n5_
              refine start_ (n := 39) (S := fun w' => w'.cell? ⟨gb399, 0, none⟩ = some (.int .i64 t394) ∧ w'.cell? ⟨gb399, 1, none⟩ = some (.int .i64 t395) ∧ w'.cell? ⟨gb399, 2, none⟩ = some (.bool t396) ∧ w'.cell? ⟨gb399, 3, none⟩ = some (.bool t397) ∧ w'.cell? ⟨gb399, 4, none⟩ = some (.bool t398) ∧ w'.cell? ⟨gb410, 0, none⟩ = some (.int .i64 t400) ∧ w'.cell? ⟨gb410, 1, none⟩ = some (.int .i64 t401) ∧ w'.cell? ⟨gb410, 2, none⟩ = some (.bool t402) ∧ w'.cell? ⟨gb410, 3, none⟩ = some (.bool t403) ∧ w'.cell? ⟨gb410, 4, none⟩ = some (.bool t404) ∧ w'.cell? ⟨gb411, 0, none⟩ = some (.int .i64 t405) ∧ w'.cell? ⟨gb411, 1, none⟩ = some (.int .i64 t406) ∧ w'.cell? ⟨gb411, 2, none⟩ = some (.bool t407) ∧ w'.cell? ⟨gb411, 3, none⟩ = some (.bool t408) ∧ w'.cell? ⟨gb411, 4, none⟩ = some (.bool t409)) (ds := []) (bm 39 0) (by kernel_rfl) rfl rfl ⟨(blk_cell BK399.out 0).trans rfl, (blk_cell BK399.out 1).trans rfl, (blk_cell BK399.out 2).trans rfl, (blk_cell BK399.out 3).trans rfl, (blk_cell BK399.out 4).trans rfl, (blk_cell BK410.out 0).trans rfl, (blk_cell BK410.out 1).trans rfl, (blk_cell BK410.out 2).trans rfl, (blk_cell BK410.out 3).trans rfl, (blk_cell BK410.out 4).trans rfl, (blk_cell BK411.out 0).trans rfl, (blk_cell BK411.out 1).trans rfl, (blk_cell BK411.out 2).trans rfl, (blk_cell BK411.out 3).trans rfl, (blk_cell BK411.out 4).trans rfl⟩ (fun hHeld => ?_); refine with_tabW laws_FnStyles.tab12 laws_FnStyles.bits12 (fun HT_ HW_ => ?_)
              generalize wc.drew = w98 at HO_8 BK393 BK399 BK410 BK411 HB hHeld ⊢
              refine take_ (i := 0) (N := some 73) (v := ?_) (a' := ?_) (bm 39 1) rfl rfl (take_ofW HT_.out HW_.out (by kernel_rfl)) (fun _ _ _ h => h) (Or.inl ⟨by rfl, ?_⟩) hHeld ?_ ?_
              rotate_left
              ·rintro w' ⟨s0, s1, s2, s3, s4, s5, s6, s7, s8, s9, s10, s11, s12, s13, s14⟩
               go_simp
               with_reducible rfl
              rotate_left
              ·simp only [Act.put, List.setIfInBounds_toArray, List.set_cons_zero, List.set_cons_succ, i64_w, i32_w]
               rfl
              refine one_ (i := 1) (N := some 74) (bm 39 3) rfl rfl (one_of HT_.out (by kernel_rfl)) (by decide) (fun K hK => ?_)
              refine goes_ Tryd.func22 (by kernel_rfl) rfl #[.agg #[.int .i64 t394, .int .i64 t395, .bool t396, .bool t397, .bool t398]] (by rfl) rfl rfl (by (try simp only [List.map_toArray, List.map_cons, List.map_nil]); first | done | rfl | (simp only [List.length_drop, List.length_take]; rfl)) ?_
              with_reducible refine (impl_StyleOk.calls t394 t395 t396 t397 t398 true _ A85.out).mono ?_
              rintro e w99 ⟨rfl, hb⟩
              refine ⟨_, rfl, ?_⟩
              have n0_ := am (Kd.R_below (rr HO_8) hb)
              have n1_ := am (blk_below (g := gb393) (o := .cells #[.int .i64 t385, .int .i64 t386, .bool t387, .bool t388, .bool t389] 25 (0, 0)) (rk BK393) hb)
              have n2_ := am (blk_below (g := gb399) (o := .cells #[.int .i64 t394, .int .i64 t395, .bool t396, .bool t397, .bool t398] 25 (0, 0)) (rk BK399) hb)
              have n3_ := am (blk_below (g := gb410) (o := .cells #[.int .i64 t400, .int .i64 t401, .bool t402, .bool t403, .bool t404] 25 (0, 0)) (rk BK410) hb)
              have n4_ := am (blk_below (g := gb411) (o := .cells #[.int .i64 t405, .int .i64 t406, .bool t407, .bool t408, .bool t409] 25 (0, 0)) (rk BK411) hb)
              have n5_ := am (below_step (by repeat (first | (with_reducible first | exact HB.out | apply b1 | apply b2 | apply b3 | refine below_set ?_ GE393.out | refine below_set ?_ GE399.out | refine below_set ?_ GE410.out | refine below_set ?_ GE411.out) | exact HB.out)) hb)
              clear HO_8
              clear BK393
              clear BK399
              clear BK410
              clear BK411
              clear HB
              have HO_8 := n0_
              have BK393 := n1_
              have BK399 := n2_
              have BK410 := n3_
              have BK411 := n4_
              have HB := n5_
              clear n0_ n1_ n2_ n3_ n4_ n5_
              (try clear hb)
              (try clear hb2)
              (try clear hk)
              (try clear hi)
              obtain ⟨Ao100, co100, eo100⟩ := Kd.R_slice HO_8.out
              (first | subst eo100 | (injection eo100 with f1_ f2_ f3_; have f4_ := f1_.symm; have f5_ := f3_.symm; clear f1_ f2_ f3_; subst f4_; subst f5_))
              refine hK.out _ _ ⟨(blk_cell BK399.out 0).trans rfl, (blk_cell BK399.out 1).trans rfl, (blk_cell BK399.out 2).trans rfl, (blk_cell BK399.out 3).trans rfl, (blk_cell BK399.out 4).trans rfl, (blk_cell BK410.out 0).trans rfl, (blk_cell BK410.out 1).trans rfl, (blk_cell BK410.out 2).trans rfl, (blk_cell BK410.out 3).trans rfl, (blk_cell BK410.out 4).trans rfl, (blk_cell BK411.out 0).trans rfl, (blk_cell BK411.out 1).trans rfl, (blk_cell BK411.out 2).trans rfl, (blk_cell BK411.out 3).trans rfl, (blk_cell BK411.out 4).trans rfl⟩ (fun hHeld => ?_)
              clear hK K
              refine norm_ (a' := ?_) ?_ ?_
              rotate_left
              ·show Act.put _ (some 74) _ = _
               simp only [Act.put, List.setIfInBounds_toArray, List.set_cons_zero, List.set_cons_succ, i64_w, i32_w]
               rfl
              refine pu_ 2 75 (bm 39 7) HT_.out ?_
              refine pu_ 6 79 (bm 39 71) HT_.out ?_
              refine pu_ 7 80 (bm 39 199) HT_.out ?_
              refine pu_ 8 81 (bm 39 455) HT_.out ?_
              refine take_ (i := 3) (N := some 76) (v := ?_) (a' := ?_) (bm 39 463) rfl rfl (take_ofW HT_.out HW_.out (by kernel_rfl)) (fun _ _ _ h => h) (Or.inl ⟨by rfl, ?_⟩) hHeld ?_ ?_
              rotate_left
              ·rintro w' ⟨s0, s1, s2, s3, s4, s5, s6, s7, s8, s9, s10, s11, s12, s13, s14⟩
               go_simp
               with_reducible rfl
              rotate_left
              ·simp only [Act.put, List.setIfInBounds_toArray, List.set_cons_zero, List.set_cons_succ, i64_w, i32_w]
               rfl
              refine take_ (i := 4) (N := some 77) (v := ?_) (a' := ?_) (bm 39 479) rfl rfl (take_ofW HT_.out HW_.out (by kernel_rfl)) (fun _ _ _ h => h) (Or.inl ⟨by rfl, ?_⟩) hHeld ?_ ?_
              rotate_left
              ·rintro w' ⟨s0, s1, s2, s3, s4, s5, s6, s7, s8, s9, s10, s11, s12, s13, s14⟩
               go_simp
               with_reducible rfl
              rotate_left
              ·simp only [Act.put, List.setIfInBounds_toArray, List.set_cons_zero, List.set_cons_succ, i64_w, i32_w]
               rfl
              refine pu_ 5 78 (bm 39 511) HT_.out ?_
              refine pu_ 9 82 (bm 39 1023) HT_.out ?_
              refine pu_ 10 83 (bm 39 2047) HT_.out ?_
              refine pu_ 11 84 (bm 39 4095) HT_.out ?_
              refine take_ (i := 12) (N := some 85) (v := ?_) (a' := ?_) (bm 39 8191) rfl rfl (take_ofW HT_.out HW_.out (by kernel_rfl)) (fun _ _ _ h => h) (Or.inl ⟨by rfl, ?_⟩) hHeld ?_ ?_
              rotate_left
              ·rintro w' ⟨s0, s1, s2, s3, s4, s5, s6, s7, s8, s9, s10, s11, s12, s13, s14⟩
               go_simp
               with_reducible rfl
              rotate_left
              ·simp only [Act.put, List.setIfInBounds_toArray, List.set_cons_zero, List.set_cons_succ, i64_w, i32_w]
               rfl
              refine take_ (i := 13) (N := some 86) (v := ?_) (a' := ?_) (bm 39 16383) rfl rfl (take_ofW HT_.out HW_.out (by kernel_rfl)) (fun _ _ _ h => h) (Or.inl ⟨by rfl, ?_⟩) hHeld ?_ ?_
              rotate_left
              ·rintro w' ⟨s0, s1, s2, s3, s4, s5, s6, s7, s8, s9, s10, s11, s12, s13, s14⟩
               go_simp
               with_reducible rfl
              rotate_left
              ·simp only [Act.put, List.setIfInBounds_toArray, List.set_cons_zero, List.set_cons_succ, i64_w, i32_w]
               rfl
              refine pu_ 14 87 (bm 39 32767) HT_.out ?_
              refine pu_ 15 88 (bm 39 65535) HT_.out ?_
              refine un_ 16 89 (bm 39 131071) HT_.out ?_
              refine un_ 17 90 (bm 39 262143) HT_.out ?_
              refine un_ 18 91 (bm 39 524287) HT_.out ?_
              refine un_ 19 92 (bm 39 1048575) HT_.out ?_
              refine un_ 20 93 (bm 39 2097151) HT_.out ?_
              refine pu_ 21 94 (bm 39 4194303) HT_.out ?_
              refine pu_ 22 95 (bm 39 8388607) HT_.out ?_
              refine pu_ 23 96 (bm 39 16777215) HT_.out ?_
              refine pu_ 24 97 (bm 39 33554431) HT_.out ?_
              refine pu_ 25 98 (bm 39 67108863) HT_.out ?_
              refine take_ (i := 26) (N := some 99) (v := ?_) (a' := ?_) (bm 39 134217727) rfl rfl (take_ofW HT_.out HW_.out (by kernel_rfl)) (fun _ _ _ h => h) (Or.inl ⟨by rfl, ?_⟩) hHeld ?_ ?_
              rotate_left
              ·rintro w' ⟨s0, s1, s2, s3, s4, s5, s6, s7, s8, s9, s10, s11, s12, s13, s14⟩
               go_simp
               with_reducible rfl
              rotate_left
              ·simp only [Act.put, List.setIfInBounds_toArray, List.set_cons_zero, List.set_cons_succ, i64_w, i32_w]
               rfl
              refine take_ (i := 27) (N := some 100) (v := ?_) (a' := ?_) (bm 39 268435455) rfl rfl (take_ofW HT_.out HW_.out (by kernel_rfl)) (fun _ _ _ h => h) (Or.inl ⟨by rfl, ?_⟩) hHeld ?_ ?_
              rotate_left
              ·rintro w' ⟨s0, s1, s2, s3, s4, s5, s6, s7, s8, s9, s10, s11, s12, s13, s14⟩
               go_simp
               with_reducible rfl
              rotate_left
              ·simp only [Act.put, List.setIfInBounds_toArray, List.set_cons_zero, List.set_cons_succ, i64_w, i32_w]
               rfl
              refine pu_ 28 101 (bm 39 536870911) HT_.out ?_
              refine pu_ 29 102 (bm 39 1073741823) HT_.out ?_
              refine pu_ 30 103 (bm 39 2147483647) HT_.out ?_
              refine pu_ 31 104 (bm 39 4294967295) HT_.out ?_
              refine un_ 32 105 (bm 39 8589934591) HT_.out ?_
              refine un_ 33 106 (bm 39 17179869183) HT_.out ?_
              refine un_ 34 107 (bm 39 34359738367) HT_.out ?_
              refine un_ 35 108 (bm 39 68719476735) HT_.out ?_
              refine un_ 36 109 (bm 39 137438953471) HT_.out ?_
              refine pu_ 37 110 (bm 39 274877906943) HT_.out ?_
              refine pu_ 38 2 (bm 39 549755813887) HT_.out ?_
              refine done_ (done_of HT_.out (by kernel_rfl)) ?_
              try go_wp2
              go_ret
              exact ⟨by first | rfl | (simp [errW_none, errW_some] <;> rfl) | (simp [*, errW_none, errW_some] <;> rfl), by repeat (first | (with_reducible first | exact HB.out | apply b1 | apply b2 | apply b3 | refine below_set ?_ GE393.out | refine below_set ?_ GE399.out | refine below_set ?_ GE410.out | refine below_set ?_ GE411.out) | exact HB.out)⟩)
          ·rw [if_neg c88] at H
           have c88b0 : (t400 == t405 && (t401 == t406 && (t402 == t407 && (t403 == t408 && (t404 == t409))))) = false := by simpa using c88
           have c88x : ((t412.length : Int) == 0) = false := by rw [c88b0] at c87b0; simpa using c87b0
           (try (have c88b1 : decide (t400 = t405 && (t401 == t406 && (t402 == t407 && (t403 == t408 && (t404 == t409))))) = false := by simpa using c88))
           (try (have c88b2 : (t400 == t405 && (t401 == t406 && (t402 == t407 && (t403 == t408 && (t404 == t409))))) = false := by simpa using c88))
           (try (have c88b3 : ¬ (t400 = t405 && (t401 == t406 && (t402 == t407 && (t403 == t408 && (t404 == t409))))) := by simpa using c88))
           clear c88
           replace H := Option.bind_eq_some_iff.mp H
           obtain ⟨⟨t439, t440, t441, t442, t443⟩, A1010, H⟩ := H
           replace H : (if (t439 == t405 && (t440 == t406 && (t441 == t407 && (t442 == t408 && (t443 == t409))))) = true then (if ((t415.toList == ([] : List UInt8)) == (t400 == t405 && (t401 == t406 && (t402 == t407 && (t403 == t408 && (t404 == t409)))))) = true then ((impl_Styled.f kj62 t400 t401 t402 t403 t404 (([0] : List Int))).bind fun bt447 => (some (bt447.1 == 0 && (bt447.2.1 == 0 && (!bt447.2.2.1 && (!bt447.2.2.2.1 && (!bt447.2.2.2.2))))))) else (some false)) else (some false)) = some r := H
           have A101 := am A1010
           clear A1010
           by_cases c102 : (t439 == t405 && (t440 == t406 && (t441 == t407 && (t442 == t408 && (t443 == t409))))) = true
           ·rw [if_pos c102] at H
            have c102b0 : (t439 == t405 && (t440 == t406 && (t441 == t407 && (t442 == t408 && (t443 == t409))))) = true := c102
            (try (have c102b1 : decide (t439 = t405 && (t440 == t406 && (t441 == t407 && (t442 == t408 && (t443 == t409))))) = true := by simpa using c102))
            (try (have c102b2 : (t439 == t405 && (t440 == t406 && (t441 == t407 && (t442 == t408 && (t443 == t409))))) = true := by simpa using c102))
            clear c102
            by_cases c103 : ((t415.toList == ([] : List UInt8)) == (t400 == t405 && (t401 == t406 && (t402 == t407 && (t403 == t408 && (t404 == t409)))))) = true
            ·rw [if_pos c103] at H
             have c103b0 : ((t415.toList == ([] : List UInt8)) == (t400 == t405 && (t401 == t406 && (t402 == t407 && (t403 == t408 && (t404 == t409)))))) = true := c103
             have c103x : (t415.toList == ([] : List UInt8)) = false := by rw [c88b0] at c103b0; simpa using c103b0
             (try (have c103b1 : decide ((t415.toList == ([] : List UInt8)) = (t400 == t405 && (t401 == t406 && (t402 == t407 && (t403 == t408 && (t404 == t409)))))) = true := by simpa using c103))
             (try (have c103b2 : ((t415.toList == ([] : List UInt8)) == (t400 == t405 && (t401 == t406 && (t402 == t407 && (t403 == t408 && (t404 == t409)))))) = true := by simpa using c103))
             clear c103
             obtain ⟨y444, hy444⟩ : ∃ y_ : List Int, y_ = (([0] : List Int)) := ⟨_, rfl⟩
             replace H : ((impl_Styled.f kj62 t400 t401 t402 t403 t404 y444).bind fun bt447 => (some (bt447.1 == 0 && (bt447.2.1 == 0 && (!bt447.2.2.1 && (!bt447.2.2.2.1 && (!bt447.2.2.2.2))))))) = some r := by first | (rw [hy444]; with_reducible exact H) | (rw [hy444]; exact H) | exact H
             have Ny444 := am hy444
             clear hy444
             replace H := Option.bind_eq_some_iff.mp H
             obtain ⟨⟨t447, t448, t449, t450, t451⟩, A1040, H⟩ := H
             replace H : (some (t447 == 0 && (t448 == 0 && (!t449 && (!t450 && (!t451)))))) = some r := H
             have A104 := am A1040
             clear A1040
             first
             | with_reducible exact absurd (Option.some.inj (H.trans (congrArg some hT_))) Bool.false_ne_true
             | (
               obtain rfl := Option.some.inj H
               try go_wp2
               have n0_ := am (Kd.R_drew HO_8.out)
               have n1_ := am (blk_drew BK393.out)
               have n2_ := am (blk_drew BK399.out)
               have n3_ := am (blk_drew BK410.out)
               have n4_ := am (blk_drew BK411.out)
               have n5_ := am (below_drew1 HB.out)
               clear HO_8
               clear BK393
               clear BK399
               clear BK410
               clear BK411
               clear HB
               have HO_8 := n0_
               have BK393 := n1_
               have BK399 := n2_
               have BK410 := n3_
               have BK411 := n4_
               have HB := n5_
               clear n0_ n1_ n2_ n3_ n4_ n5_
               refine start_ (n := 39) (S := fun w' => w'.cell? ⟨gb399, 0, none⟩ = some (.int .i64 t394) ∧ w'.cell? ⟨gb399, 1, none⟩ = some (.int .i64 t395) ∧ w'.cell? ⟨gb399, 2, none⟩ = some (.bool t396) ∧ w'.cell? ⟨gb399, 3, none⟩ = some (.bool t397) ∧ w'.cell? ⟨gb399, 4, none⟩ = some (.bool t398) ∧ w'.cell? ⟨gb410, 0, none⟩ = some (.int .i64 t400) ∧ w'.cell? ⟨gb410, 1, none⟩ = some (.int .i64 t401) ∧ w'.cell? ⟨gb410, 2, none⟩ = some (.bool t402) ∧ w'.cell? ⟨gb410, 3, none⟩ = some (.bool t403) ∧ w'.cell? ⟨gb410, 4, none⟩ = some (.bool t404) ∧ w'.cell? ⟨gb411, 0, none⟩ = some (.int .i64 t405) ∧ w'.cell? ⟨gb411, 1, none⟩ = some (.int .i64 t406) ∧ w'.cell? ⟨gb411, 2, none⟩ = some (.bool t407) ∧ w'.cell? ⟨gb411, 3, none⟩ = some (.bool t408) ∧ w'.cell? ⟨gb411, 4, none⟩ = some (.bool t409)) (ds := []) (bm 39 0) (by kernel_rfl) rfl rfl ⟨(blk_cell BK399.out 0).trans rfl, (blk_cell BK399.out 1).trans rfl, (blk_cell BK399.out 2).trans rfl, (blk_cell BK399.out 3).trans rfl, (blk_cell BK399.out 4).trans rfl, (blk_cell BK410.out 0).trans rfl, (blk_cell BK410.out 1).trans rfl, (blk_cell BK410.out 2).trans rfl, (blk_cell BK410.out 3).trans rfl, (blk_cell BK410.out 4).trans rfl, (blk_cell BK411.out 0).trans rfl, (blk_cell BK411.out 1).trans rfl, (blk_cell BK411.out 2).trans rfl, (blk_cell BK411.out 3).trans rfl, (blk_cell BK411.out 4).trans rfl⟩ (fun hHeld => ?_); refine with_tabW laws_FnStyles.tab12 laws_FnStyles.bits12 (fun HT_ HW_ => ?_)
               generalize wc.drew = w105 at HO_8 BK393 BK399 BK410 BK411 HB hHeld ⊢
               refine take_ (i := 0) (N := some 73) (v := ?_) (a' := ?_) (bm 39 1) rfl rfl (take_ofW HT_.out HW_.out (by kernel_rfl)) (fun _ _ _ h => h) (Or.inl ⟨by rfl, ?_⟩) hHeld ?_ ?_
               rotate_left
               ·rintro w' ⟨s0, s1, s2, s3, s4, s5, s6, s7, s8, s9, s10, s11, s12, s13, s14⟩
                go_simp
                with_reducible rfl
               rotate_left
               ·simp only [Act.put, List.setIfInBounds_toArray, List.set_cons_zero, List.set_cons_succ, i64_w, i32_w]
                rfl
               refine one_ (i := 1) (N := some 74) (bm 39 3) rfl rfl (one_of HT_.out (by kernel_rfl)) (by decide) (fun K hK => ?_)
               refine goes_ Tryd.func22 (by kernel_rfl) rfl #[.agg #[.int .i64 t394, .int .i64 t395, .bool t396, .bool t397, .bool t398]] (by rfl) rfl rfl (by (try simp only [List.map_toArray, List.map_cons, List.map_nil]); first | done | rfl | (simp only [List.length_drop, List.length_take]; rfl)) ?_
               with_reducible refine (impl_StyleOk.calls t394 t395 t396 t397 t398 true _ A85.out).mono ?_
               rintro e w106 ⟨rfl, hb⟩
               refine ⟨_, rfl, ?_⟩
               have n0_ := am (Kd.R_below (rr HO_8) hb)
               have n1_ := am (blk_below (g := gb393) (o := .cells #[.int .i64 t385, .int .i64 t386, .bool t387, .bool t388, .bool t389] 25 (0, 0)) (rk BK393) hb)
               have n2_ := am (blk_below (g := gb399) (o := .cells #[.int .i64 t394, .int .i64 t395, .bool t396, .bool t397, .bool t398] 25 (0, 0)) (rk BK399) hb)
               have n3_ := am (blk_below (g := gb410) (o := .cells #[.int .i64 t400, .int .i64 t401, .bool t402, .bool t403, .bool t404] 25 (0, 0)) (rk BK410) hb)
               have n4_ := am (blk_below (g := gb411) (o := .cells #[.int .i64 t405, .int .i64 t406, .bool t407, .bool t408, .bool t409] 25 (0, 0)) (rk BK411) hb)
               have n5_ := am (below_step (by repeat (first | (with_reducible first | exact HB.out | apply b1 | apply b2 | apply b3 | refine below_set ?_ GE393.out | refine below_set ?_ GE399.out | refine below_set ?_ GE410.out | refine below_set ?_ GE411.out) | exact HB.out)) hb)
               clear HO_8
               clear BK393
               clear BK399
               clear BK410
               clear BK411
               clear HB
               have HO_8 := n0_
               have BK393 := n1_
               have BK399 := n2_
               have BK410 := n3_
               have BK411 := n4_
               have HB := n5_
               clear n0_ n1_ n2_ n3_ n4_ n5_
               (try clear hb)
               (try clear hb2)
               (try clear hk)
               (try clear hi)
               obtain ⟨Ao107, co107, eo107⟩ := Kd.R_slice HO_8.out
               (first | subst eo107 | (injection eo107 with f1_ f2_ f3_; have f4_ := f1_.symm; have f5_ := f3_.symm; clear f1_ f2_ f3_; subst f4_; subst f5_))
               refine hK.out _ _ ⟨(blk_cell BK399.out 0).trans rfl, (blk_cell BK399.out 1).trans rfl, (blk_cell BK399.out 2).trans rfl, (blk_cell BK399.out 3).trans rfl, (blk_cell BK399.out 4).trans rfl, (blk_cell BK410.out 0).trans rfl, (blk_cell BK410.out 1).trans rfl, (blk_cell BK410.out 2).trans rfl, (blk_cell BK410.out 3).trans rfl, (blk_cell BK410.out 4).trans rfl, (blk_cell BK411.out 0).trans rfl, (blk_cell BK411.out 1).trans rfl, (blk_cell BK411.out 2).trans rfl, (blk_cell BK411.out 3).trans rfl, (blk_cell BK411.out 4).trans rfl⟩ (fun hHeld => ?_)
               clear hK K
               refine norm_ (a' := ?_) ?_ ?_
               rotate_left
               ·show Act.put _ (some 74) _ = _
                simp only [Act.put, List.setIfInBounds_toArray, List.set_cons_zero, List.set_cons_succ, i64_w, i32_w]
                rfl
               refine pu_ 2 75 (bm 39 7) HT_.out ?_
               refine pu_ 6 79 (bm 39 71) HT_.out ?_
               refine pu_ 7 80 (bm 39 199) HT_.out ?_
               refine pu_ 8 81 (bm 39 455) HT_.out ?_
               refine take_ (i := 3) (N := some 76) (v := ?_) (a' := ?_) (bm 39 463) rfl rfl (take_ofW HT_.out HW_.out (by kernel_rfl)) (fun _ _ _ h => h) (Or.inl ⟨by rfl, ?_⟩) hHeld ?_ ?_
               rotate_left
               ·rintro w' ⟨s0, s1, s2, s3, s4, s5, s6, s7, s8, s9, s10, s11, s12, s13, s14⟩
                go_simp
                with_reducible rfl
               rotate_left
               ·simp only [Act.put, List.setIfInBounds_toArray, List.set_cons_zero, List.set_cons_succ, i64_w, i32_w]
                rfl
               refine take_ (i := 4) (N := some 77) (v := ?_) (a' := ?_) (bm 39 479) rfl rfl (take_ofW HT_.out HW_.out (by kernel_rfl)) (fun _ _ _ h => h) (Or.inl ⟨by rfl, ?_⟩) hHeld ?_ ?_
               rotate_left
               ·rintro w' ⟨s0, s1, s2, s3, s4, s5, s6, s7, s8, s9, s10, s11, s12, s13, s14⟩
                go_simp
                with_reducible rfl
               rotate_left
               ·simp only [Act.put, List.setIfInBounds_toArray, List.set_cons_zero, List.set_cons_succ, i64_w, i32_w]
                rfl
               refine pu_ 5 78 (bm 39 511) HT_.out ?_
               refine pu_ 9 82 (bm 39 1023) HT_.out ?_
               refine pu_ 10 83 (bm 39 2047) HT_.out ?_
               refine pu_ 11 84 (bm 39 4095) HT_.out ?_
               refine take_ (i := 12) (N := some 85) (v := ?_) (a' := ?_) (bm 39 8191) rfl rfl (take_ofW HT_.out HW_.out (by kernel_rfl)) (fun _ _ _ h => h) (Or.inl ⟨by rfl, ?_⟩) hHeld ?_ ?_
               rotate_left
               ·rintro w' ⟨s0, s1, s2, s3, s4, s5, s6, s7, s8, s9, s10, s11, s12, s13, s14⟩
                go_simp
                with_reducible rfl
               rotate_left
               ·simp only [Act.put, List.setIfInBounds_toArray, List.set_cons_zero, List.set_cons_succ, i64_w, i32_w]
                rfl
               refine take_ (i := 13) (N := some 86) (v := ?_) (a' := ?_) (bm 39 16383) rfl rfl (take_ofW HT_.out HW_.out (by kernel_rfl)) (fun _ _ _ h => h) (Or.inl ⟨by rfl, ?_⟩) hHeld ?_ ?_
               rotate_left
               ·rintro w' ⟨s0, s1, s2, s3, s4, s5, s6, s7, s8, s9, s10, s11, s12, s13, s14⟩
                go_simp
                with_reducible rfl
               rotate_left
               ·simp only [Act.put, List.setIfInBounds_toArray, List.set_cons_zero, List.set_cons_succ, i64_w, i32_w]
                rfl
               refine pu_ 14 87 (bm 39 32767) HT_.out ?_
               refine pu_ 15 88 (bm 39 65535) HT_.out ?_
               refine pu_ 17 90 (bm 39 196607) HT_.out ?_
               refine take_ (i := 16) (N := some 89) (v := ?_) (a' := ?_) (bm 39 262143) rfl rfl (take_ofW HT_.out HW_.out (by kernel_rfl)) (fun _ _ _ h => h) (Or.inl ⟨by rfl, ?_⟩) hHeld ?_ ?_
               rotate_left
               ·rintro w' ⟨s0, s1, s2, s3, s4, s5, s6, s7, s8, s9, s10, s11, s12, s13, s14⟩
                go_simp
                with_reducible rfl
               rotate_left
               ·simp only [Act.put, List.setIfInBounds_toArray, List.set_cons_zero, List.set_cons_succ, i64_w, i32_w]
                rfl
               refine take_ (i := 19) (N := some 92) (v := ?_) (a' := ?_) (bm 39 786431) rfl rfl (take_ofW HT_.out HW_.out (by kernel_rfl)) (fun _ _ _ h => h) (Or.inl ⟨by rfl, ?_⟩) hHeld ?_ ?_
               rotate_left
               ·rintro w' ⟨s0, s1, s2, s3, s4, s5, s6, s7, s8, s9, s10, s11, s12, s13, s14⟩
                go_simp
                with_reducible rfl
               rotate_left
               ·simp only [Act.put, List.setIfInBounds_toArray, List.set_cons_zero, List.set_cons_succ, i64_w, i32_w]
                rfl
               refine one_ (i := 18) (N := some 91) (bm 39 1048575) rfl rfl (one_of HT_.out (by kernel_rfl)) (by decide) (fun K hK => ?_)
               refine goes_ Tryd.func16 (by kernel_rfl) rfl #[.agg #[.int .i64 t400, .int .i64 t401, .bool t402, .bool t403, .bool t404], .slice Ao107 t412.length co107] (by rfl) rfl rfl (by (try simp only [List.map_toArray, List.map_cons, List.map_nil]); first | done | rfl | (simp only [List.length_drop, List.length_take]; rfl)) ?_
               with_reducible refine (impl_Styled.calls kj62 t400 t401 t402 t403 t404 _ _ t412 t439 t440 t441 t442 t443 _ ?side1 ?side2 A101.out).mono ?_
               (case side1 => repeat (first | exact (Kd.R_reads' HO_8.out).2.2 | (with_reducible refine Kd.C_alloc ?_ _) | (with_reducible refine Kd.C_drewN ?_ _) | (with_reducible refine Kd.C_drew ?_)))
               (case side2 => exact (Kd.R_reads' HO_8.out).2.1)
               rintro e w108 ⟨rfl, hb⟩
               refine ⟨_, rfl, ?_⟩
               have n0_ := am (Kd.R_below (rr HO_8) hb)
               have n1_ := am (blk_below (g := gb393) (o := .cells #[.int .i64 t385, .int .i64 t386, .bool t387, .bool t388, .bool t389] 25 (0, 0)) (rk BK393) hb)
               have n2_ := am (blk_below (g := gb399) (o := .cells #[.int .i64 t394, .int .i64 t395, .bool t396, .bool t397, .bool t398] 25 (0, 0)) (rk BK399) hb)
               have n3_ := am (blk_below (g := gb410) (o := .cells #[.int .i64 t400, .int .i64 t401, .bool t402, .bool t403, .bool t404] 25 (0, 0)) (rk BK410) hb)
               have n4_ := am (blk_below (g := gb411) (o := .cells #[.int .i64 t405, .int .i64 t406, .bool t407, .bool t408, .bool t409] 25 (0, 0)) (rk BK411) hb)
               have n5_ := am (below_step (by repeat (first | (with_reducible first | exact HB.out | apply b1 | apply b2 | apply b3 | refine below_set ?_ GE393.out | refine below_set ?_ GE399.out | refine below_set ?_ GE410.out | refine below_set ?_ GE411.out) | exact HB.out)) hb)
               clear HO_8
               clear BK393
               clear BK399
               clear BK410
               clear BK411
               clear HB
               have HO_8 := n0_
               have BK393 := n1_
               have BK399 := n2_
               have BK410 := n3_
               have BK411 := n4_
               have HB := n5_
               clear n0_ n1_ n2_ n3_ n4_ n5_
               (try clear hb)
               (try clear hb2)
               (try clear hk)
               (try clear hi)
               refine hK.out _ _ ⟨(blk_cell BK399.out 0).trans rfl, (blk_cell BK399.out 1).trans rfl, (blk_cell BK399.out 2).trans rfl, (blk_cell BK399.out 3).trans rfl, (blk_cell BK399.out 4).trans rfl, (blk_cell BK410.out 0).trans rfl, (blk_cell BK410.out 1).trans rfl, (blk_cell BK410.out 2).trans rfl, (blk_cell BK410.out 3).trans rfl, (blk_cell BK410.out 4).trans rfl, (blk_cell BK411.out 0).trans rfl, (blk_cell BK411.out 1).trans rfl, (blk_cell BK411.out 2).trans rfl, (blk_cell BK411.out 3).trans rfl, (blk_cell BK411.out 4).trans rfl⟩ (fun hHeld => ?_)
               clear hK K
               refine norm_ (a' := ?_) ?_ ?_
               rotate_left
               ·show Act.put _ (some 91) _ = _
                simp only [Act.put, List.setIfInBounds_toArray, List.set_cons_zero, List.set_cons_succ, i64_w, i32_w]
                rfl
               refine pu_ 20 93 (bm 39 2097151) HT_.out ?_
               refine pu_ 21 94 (bm 39 4194303) HT_.out ?_
               refine pu_ 22 95 (bm 39 8388607) HT_.out ?_
               refine pu_ 23 96 (bm 39 16777215) HT_.out ?_
               refine pu_ 24 97 (bm 39 33554431) HT_.out ?_
               refine pu_ 25 98 (bm 39 67108863) HT_.out ?_
               refine take_ (i := 26) (N := some 99) (v := ?_) (a' := ?_) (bm 39 134217727) rfl rfl (take_ofW HT_.out HW_.out (by kernel_rfl)) (fun _ _ _ h => h) (Or.inl ⟨by rfl, ?_⟩) hHeld ?_ ?_
               rotate_left
               ·rintro w' ⟨s0, s1, s2, s3, s4, s5, s6, s7, s8, s9, s10, s11, s12, s13, s14⟩
                go_simp
                with_reducible rfl
               rotate_left
               ·simp only [Act.put, List.setIfInBounds_toArray, List.set_cons_zero, List.set_cons_succ, i64_w, i32_w]
                rfl
               refine take_ (i := 27) (N := some 100) (v := ?_) (a' := ?_) (bm 39 268435455) rfl rfl (take_ofW HT_.out HW_.out (by kernel_rfl)) (fun _ _ _ h => h) (Or.inl ⟨by rfl, ?_⟩) hHeld ?_ ?_
               rotate_left
               ·rintro w' ⟨s0, s1, s2, s3, s4, s5, s6, s7, s8, s9, s10, s11, s12, s13, s14⟩
                go_simp
                with_reducible rfl
               rotate_left
               ·simp only [Act.put, List.setIfInBounds_toArray, List.set_cons_zero, List.set_cons_succ, i64_w, i32_w]
                rfl
               refine pu_ 28 101 (bm 39 536870911) HT_.out ?_
               refine pu_ 29 102 (bm 39 1073741823) HT_.out ?_
               refine pu_ 30 103 (bm 39 2147483647) HT_.out ?_
               refine pu_ 31 104 (bm 39 4294967295) HT_.out ?_
               refine pu_ 35 108 (bm 39 38654705663) HT_.out ?_
               refine take_ (i := 32) (N := some 105) (v := ?_) (a' := ?_) (bm 39 42949672959) rfl rfl (take_ofW HT_.out HW_.out (by kernel_rfl)) (fun _ _ _ h => h) (Or.inl ⟨by rfl, ?_⟩) hHeld ?_ ?_
               rotate_left
               ·rintro w' ⟨s0, s1, s2, s3, s4, s5, s6, s7, s8, s9, s10, s11, s12, s13, s14⟩
                go_simp
                with_reducible rfl
               rotate_left
               ·simp only [Act.put, List.setIfInBounds_toArray, List.set_cons_zero, List.set_cons_succ, i64_w, i32_w]
                rfl
               refine one_ (i := 33) (N := some 106) (bm 39 51539607551) rfl rfl (one_of HT_.out (by kernel_rfl)) (by decide) (fun K hK => ?_)
               refine Kd.R_lit_step (Kd.int .i64) _ 2 ?hg (N := 106) ?hd (xs := ([0] : List Int)) (inner := [.int .i64 0]) (ok := fun _ => True) (okp := fun _ => True) ?hr ?hp (fun _ hk => hk) trivial (Below.refl _ _) (Nat.le_refl _) (by simp) ?_; (case hd => rfl); (case hg => rfl); (case hr => first | (go_simp; done) | (go_simp; rfl)); (case hp => exact (Reps.one (show Kd.M (Kd.int .i64) _ _ _ 0 [.int .i64 0] from rfl) (Reps.none _ _)))
               intro v445 w109 ho110 hb hg_ hnew_
               clear hg_ hnew_
               (first | rw [← Ny444.out] at ho110 | (simp only [Int.reduceToNat] at ho110; rw [← Ny444.out] at ho110))
               have n0_ := am (Kd.R_elder' (rr HO_8) (Kd.R_base ho110) hb)
               have n1_ := am (Kd.R_lower (Kd.R_new' ho110 (Kd.R_lt (rr HO_8))) (below_size (by repeat (first | (with_reducible first | exact HB.out | apply b1 | apply b2 | apply b3 | refine below_set ?_ GE393.out | refine below_set ?_ GE399.out | refine below_set ?_ GE410.out | refine below_set ?_ GE411.out) | exact HB.out))))
               have n2_ := am (blk_below (g := gb393) (o := .cells #[.int .i64 t385, .int .i64 t386, .bool t387, .bool t388, .bool t389] 25 (0, 0)) (rk BK393) hb)
               have n3_ := am (blk_below (g := gb399) (o := .cells #[.int .i64 t394, .int .i64 t395, .bool t396, .bool t397, .bool t398] 25 (0, 0)) (rk BK399) hb)
               have n4_ := am (blk_below (g := gb410) (o := .cells #[.int .i64 t400, .int .i64 t401, .bool t402, .bool t403, .bool t404] 25 (0, 0)) (rk BK410) hb)
               have n5_ := am (blk_below (g := gb411) (o := .cells #[.int .i64 t405, .int .i64 t406, .bool t407, .bool t408, .bool t409] 25 (0, 0)) (rk BK411) hb)
               have n6_ := am (below_step (by repeat (first | (with_reducible first | exact HB.out | apply b1 | apply b2 | apply b3 | refine below_set ?_ GE393.out | refine below_set ?_ GE399.out | refine below_set ?_ GE410.out | refine below_set ?_ GE411.out) | exact HB.out)) hb)
               clear HO_8
               clear BK393
               clear BK399
               clear BK410
               clear BK411
               clear HB
               have HO_8 := n0_
               have HO446 := n1_
               have BK393 := n2_
               have BK399 := n3_
               have BK410 := n4_
               have BK411 := n5_
               have HB := n6_
               clear n0_ n1_ n2_ n3_ n4_ n5_ n6_
               clear hb ho110
               obtain ⟨Ao111, co111, eo111⟩ := Kd.R_slice HO446.out
               (first | subst eo111 | (injection eo111 with f1_ f2_ f3_; have f4_ := f1_.symm; have f5_ := f3_.symm; clear f1_ f2_ f3_; subst f4_; subst f5_))
               refine hK.out _ _ ⟨(blk_cell BK399.out 0).trans rfl, (blk_cell BK399.out 1).trans rfl, (blk_cell BK399.out 2).trans rfl, (blk_cell BK399.out 3).trans rfl, (blk_cell BK399.out 4).trans rfl, (blk_cell BK410.out 0).trans rfl, (blk_cell BK410.out 1).trans rfl, (blk_cell BK410.out 2).trans rfl, (blk_cell BK410.out 3).trans rfl, (blk_cell BK410.out 4).trans rfl, (blk_cell BK411.out 0).trans rfl, (blk_cell BK411.out 1).trans rfl, (blk_cell BK411.out 2).trans rfl, (blk_cell BK411.out 3).trans rfl, (blk_cell BK411.out 4).trans rfl⟩ (fun hHeld => ?_)
               clear hK K
               refine norm_ (a' := ?_) ?_ ?_
               rotate_left
               ·show Act.put _ (some 106) _ = _
                simp only [Act.put, List.setIfInBounds_toArray, List.set_cons_zero, List.set_cons_succ, i64_w, i32_w]
                rfl
               refine one_ (i := 34) (N := some 107) (bm 39 68719476735) rfl rfl (one_of HT_.out (by kernel_rfl)) (by decide) (fun K hK => ?_)
               refine goes_ Tryd.func16 (by kernel_rfl) rfl #[.agg #[.int .i64 t400, .int .i64 t401, .bool t402, .bool t403, .bool t404], .slice Ao111 y444.length co111] (by rfl) rfl rfl (by (try simp only [List.map_toArray, List.map_cons, List.map_nil]); first | done | rfl | (simp only [List.length_drop, List.length_take]; rfl)) ?_
               with_reducible refine (impl_Styled.calls kj62 t400 t401 t402 t403 t404 _ _ y444 t447 t448 t449 t450 t451 _ ?side1 ?side2 A104.out).mono ?_
               (case side1 => repeat (first | exact (Kd.R_reads' HO446.out).2.2 | (with_reducible refine Kd.C_alloc ?_ _) | (with_reducible refine Kd.C_drewN ?_ _) | (with_reducible refine Kd.C_drew ?_)))
               (case side2 => exact (Kd.R_reads' HO446.out).2.1)
               rintro e w112 ⟨rfl, hb⟩
               refine ⟨_, rfl, ?_⟩
               have n0_ := am (Kd.R_below (rr HO_8) hb)
               have n1_ := am (Kd.R_below (rr HO446) hb)
               have n2_ := am (blk_below (g := gb393) (o := .cells #[.int .i64 t385, .int .i64 t386, .bool t387, .bool t388, .bool t389] 25 (0, 0)) (rk BK393) hb)
               have n3_ := am (blk_below (g := gb399) (o := .cells #[.int .i64 t394, .int .i64 t395, .bool t396, .bool t397, .bool t398] 25 (0, 0)) (rk BK399) hb)
               have n4_ := am (blk_below (g := gb410) (o := .cells #[.int .i64 t400, .int .i64 t401, .bool t402, .bool t403, .bool t404] 25 (0, 0)) (rk BK410) hb)
               have n5_ := am (blk_below (g := gb411) (o := .cells #[.int .i64 t405, .int .i64 t406, .bool t407, .bool t408, .bool t409] 25 (0, 0)) (rk BK411) hb)
               have n6_ := am (below_step (by repeat (first | (with_reducible first | exact HB.out | apply b1 | apply b2 | apply b3 | refine below_set ?_ GE393.out | refine below_set ?_ GE399.out | refine below_set ?_ GE410.out | refine below_set ?_ GE411.out) | exact HB.out)) hb)
               clear HO_8
               clear HO446
               clear BK393
               clear BK399
               clear BK410
               clear BK411
               clear HB
               have HO_8 := n0_
               have HO446 := n1_
               have BK393 := n2_
               have BK399 := n3_
               have BK410 := n4_
               have BK411 := n5_
               have HB := n6_
               clear n0_ n1_ n2_ n3_ n4_ n5_ n6_
               (try clear hb)
               (try clear hb2)
               (try clear hk)
               (try clear hi)
               refine hK.out _ _ ⟨(blk_cell BK399.out 0).trans rfl, (blk_cell BK399.out 1).trans rfl, (blk_cell BK399.out 2).trans rfl, (blk_cell BK399.out 3).trans rfl, (blk_cell BK399.out 4).trans rfl, (blk_cell BK410.out 0).trans rfl, (blk_cell BK410.out 1).trans rfl, (blk_cell BK410.out 2).trans rfl, (blk_cell BK410.out 3).trans rfl, (blk_cell BK410.out 4).trans rfl, (blk_cell BK411.out 0).trans rfl, (blk_cell BK411.out 1).trans rfl, (blk_cell BK411.out 2).trans rfl, (blk_cell BK411.out 3).trans rfl, (blk_cell BK411.out 4).trans rfl⟩ (fun hHeld => ?_)
               clear hK K
               refine norm_ (a' := ?_) ?_ ?_
               rotate_left
               ·show Act.put _ (some 107) _ = _
                simp only [Act.put, List.setIfInBounds_toArray, List.set_cons_zero, List.set_cons_succ, i64_w, i32_w]
                rfl
               refine pu_ 36 109 (bm 39 137438953471) HT_.out ?_
               refine pu_ 37 110 (bm 39 274877906943) HT_.out ?_
               refine pu_ 38 2 (bm 39 549755813887) HT_.out ?_
               refine done_ (done_of HT_.out (by kernel_rfl)) ?_
               try go_wp2
               go_ret
               exact ⟨by first | rfl | (simp [errW_none, errW_some] <;> rfl) | (simp [*, errW_none, errW_some] <;> rfl), by repeat (first | (with_reducible first | exact HB.out | apply b1 | apply b2 | apply b3 | refine below_set ?_ GE393.out | refine below_set ?_ GE399.out | refine below_set ?_ GE410.out | refine below_set ?_ GE411.out) | exact HB.out)⟩)
            ·rw [if_neg c103] at H
             have c103b0 : ((t415.toList == ([] : List UInt8)) == (t400 == t405 && (t401 == t406 && (t402 == t407 && (t403 == t408 && (t404 == t409)))))) = false := by simpa using c103
             (try (have c103b1 : decide ((t415.toList == ([] : List UInt8)) = (t400 == t405 && (t401 == t406 && (t402 == t407 && (t403 == t408 && (t404 == t409)))))) = false := by simpa using c103))
             (try (have c103b2 : ((t415.toList == ([] : List UInt8)) == (t400 == t405 && (t401 == t406 && (t402 == t407 && (t403 == t408 && (t404 == t409)))))) = false := by simpa using c103))
             (try (have c103b3 : ¬ ((t415.toList == ([] : List UInt8)) = (t400 == t405 && (t401 == t406 && (t402 == t407 && (t403 == t408 && (t404 == t409)))))) := by simpa using c103))
             clear c103
             first
             | with_reducible exact absurd (Option.some.inj (H.trans (congrArg some hT_))) Bool.false_ne_true
             | (
               obtain rfl := Option.some.inj H
               try go_wp2
               have n0_ := am (Kd.R_drew HO_8.out)
               have n1_ := am (blk_drew BK393.out)
               have n2_ := am (blk_drew BK399.out)
               have n3_ := am (blk_drew BK410.out)
               have n4_ := am (blk_drew BK411.out)
               have n5_ := am (below_drew1 HB.out)
               clear HO_8
               clear BK393
               clear BK399
               clear BK410
               clear BK411
               clear HB
               have HO_8 := n0_
               have BK393 := n1_
               have BK399 := n2_
               have BK410 := n3_
               have BK411 := n4_
               have HB := n5_
               clear n0_ n1_ n2_ n3_ n4_ n5_
               refine start_ (n := 39) (S := fun w' => w'.cell? ⟨gb399, 0, none⟩ = some (.int .i64 t394) ∧ w'.cell? ⟨gb399, 1, none⟩ = some (.int .i64 t395) ∧ w'.cell? ⟨gb399, 2, none⟩ = some (.bool t396) ∧ w'.cell? ⟨gb399, 3, none⟩ = some (.bool t397) ∧ w'.cell? ⟨gb399, 4, none⟩ = some (.bool t398) ∧ w'.cell? ⟨gb410, 0, none⟩ = some (.int .i64 t400) ∧ w'.cell? ⟨gb410, 1, none⟩ = some (.int .i64 t401) ∧ w'.cell? ⟨gb410, 2, none⟩ = some (.bool t402) ∧ w'.cell? ⟨gb410, 3, none⟩ = some (.bool t403) ∧ w'.cell? ⟨gb410, 4, none⟩ = some (.bool t404) ∧ w'.cell? ⟨gb411, 0, none⟩ = some (.int .i64 t405) ∧ w'.cell? ⟨gb411, 1, none⟩ = some (.int .i64 t406) ∧ w'.cell? ⟨gb411, 2, none⟩ = some (.bool t407) ∧ w'.cell? ⟨gb411, 3, none⟩ = some (.bool t408) ∧ w'.cell? ⟨gb411, 4, none⟩ = some (.bool t409)) (ds := []) (bm 39 0) (by kernel_rfl) rfl rfl ⟨(blk_cell BK399.out 0).trans rfl, (blk_cell BK399.out 1).trans rfl, (blk_cell BK399.out 2).trans rfl, (blk_cell BK399.out 3).trans rfl, (blk_cell BK399.out 4).trans rfl, (blk_cell BK410.out 0).trans rfl, (blk_cell BK410.out 1).trans rfl, (blk_cell BK410.out 2).trans rfl, (blk_cell BK410.out 3).trans rfl, (blk_cell BK410.out 4).trans rfl, (blk_cell BK411.out 0).trans rfl, (blk_cell BK411.out 1).trans rfl, (blk_cell BK411.out 2).trans rfl, (blk_cell BK411.out 3).trans rfl, (blk_cell BK411.out 4).trans rfl⟩ (fun hHeld => ?_); refine with_tabW laws_FnStyles.tab12 laws_FnStyles.bits12 (fun HT_ HW_ => ?_)
               generalize wc.drew = w113 at HO_8 BK393 BK399 BK410 BK411 HB hHeld ⊢
               refine take_ (i := 0) (N := some 73) (v := ?_) (a' := ?_) (bm 39 1) rfl rfl (take_ofW HT_.out HW_.out (by kernel_rfl)) (fun _ _ _ h => h) (Or.inl ⟨by rfl, ?_⟩) hHeld ?_ ?_
               rotate_left
               ·rintro w' ⟨s0, s1, s2, s3, s4, s5, s6, s7, s8, s9, s10, s11, s12, s13, s14⟩
                go_simp
                with_reducible rfl
               rotate_left
               ·simp only [Act.put, List.setIfInBounds_toArray, List.set_cons_zero, List.set_cons_succ, i64_w, i32_w]
                rfl
               refine one_ (i := 1) (N := some 74) (bm 39 3) rfl rfl (one_of HT_.out (by kernel_rfl)) (by decide) (fun K hK => ?_)
               refine goes_ Tryd.func22 (by kernel_rfl) rfl #[.agg #[.int .i64 t394, .int .i64 t395, .bool t396, .bool t397, .bool t398]] (by rfl) rfl rfl (by (try simp only [List.map_toArray, List.map_cons, List.map_nil]); first | done | rfl | (simp only [List.length_drop, List.length_take]; rfl)) ?_
               with_reducible refine (impl_StyleOk.calls t394 t395 t396 t397 t398 true _ A85.out).mono ?_
               rintro e w114 ⟨rfl, hb⟩
               refine ⟨_, rfl, ?_⟩
               have n0_ := am (Kd.R_below (rr HO_8) hb)
               have n1_ := am (blk_below (g := gb393) (o := .cells #[.int .i64 t385, .int .i64 t386, .bool t387, .bool t388, .bool t389] 25 (0, 0)) (rk BK393) hb)
               have n2_ := am (blk_below (g := gb399) (o := .cells #[.int .i64 t394, .int .i64 t395, .bool t396, .bool t397, .bool t398] 25 (0, 0)) (rk BK399) hb)
               have n3_ := am (blk_below (g := gb410) (o := .cells #[.int .i64 t400, .int .i64 t401, .bool t402, .bool t403, .bool t404] 25 (0, 0)) (rk BK410) hb)
               have n4_ := am (blk_below (g := gb411) (o := .cells #[.int .i64 t405, .int .i64 t406, .bool t407, .bool t408, .bool t409] 25 (0, 0)) (rk BK411) hb)
               have n5_ := am (below_step (by repeat (first | (with_reducible first | exact HB.out | apply b1 | apply b2 | apply b3 | refine below_set ?_ GE393.out | refine below_set ?_ GE399.out | refine below_set ?_ GE410.out | refine below_set ?_ GE411.out) | exact HB.out)) hb)
               clear HO_8
               clear BK393
               clear BK399
               clear BK410
               clear BK411
               clear HB
               have HO_8 := n0_
               have BK393 := n1_
               have BK399 := n2_
               have BK410 := n3_
               have BK411 := n4_
               have HB := n5_
               clear n0_ n1_ n2_ n3_ n4_ n5_
               (try clear hb)
               (try clear hb2)
               (try clear hk)
               (try clear hi)
               obtain ⟨Ao115, co115, eo115⟩ := Kd.R_slice HO_8.out
               (first | subst eo115 | (injection eo115 with f1_ f2_ f3_; have f4_ := f1_.symm; have f5_ := f3_.symm; clear f1_ f2_ f3_; subst f4_; subst f5_))
               refine hK.out _ _ ⟨(blk_cell BK399.out 0).trans rfl, (blk_cell BK399.out 1).trans rfl, (blk_cell BK399.out 2).trans rfl, (blk_cell BK399.out 3).trans rfl, (blk_cell BK399.out 4).trans rfl, (blk_cell BK410.out 0).trans rfl, (blk_cell BK410.out 1).trans rfl, (blk_cell BK410.out 2).trans rfl, (blk_cell BK410.out 3).trans rfl, (blk_cell BK410.out 4).trans rfl, (blk_cell BK411.out 0).trans rfl, (blk_cell BK411.out 1).trans rfl, (blk_cell BK411.out 2).trans rfl, (blk_cell BK411.out 3).trans rfl, (blk_cell BK411.out 4).trans rfl⟩ (fun hHeld => ?_)
               clear hK K
               refine norm_ (a' := ?_) ?_ ?_
               rotate_left
               ·show Act.put _ (some 74) _ = _
                simp only [Act.put, List.setIfInBounds_toArray, List.set_cons_zero, List.set_cons_succ, i64_w, i32_w]
                rfl
               refine pu_ 2 75 (bm 39 7) HT_.out ?_
               refine pu_ 6 79 (bm 39 71) HT_.out ?_
               refine pu_ 7 80 (bm 39 199) HT_.out ?_
               refine pu_ 8 81 (bm 39 455) HT_.out ?_
               refine take_ (i := 3) (N := some 76) (v := ?_) (a' := ?_) (bm 39 463) rfl rfl (take_ofW HT_.out HW_.out (by kernel_rfl)) (fun _ _ _ h => h) (Or.inl ⟨by rfl, ?_⟩) hHeld ?_ ?_
               rotate_left
               ·rintro w' ⟨s0, s1, s2, s3, s4, s5, s6, s7, s8, s9, s10, s11, s12, s13, s14⟩
                go_simp
                with_reducible rfl
               rotate_left
               ·simp only [Act.put, List.setIfInBounds_toArray, List.set_cons_zero, List.set_cons_succ, i64_w, i32_w]
                rfl
               refine take_ (i := 4) (N := some 77) (v := ?_) (a' := ?_) (bm 39 479) rfl rfl (take_ofW HT_.out HW_.out (by kernel_rfl)) (fun _ _ _ h => h) (Or.inl ⟨by rfl, ?_⟩) hHeld ?_ ?_
               rotate_left
               ·rintro w' ⟨s0, s1, s2, s3, s4, s5, s6, s7, s8, s9, s10, s11, s12, s13, s14⟩
                go_simp
                with_reducible rfl
               rotate_left
               ·simp only [Act.put, List.setIfInBounds_toArray, List.set_cons_zero, List.set_cons_succ, i64_w, i32_w]
                rfl
               refine pu_ 5 78 (bm 39 511) HT_.out ?_
               refine pu_ 9 82 (bm 39 1023) HT_.out ?_
               refine pu_ 10 83 (bm 39 2047) HT_.out ?_
               refine pu_ 11 84 (bm 39 4095) HT_.out ?_
               refine take_ (i := 12) (N := some 85) (v := ?_) (a' := ?_) (bm 39 8191) rfl rfl (take_ofW HT_.out HW_.out (by kernel_rfl)) (fun _ _ _ h => h) (Or.inl ⟨by rfl, ?_⟩) hHeld ?_ ?_
               rotate_left
               ·rintro w' ⟨s0, s1, s2, s3, s4, s5, s6, s7, s8, s9, s10, s11, s12, s13, s14⟩
                go_simp
                with_reducible rfl
               rotate_left
               ·simp only [Act.put, List.setIfInBounds_toArray, List.set_cons_zero, List.set_cons_succ, i64_w, i32_w]
                rfl
               refine take_ (i := 13) (N := some 86) (v := ?_) (a' := ?_) (bm 39 16383) rfl rfl (take_ofW HT_.out HW_.out (by kernel_rfl)) (fun _ _ _ h => h) (Or.inl ⟨by rfl, ?_⟩) hHeld ?_ ?_
               rotate_left
               ·rintro w' ⟨s0, s1, s2, s3, s4, s5, s6, s7, s8, s9, s10, s11, s12, s13, s14⟩
                go_simp
                with_reducible rfl
               rotate_left
               ·simp only [Act.put, List.setIfInBounds_toArray, List.set_cons_zero, List.set_cons_succ, i64_w, i32_w]
                rfl
               refine pu_ 14 87 (bm 39 32767) HT_.out ?_
               refine pu_ 15 88 (bm 39 65535) HT_.out ?_
               refine pu_ 17 90 (bm 39 196607) HT_.out ?_
               refine take_ (i := 16) (N := some 89) (v := ?_) (a' := ?_) (bm 39 262143) rfl rfl (take_ofW HT_.out HW_.out (by kernel_rfl)) (fun _ _ _ h => h) (Or.inl ⟨by rfl, ?_⟩) hHeld ?_ ?_
               rotate_left
               ·rintro w' ⟨s0, s1, s2, s3, s4, s5, s6, s7, s8, s9, s10, s11, s12, s13, s14⟩
                go_simp
                with_reducible rfl
               rotate_left
               ·simp only [Act.put, List.setIfInBounds_toArray, List.set_cons_zero, List.set_cons_succ, i64_w, i32_w]
                rfl
               refine take_ (i := 19) (N := some 92) (v := ?_) (a' := ?_) (bm 39 786431) rfl rfl (take_ofW HT_.out HW_.out (by kernel_rfl)) (fun _ _ _ h => h) (Or.inl ⟨by rfl, ?_⟩) hHeld ?_ ?_
               rotate_left
               ·rintro w' ⟨s0, s1, s2, s3, s4, s5, s6, s7, s8, s9, s10, s11, s12, s13, s14⟩
                go_simp
                with_reducible rfl
               rotate_left
               ·simp only [Act.put, List.setIfInBounds_toArray, List.set_cons_zero, List.set_cons_succ, i64_w, i32_w]
                rfl
               refine one_ (i := 18) (N := some 91) (bm 39 1048575) rfl rfl (one_of HT_.out (by kernel_rfl)) (by decide) (fun K hK => ?_)
               refine goes_ Tryd.func16 (by kernel_rfl) rfl #[.agg #[.int .i64 t400, .int .i64 t401, .bool t402, .bool t403, .bool t404], .slice Ao115 t412.length co115] (by rfl) rfl rfl (by (try simp only [List.map_toArray, List.map_cons, List.map_nil]); first | done | rfl | (simp only [List.length_drop, List.length_take]; rfl)) ?_
               with_reducible refine (impl_Styled.calls kj62 t400 t401 t402 t403 t404 _ _ t412 t439 t440 t441 t442 t443 _ ?side1 ?side2 A101.out).mono ?_
               (case side1 => repeat (first | exact (Kd.R_reads' HO_8.out).2.2 | (with_reducible refine Kd.C_alloc ?_ _) | (with_reducible refine Kd.C_drewN ?_ _) | (with_reducible refine Kd.C_drew ?_)))
               (case side2 => exact (Kd.R_reads' HO_8.out).2.1)
               rintro e w116 ⟨rfl, hb⟩
               refine ⟨_, rfl, ?_⟩
               have n0_ := am (Kd.R_below (rr HO_8) hb)
               have n1_ := am (blk_below (g := gb393) (o := .cells #[.int .i64 t385, .int .i64 t386, .bool t387, .bool t388, .bool t389] 25 (0, 0)) (rk BK393) hb)
               have n2_ := am (blk_below (g := gb399) (o := .cells #[.int .i64 t394, .int .i64 t395, .bool t396, .bool t397, .bool t398] 25 (0, 0)) (rk BK399) hb)
               have n3_ := am (blk_below (g := gb410) (o := .cells #[.int .i64 t400, .int .i64 t401, .bool t402, .bool t403, .bool t404] 25 (0, 0)) (rk BK410) hb)
               have n4_ := am (blk_below (g := gb411) (o := .cells #[.int .i64 t405, .int .i64 t406, .bool t407, .bool t408, .bool t409] 25 (0, 0)) (rk BK411) hb)
               have n5_ := am (below_step (by repeat (first | (with_reducible first | exact HB.out | apply b1 | apply b2 | apply b3 | refine below_set ?_ GE393.out | refine below_set ?_ GE399.out | refine below_set ?_ GE410.out | refine below_set ?_ GE411.out) | exact HB.out)) hb)
               clear HO_8
               clear BK393
               clear BK399
               clear BK410
               clear BK411
               clear HB
               have HO_8 := n0_
               have BK393 := n1_
               have BK399 := n2_
               have BK410 := n3_
               have BK411 := n4_
               have HB := n5_
               clear n0_ n1_ n2_ n3_ n4_ n5_
               (try clear hb)
               (try clear hb2)
               (try clear hk)
               (try clear hi)
               refine hK.out _ _ ⟨(blk_cell BK399.out 0).trans rfl, (blk_cell BK399.out 1).trans rfl, (blk_cell BK399.out 2).trans rfl, (blk_cell BK399.out 3).trans rfl, (blk_cell BK399.out 4).trans rfl, (blk_cell BK410.out 0).trans rfl, (blk_cell BK410.out 1).trans rfl, (blk_cell BK410.out 2).trans rfl, (blk_cell BK410.out 3).trans rfl, (blk_cell BK410.out 4).trans rfl, (blk_cell BK411.out 0).trans rfl, (blk_cell BK411.out 1).trans rfl, (blk_cell BK411.out 2).trans rfl, (blk_cell BK411.out 3).trans rfl, (blk_cell BK411.out 4).trans rfl⟩ (fun hHeld => ?_)
               clear hK K
               refine norm_ (a' := ?_) ?_ ?_
               rotate_left
               ·show Act.put _ (some 91) _ = _
                simp only [Act.put, List.setIfInBounds_toArray, List.set_cons_zero, List.set_cons_succ, i64_w, i32_w]
                rfl
               refine pu_ 20 93 (bm 39 2097151) HT_.out ?_
               refine pu_ 21 94 (bm 39 4194303) HT_.out ?_
               refine pu_ 22 95 (bm 39 8388607) HT_.out ?_
               refine pu_ 23 96 (bm 39 16777215) HT_.out ?_
               refine pu_ 24 97 (bm 39 33554431) HT_.out ?_
               refine pu_ 25 98 (bm 39 67108863) HT_.out ?_
               refine take_ (i := 26) (N := some 99) (v := ?_) (a' := ?_) (bm 39 134217727) rfl rfl (take_ofW HT_.out HW_.out (by kernel_rfl)) (fun _ _ _ h => h) (Or.inl ⟨by rfl, ?_⟩) hHeld ?_ ?_
               rotate_left
               ·rintro w' ⟨s0, s1, s2, s3, s4, s5, s6, s7, s8, s9, s10, s11, s12, s13, s14⟩
                go_simp
                with_reducible rfl
               rotate_left
               ·simp only [Act.put, List.setIfInBounds_toArray, List.set_cons_zero, List.set_cons_succ, i64_w, i32_w]
                rfl
               refine take_ (i := 27) (N := some 100) (v := ?_) (a' := ?_) (bm 39 268435455) rfl rfl (take_ofW HT_.out HW_.out (by kernel_rfl)) (fun _ _ _ h => h) (Or.inl ⟨by rfl, ?_⟩) hHeld ?_ ?_
               rotate_left
               ·rintro w' ⟨s0, s1, s2, s3, s4, s5, s6, s7, s8, s9, s10, s11, s12, s13, s14⟩
                go_simp
                with_reducible rfl
               rotate_left
               ·simp only [Act.put, List.setIfInBounds_toArray, List.set_cons_zero, List.set_cons_succ, i64_w, i32_w]
                rfl
               refine pu_ 28 101 (bm 39 536870911) HT_.out ?_
               refine pu_ 29 102 (bm 39 1073741823) HT_.out ?_
               refine pu_ 30 103 (bm 39 2147483647) HT_.out ?_
               refine pu_ 31 104 (bm 39 4294967295) HT_.out ?_
               refine un_ 32 105 (bm 39 8589934591) HT_.out ?_
               refine un_ 33 106 (bm 39 17179869183) HT_.out ?_
               refine un_ 34 107 (bm 39 34359738367) HT_.out ?_
               refine un_ 35 108 (bm 39 68719476735) HT_.out ?_
               refine un_ 36 109 (bm 39 137438953471) HT_.out ?_
               refine pu_ 37 110 (bm 39 274877906943) HT_.out ?_
               refine pu_ 38 2 (bm 39 549755813887) HT_.out ?_
               refine done_ (done_of HT_.out (by kernel_rfl)) ?_
               try go_wp2
               go_ret
               exact ⟨by first | rfl | (simp [errW_none, errW_some] <;> rfl) | (simp [*, errW_none, errW_some] <;> rfl), by repeat (first | (with_reducible first | exact HB.out | apply b1 | apply b2 | apply b3 | refine below_set ?_ GE393.out | refine below_set ?_ GE399.out | refine below_set ?_ GE410.out | refine below_set ?_ GE411.out) | exact HB.out)⟩)
           ·rw [if_neg c102] at H
            have c102b0 : (t439 == t405 && (t440 == t406 && (t441 == t407 && (t442 == t408 && (t443 == t409))))) = false := by simpa using c102
            (try (have c102b1 : decide (t439 = t405 && (t440 == t406 && (t441 == t407 && (t442 == t408 && (t443 == t409))))) = false := by simpa using c102))
            (try (have c102b2 : (t439 == t405 && (t440 == t406 && (t441 == t407 && (t442 == t408 && (t443 == t409))))) = false := by simpa using c102))
            (try (have c102b3 : ¬ (t439 = t405 && (t440 == t406 && (t441 == t407 && (t442 == t408 && (t443 == t409))))) := by simpa using c102))
            clear c102
            first
            | with_reducible exact absurd (Option.some.inj (H.trans (congrArg some hT_))) Bool.false_ne_true
            | (
              obtain rfl := Option.some.inj H
              try go_wp2
              have n0_ := am (Kd.R_drew HO_8.out)
              have n1_ := am (blk_drew BK393.out)
              have n2_ := am (blk_drew BK399.out)
              have n3_ := am (blk_drew BK410.out)
              have n4_ := am (blk_drew BK411.out)
              have n5_ := am (below_drew1 HB.out)
              clear HO_8
              clear BK393
              clear BK399
              clear BK410
              clear BK411
              clear HB
              have HO_8 := n0_
              have BK393 := n1_
              have BK399 := n2_
              have BK410 := n3_
              have BK411 := n4_
              have HB := n5_
              clear n0_ n1_ n2_ n3_ n4_ n5_
              refine start_ (n := 39) (S := fun w' => w'.cell? ⟨gb399, 0, none⟩ = some (.int .i64 t394) ∧ w'.cell? ⟨gb399, 1, none⟩ = some (.int .i64 t395) ∧ w'.cell? ⟨gb399, 2, none⟩ = some (.bool t396) ∧ w'.cell? ⟨gb399, 3, none⟩ = some (.bool t397) ∧ w'.cell? ⟨gb399, 4, none⟩ = some (.bool t398) ∧ w'.cell? ⟨gb410, 0, none⟩ = some (.int .i64 t400) ∧ w'.cell? ⟨gb410, 1, none⟩ = some (.int .i64 t401) ∧ w'.cell? ⟨gb410, 2, none⟩ = some (.bool t402) ∧ w'.cell? ⟨gb410, 3, none⟩ = some (.bool t403) ∧ w'.cell? ⟨gb410, 4, none⟩ = some (.bool t404) ∧ w'.cell? ⟨gb411, 0, none⟩ = some (.int .i64 t405) ∧ w'.cell? ⟨gb411, 1, none⟩ = some (.int .i64 t406) ∧ w'.cell? ⟨gb411, 2, none⟩ = some (.bool t407) ∧ w'.cell? ⟨gb411, 3, none⟩ = some (.bool t408) ∧ w'.cell? ⟨gb411, 4, none⟩ = some (.bool t409)) (ds := []) (bm 39 0) (by kernel_rfl) rfl rfl ⟨(blk_cell BK399.out 0).trans rfl, (blk_cell BK399.out 1).trans rfl, (blk_cell BK399.out 2).trans rfl, (blk_cell BK399.out 3).trans rfl, (blk_cell BK399.out 4).trans rfl, (blk_cell BK410.out 0).trans rfl, (blk_cell BK410.out 1).trans rfl, (blk_cell BK410.out 2).trans rfl, (blk_cell BK410.out 3).trans rfl, (blk_cell BK410.out 4).trans rfl, (blk_cell BK411.out 0).trans rfl, (blk_cell BK411.out 1).trans rfl, (blk_cell BK411.out 2).trans rfl, (blk_cell BK411.out 3).trans rfl, (blk_cell BK411.out 4).trans rfl⟩ (fun hHeld => ?_); refine with_tabW laws_FnStyles.tab12 laws_FnStyles.bits12 (fun HT_ HW_ => ?_)
              generalize wc.drew = w117 at HO_8 BK393 BK399 BK410 BK411 HB hHeld ⊢
              refine take_ (i := 0) (N := some 73) (v := ?_) (a' := ?_) (bm 39 1) rfl rfl (take_ofW HT_.out HW_.out (by kernel_rfl)) (fun _ _ _ h => h) (Or.inl ⟨by rfl, ?_⟩) hHeld ?_ ?_
              rotate_left
              ·rintro w' ⟨s0, s1, s2, s3, s4, s5, s6, s7, s8, s9, s10, s11, s12, s13, s14⟩
               go_simp
               with_reducible rfl
              rotate_left
              ·simp only [Act.put, List.setIfInBounds_toArray, List.set_cons_zero, List.set_cons_succ, i64_w, i32_w]
               rfl
              refine one_ (i := 1) (N := some 74) (bm 39 3) rfl rfl (one_of HT_.out (by kernel_rfl)) (by decide) (fun K hK => ?_)
              refine goes_ Tryd.func22 (by kernel_rfl) rfl #[.agg #[.int .i64 t394, .int .i64 t395, .bool t396, .bool t397, .bool t398]] (by rfl) rfl rfl (by (try simp only [List.map_toArray, List.map_cons, List.map_nil]); first | done | rfl | (simp only [List.length_drop, List.length_take]; rfl)) ?_
              with_reducible refine (impl_StyleOk.calls t394 t395 t396 t397 t398 true _ A85.out).mono ?_
              rintro e w118 ⟨rfl, hb⟩
              refine ⟨_, rfl, ?_⟩
              have n0_ := am (Kd.R_below (rr HO_8) hb)
              have n1_ := am (blk_below (g := gb393) (o := .cells #[.int .i64 t385, .int .i64 t386, .bool t387, .bool t388, .bool t389] 25 (0, 0)) (rk BK393) hb)
              have n2_ := am (blk_below (g := gb399) (o := .cells #[.int .i64 t394, .int .i64 t395, .bool t396, .bool t397, .bool t398] 25 (0, 0)) (rk BK399) hb)
              have n3_ := am (blk_below (g := gb410) (o := .cells #[.int .i64 t400, .int .i64 t401, .bool t402, .bool t403, .bool t404] 25 (0, 0)) (rk BK410) hb)
              have n4_ := am (blk_below (g := gb411) (o := .cells #[.int .i64 t405, .int .i64 t406, .bool t407, .bool t408, .bool t409] 25 (0, 0)) (rk BK411) hb)
              have n5_ := am (below_step (by repeat (first | (with_reducible first | exact HB.out | apply b1 | apply b2 | apply b3 | refine below_set ?_ GE393.out | refine below_set ?_ GE399.out | refine below_set ?_ GE410.out | refine below_set ?_ GE411.out) | exact HB.out)) hb)
              clear HO_8
              clear BK393
              clear BK399
              clear BK410
              clear BK411
              clear HB
              have HO_8 := n0_
              have BK393 := n1_
              have BK399 := n2_
              have BK410 := n3_
              have BK411 := n4_
              have HB := n5_
              clear n0_ n1_ n2_ n3_ n4_ n5_
              (try clear hb)
              (try clear hb2)
              (try clear hk)
              (try clear hi)
              obtain ⟨Ao119, co119, eo119⟩ := Kd.R_slice HO_8.out
              (first | subst eo119 | (injection eo119 with f1_ f2_ f3_; have f4_ := f1_.symm; have f5_ := f3_.symm; clear f1_ f2_ f3_; subst f4_; subst f5_))
              refine hK.out _ _ ⟨(blk_cell BK399.out 0).trans rfl, (blk_cell BK399.out 1).trans rfl, (blk_cell BK399.out 2).trans rfl, (blk_cell BK399.out 3).trans rfl, (blk_cell BK399.out 4).trans rfl, (blk_cell BK410.out 0).trans rfl, (blk_cell BK410.out 1).trans rfl, (blk_cell BK410.out 2).trans rfl, (blk_cell BK410.out 3).trans rfl, (blk_cell BK410.out 4).trans rfl, (blk_cell BK411.out 0).trans rfl, (blk_cell BK411.out 1).trans rfl, (blk_cell BK411.out 2).trans rfl, (blk_cell BK411.out 3).trans rfl, (blk_cell BK411.out 4).trans rfl⟩ (fun hHeld => ?_)
              clear hK K
              refine norm_ (a' := ?_) ?_ ?_
              rotate_left
              ·show Act.put _ (some 74) _ = _
               simp only [Act.put, List.setIfInBounds_toArray, List.set_cons_zero, List.set_cons_succ, i64_w, i32_w]
               rfl
              refine pu_ 2 75 (bm 39 7) HT_.out ?_
              refine pu_ 6 79 (bm 39 71) HT_.out ?_
              refine pu_ 7 80 (bm 39 199) HT_.out ?_
              refine pu_ 8 81 (bm 39 455) HT_.out ?_
              refine take_ (i := 3) (N := some 76) (v := ?_) (a' := ?_) (bm 39 463) rfl rfl (take_ofW HT_.out HW_.out (by kernel_rfl)) (fun _ _ _ h => h) (Or.inl ⟨by rfl, ?_⟩) hHeld ?_ ?_
              rotate_left
              ·rintro w' ⟨s0, s1, s2, s3, s4, s5, s6, s7, s8, s9, s10, s11, s12, s13, s14⟩
               go_simp
               with_reducible rfl
              rotate_left
              ·simp only [Act.put, List.setIfInBounds_toArray, List.set_cons_zero, List.set_cons_succ, i64_w, i32_w]
               rfl
              refine take_ (i := 4) (N := some 77) (v := ?_) (a' := ?_) (bm 39 479) rfl rfl (take_ofW HT_.out HW_.out (by kernel_rfl)) (fun _ _ _ h => h) (Or.inl ⟨by rfl, ?_⟩) hHeld ?_ ?_
              rotate_left
              ·rintro w' ⟨s0, s1, s2, s3, s4, s5, s6, s7, s8, s9, s10, s11, s12, s13, s14⟩
               go_simp
               with_reducible rfl
              rotate_left
              ·simp only [Act.put, List.setIfInBounds_toArray, List.set_cons_zero, List.set_cons_succ, i64_w, i32_w]
               rfl
              refine pu_ 5 78 (bm 39 511) HT_.out ?_
              refine pu_ 9 82 (bm 39 1023) HT_.out ?_
              refine pu_ 10 83 (bm 39 2047) HT_.out ?_
              refine pu_ 11 84 (bm 39 4095) HT_.out ?_
              refine take_ (i := 12) (N := some 85) (v := ?_) (a' := ?_) (bm 39 8191) rfl rfl (take_ofW HT_.out HW_.out (by kernel_rfl)) (fun _ _ _ h => h) (Or.inl ⟨by rfl, ?_⟩) hHeld ?_ ?_
              rotate_left
              ·rintro w' ⟨s0, s1, s2, s3, s4, s5, s6, s7, s8, s9, s10, s11, s12, s13, s14⟩
               go_simp
               with_reducible rfl
              rotate_left
              ·simp only [Act.put, List.setIfInBounds_toArray, List.set_cons_zero, List.set_cons_succ, i64_w, i32_w]
               rfl
              refine take_ (i := 13) (N := some 86) (v := ?_) (a' := ?_) (bm 39 16383) rfl rfl (take_ofW HT_.out HW_.out (by kernel_rfl)) (fun _ _ _ h => h) (Or.inl ⟨by rfl, ?_⟩) hHeld ?_ ?_
              rotate_left
              ·rintro w' ⟨s0, s1, s2, s3, s4, s5, s6, s7, s8, s9, s10, s11, s12, s13, s14⟩
               go_simp
               with_reducible rfl
              rotate_left
              ·simp only [Act.put, List.setIfInBounds_toArray, List.set_cons_zero, List.set_cons_succ, i64_w, i32_w]
               rfl
              refine pu_ 14 87 (bm 39 32767) HT_.out ?_
              refine pu_ 15 88 (bm 39 65535) HT_.out ?_
              refine pu_ 17 90 (bm 39 196607) HT_.out ?_
              refine take_ (i := 16) (N := some 89) (v := ?_) (a' := ?_) (bm 39 262143) rfl rfl (take_ofW HT_.out HW_.out (by kernel_rfl)) (fun _ _ _ h => h) (Or.inl ⟨by rfl, ?_⟩) hHeld ?_ ?_
              rotate_left
              ·rintro w' ⟨s0, s1, s2, s3, s4, s5, s6, s7, s8, s9, s10, s11, s12, s13, s14⟩
               go_simp
               with_reducible rfl
              rotate_left
              ·simp only [Act.put, List.setIfInBounds_toArray, List.set_cons_zero, List.set_cons_succ, i64_w, i32_w]
               rfl
              refine take_ (i := 19) (N := some 92) (v := ?_) (a' := ?_) (bm 39 786431) rfl rfl (take_ofW HT_.out HW_.out (by kernel_rfl)) (fun _ _ _ h => h) (Or.inl ⟨by rfl, ?_⟩) hHeld ?_ ?_
              rotate_left
              ·rintro w' ⟨s0, s1, s2, s3, s4, s5, s6, s7, s8, s9, s10, s11, s12, s13, s14⟩
               go_simp
               with_reducible rfl
              rotate_left
              ·simp only [Act.put, List.setIfInBounds_toArray, List.set_cons_zero, List.set_cons_succ, i64_w, i32_w]
               rfl
              refine one_ (i := 18) (N := some 91) (bm 39 1048575) rfl rfl (one_of HT_.out (by kernel_rfl)) (by decide) (fun K hK => ?_)
              refine goes_ Tryd.func16 (by kernel_rfl) rfl #[.agg #[.int .i64 t400, .int .i64 t401, .bool t402, .bool t403, .bool t404], .slice Ao119 t412.length co119] (by rfl) rfl rfl (by (try simp only [List.map_toArray, List.map_cons, List.map_nil]); first | done | rfl | (simp only [List.length_drop, List.length_take]; rfl)) ?_
              with_reducible refine (impl_Styled.calls kj62 t400 t401 t402 t403 t404 _ _ t412 t439 t440 t441 t442 t443 _ ?side1 ?side2 A101.out).mono ?_
              (case side1 => repeat (first | exact (Kd.R_reads' HO_8.out).2.2 | (with_reducible refine Kd.C_alloc ?_ _) | (with_reducible refine Kd.C_drewN ?_ _) | (with_reducible refine Kd.C_drew ?_)))
              (case side2 => exact (Kd.R_reads' HO_8.out).2.1)
              rintro e w120 ⟨rfl, hb⟩
              refine ⟨_, rfl, ?_⟩
              have n0_ := am (Kd.R_below (rr HO_8) hb)
              have n1_ := am (blk_below (g := gb393) (o := .cells #[.int .i64 t385, .int .i64 t386, .bool t387, .bool t388, .bool t389] 25 (0, 0)) (rk BK393) hb)
              have n2_ := am (blk_below (g := gb399) (o := .cells #[.int .i64 t394, .int .i64 t395, .bool t396, .bool t397, .bool t398] 25 (0, 0)) (rk BK399) hb)
              have n3_ := am (blk_below (g := gb410) (o := .cells #[.int .i64 t400, .int .i64 t401, .bool t402, .bool t403, .bool t404] 25 (0, 0)) (rk BK410) hb)
              have n4_ := am (blk_below (g := gb411) (o := .cells #[.int .i64 t405, .int .i64 t406, .bool t407, .bool t408, .bool t409] 25 (0, 0)) (rk BK411) hb)
              have n5_ := am (below_step (by repeat (first | (with_reducible first | exact HB.out | apply b1 | apply b2 | apply b3 | refine below_set ?_ GE393.out | refine below_set ?_ GE399.out | refine below_set ?_ GE410.out | refine below_set ?_ GE411.out) | exact HB.out)) hb)
              clear HO_8
              clear BK393
              clear BK399
              clear BK410
              clear BK411
              clear HB
              have HO_8 := n0_
              have BK393 := n1_
              have BK399 := n2_
              have BK410 := n3_
              have BK411 := n4_
              have HB := n5_
              clear n0_ n1_ n2_ n3_ n4_ n5_
              (try clear hb)
              (try clear hb2)
              (try clear hk)
              (try clear hi)
              refine hK.out _ _ ⟨(blk_cell BK399.out 0).trans rfl, (blk_cell BK399.out 1).trans rfl, (blk_cell BK399.out 2).trans rfl, (blk_cell BK399.out 3).trans rfl, (blk_cell BK399.out 4).trans rfl, (blk_cell BK410.out 0).trans rfl, (blk_cell BK410.out 1).trans rfl, (blk_cell BK410.out 2).trans rfl, (blk_cell BK410.out 3).trans rfl, (blk_cell BK410.out 4).trans rfl, (blk_cell BK411.out 0).trans rfl, (blk_cell BK411.out 1).trans rfl, (blk_cell BK411.out 2).trans rfl, (blk_cell BK411.out 3).trans rfl, (blk_cell BK411.out 4).trans rfl⟩ (fun hHeld => ?_)
              clear hK K
              refine norm_ (a' := ?_) ?_ ?_
              rotate_left
              ·show Act.put _ (some 91) _ = _
               simp only [Act.put, List.setIfInBounds_toArray, List.set_cons_zero, List.set_cons_succ, i64_w, i32_w]
               rfl
              refine pu_ 20 93 (bm 39 2097151) HT_.out ?_
              refine pu_ 21 94 (bm 39 4194303) HT_.out ?_
              refine pu_ 22 95 (bm 39 8388607) HT_.out ?_
              refine pu_ 23 96 (bm 39 16777215) HT_.out ?_
              refine un_ 24 97 (bm 39 33554431) HT_.out ?_
              refine un_ 25 98 (bm 39 67108863) HT_.out ?_
              refine un_ 26 99 (bm 39 134217727) HT_.out ?_
              refine un_ 27 100 (bm 39 268435455) HT_.out ?_
              refine un_ 28 101 (bm 39 536870911) HT_.out ?_
              refine un_ 29 102 (bm 39 1073741823) HT_.out ?_
              refine pu_ 30 103 (bm 39 2147483647) HT_.out ?_
              refine pu_ 31 104 (bm 39 4294967295) HT_.out ?_
              refine un_ 32 105 (bm 39 8589934591) HT_.out ?_
              refine un_ 33 106 (bm 39 17179869183) HT_.out ?_
              refine un_ 34 107 (bm 39 34359738367) HT_.out ?_
              refine un_ 35 108 (bm 39 68719476735) HT_.out ?_
              refine un_ 36 109 (bm 39 137438953471) HT_.out ?_
              refine pu_ 37 110 (bm 39 274877906943) HT_.out ?_
              refine pu_ 38 2 (bm 39 549755813887) HT_.out ?_
              refine done_ (done_of HT_.out (by kernel_rfl)) ?_
              try go_wp2
              go_ret
              exact ⟨by first | rfl | (simp [errW_none, errW_some] <;> rfl) | (simp [*, errW_none, errW_some] <;> rfl), by repeat (first | (with_reducible first | exact HB.out | apply b1 | apply b2 | apply b3 | refine below_set ?_ GE393.out | refine below_set ?_ GE399.out | refine below_set ?_ GE410.out | refine below_set ?_ GE411.out) | exact HB.out)⟩)
         ·rw [if_neg c87] at H
          have c87b0 : ((t400 == t405 && (t401 == t406 && (t402 == t407 && (t403 == t408 && (t404 == t409))))) == ((t412.length : Int) == 0)) = false := by simpa using c87
          (try (have c87b1 : decide ((t400 == t405 && (t401 == t406 && (t402 == t407 && (t403 == t408 && (t404 == t409))))) = ((t412.length : Int) == 0)) = false := by simpa using c87))
          (try (have c87b2 : ((t400 == t405 && (t401 == t406 && (t402 == t407 && (t403 == t408 && (t404 == t409))))) == ((t412.length : Int) == 0)) = false := by simpa using c87))
          (try (have c87b3 : ¬ ((t400 == t405 && (t401 == t406 && (t402 == t407 && (t403 == t408 && (t404 == t409))))) = ((t412.length : Int) == 0)) := by simpa using c87))
          clear c87
          first
          | with_reducible exact absurd (Option.some.inj (H.trans (congrArg some hT_))) Bool.false_ne_true
          | (
            obtain rfl := Option.some.inj H
            try go_wp2
            have n0_ := am (Kd.R_drew HO_8.out)
            have n1_ := am (blk_drew BK393.out)
            have n2_ := am (blk_drew BK399.out)
            have n3_ := am (blk_drew BK410.out)
            have n4_ := am (blk_drew BK411.out)
            have n5_ := am (below_drew1 HB.out)
            clear HO_8
            clear BK393
            clear BK399
            clear BK410
            clear BK411
            clear HB
            have HO_8 := n0_
            have BK393 := n1_
            have BK399 := n2_
            have BK410 := n3_
            have BK411 := n4_
            have HB := n5_
            clear n0_ n1_ n2_ n3_ n4_ n5_
            refine start_ (n := 39) (S := fun w' => w'.cell? ⟨gb399, 0, none⟩ = some (.int .i64 t394) ∧ w'.cell? ⟨gb399, 1, none⟩ = some (.int .i64 t395) ∧ w'.cell? ⟨gb399, 2, none⟩ = some (.bool t396) ∧ w'.cell? ⟨gb399, 3, none⟩ = some (.bool t397) ∧ w'.cell? ⟨gb399, 4, none⟩ = some (.bool t398) ∧ w'.cell? ⟨gb410, 0, none⟩ = some (.int .i64 t400) ∧ w'.cell? ⟨gb410, 1, none⟩ = some (.int .i64 t401) ∧ w'.cell? ⟨gb410, 2, none⟩ = some (.bool t402) ∧ w'.cell? ⟨gb410, 3, none⟩ = some (.bool t403) ∧ w'.cell? ⟨gb410, 4, none⟩ = some (.bool t404) ∧ w'.cell? ⟨gb411, 0, none⟩ = some (.int .i64 t405) ∧ w'.cell? ⟨gb411, 1, none⟩ = some (.int .i64 t406) ∧ w'.cell? ⟨gb411, 2, none⟩ = some (.bool t407) ∧ w'.cell? ⟨gb411, 3, none⟩ = some (.bool t408) ∧ w'.cell? ⟨gb411, 4, none⟩ = some (.bool t409)) (ds := []) (bm 39 0) (by kernel_rfl) rfl rfl ⟨(blk_cell BK399.out 0).trans rfl, (blk_cell BK399.out 1).trans rfl, (blk_cell BK399.out 2).trans rfl, (blk_cell BK399.out 3).trans rfl, (blk_cell BK399.out 4).trans rfl, (blk_cell BK410.out 0).trans rfl, (blk_cell BK410.out 1).trans rfl, (blk_cell BK410.out 2).trans rfl, (blk_cell BK410.out 3).trans rfl, (blk_cell BK410.out 4).trans rfl, (blk_cell BK411.out 0).trans rfl, (blk_cell BK411.out 1).trans rfl, (blk_cell BK411.out 2).trans rfl, (blk_cell BK411.out 3).trans rfl, (blk_cell BK411.out 4).trans rfl⟩ (fun hHeld => ?_); refine with_tabW laws_FnStyles.tab12 laws_FnStyles.bits12 (fun HT_ HW_ => ?_)
            generalize wc.drew = w121 at HO_8 BK393 BK399 BK410 BK411 HB hHeld ⊢
            refine take_ (i := 0) (N := some 73) (v := ?_) (a' := ?_) (bm 39 1) rfl rfl (take_ofW HT_.out HW_.out (by kernel_rfl)) (fun _ _ _ h => h) (Or.inl ⟨by rfl, ?_⟩) hHeld ?_ ?_
            rotate_left
            ·rintro w' ⟨s0, s1, s2, s3, s4, s5, s6, s7, s8, s9, s10, s11, s12, s13, s14⟩
             go_simp
             with_reducible rfl
            rotate_left
            ·simp only [Act.put, List.setIfInBounds_toArray, List.set_cons_zero, List.set_cons_succ, i64_w, i32_w]
             rfl
            refine one_ (i := 1) (N := some 74) (bm 39 3) rfl rfl (one_of HT_.out (by kernel_rfl)) (by decide) (fun K hK => ?_)
            refine goes_ Tryd.func22 (by kernel_rfl) rfl #[.agg #[.int .i64 t394, .int .i64 t395, .bool t396, .bool t397, .bool t398]] (by rfl) rfl rfl (by (try simp only [List.map_toArray, List.map_cons, List.map_nil]); first | done | rfl | (simp only [List.length_drop, List.length_take]; rfl)) ?_
            with_reducible refine (impl_StyleOk.calls t394 t395 t396 t397 t398 true _ A85.out).mono ?_
            rintro e w122 ⟨rfl, hb⟩
            refine ⟨_, rfl, ?_⟩
            have n0_ := am (Kd.R_below (rr HO_8) hb)
            have n1_ := am (blk_below (g := gb393) (o := .cells #[.int .i64 t385, .int .i64 t386, .bool t387, .bool t388, .bool t389] 25 (0, 0)) (rk BK393) hb)
            have n2_ := am (blk_below (g := gb399) (o := .cells #[.int .i64 t394, .int .i64 t395, .bool t396, .bool t397, .bool t398] 25 (0, 0)) (rk BK399) hb)
            have n3_ := am (blk_below (g := gb410) (o := .cells #[.int .i64 t400, .int .i64 t401, .bool t402, .bool t403, .bool t404] 25 (0, 0)) (rk BK410) hb)
            have n4_ := am (blk_below (g := gb411) (o := .cells #[.int .i64 t405, .int .i64 t406, .bool t407, .bool t408, .bool t409] 25 (0, 0)) (rk BK411) hb)
            have n5_ := am (below_step (by repeat (first | (with_reducible first | exact HB.out | apply b1 | apply b2 | apply b3 | refine below_set ?_ GE393.out | refine below_set ?_ GE399.out | refine below_set ?_ GE410.out | refine below_set ?_ GE411.out) | exact HB.out)) hb)
            clear HO_8
            clear BK393
            clear BK399
            clear BK410
            clear BK411
            clear HB
            have HO_8 := n0_
            have BK393 := n1_
            have BK399 := n2_
            have BK410 := n3_
            have BK411 := n4_
            have HB := n5_
            clear n0_ n1_ n2_ n3_ n4_ n5_
            (try clear hb)
            (try clear hb2)
            (try clear hk)
            (try clear hi)
            obtain ⟨Ao123, co123, eo123⟩ := Kd.R_slice HO_8.out
            (first | subst eo123 | (injection eo123 with f1_ f2_ f3_; have f4_ := f1_.symm; have f5_ := f3_.symm; clear f1_ f2_ f3_; subst f4_; subst f5_))
            refine hK.out _ _ ⟨(blk_cell BK399.out 0).trans rfl, (blk_cell BK399.out 1).trans rfl, (blk_cell BK399.out 2).trans rfl, (blk_cell BK399.out 3).trans rfl, (blk_cell BK399.out 4).trans rfl, (blk_cell BK410.out 0).trans rfl, (blk_cell BK410.out 1).trans rfl, (blk_cell BK410.out 2).trans rfl, (blk_cell BK410.out 3).trans rfl, (blk_cell BK410.out 4).trans rfl, (blk_cell BK411.out 0).trans rfl, (blk_cell BK411.out 1).trans rfl, (blk_cell BK411.out 2).trans rfl, (blk_cell BK411.out 3).trans rfl, (blk_cell BK411.out 4).trans rfl⟩ (fun hHeld => ?_)
            clear hK K
            refine norm_ (a' := ?_) ?_ ?_
            rotate_left
            ·show Act.put _ (some 74) _ = _
             simp only [Act.put, List.setIfInBounds_toArray, List.set_cons_zero, List.set_cons_succ, i64_w, i32_w]
             rfl
            refine pu_ 2 75 (bm 39 7) HT_.out ?_
            refine pu_ 6 79 (bm 39 71) HT_.out ?_
            refine pu_ 7 80 (bm 39 199) HT_.out ?_
            refine pu_ 8 81 (bm 39 455) HT_.out ?_
            refine take_ (i := 3) (N := some 76) (v := ?_) (a' := ?_) (bm 39 463) rfl rfl (take_ofW HT_.out HW_.out (by kernel_rfl)) (fun _ _ _ h => h) (Or.inl ⟨by rfl, ?_⟩) hHeld ?_ ?_
            rotate_left
            ·rintro w' ⟨s0, s1, s2, s3, s4, s5, s6, s7, s8, s9, s10, s11, s12, s13, s14⟩
             go_simp
             with_reducible rfl
            rotate_left
            ·simp only [Act.put, List.setIfInBounds_toArray, List.set_cons_zero, List.set_cons_succ, i64_w, i32_w]
             rfl
            refine take_ (i := 4) (N := some 77) (v := ?_) (a' := ?_) (bm 39 479) rfl rfl (take_ofW HT_.out HW_.out (by kernel_rfl)) (fun _ _ _ h => h) (Or.inl ⟨by rfl, ?_⟩) hHeld ?_ ?_
            rotate_left
            ·rintro w' ⟨s0, s1, s2, s3, s4, s5, s6, s7, s8, s9, s10, s11, s12, s13, s14⟩
             go_simp
             with_reducible rfl
            rotate_left
            ·simp only [Act.put, List.setIfInBounds_toArray, List.set_cons_zero, List.set_cons_succ, i64_w, i32_w]
             rfl
            refine pu_ 5 78 (bm 39 511) HT_.out ?_
            refine pu_ 9 82 (bm 39 1023) HT_.out ?_
            refine pu_ 10 83 (bm 39 2047) HT_.out ?_
            refine pu_ 11 84 (bm 39 4095) HT_.out ?_
            refine un_ 12 85 (bm 39 8191) HT_.out ?_
            refine un_ 13 86 (bm 39 16383) HT_.out ?_
            refine un_ 14 87 (bm 39 32767) HT_.out ?_
            refine un_ 15 88 (bm 39 65535) HT_.out ?_
            refine un_ 16 89 (bm 39 131071) HT_.out ?_
            refine un_ 17 90 (bm 39 262143) HT_.out ?_
            refine un_ 18 91 (bm 39 524287) HT_.out ?_
            refine un_ 19 92 (bm 39 1048575) HT_.out ?_
            refine un_ 20 93 (bm 39 2097151) HT_.out ?_
            refine un_ 21 94 (bm 39 4194303) HT_.out ?_
            refine pu_ 22 95 (bm 39 8388607) HT_.out ?_
            refine pu_ 23 96 (bm 39 16777215) HT_.out ?_
            refine un_ 24 97 (bm 39 33554431) HT_.out ?_
            refine un_ 25 98 (bm 39 67108863) HT_.out ?_
            refine un_ 26 99 (bm 39 134217727) HT_.out ?_
            refine un_ 27 100 (bm 39 268435455) HT_.out ?_
            refine un_ 28 101 (bm 39 536870911) HT_.out ?_
            refine un_ 29 102 (bm 39 1073741823) HT_.out ?_
            refine pu_ 30 103 (bm 39 2147483647) HT_.out ?_
            refine pu_ 31 104 (bm 39 4294967295) HT_.out ?_
            refine un_ 32 105 (bm 39 8589934591) HT_.out ?_
            refine un_ 33 106 (bm 39 17179869183) HT_.out ?_
            refine un_ 34 107 (bm 39 34359738367) HT_.out ?_
            refine un_ 35 108 (bm 39 68719476735) HT_.out ?_
            refine un_ 36 109 (bm 39 137438953471) HT_.out ?_
            refine pu_ 37 110 (bm 39 274877906943) HT_.out ?_
            refine pu_ 38 2 (bm 39 549755813887) HT_.out ?_
            refine done_ (done_of HT_.out (by kernel_rfl)) ?_
            try go_wp2
            go_ret
            exact ⟨by first | rfl | (simp [errW_none, errW_some] <;> rfl) | (simp [*, errW_none, errW_some] <;> rfl), by repeat (first | (with_reducible first | exact HB.out | apply b1 | apply b2 | apply b3 | refine below_set ?_ GE393.out | refine below_set ?_ GE399.out | refine below_set ?_ GE410.out | refine below_set ?_ GE411.out) | exact HB.out)⟩)
        ·replace c86 := Bool.eq_false_iff.mpr c86
         subst c86
         have H1 : (some false) = some r := by rw [if_neg (show ¬ (false = true) by decide)] at H; exact H
         clear H
         have H := H1
         clear H1
         first
         | with_reducible exact absurd (Option.some.inj (H.trans (congrArg some hT_))) Bool.false_ne_true
         | (
           obtain rfl := Option.some.inj H
           try go_wp2
           have n0_ := am (Kd.R_drew HO_8.out)
           have n1_ := am (blk_drew BK393.out)
           have n2_ := am (blk_drew BK399.out)
           have n3_ := am (blk_drew BK410.out)
           have n4_ := am (blk_drew BK411.out)
           have n5_ := am (below_drew1 HB.out)
           clear HO_8
           clear BK393
           clear BK399
           clear BK410
           clear BK411
           clear HB
           have HO_8 := n0_
           have BK393 := n1_
           have BK399 := n2_
           have BK410 := n3_
           have BK411 := n4_
           have HB := n5_
           clear n0_ n1_ n2_ n3_ n4_ n5_
           refine start_ (n := 39) (S := fun w' => w'.cell? ⟨gb399, 0, none⟩ = some (.int .i64 t394) ∧ w'.cell? ⟨gb399, 1, none⟩ = some (.int .i64 t395) ∧ w'.cell? ⟨gb399, 2, none⟩ = some (.bool t396) ∧ w'.cell? ⟨gb399, 3, none⟩ = some (.bool t397) ∧ w'.cell? ⟨gb399, 4, none⟩ = some (.bool t398)) (ds := []) (bm 39 0) (by kernel_rfl) rfl rfl ⟨(blk_cell BK399.out 0).trans rfl, (blk_cell BK399.out 1).trans rfl, (blk_cell BK399.out 2).trans rfl, (blk_cell BK399.out 3).trans rfl, (blk_cell BK399.out 4).trans rfl⟩ (fun hHeld => ?_); refine with_tabW laws_FnStyles.tab12 laws_FnStyles.bits12 (fun HT_ HW_ => ?_)
           generalize wc.drew = w124 at HO_8 BK393 BK399 BK410 BK411 HB hHeld ⊢
           refine take_ (i := 0) (N := some 73) (v := ?_) (a' := ?_) (bm 39 1) rfl rfl (take_ofW HT_.out HW_.out (by kernel_rfl)) (fun _ _ _ h => h) (Or.inl ⟨by rfl, ?_⟩) hHeld ?_ ?_
           rotate_left
           ·rintro w' ⟨s0, s1, s2, s3, s4⟩
            go_simp
            with_reducible rfl
           rotate_left
           ·simp only [Act.put, List.setIfInBounds_toArray, List.set_cons_zero, List.set_cons_succ, i64_w, i32_w]
            rfl
           refine one_ (i := 1) (N := some 74) (bm 39 3) rfl rfl (one_of HT_.out (by kernel_rfl)) (by decide) (fun K hK => ?_)
           refine goes_ Tryd.func22 (by kernel_rfl) rfl #[.agg #[.int .i64 t394, .int .i64 t395, .bool t396, .bool t397, .bool t398]] (by rfl) rfl rfl (by (try simp only [List.map_toArray, List.map_cons, List.map_nil]); first | done | rfl | (simp only [List.length_drop, List.length_take]; rfl)) ?_
           with_reducible refine (impl_StyleOk.calls t394 t395 t396 t397 t398 false _ A85.out).mono ?_
           rintro e w125 ⟨rfl, hb⟩
           refine ⟨_, rfl, ?_⟩
           have n0_ := am (Kd.R_below (rr HO_8) hb)
           have n1_ := am (blk_below (g := gb393) (o := .cells #[.int .i64 t385, .int .i64 t386, .bool t387, .bool t388, .bool t389] 25 (0, 0)) (rk BK393) hb)
           have n2_ := am (blk_below (g := gb399) (o := .cells #[.int .i64 t394, .int .i64 t395, .bool t396, .bool t397, .bool t398] 25 (0, 0)) (rk BK399) hb)
           have n3_ := am (blk_below (g := gb410) (o := .cells #[.int .i64 t400, .int .i64 t401, .bool t402, .bool t403, .bool t404] 25 (0, 0)) (rk BK410) hb)
           have n4_ := am (blk_below (g := gb411) (o := .cells #[.int .i64 t405, .int .i64 t406, .bool t407, .bool t408, .bool t409] 25 (0, 0)) (rk BK411) hb)
           have n5_ := am (below_step (by repeat (first | (with_reducible first | exact HB.out | apply b1 | apply b2 | apply b3 | refine below_set ?_ GE393.out | refine below_set ?_ GE399.out | refine below_set ?_ GE410.out | refine below_set ?_ GE411.out) | exact HB.out)) hb)
           clear HO_8
           clear BK393
           clear BK399
           clear BK410
           clear BK411
           clear HB
           have HO_8 := n0_
           have BK393 := n1_
           have BK399 := n2_
           have BK410 := n3_
           have BK411 := n4_
           have HB := n5_
           clear n0_ n1_ n2_ n3_ n4_ n5_
           (try clear hb)
           (try clear hb2)
           (try clear hk)
           (try clear hi)
           refine hK.out _ _ ⟨(blk_cell BK399.out 0).trans rfl, (blk_cell BK399.out 1).trans rfl, (blk_cell BK399.out 2).trans rfl, (blk_cell BK399.out 3).trans rfl, (blk_cell BK399.out 4).trans rfl⟩ (fun hHeld => ?_)
           clear hK K
           refine norm_ (a' := ?_) ?_ ?_
           rotate_left
           ·show Act.put _ (some 74) _ = _
            simp only [Act.put, List.setIfInBounds_toArray, List.set_cons_zero, List.set_cons_succ, i64_w, i32_w]
            rfl
           refine pu_ 2 75 (bm 39 7) HT_.out ?_
           refine un_ 3 76 (bm 39 15) HT_.out ?_
           refine un_ 4 77 (bm 39 31) HT_.out ?_
           refine un_ 5 78 (bm 39 63) HT_.out ?_
           refine un_ 6 79 (bm 39 127) HT_.out ?_
           refine un_ 7 80 (bm 39 255) HT_.out ?_
           refine un_ 8 81 (bm 39 511) HT_.out ?_
           refine un_ 9 82 (bm 39 1023) HT_.out ?_
           refine pu_ 10 83 (bm 39 2047) HT_.out ?_
           refine pu_ 11 84 (bm 39 4095) HT_.out ?_
           refine un_ 12 85 (bm 39 8191) HT_.out ?_
           refine un_ 13 86 (bm 39 16383) HT_.out ?_
           refine un_ 14 87 (bm 39 32767) HT_.out ?_
           refine un_ 15 88 (bm 39 65535) HT_.out ?_
           refine un_ 16 89 (bm 39 131071) HT_.out ?_
           refine un_ 17 90 (bm 39 262143) HT_.out ?_
           refine un_ 18 91 (bm 39 524287) HT_.out ?_
           refine un_ 19 92 (bm 39 1048575) HT_.out ?_
           refine un_ 20 93 (bm 39 2097151) HT_.out ?_
           refine un_ 21 94 (bm 39 4194303) HT_.out ?_
           refine pu_ 22 95 (bm 39 8388607) HT_.out ?_
           refine pu_ 23 96 (bm 39 16777215) HT_.out ?_
           refine un_ 24 97 (bm 39 33554431) HT_.out ?_
           refine un_ 25 98 (bm 39 67108863) HT_.out ?_
           refine un_ 26 99 (bm 39 134217727) HT_.out ?_
           refine un_ 27 100 (bm 39 268435455) HT_.out ?_
           refine un_ 28 101 (bm 39 536870911) HT_.out ?_
           refine un_ 29 102 (bm 39 1073741823) HT_.out ?_
           refine pu_ 30 103 (bm 39 2147483647) HT_.out ?_
           refine pu_ 31 104 (bm 39 4294967295) HT_.out ?_
           refine un_ 32 105 (bm 39 8589934591) HT_.out ?_
           refine un_ 33 106 (bm 39 17179869183) HT_.out ?_
           refine un_ 34 107 (bm 39 34359738367) HT_.out ?_
           refine un_ 35 108 (bm 39 68719476735) HT_.out ?_
           refine un_ 36 109 (bm 39 137438953471) HT_.out ?_
           refine pu_ 37 110 (bm 39 274877906943) HT_.out ?_
           refine pu_ 38 2 (bm 39 549755813887) HT_.out ?_
           refine done_ (done_of HT_.out (by kernel_rfl)) ?_
           try go_wp2
           go_ret
           exact ⟨by first | rfl | (simp [errW_none, errW_some] <;> rfl) | (simp [*, errW_none, errW_some] <;> rfl), by repeat (first | (with_reducible first | exact HB.out | apply b1 | apply b2 | apply b3 | refine below_set ?_ GE393.out | refine below_set ?_ GE399.out | refine below_set ?_ GE410.out | refine below_set ?_ GE411.out) | exact HB.out)⟩)

/-- THE ONE PURE STATEMENT of laws_FnStyles: yours. -/
def laws_FnStyles.Pure : Prop := ∀ (l0 : List Int), l0.length ≤ maxLen → l0.length * 1 ≤ 140737488351232 → (∀ x ∈ l0, (Lit.int .u8 x).wf = true) → ∃ k, laws_FnStyles.f k l0 = some true
theorem laws_FnStyles.walk (P : laws_FnStyles.Pure) (a0 : Option Addr) (len0 cap0 : Nat) (z0 : List Int) (w : World) (w0 : (a0 = none ∧ len0 = 0 ∧ cap0 = 0 ∧ z0 = []) ∨ ∃ x, a0 = some x ∧ len0 ≤ cap0 ∧ cap0 ≤ maxLen ∧ z0.length = cap0 ∧ (∀ i, i < z0.length → w.cell? (x.add i) = some (.int .u8 (z0.getD i 0))) ∧ ∀ n ∈ z0, (Lit.int .u8 n).wf = true) (y0 : len0 * 1 ≤ 140737488351232) :
  Calls Tryd.prog 5 #[.slice a0 len0 cap0] w fun e w' => e = .returned (.bool true) ∧ Below w.heap.size w w' := by
 obtain ⟨l0, rfl, hr0, hm0, hw0, hc0⟩ := ReadsInt.ofRowC w0
 obtain ⟨k, h⟩ := P l0 hm0 y0 hw0
 refine (laws_FnStyles.calls k _ _ l0 true w (Kd.C_of_reads (d := (0 : Int)) (h1 := fun _ => rfl) hr0) hc0 h rfl).mono ?_
 rintro e w' ⟨rfl, hd⟩
 exact ⟨rfl, hd⟩

end Go.Proofs.YtbgekmchjdkjiaaDoor.PB
