/- Contracts of Go functions that laws of this seat reach: each Lean function answers as its Go function does. No condition. Written by wip/tools/inj.py, over the kit's print. -/
import Derived.Test.YtalopdcephohgaaDoorSBx0
import Derived.Test.YtalopdcephohgaaDoorSBx14
import Derived.Test.YtalopdcephohgaaDoorSBx15
namespace Go.Proofs.YtalopdcephohgaaDoor.SB
open Go.RowKit Go.Proofs.YtalopdcephohgaaDoorW.PrintWords Go.Proofs.YtalopdcephohgaaDoorW.PrintLast Go.Proofs.YtalopdcephohgaaDoorW.PrintMore
attribute [local go_sem] max2_int min2_int max_two min_two max_three min_three max_four min_four   -- for this text's walks alone
set_option linter.unusedVariables false
set_option linter.unusedSimpArgs false

-- NOT PRINTED: function 67 (stringslite_Index)

-- NOT PRINTED: function 56 (strings_Index)

-- NOT PRINTED: function 66 (bytealg_CountString)

-- NOT PRINTED: function 55 (strings_Count)

-- NOT PRINTED: function 41 (strings_genSplit)

/-! ### strings_Split: function 24 -/
theorem strings_Split.reps (w : World) (base : Nat) (ok : Nat → Prop) (xs : List ByteArray) : Reps (Kd.string.M w base ok) Kd.string.sz xs (xs.map Value.string) := by
 refine ⟨by rw [List.length_map]; exact (Nat.mul_one _).symm, fun i p hp => ?_⟩
 rw [show i * Kd.string.sz = i from Nat.mul_one i, show Kd.string.sz = 1 from rfl]
 show ((xs.map Value.string).drop i).take 1 = [.string p]
 obtain ⟨hi, rfl⟩ := List.getElem?_eq_some_iff.mp hp
 rw [← List.map_drop, List.drop_eq_getElem_cons hi]; rfl
def strings_Split.f (a0 : ByteArray) (a1 : ByteArray) : Option (List ByteArray) := if a0.size < 4294967281 ∧ 1 ≤ a1.size then some (Lib.splitB a1 0 (Lib.countB a0 a1) a0) else none
theorem strings_Split.calls (a0 : ByteArray) (a1 : ByteArray) (r : List ByteArray) (w : World) (h : strings_Split.f a0 a1 = some r) (hT : TB w) :
  Calls Tryd.prog 24 #[.string a0, .string a1] w fun e w' => ∃ v0_ : Value, e = .returned (v0_) ∧ Kd.R Kd.string 9 w' w.heap.size (fun _ => True) v0_ r ∧ Below w.heap.size w w' := by
 unfold strings_Split.f at h
 by_cases c : a0.size < 4294967281 ∧ 1 ≤ a1.size
 ·rw [if_pos c] at h
  obtain rfl := Option.some.inj h
  obtain ⟨m, hm⟩ := hT.2.1
  have hl := Lib.splitB_all a1 c.2 0 _ a0 rfl
  have hle := Lib.countB_le a1 c.2 a0.size a0 (Nat.le_refl _)
  refine (Tryd.strings_Split a0 a1 m w c.1 hm c.2).mono ?_
  rintro e w' ⟨rfl, rfl⟩
  obtain ⟨xs, hxs⟩ : ∃ xs, xs = Lib.splitB a1 0 (Lib.countB a0 a1) a0 := ⟨_, rfl⟩
  rw [← hxs] at hl ⊢
  rw [← hl]
  refine ⟨_, rfl, ⟨fun _ _ => trivial, xs.map Value.string, ?_, strings_Split.reps _ _ _ _⟩, below_alloc (Below.refl _ _) _⟩
  have ho := World.ownsRow_lit (base := w.heap.size) (e := 9) (size := 1) w (xs.map Value.string).toArray xs.length (Nat.le_refl _) (by unfold maxLen; omega) (by simp)
  exact ho
 ·rw [if_neg c] at h; cases h

end Go.Proofs.YtalopdcephohgaaDoor.SB
