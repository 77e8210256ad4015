/- Contracts of Go functions that laws of this seat reach: each Lean function answers as its Go function does. No condition. Written by wip/tools/inj.py, over the kit's print. -/
import Derived.Test.YtalopdcephohgaaRAx0
import Derived.Test.YtalopdcephohgaaRAx11
namespace Go.Proofs.Ytalopdcephohgaa.RA
open Go.RowKit Go.Proofs.YtalopdcephohgaaW.PrintWords Go.Proofs.YtalopdcephohgaaW.PrintLast Go.Proofs.YtalopdcephohgaaW.PrintMore
attribute [local go_sem] max2_int min2_int max_two min_two max_three min_three max_four min_four   -- for this text's walks alone
set_option linter.unusedVariables false
set_option linter.unusedSimpArgs false

-- NOT PRINTED: function 118 (stringslite_Index)

-- NOT PRINTED: function 91 (strings_Index)

/-! ### strings_Contains: function 55 -/
def TB (w : World) : Prop := ∃ m : Int, w.cell? ⟨0, 0, none⟩ = some (.int .i64 m)
theorem TB.below {w w' : World} (h : TB w) (hb : Below w.heap.size w w') : TB w' := by
 obtain ⟨m, hm⟩ := h
 have hl : 0 < w.heap.size := World.block_lt_of_cell? w _ hm
 refine ⟨m, ?_⟩
 unfold World.cell? at hm ⊢
 rw [hb.block 0 hl]
 exact hm
def strings_Contains.f (a0 : ByteArray) (a1 : ByteArray) : Option (Bool) := if a0.size < 4294967281 then some (Lib.contains a0.data.toList a1.data.toList) else none
theorem strings_Contains.calls (a0 : ByteArray) (a1 : ByteArray) (r : Bool) (w : World) (h : strings_Contains.f a0 a1 = some r) (hT : TB w) :
  Calls Try.prog 55 #[.string a0, .string a1] w fun e w' => e = .returned (.bool r) ∧ Below w.heap.size w w' := by
 (
unfold strings_Contains.f at h
by_cases c : a0.size < 4294967281
·(
rw [if_pos c] at h
obtain rfl := Option.some.inj h
obtain ⟨m, hm⟩ := hT
refine (Try.strings_Contains a0 a1 m w c hm).mono ?_
rintro e w' ⟨rfl, rfl⟩
exact ⟨rfl, Below.refl _ _⟩
)
·rw [if_neg c] at h; cases h
)

end Go.Proofs.Ytalopdcephohgaa.RA
