/- Contracts of Go functions that laws of this seat reach: each Lean function answers as its Go function does. No condition. Written by wip/tools/inj.py, over the kit's print. -/
import Derived.Test.YtbgekmchjdkjiaaDoorPBx0
namespace Go.Proofs.YtbgekmchjdkjiaaDoor.PB
open Go.RowKit Go.Proofs.YtbgekmchjdkjiaaDoorW.PrintWords Go.Proofs.YtbgekmchjdkjiaaDoorW.PrintLast Go.Proofs.YtbgekmchjdkjiaaDoorW.PrintMore
attribute [local go_sem] max2_int min2_int max_two min_two max_three min_three max_four min_four   -- for this text's walks alone
set_option linter.unusedVariables false
set_option linter.unusedSimpArgs false

-- NOT PRINTED: function 80 (strconv_numDigits)

-- NOT PRINTED: function 81 (strconv_formatBase10)

-- NOT PRINTED: function 95 (bits_TrailingZeros32)

-- NOT PRINTED: function 96 (bits_TrailingZeros64)

-- NOT PRINTED: function 93 (bits_TrailingZeros)

-- NOT PRINTED: function 82 (strconv_formatBits)

-- NOT PRINTED: function 74 (strconv_FormatInt_74)

/-! ### strconv_FormatInt_64: function 64 -/
def strconv_FormatInt_64.f (a0 : Int) (a1 : Int) : Option (ByteArray) := if (0 ≤ a0 ∧ a0 < 100) ∧ a1 = 10 then some ⟨(Lib.decDigits a0.toNat).toArray⟩ else none
theorem strconv_FormatInt_64.calls (a0 : Int) (a1 : Int) (r : ByteArray) (w : World) (h : strconv_FormatInt_64.f a0 a1 = some r) :
  Calls Tryd.prog 64 #[.int .i64 a0, .int .i64 a1] w fun e w' => e = .returned (.string r) ∧ Drawn0 w w' := by
 unfold strconv_FormatInt_64.f at h
 by_cases c : (0 ≤ a0 ∧ a0 < 100) ∧ a1 = 10
 ·rw [if_pos c] at h
  obtain rfl := Option.some.inj h
  obtain ⟨⟨c1, c2⟩, rfl⟩ := c
  obtain ⟨i, rfl⟩ : ∃ i : Nat, a0 = (i : Int) := ⟨a0.toNat, by omega⟩
  rw [Int.toNat_natCast]
  refine (Tryd.strconv_FormatInt_10_small i (by omega) w).mono ?_
  rintro e w' ⟨rfl, rfl⟩
  exact ⟨rfl, Drawn0.refl _⟩
 ·rw [if_neg c] at h; cases h

/-! ### impl_decimal: function 47 -/
def impl_decimal.f (a0 : Int) : Option (ByteArray) := (strconv_FormatInt_64.f a0 10).bind fun t213 => (some t213)
set_option maxHeartbeats 8000000 in
set_option maxRecDepth 100000 in
theorem impl_decimal.calls (a0 : Int) (r : ByteArray) (w : World) (h : impl_decimal.f a0 = some r) :
  Calls Tryd.prog 47 #[.int .i64 a0] w fun e w' => e = .returned (.string r) ∧ Drawn0 w w' := by
 have H : ((strconv_FormatInt_64.f a0 10).bind fun t213 => (some t213)) = some r := h
 clear h
 replace H := Option.bind_eq_some_iff.mp H
 obtain ⟨t213, A20, H⟩ := H
 replace H : (some t213) = some r := H
 have A2 := am A20
 clear A20
 obtain rfl := Option.some.inj H
 go_enter Tryd.func47, Tryd.ntmps47
 go_wp2_with (first | ((with_reducible refine gate_callee (f := 64) rfl ?_); refine gl_ (some 4) Tryd.func64 #[.int .i64 a0, .int .i64 10] ?_; (with_reducible refine (strconv_FormatInt_64.calls a0 10 t213 _ A2.out).mono ?_); rintro e w' ⟨rfl, ⟨nd, rfl⟩⟩; refine ⟨_, rfl, ?_⟩))
 go_ret
 exact ⟨by first | rfl | (simp; done) | (simp [*]; done), by repeat (first | exact Drawn0.refl _ | apply Drawn0.step)⟩

-- NOT PRINTED: function 69 (abi_NoEscape)

-- NOT PRINTED: function 52 (strings_Builder_copyCheck)

-- NOT PRINTED: function 30 (strings_Builder_WriteString)

-- NOT PRINTED: function 33 (strings_Builder_String)

-- NOT PRINTED: function 83 (bytealg_MakeNoZero)

-- NOT PRINTED: function 75 (strings_Builder_grow)

-- NOT PRINTED: function 65 (strings_Builder_Grow)

/-! ### strings_Join: function 48 -/
def strings_Join.f (l0 : List ByteArray) (a1 : ByteArray) : Option (ByteArray) := if l0.length ≤ 140737488355328 ∧ (Lib.join (l0.map (·.data.toList)) a1.data.toList).length ≤ 140737488355328 then some ⟨(Lib.join (l0.map (·.data.toList)) a1.data.toList).toArray⟩ else none
theorem strings_Join.calls (A0 : Option Addr) (c0 : Nat) (l0 : List ByteArray) (a1 : ByteArray) (r : ByteArray) (w : World) (hr0 : Kd.C Kd.string w A0 l0.length l0) (hc0 : l0.length ≤ c0) (h : strings_Join.f l0 a1 = some r) :
  Calls Tryd.prog 48 #[.slice A0 l0.length c0, .string a1] w fun e w' => e = .returned (.string r) ∧ Below w.heap.size w w' := by
 unfold strings_Join.f at h
 by_cases c : l0.length ≤ 140737488355328 ∧ (Lib.join (l0.map (·.data.toList)) a1.data.toList).length ≤ 140737488355328
 ·rw [if_pos c] at h
  obtain rfl := Option.some.inj h
  by_cases h0 : l0.length = 0
  ·have hl : l0 = [] := List.eq_nil_of_length_eq_zero h0
   subst hl
   exact (Tryd.strings_Join_none A0 c0 a1 w).mono fun e w' ⟨he, hw⟩ => ⟨he, hw ▸ Below.refl _ _⟩
  ·obtain ⟨ad, rfl, hc⟩ := hr0.2.2 (by omega)
   have hcell : ∀ (j : Nat) x, l0[j]? = some x → w.cell? (ad.add j) = some (.string x) := by
    intro j x hj
    obtain ⟨cs, hs, hk, hcc⟩ := hc j x hj
    have hk : cs = [.string x] := hk
    subst hk
    have := hcc 0 (.string x) rfl
    rw [show j * Kd.string.sz + 0 = j from Nat.mul_one j] at this
    exact this
   obtain ⟨bk, o, sp⟩ := ad
   have hz : ∃ x, l0[0]? = some x := ⟨_, List.getElem?_eq_getElem (by omega)⟩
   obtain ⟨x0, hx0⟩ := hz
   have h1 := hcell 0 x0 hx0
   have hsp : sp = none := by
    cases sp with
    | none => rfl
    | some p =>
     exfalso
     unfold World.cell? at h1
     split at h1
     ·simp [Addr.add] at h1
     ·cases h1
   subst hsp
   have hbk : bk < w.heap.size := World.block_lt_of_cell? w _ h1
   exact Tryd.strings_Join bk o c0 l0 a1 w (fun j x hj => by
    have := hcell j x hj
    unfold Addr.add at this
    split at this
    ·rename_i e; subst e; exact this
    ·exact this) hbk c.1 hc0 c.2
 ·rw [if_neg c] at h; cases h

end Go.Proofs.YtbgekmchjdkjiaaDoor.PB
