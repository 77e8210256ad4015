/- Contracts of Go functions that laws of this seat reach: each Lean function answers as its Go function does. No condition. Written by wip/tools/inj.py, over the kit's print. -/
import Derived.Test.YtalopdcephohgaaDoorSBx0
namespace Go.Proofs.YtalopdcephohgaaDoor.SB
open Go.RowKit Go.Proofs.YtalopdcephohgaaDoorW.PrintWords Go.Proofs.YtalopdcephohgaaDoorW.PrintLast Go.Proofs.YtalopdcephohgaaDoorW.PrintMore
attribute [local go_sem] max2_int min2_int max_two min_two max_three min_three max_four min_four   -- for this text's walks alone
set_option linter.unusedVariables false
set_option linter.unusedSimpArgs false

-- NOT PRINTED: function 73 (strconv_numDigits)

-- NOT PRINTED: function 74 (strconv_formatBase10)

-- NOT PRINTED: function 102 (bits_TrailingZeros32)

-- NOT PRINTED: function 103 (bits_TrailingZeros64)

-- NOT PRINTED: function 94 (bits_TrailingZeros)

-- NOT PRINTED: function 75 (strconv_formatBits)

-- NOT PRINTED: function 60 (strconv_FormatInt_60)

/-! ### strconv_FormatInt_49: function 49 -/
def TB (w : World) : Prop := Lib.TabIs Tryd.prog w "internal/strconv.uint64pow10" .u64 Lib.pow10Tab ∧ (∃ m : Int, w.cell? ⟨0, 0, none⟩ = some (.int .i64 m)) ∧ (∃ t p, w.cell? ⟨4, 0, none⟩ = some (.iface t p)) ∧ ∃ t p, w.cell? ⟨5, 0, none⟩ = some (.iface t p)
theorem cell_below {w w' : World} (hb : Below w.heap.size w w') {g : Nat} {v : Value} (h : w.cell? ⟨g, 0, none⟩ = some v) : w'.cell? ⟨g, 0, none⟩ = some v := by
 have hl : g < w.heap.size := World.block_lt_of_cell? w _ h
 unfold World.cell? at h ⊢
 rw [hb.block g hl]
 exact h
theorem TB.below {w w' : World} (h : TB w) (hb : Below w.heap.size w w') : TB w' :=
 ⟨Lib.tabBelow_of_tabIs h.1 w' hb, h.2.1.imp fun _ e => cell_below hb e, h.2.2.1.imp fun _ e => e.imp fun _ e => cell_below hb e, h.2.2.2.imp fun _ e => e.imp fun _ e => cell_below hb e⟩
def strconv_FormatInt_49.f (a0 : Int) (a1 : Int) : Option (ByteArray) := if (-9223372036854775808 ≤ a0 ∧ a0 ≤ 9223372036854775807) ∧ a1 = 10 then some ⟨(Lib.itoa a0).toArray⟩ else none
theorem strconv_FormatInt_49.calls (a0 : Int) (a1 : Int) (r : ByteArray) (w : World) (h : strconv_FormatInt_49.f a0 a1 = some r) (hT : TB w) :
  Calls Tryd.prog 49 #[.int .i64 a0, .int .i64 a1] w fun e w' => e = .returned (.string r) ∧ Below w.heap.size w w' := by
 unfold strconv_FormatInt_49.f at h
 by_cases c : (-9223372036854775808 ≤ a0 ∧ a0 ≤ 9223372036854775807) ∧ a1 = 10
 ·rw [if_pos c] at h
  obtain rfl := Option.some.inj h
  obtain ⟨⟨c1, c2⟩, rfl⟩ := c
  refine (Tryd.strconv_FormatInt_10 a0 c1 c2 w hT.1).mono ?_
  rintro e w' ⟨rfl, k, os, rfl⟩
  exact ⟨rfl, Lib.below_grow _ _ (Nat.le_refl _) _ _⟩
 ·rw [if_neg c] at h; cases h

/-! ### impl_decimal: function 37 -/
def impl_decimal.f (a0 : Int) : Option (ByteArray) := (strconv_FormatInt_49.f a0 10).bind fun t274 => (some t274)
set_option maxHeartbeats 8000000 in
set_option maxRecDepth 100000 in
theorem impl_decimal.calls (a0 : Int) (r : ByteArray) (w : World) (h : impl_decimal.f a0 = some r) (hT : TB w) :
  Calls Tryd.prog 37 #[.int .i64 a0] w fun e w' => e = .returned (.string r) ∧ Below w.heap.size w w' := by
 have HT := am hT
 clear hT
 have HB := am (Below.refl w.heap.size w)
 have H : ((strconv_FormatInt_49.f a0 10).bind fun t274 => (some t274)) = some r := h
 clear h
 replace H := Option.bind_eq_some_iff.mp H
 obtain ⟨t274, A20, H⟩ := H
 replace H : (some t274) = some r := H
 have A2 := am A20
 clear A20
 obtain rfl := Option.some.inj H
 go_enter Tryd.func37, Tryd.ntmps37
 go_wp2_with (first | ((with_reducible refine gate_callee (f := 49) rfl ?_); refine gl_ (some 4) Tryd.func49 #[.int .i64 a0, .int .i64 10] ?_; (with_reducible refine (strconv_FormatInt_49.calls a0 10 t274 _ A2.out ?sideT).mono ?_); (case sideT => exact TB.below HT.out (rb HB)); rintro e w3 ⟨rfl, hb⟩; refine ⟨_, rfl, ?_⟩; have n0_ := am (below_step (rb HB) hb); clear HB; have HB := n0_; clear n0_; (try clear hb); (try clear hb2); (try clear hk); (try clear hi)))
 go_ret
 exact ⟨by first | rfl | (simp [errW_none, errW_some] <;> rfl) | (simp [*, errW_none, errW_some] <;> rfl), by repeat (first | (with_reducible first | exact HB.out | apply b1 | apply b2 | apply b3) | exact HB.out)⟩

-- NOT PRINTED: function 76 (abi_NoEscape)

-- NOT PRINTED: function 61 (strings_Builder_copyCheck)

-- NOT PRINTED: function 77 (bytealg_MakeNoZero)

-- NOT PRINTED: function 62 (strings_Builder_grow)

-- NOT PRINTED: function 50 (strings_Builder_Grow)

-- NOT PRINTED: function 51 (strings_Builder_WriteString)

-- NOT PRINTED: function 52 (strings_Builder_String)

/-! ### strings_Join: function 38 -/
def strings_Join.f (l0 : List ByteArray) (a1 : ByteArray) : Option (ByteArray) := if l0.length ≤ 140737488355328 ∧ (Lib.join (l0.map (·.data.toList)) a1.data.toList).length ≤ 140737488355328 then some ⟨(Lib.join (l0.map (·.data.toList)) a1.data.toList).toArray⟩ else none
theorem strings_Join.calls (A0 : Option Addr) (c0 : Nat) (l0 : List ByteArray) (a1 : ByteArray) (r : ByteArray) (w : World) (hr0 : Kd.C Kd.string w A0 l0.length l0) (hc0 : l0.length ≤ c0) (h : strings_Join.f l0 a1 = some r) :
  Calls Tryd.prog 38 #[.slice A0 l0.length c0, .string a1] w fun e w' => e = .returned (.string r) ∧ Below w.heap.size w w' := by
 unfold strings_Join.f at h
 by_cases c : l0.length ≤ 140737488355328 ∧ (Lib.join (l0.map (·.data.toList)) a1.data.toList).length ≤ 140737488355328
 ·rw [if_pos c] at h
  obtain rfl := Option.some.inj h
  by_cases h0 : l0.length = 0
  ·have hl : l0 = [] := List.eq_nil_of_length_eq_zero h0
   subst hl
   exact (Tryd.strings_Join_none A0 c0 a1 w).mono fun e w' ⟨he, hw⟩ => ⟨he, hw ▸ Below.refl _ _⟩
  ·obtain ⟨ad, rfl, hc⟩ := hr0.2.2 (by omega)
   have hcell : ∀ (j : Nat) x, l0[j]? = some x → w.cell? (ad.add j) = some (.string x) := by
    intro j x hj
    obtain ⟨cs, hs, hk, hcc⟩ := hc j x hj
    have hk : cs = [.string x] := hk
    subst hk
    have := hcc 0 (.string x) rfl
    rw [show j * Kd.string.sz + 0 = j from Nat.mul_one j] at this
    exact this
   obtain ⟨bk, o, sp⟩ := ad
   have hz : ∃ x, l0[0]? = some x := ⟨_, List.getElem?_eq_getElem (by omega)⟩
   obtain ⟨x0, hx0⟩ := hz
   have h1 := hcell 0 x0 hx0
   have hsp : sp = none := by
    cases sp with
    | none => rfl
    | some p =>
     exfalso
     unfold World.cell? at h1
     split at h1
     ·simp [Addr.add] at h1
     ·cases h1
   subst hsp
   have hbk : bk < w.heap.size := World.block_lt_of_cell? w _ h1
   exact Tryd.strings_Join bk o c0 l0 a1 w (fun j x hj => by
    have := hcell j x hj
    unfold Addr.add at this
    split at this
    ·rename_i e; subst e; exact this
    ·exact this) hbk c.1 hc0 c.2
 ·rw [if_neg c] at h; cases h

end Go.Proofs.YtalopdcephohgaaDoor.SB
