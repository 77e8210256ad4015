/- The law FnExactKeyOk answers true at every key. -/
import Derived.Test.YtfkhllmokmjdaaaAimFnExactKeyOk
namespace Go.Proofs.Ytfkhllmokmjdaaa.Pure
open Go.RowKit Go.Proofs.Ytfkhllmokmjdaaa.PFnExactKeyOk Go.Proofs.YtfkhllmokmjdaaaW.PrintWords Go.Proofs.YtfkhllmokmjdaaaW.PrintLast
set_option linter.unusedVariables false
set_option linter.unusedSimpArgs false

theorem w64 {x : Int} (h0 : -9223372036854775808 ≤ x) (h1 : x ≤ 9223372036854775807) : wrap64 x = x := by unfold wrap64; omega
theorem wf64 {x : Int} : (Lit.int .i64 x).wf = true ↔ -9223372036854775808 ≤ x ∧ x ≤ 9223372036854775807 := by
  simp [Lit.wf, IntKind.min, IntKind.max, IntKind.signed, IntKind.bits]
theorem wf8 {x : Int} : (Lit.int .u8 x).wf = true ↔ 0 ≤ x ∧ x ≤ 255 := by
  simp [Lit.wf, IntKind.min, IntKind.max, IntKind.signed, IntKind.bits]
theorem ev_succ {α : Type} {g : Nat → Option α} {r : α} (h : Ev (fun k => g (k + 1)) r) : Ev g r := by
  obtain ⟨K, h⟩ := h
  refine ⟨K + 1, fun k hk => ?_⟩
  obtain ⟨m, rfl⟩ : ∃ m, k = m + 1 := ⟨k - 1, by omega⟩
  exact h m (by omega)
theorem ev_fixed {α : Type} {x : Option α} {r : α} (h : x = some r) : Ev (fun _ => x) r := ⟨0, fun _ _ => h⟩
theorem ev_eq {α : Type} {g : Nat → Option α} {r s : α} (h : Ev g r) (e : r = s) : Ev g s := e ▸ h
theorem bt0 (s : ByteArray) (i : Int) : 0 ≤ bt s i := (bt_range s i).1
theorem bt255 (s : ByteArray) (i : Int) : bt s i ≤ 255 := (bt_range s i).2

def rok (r : Int) : Bool := decide (0 ≤ r) && decide (r ≤ 1114111) && !(decide (55296 ≤ r) && decide (r ≤ 57343))
theorem rok_iff {r : Int} : rok r = true ↔ 0 ≤ r ∧ r ≤ 1114111 ∧ ¬ (55296 ≤ r ∧ r ≤ 57343) := by
  simp [rok]; omega

theorem spec_l1In_eq (a b c : Int) : spec_l1In.f a b c = some (decide (b ≤ a) && decide (a ≤ c)) := by
  unfold spec_l1In.f
  by_cases h : a ≥ b
  · rw [if_pos h]; simp [h]
  · rw [if_neg h]; simp [show ¬ b ≤ a from h]

theorem spec_RuneOk_eq (r : Int) : spec_RuneOk.f r = some (rok r) := by
  simp only [spec_RuneOk.f, spec_l1In_eq, Option.bind_some, rok]
  by_cases h : (decide (0 ≤ r) && decide (r ≤ 1114111)) = true
  · rw [if_pos h, h, Bool.true_and]
  · rw [if_neg h, Bool.eq_false_iff.mpr h, Bool.false_and]

theorem impl_in_eq (a b c : Int) : impl_in.f a b c = some (decide (b ≤ a) && decide (a ≤ c)) := by
  unfold impl_in.f
  by_cases h : b ≤ a
  · rw [if_pos h]; simp [h]
  · rw [if_neg h]; simp [h]

theorem impl_RuneOk_eq (r : Int) : impl_RuneOk.f r = some (rok r) := by
  simp only [impl_RuneOk.f, impl_in_eq, Option.bind_some, rok]
  by_cases h : (decide (0 ≤ r) && decide (r ≤ 1114111)) = true
  · rw [if_pos h, h, Bool.true_and]
  · rw [if_neg h, Bool.eq_false_iff.mpr h, Bool.false_and]

theorem keyOk_same (a b : Int) (c : Bool) : ∃ v, spec_KeyOk.f a b c = some v ∧ impl_KeyOk.f a b c = some v := by
  simp only [spec_KeyOk.f, impl_KeyOk.f, spec_RuneOk_eq, impl_RuneOk_eq, spec_l1In_eq, impl_in_eq, Option.bind_some]
  by_cases h1 : a = 1
  · simp only [if_pos h1]
    by_cases h2 : rok b = true
    · simp only [if_pos h2]
      by_cases h3 : b ≥ 32
      · simp only [if_pos h3]
        by_cases h4 : b = 127
        · simp only [if_pos h4]; exact ⟨_, rfl, rfl⟩
        · simp only [if_neg h4]
          cases c with
          | true => exact ⟨!(b == 91), rfl, rfl⟩
          | false => exact ⟨true, rfl, rfl⟩
      · simp only [if_neg h3]; exact ⟨_, rfl, rfl⟩
    · simp only [if_neg h2]; exact ⟨_, rfl, rfl⟩
  · simp only [if_neg h1]
    refine Exists.elim (p := fun v => _ = some v) ?_ fun v hv => ⟨v, hv, hv⟩
    repeat' split
    all_goals exact ⟨_, rfl⟩
theorem FnExactKeyOk : laws_FnExactKeyOk.Aim := by
  intro a b c _ _
  obtain ⟨v, h1, h2⟩ := keyOk_same a b c
  simp only [laws_FnExactKeyOk.f, laws_toKey.f, Option.bind_some, h1, h2]
  cases v <;> rfl

end Go.Proofs.Ytfkhllmokmjdaaa.Pure
