/- The law FnExactWidth answers true at every number. -/
import Derived.Test.YtfkhllmokmjdaaaPFnExactWidthx1
namespace Go.Proofs.Ytfkhllmokmjdaaa.Pure
open Go.RowKit Go.Proofs.Ytfkhllmokmjdaaa.PFnExactWidth Go.Proofs.YtfkhllmokmjdaaaW.PrintWords Go.Proofs.YtfkhllmokmjdaaaW.PrintLast
set_option linter.unusedVariables false
set_option linter.unusedSimpArgs false

theorem w64 {x : Int} (h0 : -9223372036854775808 ≤ x) (h1 : x ≤ 9223372036854775807) : wrap64 x = x := by unfold wrap64; omega
theorem wf64 {x : Int} : (Lit.int .i64 x).wf = true ↔ -9223372036854775808 ≤ x ∧ x ≤ 9223372036854775807 := by
  simp [Lit.wf, IntKind.min, IntKind.max, IntKind.signed, IntKind.bits]
theorem wf8 {x : Int} : (Lit.int .u8 x).wf = true ↔ 0 ≤ x ∧ x ≤ 255 := by
  simp [Lit.wf, IntKind.min, IntKind.max, IntKind.signed, IntKind.bits]
theorem ev_succ {α : Type} {g : Nat → Option α} {r : α} (h : Ev (fun k => g (k + 1)) r) : Ev g r := by
  obtain ⟨K, h⟩ := h
  refine ⟨K + 1, fun k hk => ?_⟩
  obtain ⟨m, rfl⟩ : ∃ m, k = m + 1 := ⟨k - 1, by omega⟩
  exact h m (by omega)
theorem ev_fixed {α : Type} {x : Option α} {r : α} (h : x = some r) : Ev (fun _ => x) r := ⟨0, fun _ _ => h⟩
theorem ev_eq {α : Type} {g : Nat → Option α} {r s : α} (h : Ev g r) (e : r = s) : Ev g s := e ▸ h
theorem bt0 (s : ByteArray) (i : Int) : 0 ≤ bt s i := (bt_range s i).1
theorem bt255 (s : ByteArray) (i : Int) : bt s i ≤ 255 := (bt_range s i).2

def rok (r : Int) : Bool := decide (0 ≤ r) && decide (r ≤ 1114111) && !(decide (55296 ≤ r) && decide (r ≤ 57343))
theorem rok_iff {r : Int} : rok r = true ↔ 0 ≤ r ∧ r ≤ 1114111 ∧ ¬ (55296 ≤ r ∧ r ≤ 57343) := by
  simp [rok]; omega

def wid (r : Int) : Int :=
  if rok r = false ∨ r < 32 ∨ (127 ≤ r ∧ r ≤ 159) ∨ (768 ≤ r ∧ r ≤ 879) then 0
  else if (4352 ≤ r ∧ r ≤ 4447) ∨ (12288 ≤ r ∧ r ≤ 55295) ∨ (127744 ≤ r ∧ r ≤ 131071) then 2 else 1
theorem wid_range (r : Int) : 0 ≤ wid r ∧ wid r ≤ 2 := by
  unfold wid
  repeat' split
  all_goals omega

theorem spec_l1In_eq (a b c : Int) : spec_l1In.f a b c = some (decide (b ≤ a) && decide (a ≤ c)) := by
  unfold spec_l1In.f
  by_cases h : a ≥ b
  · rw [if_pos h]; simp [h]
  · rw [if_neg h]; simp [show ¬ b ≤ a from h]

theorem spec_RuneOk_eq (r : Int) : spec_RuneOk.f r = some (rok r) := by
  simp only [spec_RuneOk.f, spec_l1In_eq, Option.bind_some, rok]
  by_cases h : (decide (0 ≤ r) && decide (r ≤ 1114111)) = true
  · rw [if_pos h, h, Bool.true_and]
  · rw [if_neg h, Bool.eq_false_iff.mpr h, Bool.false_and]

theorem spec_Width_ev (r : Int) : Ev (fun k => spec_Width.f k r) (wid r) := by
  have j1 : Ev (fun k => spec_Width.j0 k r true) 0 := by
    refine ev_succ ?_
    simp only [spec_Width.j0, if_true]
    exact Ev.now _
  have j0 : Ev (fun k => spec_Width.j0 k r false) (if (4352 ≤ r ∧ r ≤ 4447) ∨ (12288 ≤ r ∧ r ≤ 55295) ∨ (127744 ≤ r ∧ r ≤ 131071) then 2 else 1) := by
    refine ev_succ ?_
    simp only [spec_Width.j0, spec_l1In_eq, Option.bind_some, Bool.false_eq_true, if_false]
    refine ev_fixed ?_
    simp only [Bool.and_eq_true, decide_eq_true_eq]
    repeat' split
    all_goals first | rfl | omega
  simp only [spec_Width.f, spec_RuneOk_eq, spec_l1In_eq, Option.bind_some]
  cases hk : rok r with
  | false => simp only [Bool.false_eq_true, if_false]; refine ev_eq j1 ?_; unfold wid; rw [if_pos (.inl hk)]
  | true =>
    simp only [if_true]
    by_cases h1 : r < 32
    · simp only [if_pos h1]; refine ev_eq j1 ?_; unfold wid; rw [if_pos (.inr (.inl h1))]
    · simp only [if_neg h1]
      by_cases h2 : 127 ≤ r ∧ r ≤ 159
      · simp only [h2.1, h2.2, decide_true, Bool.and_self, if_true]; refine ev_eq j1 ?_; unfold wid; rw [if_pos (.inr (.inr (.inl h2)))]
      · have e2 : (decide (127 ≤ r) && decide (r ≤ 159)) = false := by simpa using h2
        simp only [e2, Bool.false_eq_true, if_false]
        by_cases h3 : 768 ≤ r ∧ r ≤ 879
        · simp only [h3.1, h3.2, decide_true, Bool.and_self]; refine ev_eq j1 ?_; unfold wid; rw [if_pos (.inr (.inr (.inr h3)))]
        · have e3 : (decide (768 ≤ r) && decide (r ≤ 879)) = false := by simpa using h3
          simp only [e3]; refine ev_eq j0 ?_; unfold wid
          refine (if_neg ?_).symm
          rintro (h | h | h | h)
          · rw [hk] at h; cases h
          all_goals omega

theorem impl_in_eq (a b c : Int) : impl_in.f a b c = some (decide (b ≤ a) && decide (a ≤ c)) := by
  unfold impl_in.f
  by_cases h : b ≤ a
  · rw [if_pos h]; simp [h]
  · rw [if_neg h]; simp [h]

theorem impl_RuneOk_eq (r : Int) : impl_RuneOk.f r = some (rok r) := by
  simp only [impl_RuneOk.f, impl_in_eq, Option.bind_some, rok]
  by_cases h : (decide (0 ≤ r) && decide (r ≤ 1114111)) = true
  · rw [if_pos h, h, Bool.true_and]
  · rw [if_neg h, Bool.eq_false_iff.mpr h, Bool.false_and]

theorem impl_Width_ev (r : Int) : Ev (fun k => impl_Width.f k r) (wid r) := by
  have j1 : Ev (fun k => impl_Width.j0 k r true) 0 := by
    refine ev_succ ?_
    simp only [impl_Width.j0, if_true]
    exact Ev.now _
  have j0 : Ev (fun k => impl_Width.j0 k r false) (if (4352 ≤ r ∧ r ≤ 4447) ∨ (12288 ≤ r ∧ r ≤ 55295) ∨ (127744 ≤ r ∧ r ≤ 131071) then 2 else 1) := by
    refine ev_succ ?_
    simp only [impl_Width.j0, impl_in_eq, Option.bind_some, Bool.false_eq_true, if_false]
    refine ev_fixed ?_
    simp only [Bool.and_eq_true, decide_eq_true_eq]
    repeat' split
    all_goals first | rfl | omega
  simp only [impl_Width.f, impl_RuneOk_eq, impl_in_eq, Option.bind_some]
  cases hk : rok r with
  | false => simp only [Bool.false_eq_true, if_false]; refine ev_eq j1 ?_; unfold wid; rw [if_pos (.inl hk)]
  | true =>
    simp only [if_true]
    by_cases h1 : r < 32
    · simp only [if_pos h1]; refine ev_eq j1 ?_; unfold wid; rw [if_pos (.inr (.inl h1))]
    · simp only [if_neg h1]
      by_cases h2 : 127 ≤ r ∧ r ≤ 159
      · simp only [h2.1, h2.2, decide_true, Bool.and_self, if_true]; refine ev_eq j1 ?_; unfold wid; rw [if_pos (.inr (.inr (.inl h2)))]
      · have e2 : (decide (127 ≤ r) && decide (r ≤ 159)) = false := by simpa using h2
        simp only [e2, Bool.false_eq_true, if_false]
        by_cases h3 : 768 ≤ r ∧ r ≤ 879
        · simp only [h3.1, h3.2, decide_true, Bool.and_self]; refine ev_eq j1 ?_; unfold wid; rw [if_pos (.inr (.inr (.inr h3)))]
        · have e3 : (decide (768 ≤ r) && decide (r ≤ 879)) = false := by simpa using h3
          simp only [e3]; refine ev_eq j0 ?_; unfold wid
          refine (if_neg ?_).symm
          rintro (h | h | h | h)
          · rw [hk] at h; cases h
          all_goals omega

theorem FnExactWidth : laws_FnExactWidth.Pure := by
  intro r _
  refine Ev.rounds ?_
  simp only [laws_FnExactWidth.f]
  refine Ev.bind (spec_Width_ev r) ?_
  refine Ev.bind (impl_Width_ev r) ?_
  exact ev_fixed (if_pos rfl)

end Go.Proofs.Ytfkhllmokmjdaaa.Pure
