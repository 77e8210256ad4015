/- The law FnExactNewHistory answers true at every number. -/
import Derived.Test.YtlbdegpjgonnnaaPFnExactNewHistoryx2
namespace Go.Proofs.Ytlbdegpjgonnnaa.Pure
open Go.RowKit Go.Proofs.Ytlbdegpjgonnnaa.PFnExactNewHistory Go.Proofs.YtlbdegpjgonnnaaW.PrintWords Go.Proofs.YtlbdegpjgonnnaaW.PrintLast
set_option linter.unusedVariables false
set_option linter.unusedSimpArgs false

theorem w64 {x : Int} (h0 : -9223372036854775808 ≤ x) (h1 : x ≤ 9223372036854775807) : wrap64 x = x := by unfold wrap64; omega
theorem wf64 {x : Int} : (Lit.int .i64 x).wf = true ↔ -9223372036854775808 ≤ x ∧ x ≤ 9223372036854775807 := by
  simp [Lit.wf, IntKind.min, IntKind.max, IntKind.signed, IntKind.bits]
theorem wf8 {x : Int} : (Lit.int .u8 x).wf = true ↔ 0 ≤ x ∧ x ≤ 255 := by
  simp [Lit.wf, IntKind.min, IntKind.max, IntKind.signed, IntKind.bits]
theorem ev_succ {α : Type} {g : Nat → Option α} {r : α} (h : Ev (fun k => g (k + 1)) r) : Ev g r := by
  obtain ⟨K, h⟩ := h
  refine ⟨K + 1, fun k hk => ?_⟩
  obtain ⟨m, rfl⟩ : ∃ m, k = m + 1 := ⟨k - 1, by omega⟩
  exact h m (by omega)
theorem ev_fixed {α : Type} {x : Option α} {r : α} (h : x = some r) : Ev (fun _ => x) r := ⟨0, fun _ _ => h⟩
theorem ev_eq {α : Type} {g : Nat → Option α} {r s : α} (h : Ev g r) (e : r = s) : Ev g s := e ▸ h
theorem bt0 (s : ByteArray) (i : Int) : 0 ≤ bt s i := (bt_range s i).1
theorem bt255 (s : ByteArray) (i : Int) : bt s i ≤ 255 := (bt_range s i).2

theorem ev_pos {α : Type} {c : Prop} [Decidable c] {a b : Nat → Option α} {r : α} (hc : c) (h : Ev a r) : Ev (fun k => if c then a k else b k) r := by
  obtain ⟨K, h⟩ := h
  exact ⟨K, fun k hk => by show (if c then a k else b k) = some r; rw [if_pos hc]; exact h k hk⟩
theorem ev_neg {α : Type} {c : Prop} [Decidable c] {a b : Nat → Option α} {r : α} (hc : ¬ c) (h : Ev b r) : Ev (fun k => if c then a k else b k) r := by
  obtain ⟨K, h⟩ := h
  exact ⟨K, fun k hk => by show (if c then a k else b k) = some r; rw [if_neg hc]; exact h k hk⟩
theorem ev_bind_some {α β : Type} {a : α} {f : Nat → α → Option β} {r : β} (h : Ev (fun k => f k a) r) : Ev (fun k => (some a).bind (f k)) r := h
theorem ev_bind_of {α β : Type} {x : Option α} {a : α} {f : Nat → α → Option β} {r : β} (hx : x = some a) (h : Ev (fun k => f k a) r) : Ev (fun k => x.bind (f k)) r := by
  subst hx; exact h

theorem rd_nat (l : List Int) (i : Nat) : rd l (i : Int) = l.getD i 0 := by simp [rd]
theorem rd_at {l : List Int} {i : Nat} (h : i < l.length) : rd l (i : Int) = l[i] := by rw [rd_nat, List.getD_eq_getElem?_getD, List.getElem?_eq_getElem h]; rfl
theorem take_set_succ {α : Type} (l : List α) (i : Nat) (a : α) (h : i < l.length) : (l.set i a).take (i + 1) = l.take i ++ [a] := by
  rw [List.take_succ_eq_append_getElem (by simpa using h), List.take_set, List.set_eq_of_length_le (by rw [List.length_take]; omega)]
  simp

theorem laws_eqStringS_ev (l : List ByteArray) (hl : l.length < 9223372036854775807) : Ev (fun k => laws_eqStringS.f k l l) true := by
  have go : ∀ (d i : Nat), i + d = l.length → Ev (fun k => laws_eqStringS.l0 k l l (i : Int)) true := by
    intro d
    induction d with
    | zero =>
      intro i h
      refine ev_succ ?_
      simp only [laws_eqStringS.l0]
      exact ev_neg (by omega) (Ev.now _)
    | succ d ih =>
      intro i h
      refine ev_succ ?_
      simp only [laws_eqStringS.l0, w64 (x := (i : Int) + 1) (by omega) (by omega)]
      exact ev_pos (by omega) (ev_pos (by omega) (ev_pos (by omega) (ev_pos (by first | rfl | trivial) (ih (i + 1) (by omega)))))
  unfold laws_eqStringS.f
  exact ev_pos rfl (go l.length 0 (by omega))

theorem laws_eqHistory_ev (a : Int) (l : List ByteArray) (b : Int) (hl : l.length < 9223372036854775807) : Ev (fun k => laws_eqHistory.f k a l b a l b) true := by
  unfold laws_eqHistory.f
  exact ev_pos rfl (Ev.bind (laws_eqStringS_ev l hl) (ev_pos rfl (ev_pos rfl (Ev.now _))))

theorem spec_l1In_eq (a b c : Int) : spec_l1In.f a b c = some (decide (b ≤ a) && decide (a ≤ c)) := by
  unfold spec_l1In.f
  by_cases h : a ≥ b
  · rw [if_pos h]; simp [h]
  · rw [if_neg h]; simp [show ¬ b ≤ a from h]

theorem impl_in_eq (a b c : Int) : impl_in.f a b c = some (decide (b ≤ a) && decide (a ≤ c)) := by
  unfold impl_in.f
  by_cases h : b ≤ a
  · rw [if_pos h]; simp [h]
  · rw [if_neg h]; simp [h]

theorem FnExactNewHistory : laws_FnExactNewHistory.Pure := by
  intro a ha
  refine Ev.rounds ?_
  have es : ∃ x y, spec_NewHistory.f a = some (x, [], 0, y) ∧ impl_NewHistory.f a = some (x, [], 0, y) := by
    simp only [spec_NewHistory.f, impl_NewHistory.f, spec_l1In_eq, impl_in_eq, Option.bind_some]
    by_cases h : (decide (1 ≤ a) && decide (a ≤ 200)) = true
    · exact ⟨a, true, by rw [if_pos h], by rw [if_pos h]⟩
    · exact ⟨0, false, by rw [if_neg h], by rw [if_neg h]⟩
  obtain ⟨x, y, hs, hi⟩ := es
  have hm : Ev (fun k => laws_markHistory.f k x [] 0 1) (1, []) := by
    unfold laws_markHistory.f laws_markStringS.f
    refine Ev.bind (a := (1, [])) (ev_succ ?_) (Ev.now _)
    simp only [laws_markStringS.l0]
    exact ev_neg (by simp) (Ev.now _)
  have hh : Ev (fun k => laws_heldHistory.f k x [] 0 1) 1 := by
    unfold laws_heldHistory.f laws_heldStringS.f
    refine Ev.bind (a := 1) (ev_succ ?_) (ev_neg (by omega) (Ev.now _))
    simp only [laws_heldStringS.l0]
    exact ev_neg (by simp) (Ev.now _)
  simp only [laws_FnExactNewHistory.f, hs, hi, Option.bind_some]
  refine Ev.bind (laws_eqHistory_ev x [] 0 (by simp)) (ev_pos rfl ?_)
  refine ev_succ ?_
  simp only [laws_FnExactNewHistory.j0, hi, Option.bind_some]
  refine ev_neg (by simp) (Ev.bind hm (Ev.bind hh (ev_neg (by omega) (ev_pos rfl ?_))))
  refine Ev.bind (laws_eqHistory_ev x [] 0 (by simp)) (ev_pos rfl ?_)
  refine ev_succ ?_
  simp only [laws_FnExactNewHistory.j1]
  exact ev_neg (by simp) (Ev.bind hh (ev_neg (by omega) (ev_pos rfl (Ev.now _))))

end Go.Proofs.Ytlbdegpjgonnnaa.Pure
