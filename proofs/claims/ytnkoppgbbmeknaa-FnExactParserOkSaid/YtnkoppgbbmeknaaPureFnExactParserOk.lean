/- The law FnExactParserOk answers true at every parser. -/
import Derived.Test.YtnkoppgbbmeknaaPFnExactParserOkx3
import Derived.Test.YtnkoppgbbmeknaaAimFnExactParserOk
namespace Go.Proofs.Ytnkoppgbbmeknaa.Pure
open Go.RowKit Go.Proofs.Ytnkoppgbbmeknaa.PFnExactParserOk Go.Proofs.YtnkoppgbbmeknaaW.PrintWords Go.Proofs.YtnkoppgbbmeknaaW.PrintLast
set_option linter.unusedVariables false
set_option linter.unusedSimpArgs false

theorem w64 {x : Int} (h0 : -9223372036854775808 ≤ x) (h1 : x ≤ 9223372036854775807) : wrap64 x = x := by unfold wrap64; omega
theorem wf64 {x : Int} : (Lit.int .i64 x).wf = true ↔ -9223372036854775808 ≤ x ∧ x ≤ 9223372036854775807 := by
  simp [Lit.wf, IntKind.min, IntKind.max, IntKind.signed, IntKind.bits]
theorem wf8 {x : Int} : (Lit.int .u8 x).wf = true ↔ 0 ≤ x ∧ x ≤ 255 := by
  simp [Lit.wf, IntKind.min, IntKind.max, IntKind.signed, IntKind.bits]
theorem ev_succ {α : Type} {g : Nat → Option α} {r : α} (h : Ev (fun k => g (k + 1)) r) : Ev g r := by
  obtain ⟨K, h⟩ := h
  refine ⟨K + 1, fun k hk => ?_⟩
  obtain ⟨m, rfl⟩ : ∃ m, k = m + 1 := ⟨k - 1, by omega⟩
  exact h m (by omega)
theorem ev_fixed {α : Type} {x : Option α} {r : α} (h : x = some r) : Ev (fun _ => x) r := ⟨0, fun _ _ => h⟩
theorem ev_eq {α : Type} {g : Nat → Option α} {r s : α} (h : Ev g r) (e : r = s) : Ev g s := e ▸ h
theorem bt0 (s : ByteArray) (i : Int) : 0 ≤ bt s i := (bt_range s i).1
theorem bt255 (s : ByteArray) (i : Int) : bt s i ≤ 255 := (bt_range s i).2
/-- Never keep an equation 'wrap64 .. = ..' in the context where omega runs: it compares them by unfolding. -/
theorem wN {x : Int} {n : Nat} (e : x = (n : Int)) (h : n < 4611686018427387904) : wrap64 x = (n : Int) := by rw [e]; exact w64 (by omega) (by omega)

theorem ev_pos {α : Type} {c : Prop} [Decidable c] {a b : Nat → Option α} {r : α} (hc : c) (h : Ev a r) : Ev (fun k => if c then a k else b k) r := by
  obtain ⟨K, h⟩ := h
  exact ⟨K, fun k hk => by show (if c then a k else b k) = some r; rw [if_pos hc]; exact h k hk⟩
theorem ev_neg {α : Type} {c : Prop} [Decidable c] {a b : Nat → Option α} {r : α} (hc : ¬ c) (h : Ev b r) : Ev (fun k => if c then a k else b k) r := by
  obtain ⟨K, h⟩ := h
  exact ⟨K, fun k hk => by show (if c then a k else b k) = some r; rw [if_neg hc]; exact h k hk⟩
theorem ev_bind_some {α β : Type} {a : α} {f : Nat → α → Option β} {r : β} (h : Ev (fun k => f k a) r) : Ev (fun k => (some a).bind (f k)) r := h
theorem ev_bind_of {α β : Type} {x : Option α} {a : α} {f : Nat → α → Option β} {r : β} (hx : x = some a) (h : Ev (fun k => f k a) r) : Ev (fun k => x.bind (f k)) r := by
  subst hx; exact h

theorem rd_nat (l : List Int) (i : Nat) : rd l (i : Int) = l.getD i 0 := by simp [rd]
theorem rd_at {l : List Int} {i : Nat} (h : i < l.length) : rd l (i : Int) = l[i] := by rw [rd_nat, List.getD_eq_getElem?_getD, List.getElem?_eq_getElem h]; rfl
theorem take_set_succ {α : Type} (l : List α) (i : Nat) (a : α) (h : i < l.length) : (l.set i a).take (i + 1) = l.take i ++ [a] := by
  rw [List.take_succ_eq_append_getElem (by simpa using h), List.take_set, List.set_eq_of_length_le (by rw [List.length_take]; omega)]
  simp

theorem rdOf_at {α : Type} (d : α) {l : List α} {i : Nat} (h : i < l.length) : rdOf d l (i : Int) = l[i] := by
  unfold rdOf; rw [Int.toNat_natCast, List.getD_eq_getElem?_getD, List.getElem?_eq_getElem h]; rfl
theorem maxLen_eq : maxLen = 9223372036854775807 := rfl

def rok (r : Int) : Bool := decide (0 ≤ r) && decide (r ≤ 1114111) && !(decide (55296 ≤ r) && decide (r ≤ 57343))
theorem rok_iff {r : Int} : rok r = true ↔ 0 ≤ r ∧ r ≤ 1114111 ∧ ¬ (55296 ≤ r ∧ r ≤ 57343) := by
  simp [rok]; omega

theorem spec_l1In_eq (a b c : Int) : spec_l1In.f a b c = some (decide (b ≤ a) && decide (a ≤ c)) := by
  unfold spec_l1In.f
  by_cases h : a ≥ b
  · rw [if_pos h]; simp [h]
  · rw [if_neg h]; simp [show ¬ b ≤ a from h]

theorem spec_RuneOk_eq (r : Int) : spec_RuneOk.f r = some (rok r) := by
  simp only [spec_RuneOk.f, spec_l1In_eq, Option.bind_some, rok]
  by_cases h : (decide (0 ≤ r) && decide (r ≤ 1114111)) = true
  · rw [if_pos h, h, Bool.true_and]
  · rw [if_neg h, Bool.eq_false_iff.mpr h, Bool.false_and]

theorem impl_in_eq (a b c : Int) : impl_in.f a b c = some (decide (b ≤ a) && decide (a ≤ c)) := by
  unfold impl_in.f
  by_cases h : b ≤ a
  · rw [if_pos h]; simp [h]
  · rw [if_neg h]; simp [h]

theorem impl_RuneOk_eq (r : Int) : impl_RuneOk.f r = some (rok r) := by
  simp only [impl_RuneOk.f, impl_in_eq, Option.bind_some, rok]
  by_cases h : (decide (0 ≤ r) && decide (r ≤ 1114111)) = true
  · rw [if_pos h, h, Bool.true_and]
  · rw [if_neg h, Bool.eq_false_iff.mpr h, Bool.false_and]

def pinv (x : Int) : Bool := decide (0 ≤ x) && decide (x ≤ 9999)
def pfin (s : Int) (l : List Int) (m : Int) (t : List Int) : Bool := (decide (s = 3) || decide (l.length = 0) && decide (m = 0)) && (decide (s ≥ 4) || decide (t.length = 0))
def pokv (s : Int) (l : List Int) (m : Int) (t : List Int) : Bool := (decide (1 ≤ s) && decide (s ≤ 5)) && (decide (l.length ≤ 16) && l.all pinv) && (decide (m = 0) || decide (m = 63)) && (decide (t.length ≤ 40) && t.all rok) && pfin s l m t
theorem drop_all' {α : Type} (p : α → Bool) (l : List α) (i : Nat) (h : i < l.length) : (l.drop i).all p = (p l[i] && (l.drop (i + 1)).all p) := by
  rw [List.drop_eq_getElem_cons h, List.all_cons]
theorem lenInt (l : List Int) : ((l.length : Int) == 0) = decide (l.length = 0) := by
  by_cases h : l.length = 0
  · rw [decide_eq_true h, beq_iff_eq.mpr (by omega)]
  · rw [decide_eq_false h, beq_eq_false_iff_ne.mpr (by omega)]
theorem spec_l6Runes_ev (t : List Int) (n : Nat) (ht : t.length ≤ 1048576) : Ev (fun k => spec_l6Runes.f k t (n : Int)) (decide (t.length ≤ n) && t.all rok) := by
  have go : ∀ (d i : Nat), i + d = t.length → Ev (fun k => spec_l6Runes.l0 k t (i : Int)) ((t.drop i).all rok) := by
    intro d
    induction d with
    | zero =>
      intro i h
      refine ev_succ ?_
      simp only [spec_l6Runes.l0]
      rw [List.drop_of_length_le (by omega)]
      exact ev_neg (by omega) (Ev.now _)
    | succ d ih =>
      intro i h
      refine ev_succ ?_
      simp only [spec_l6Runes.l0, rd_at (show i < t.length by omega), w64 (x := (i : Int) + 1) (by omega) (by omega), spec_RuneOk_eq, Option.bind_some]
      refine ev_pos (by omega) (ev_pos (by omega) ?_)
      rw [drop_all' _ _ _ (show i < t.length by omega)]
      cases e : rok t[i] with
      | true => exact ev_pos rfl (ev_eq (ih (i + 1) (by omega)) (by simp))
      | false => exact ev_neg (by simp) (ev_eq (Ev.now _) (by simp))
  unfold spec_l6Runes.f
  by_cases h : (t.length : Int) > n
  · exact ev_pos h (ev_eq (Ev.now _) (by rw [decide_eq_false (by omega)]; rfl))
  · exact ev_neg h (ev_eq (go t.length 0 (by omega)) (by rw [decide_eq_true (p := t.length ≤ n) (by omega)]; rfl))
theorem spec_ParserOk_ev (s : Int) (l : List Int) (m : Int) (t : List Int) (hl : l.length ≤ 1048576) (ht : t.length ≤ 1048576) : Ev (fun k => spec_ParserOk.f k s l m t) (pokv s l m t) := by
  have fin : ∀ i : Nat, i = l.length → Ev (fun k => spec_ParserOk.l0 k (i : Int) s l m t) (pfin s l m t) := by
    intro i h
    refine ev_succ ?_
    simp only [spec_ParserOk.l0, lenInt]
    refine ev_neg (by omega) ?_
    unfold pfin
    by_cases a1 : s = 3
    · exact ev_pos a1 (ev_neg (by omega) (ev_eq (Ev.now _) (by rw [decide_eq_true a1, decide_eq_false (p := s ≥ 4) (by omega)]; simp)))
    · refine ev_neg a1 ?_
      by_cases a2 : (l.length : Int) = 0
      · refine ev_pos a2 ?_
        by_cases a3 : s ≥ 4
        · refine ev_pos a3 ?_
          by_cases a4 : m = 0
          · exact ev_pos a4 (ev_eq (Ev.now _) (by rw [decide_eq_true a4, decide_eq_true a3, decide_eq_true (p := l.length = 0) (by omega)]; simp))
          · exact ev_neg a4 (ev_eq (Ev.now _) (by rw [decide_eq_false a4, decide_eq_false a1]; simp))
        · refine ev_neg a3 ?_
          by_cases a4 : m = 0
          · exact ev_pos a4 (ev_eq (Ev.now _) (by rw [decide_eq_true a4, decide_eq_false a3, decide_eq_true (p := l.length = 0) (by omega)]; simp))
          · exact ev_neg a4 (ev_eq (Ev.now _) (by rw [decide_eq_false a4, decide_eq_false a1]; simp))
      · refine ev_neg a2 ?_
        have : (decide (s = 3) || decide (l.length = 0) && decide (m = 0)) = false := by rw [decide_eq_false a1, decide_eq_false (p := l.length = 0) (by omega)]; rfl
        rw [this]
        by_cases a3 : s ≥ 4
        · exact ev_pos a3 (Ev.now _)
        · exact ev_neg a3 (Ev.now _)
  have go : ∀ (d i : Nat), i + d = l.length → Ev (fun k => spec_ParserOk.l0 k (i : Int) s l m t) ((l.drop i).all pinv && pfin s l m t) := by
    intro d
    induction d with
    | zero =>
      intro i h
      rw [List.drop_of_length_le (by omega)]
      exact ev_eq (fin i (by omega)) (by simp)
    | succ d ih =>
      intro i h
      refine ev_succ ?_
      simp only [spec_ParserOk.l0, rd_at (show i < l.length by omega), w64 (x := (i : Int) + 1) (by omega) (by omega), spec_l1In_eq, Option.bind_some]
      refine ev_pos (by omega) (ev_pos (by omega) ?_)
      rw [drop_all' _ _ _ (show i < l.length by omega)]
      cases e : pinv l[i] with
      | true => exact ev_pos e (ev_eq (ih (i + 1) (by omega)) (by simp))
      | false => exact ev_neg (fun x => by rw [show (decide (0 ≤ l[i]) && decide (l[i] ≤ 9999)) = pinv l[i] from rfl, e] at x; cases x) (ev_eq (Ev.now _) (by simp))
  have jt : Ev (fun k => spec_ParserOk.j0 k true s l m t) false := by
    refine ev_succ ?_
    simp only [spec_ParserOk.j0]
    exact ev_pos (by trivial) (Ev.now _)
  have jf : ∀ b : Bool, Ev (fun k => spec_ParserOk.j0 k (!b) s l m t) (b && (l.all pinv && pfin s l m t)) := by
    intro b
    cases b with
    | false => exact jt
    | true =>
      refine ev_succ ?_
      simp only [spec_ParserOk.j0]
      exact ev_neg (by simp) (ev_eq (go l.length 0 (by omega)) (by simp))
  unfold spec_ParserOk.f pokv
  refine ev_bind_of (spec_l1In_eq _ _ _) ?_
  cases e1 : (decide (1 ≤ s) && decide (s ≤ 5)) with
  | false => exact ev_neg (by simp) (ev_eq jt (by simp))
  | true =>
    refine ev_pos rfl ?_
    by_cases a2 : (l.length : Int) > 16
    · exact ev_pos a2 (ev_eq jt (by rw [decide_eq_false (p := l.length ≤ 16) (by omega)]; simp))
    refine ev_neg a2 ?_
    rw [decide_eq_true (p := l.length ≤ 16) (by omega)]
    have hr := spec_l6Runes_ev t 40 ht
    by_cases a3 : m = 0
    · refine ev_pos a3 (Ev.bind hr (ev_eq (jf _) ?_))
      rw [decide_eq_true a3]
      cases l.all pinv <;> cases (decide (t.length ≤ 40) && t.all rok) <;> simp
    refine ev_neg a3 ?_
    by_cases a4 : m = 63
    · refine ev_pos a4 (Ev.bind hr (ev_eq (jf _) ?_))
      rw [decide_eq_true a4]
      cases l.all pinv <;> cases (decide (t.length ≤ 40) && t.all rok) <;> simp
    · exact ev_neg a4 (ev_eq jt (by rw [decide_eq_false a3, decide_eq_false a4]; simp))
theorem impl_ContainsParams_ev (l : List Int) (hl : l.length ≤ 1048576) : Ev (fun k => slices_ContainsFunc_int64_int64_impl_areParams_lit1.f k l) (!l.all pinv) := by
  have go : ∀ (d i : Nat), i + d = l.length → ∃ r, Ev (fun k => slices_IndexFunc_int64_int64_impl_areParams_lit1.l0 k l (l.length : Int) (i : Int)) r ∧ decide (r ≥ 0) = !(l.drop i).all pinv := by
    intro d
    induction d with
    | zero =>
      intro i h
      refine ⟨-1, ev_succ ?_, ?_⟩
      · simp only [slices_IndexFunc_int64_int64_impl_areParams_lit1.l0]
        exact ev_neg (by omega) (Ev.now _)
      · rw [List.drop_of_length_le (by omega)]; rfl
    | succ d ih =>
      intro i h
      rw [drop_all' _ _ _ (show i < l.length by omega)]
      have hp : impl_areParams_1.f l[i] = some (!pinv l[i]) := by unfold impl_areParams_1.f; rw [impl_in_eq]; rfl
      cases e : pinv l[i] with
      | false =>
        refine ⟨(i : Int), ev_succ ?_, by simp⟩
        simp only [slices_IndexFunc_int64_int64_impl_areParams_lit1.l0, rd_at (show i < l.length by omega), hp, e, Option.bind_some]
        exact ev_pos (by omega) (ev_pos (by omega) (ev_pos (by omega) (ev_pos rfl (Ev.now _))))
      | true =>
        obtain ⟨r, er, hr⟩ := ih (i + 1) (by omega)
        refine ⟨r, ev_succ ?_, by rw [hr]; simp⟩
        simp only [slices_IndexFunc_int64_int64_impl_areParams_lit1.l0, rd_at (show i < l.length by omega), hp, e, Option.bind_some, w64 (x := (i : Int) + 1) (by omega) (by omega)]
        exact ev_pos (by omega) (ev_pos (by omega) (ev_pos (by omega) (ev_neg (by simp) er)))
  unfold slices_ContainsFunc_int64_int64_impl_areParams_lit1.f slices_IndexFunc_int64_int64_impl_areParams_lit1.f
  obtain ⟨r, e, hr⟩ := go l.length 0 (by omega)
  exact Ev.bind e (ev_eq (Ev.now _) hr)
theorem impl_ContainsTitle_ev (l : List Int) (hl : l.length ≤ 1048576) : Ev (fun k => slices_ContainsFunc_int64_int64_impl_areTitle_lit1.f k l) (!l.all rok) := by
  have go : ∀ (d i : Nat), i + d = l.length → ∃ r, Ev (fun k => slices_IndexFunc_int64_int64_impl_areTitle_lit1.l0 k l (l.length : Int) (i : Int)) r ∧ decide (r ≥ 0) = !(l.drop i).all rok := by
    intro d
    induction d with
    | zero =>
      intro i h
      refine ⟨-1, ev_succ ?_, ?_⟩
      · simp only [slices_IndexFunc_int64_int64_impl_areTitle_lit1.l0]
        exact ev_neg (by omega) (Ev.now _)
      · rw [List.drop_of_length_le (by omega)]; rfl
    | succ d ih =>
      intro i h
      rw [drop_all' _ _ _ (show i < l.length by omega)]
      have hp : impl_areTitle_1.f l[i] = some (!rok l[i]) := by unfold impl_areTitle_1.f; rw [impl_RuneOk_eq]; rfl
      cases e : rok l[i] with
      | false =>
        refine ⟨(i : Int), ev_succ ?_, by simp⟩
        simp only [slices_IndexFunc_int64_int64_impl_areTitle_lit1.l0, rd_at (show i < l.length by omega), hp, e, Option.bind_some]
        exact ev_pos (by omega) (ev_pos (by omega) (ev_pos (by omega) (ev_pos rfl (Ev.now _))))
      | true =>
        obtain ⟨r, er, hr⟩ := ih (i + 1) (by omega)
        refine ⟨r, ev_succ ?_, by rw [hr]; simp⟩
        simp only [slices_IndexFunc_int64_int64_impl_areTitle_lit1.l0, rd_at (show i < l.length by omega), hp, e, Option.bind_some, w64 (x := (i : Int) + 1) (by omega) (by omega)]
        exact ev_pos (by omega) (ev_pos (by omega) (ev_pos (by omega) (ev_neg (by simp) er)))
  unfold slices_ContainsFunc_int64_int64_impl_areTitle_lit1.f slices_IndexFunc_int64_int64_impl_areTitle_lit1.f
  obtain ⟨r, e, hr⟩ := go l.length 0 (by omega)
  exact Ev.bind e (ev_eq (Ev.now _) hr)
theorem impl_areParams_ev (l : List Int) (hl : l.length ≤ 1048576) : Ev (fun k => impl_areParams.f k l) (decide (l.length ≤ 16) && l.all pinv) := by
  unfold impl_areParams.f
  by_cases h : (l.length : Int) ≤ 16
  · exact ev_pos h (Ev.bind (impl_ContainsParams_ev l hl) (ev_eq (Ev.now _) (by rw [decide_eq_true (p := l.length ≤ 16) (by omega)]; simp)))
  · exact ev_neg h (ev_eq (Ev.now _) (by rw [decide_eq_false (p := l.length ≤ 16) (by omega)]; simp))
theorem impl_areTitle_ev (l : List Int) (hl : l.length ≤ 1048576) : Ev (fun k => impl_areTitle.f k l) (decide (l.length ≤ 40) && l.all rok) := by
  unfold impl_areTitle.f
  by_cases h : (l.length : Int) ≤ 40
  · exact ev_pos h (Ev.bind (impl_ContainsTitle_ev l hl) (ev_eq (Ev.now _) (by rw [decide_eq_true (p := l.length ≤ 40) (by omega)]; simp)))
  · exact ev_neg h (ev_eq (Ev.now _) (by rw [decide_eq_false (p := l.length ≤ 40) (by omega)]; simp))
theorem impl_isMark_eq (m : Int) : impl_isMark.f m = some (decide (m = 0) || decide (m = 63)) := by
  unfold impl_isMark.f
  by_cases h : m = 0
  · rw [if_pos h, decide_eq_true h]; rfl
  · rw [if_neg h, decide_eq_false h]
    by_cases h2 : m = 63
    · rw [decide_eq_true h2, beq_iff_eq.mpr h2]; rfl
    · rw [decide_eq_false h2, beq_eq_false_iff_ne.mpr h2]; rfl
theorem impl_ParserOk_ev (s : Int) (l : List Int) (m : Int) (t : List Int) (hl : l.length ≤ 1048576) (ht : t.length ≤ 1048576) : Ev (fun k => impl_ParserOk.f k s l m t) (pokv s l m t) := by
  unfold impl_ParserOk.f pokv
  refine ev_bind_of (impl_in_eq _ _ _) ?_
  cases e1 : (decide (1 ≤ s) && decide (s ≤ 5)) with
  | false => exact ev_neg (by simp) (ev_eq (Ev.now _) (by simp))
  | true =>
    refine ev_pos rfl (Ev.bind (impl_areParams_ev l hl) ?_)
    cases e2 : (decide (l.length ≤ 16) && l.all pinv) with
    | false => exact ev_neg (by simp) (ev_eq (Ev.now _) (by simp))
    | true =>
      refine ev_pos rfl (ev_bind_of (impl_isMark_eq m) ?_)
      cases e3 : (decide (m = 0) || decide (m = 63)) with
      | false => exact ev_neg (by simp) (ev_eq (Ev.now _) (by simp))
      | true =>
        refine ev_pos rfl (Ev.bind (impl_areTitle_ev t ht) ?_)
        cases e4 : (decide (t.length ≤ 40) && t.all rok) with
        | false => exact ev_neg (by simp) (ev_eq (Ev.now _) (by simp))
        | true =>
          refine ev_pos rfl ?_
          simp only [lenInt]
          unfold pfin
          by_cases a1 : s = 3
          · exact ev_pos a1 (ev_neg (by omega) (ev_eq (Ev.now _) (by rw [decide_eq_true a1, decide_eq_false (p := s ≥ 4) (by omega)]; simp)))
          · refine ev_neg a1 ?_
            by_cases a2 : (l.length : Int) = 0
            · refine ev_pos a2 ?_
              by_cases a4 : m = 0
              · refine ev_pos a4 ?_
                by_cases a3 : s ≥ 4
                · exact ev_pos a3 (ev_eq (Ev.now _) (by rw [decide_eq_true a4, decide_eq_true a3, decide_eq_true (p := l.length = 0) (by omega)]; simp))
                · exact ev_neg a3 (ev_eq (Ev.now _) (by rw [decide_eq_true a4, decide_eq_false a3, decide_eq_true (p := l.length = 0) (by omega)]; simp))
              · exact ev_neg a4 (ev_eq (Ev.now _) (by rw [decide_eq_false a4, decide_eq_false a1]; simp))
            · exact ev_neg a2 (ev_eq (Ev.now _) (by rw [decide_eq_false a1, decide_eq_false (p := l.length = 0) (by omega)]; simp))

theorem laws_toInt64S_ev (l : List Int) (hl : l.length * 8 ≤ 140737488351232) : Ev (fun k => laws_toInt64S.f k l) l := by
  have go : ∀ (d i : Nat) (m : List Int), i + d = l.length → m.length = l.length → Ev (fun k => laws_toInt64S.l0 k l m (i : Int)) (m.take i ++ l.drop i) := by
    intro d
    induction d with
    | zero =>
      intro i m h hm
      refine ev_succ ?_
      simp only [laws_toInt64S.l0]
      refine ev_neg (by omega) ?_
      rw [List.take_of_length_le (by omega), List.drop_of_length_le (by omega), List.append_nil]
      exact Ev.now _
    | succ d ih =>
      intro i m h hm
      refine ev_succ ?_
      simp only [laws_toInt64S.l0, w64 (x := (i : Int) + 1) (by omega) (by omega)]
      refine ev_pos (by omega) (ev_pos (by omega) (ev_pos (by omega) ?_))
      have := ih (i + 1) (m.set (i : Int).toNat (rd l (i : Int))) (by omega) (by simpa using hm)
      refine ev_eq this ?_
      rw [show (i : Int).toNat = i by omega, take_set_succ _ _ _ (by omega), rd_at (by omega), List.append_assoc, List.singleton_append, ← List.drop_eq_getElem_cons (by omega)]
  unfold laws_toInt64S.f
  refine ev_pos (by omega) (ev_pos (by omega) ?_)
  have := go l.length 0 (List.replicate l.length 0) (by omega) (by simp)
  simpa using this

theorem laws_eqInt64S_ev (l : List Int) (hl : l.length < 9223372036854775807) : Ev (fun k => laws_eqInt64S.f k l l) true := by
  have go : ∀ (d i : Nat), i + d = l.length → Ev (fun k => laws_eqInt64S.l0 k l l (i : Int)) true := by
    intro d
    induction d with
    | zero =>
      intro i h
      refine ev_succ ?_
      simp only [laws_eqInt64S.l0]
      exact ev_neg (by omega) (Ev.now _)
    | succ d ih =>
      intro i h
      refine ev_succ ?_
      simp only [laws_eqInt64S.l0, w64 (x := (i : Int) + 1) (by omega) (by omega)]
      exact ev_pos (by omega) (ev_pos (by omega) (ev_pos (by omega) (ev_pos (by first | rfl | trivial) (ih (i + 1) (by omega)))))
  unfold laws_eqInt64S.f
  exact ev_pos rfl (go l.length 0 (by omega))

theorem laws_szParser_some (s : Int) (l : List Int) (m : Int) (t : List Int) (hl : l.length ≤ maxLen) (ht : t.length ≤ maxLen) : ∃ r, laws_szParser.f s l m t 1048576 = some r ∧ (r < 0 ∨ (l.length ≤ 1048576 ∧ t.length ≤ 1048576)) := by
  rw [maxLen_eq] at hl ht
  unfold laws_szParser.f laws_szInt64S.f
  rw [w64 (x := 1048576 - (l.length : Int)) (by omega) (by omega)]
  by_cases h1 : 1048576 - (l.length : Int) < 0
  · rw [if_pos h1, Option.bind_some, if_pos (by omega)]; exact ⟨_, rfl, .inl (by omega)⟩
  rw [if_neg h1, Option.bind_some, if_neg h1, w64 (x := 1048576 - (l.length : Int) - (t.length : Int)) (by omega) (by omega)]
  by_cases h2 : 1048576 - (l.length : Int) - (t.length : Int) < 0
  · rw [if_pos h2, Option.bind_some, if_pos (by omega)]; exact ⟨_, rfl, .inl (by omega)⟩
  rw [if_neg h2, Option.bind_some, if_neg h2]
  exact ⟨_, rfl, .inr (by omega)⟩
theorem FnExactParserOk : laws_FnExactParserOk.Aim := by
  intro s l m t hs hl hm ht
  refine Ev.rounds ?_
  unfold laws_FnExactParserOk.f
  obtain ⟨r, er, hr⟩ := laws_szParser_some s l m t hl.1 ht.1
  refine ev_bind_of er ?_
  by_cases h : r < 0
  · exact ev_pos h (Ev.now _)
  refine ev_neg h ?_
  have h1 : l.length ≤ 1048576 := by omega
  have h2 : t.length ≤ 1048576 := by omega
  have hto : Ev (fun k => laws_toParser.f k s l m t) (s, l, m, t) := by
    unfold laws_toParser.f
    exact Ev.bind (laws_toInt64S_ev l (by omega)) (Ev.bind (laws_toInt64S_ev t (by omega)) (Ev.now _))
  have heq : Ev (fun k => laws_eqParser.f k s l m t s l m t) true := by
    unfold laws_eqParser.f
    exact ev_pos rfl (Ev.bind (laws_eqInt64S_ev l (by omega)) (ev_pos rfl (ev_pos rfl (Ev.bind (laws_eqInt64S_ev t (by omega)) (ev_pos rfl (Ev.now _))))))
  exact Ev.bind hto (Ev.bind (spec_ParserOk_ev s l m t h1 h2) (Ev.bind hto (Ev.bind (impl_ParserOk_ev s l m t h1 h2) (ev_neg (by simp) (Ev.bind hto (Ev.bind heq (ev_pos rfl (Ev.now _))))))))

end Go.Proofs.Ytnkoppgbbmeknaa.Pure
