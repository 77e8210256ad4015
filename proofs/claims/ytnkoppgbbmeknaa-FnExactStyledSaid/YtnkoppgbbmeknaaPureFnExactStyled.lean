/- The law FnExactStyled answers true at every style and every list of params. -/
import Derived.Test.YtnkoppgbbmeknaaMFnExactStyledx4
import Derived.Test.YtnkoppgbbmeknaaAimFnExactStyled
namespace Go.Proofs.Ytnkoppgbbmeknaa.Pure
open Go.RowKit Go.Proofs.Ytnkoppgbbmeknaa.PFnExactStyled Go.Proofs.YtnkoppgbbmeknaaW.PrintWords Go.Proofs.YtnkoppgbbmeknaaW.PrintLast
set_option linter.unusedVariables false
set_option linter.unusedSimpArgs false

theorem w64 {x : Int} (h0 : -9223372036854775808 ≤ x) (h1 : x ≤ 9223372036854775807) : wrap64 x = x := by unfold wrap64; omega
theorem wf64 {x : Int} : (Lit.int .i64 x).wf = true ↔ -9223372036854775808 ≤ x ∧ x ≤ 9223372036854775807 := by
  simp [Lit.wf, IntKind.min, IntKind.max, IntKind.signed, IntKind.bits]
theorem wf8 {x : Int} : (Lit.int .u8 x).wf = true ↔ 0 ≤ x ∧ x ≤ 255 := by
  simp [Lit.wf, IntKind.min, IntKind.max, IntKind.signed, IntKind.bits]
theorem ev_succ {α : Type} {g : Nat → Option α} {r : α} (h : Ev (fun k => g (k + 1)) r) : Ev g r := by
  obtain ⟨K, h⟩ := h
  refine ⟨K + 1, fun k hk => ?_⟩
  obtain ⟨m, rfl⟩ : ∃ m, k = m + 1 := ⟨k - 1, by omega⟩
  exact h m (by omega)
theorem ev_fixed {α : Type} {x : Option α} {r : α} (h : x = some r) : Ev (fun _ => x) r := ⟨0, fun _ _ => h⟩
theorem ev_eq {α : Type} {g : Nat → Option α} {r s : α} (h : Ev g r) (e : r = s) : Ev g s := e ▸ h
theorem bt0 (s : ByteArray) (i : Int) : 0 ≤ bt s i := (bt_range s i).1
theorem bt255 (s : ByteArray) (i : Int) : bt s i ≤ 255 := (bt_range s i).2
/-- Never keep an equation 'wrap64 .. = ..' in the context where omega runs: it compares them by unfolding. -/
theorem wN {x : Int} {n : Nat} (e : x = (n : Int)) (h : n < 4611686018427387904) : wrap64 x = (n : Int) := by rw [e]; exact w64 (by omega) (by omega)

theorem spec_l1In_eq (a b c : Int) : spec_l1In.f a b c = some (decide (b ≤ a) && decide (a ≤ c)) := by
  unfold spec_l1In.f
  by_cases h : a ≥ b
  · rw [if_pos h]; simp [h]
  · rw [if_neg h]; simp [show ¬ b ≤ a from h]

theorem impl_in_eq (a b c : Int) : impl_in.f a b c = some (decide (b ≤ a) && decide (a ≤ c)) := by
  unfold impl_in.f
  by_cases h : b ≤ a
  · rw [if_pos h]; simp [h]
  · rw [if_neg h]; simp [h]

def sokv (a b : Int) : Bool := (decide (0 ≤ a) && decide (a ≤ 8)) && (decide (0 ≤ b) && decide (b ≤ 8))
theorem spec_StyleOk_eq (a b : Int) (c d e : Bool) : spec_StyleOk.f a b c d e = some (sokv a b) := by
  simp only [spec_StyleOk.f, spec_l1In_eq, Option.bind_some, sokv]
  by_cases h : (decide (0 ≤ a) && decide (a ≤ 8)) = true
  · simp [h]
  · simp [h]
theorem impl_StyleOk_eq (a b : Int) (c d e : Bool) : impl_StyleOk.f a b c d e = some (sokv a b) := by
  simp only [impl_StyleOk.f, impl_in_eq, Option.bind_some, sokv]
  by_cases h : (decide (0 ≤ a) && decide (a ≤ 8)) = true
  · simp [h]
  · simp [h]

theorem ev_pos {α : Type} {c : Prop} [Decidable c] {a b : Nat → Option α} {r : α} (hc : c) (h : Ev a r) : Ev (fun k => if c then a k else b k) r := by
  obtain ⟨K, h⟩ := h
  exact ⟨K, fun k hk => by show (if c then a k else b k) = some r; rw [if_pos hc]; exact h k hk⟩
theorem ev_neg {α : Type} {c : Prop} [Decidable c] {a b : Nat → Option α} {r : α} (hc : ¬ c) (h : Ev b r) : Ev (fun k => if c then a k else b k) r := by
  obtain ⟨K, h⟩ := h
  exact ⟨K, fun k hk => by show (if c then a k else b k) = some r; rw [if_neg hc]; exact h k hk⟩
theorem ev_bind_some {α β : Type} {a : α} {f : Nat → α → Option β} {r : β} (h : Ev (fun k => f k a) r) : Ev (fun k => (some a).bind (f k)) r := h
theorem ev_bind_of {α β : Type} {x : Option α} {a : α} {f : Nat → α → Option β} {r : β} (hx : x = some a) (h : Ev (fun k => f k a) r) : Ev (fun k => x.bind (f k)) r := by
  subst hx; exact h

theorem rd_nat (l : List Int) (i : Nat) : rd l (i : Int) = l.getD i 0 := by simp [rd]
theorem rd_at {l : List Int} {i : Nat} (h : i < l.length) : rd l (i : Int) = l[i] := by rw [rd_nat, List.getD_eq_getElem?_getD, List.getElem?_eq_getElem h]; rfl
theorem take_set_succ {α : Type} (l : List α) (i : Nat) (a : α) (h : i < l.length) : (l.set i a).take (i + 1) = l.take i ++ [a] := by
  rw [List.take_succ_eq_append_getElem (by simpa using h), List.take_set, List.set_eq_of_length_le (by rw [List.length_take]; omega)]
  simp

theorem laws_toInt64S_ev (l : List Int) (hl : l.length * 8 ≤ 140737488351232) : Ev (fun k => laws_toInt64S.f k l) l := by
  have go : ∀ (d i : Nat) (m : List Int), i + d = l.length → m.length = l.length → Ev (fun k => laws_toInt64S.l0 k l m (i : Int)) (m.take i ++ l.drop i) := by
    intro d
    induction d with
    | zero =>
      intro i m h hm
      refine ev_succ ?_
      simp only [laws_toInt64S.l0]
      refine ev_neg (by omega) ?_
      rw [List.take_of_length_le (by omega), List.drop_of_length_le (by omega), List.append_nil]
      exact Ev.now _
    | succ d ih =>
      intro i m h hm
      refine ev_succ ?_
      simp only [laws_toInt64S.l0, w64 (x := (i : Int) + 1) (by omega) (by omega)]
      refine ev_pos (by omega) (ev_pos (by omega) (ev_pos (by omega) ?_))
      have := ih (i + 1) (m.set (i : Int).toNat (rd l (i : Int))) (by omega) (by simpa using hm)
      refine ev_eq this ?_
      rw [show (i : Int).toNat = i by omega, take_set_succ _ _ _ (by omega), rd_at (by omega), List.append_assoc, List.singleton_append, ← List.drop_eq_getElem_cons (by omega)]
  unfold laws_toInt64S.f
  refine ev_pos (by omega) (ev_pos (by omega) ?_)
  have := go l.length 0 (List.replicate l.length 0) (by omega) (by simp)
  simpa using this

theorem laws_eqInt64S_ev (l : List Int) (hl : l.length < 9223372036854775807) : Ev (fun k => laws_eqInt64S.f k l l) true := by
  have go : ∀ (d i : Nat), i + d = l.length → Ev (fun k => laws_eqInt64S.l0 k l l (i : Int)) true := by
    intro d
    induction d with
    | zero =>
      intro i h
      refine ev_succ ?_
      simp only [laws_eqInt64S.l0]
      exact ev_neg (by omega) (Ev.now _)
    | succ d ih =>
      intro i h
      refine ev_succ ?_
      simp only [laws_eqInt64S.l0, w64 (x := (i : Int) + 1) (by omega) (by omega)]
      exact ev_pos (by omega) (ev_pos (by omega) (ev_pos (by omega) (ev_pos (by first | rfl | trivial) (ih (i + 1) (by omega)))))
  unfold laws_eqInt64S.f
  exact ev_pos rfl (go l.length 0 (by omega))

theorem set_eq (k : Nat) (a b : Int) (c d e : Bool) (n : Int) : spec_l3Param.f k a b c d e n = impl_Style_set.f k a b c d e n := by
  have h2 : ∀ k n q a b c d e, spec_l3Param.j2 k n q a b c d e = impl_Style_set.j2 k n q a b c d e := by
    intro k n q a b c d e
    cases k <;> simp only [spec_l3Param.j2, impl_Style_set.j2, spec_l1In_eq, impl_in_eq]
  have h1 : ∀ k n q a b c d e, spec_l3Param.j1 k n q a b c d e = impl_Style_set.j1 k n q a b c d e := by
    intro k n q a b c d e
    cases k <;> simp only [spec_l3Param.j1, impl_Style_set.j1, h2]
  have h0 : ∀ k n q a b c d e, spec_l3Param.j0 k n q a b c d e = impl_Style_set.j0 k n q a b c d e := by
    intro k n q a b c d e
    cases k <;> simp only [spec_l3Param.j0, impl_Style_set.j0, h1]
  simp only [spec_l3Param.f, impl_Style_set.f, h0]
theorem ev_either {α : Type} {c : Prop} [Decidable c] {a b : Nat → Option α} (ha : ∃ r, Ev a r) (hb : ∃ r, Ev b r) : ∃ r, Ev (fun k => if c then a k else b k) r := by
  by_cases h : c
  · obtain ⟨r, e⟩ := ha; exact ⟨r, ev_pos h e⟩
  · obtain ⟨r, e⟩ := hb; exact ⟨r, ev_neg h e⟩
theorem ev_down {α : Type} {g : Nat → Option α} (h : ∃ r, Ev (fun k => g (k + 1)) r) : ∃ r, Ev g r := by
  obtain ⟨r, e⟩ := h; exact ⟨r, ev_succ e⟩
theorem set_some (a b : Int) (c d e : Bool) (n : Int) : ∃ r, Ev (fun k => impl_Style_set.f k a b c d e n) r := by
  have now : ∀ x : Int × Int × Bool × Bool × Bool, ∃ r, Ev (fun _ : Nat => some x) r := fun x => ⟨x, Ev.now x⟩
  have h2 : ∀ q, ∃ r, Ev (fun k => impl_Style_set.j2 k n q a b c d e) r := by
    intro q
    refine ev_down ?_
    simp only [impl_Style_set.j2, impl_in_eq, Option.bind_some]
    exact ev_either (now _) (ev_either (now _) (ev_either (now _) (ev_either (now _) (ev_either (now _) (now _)))))
  have h1 : ∀ q, ∃ r, Ev (fun k => impl_Style_set.j1 k n q a b c d e) r := by
    intro q
    refine ev_down ?_
    simp only [impl_Style_set.j1]
    exact ev_either (now _) (ev_either (h2 _) (h2 _))
  have h0 : ∀ q, ∃ r, Ev (fun k => impl_Style_set.j0 k n q a b c d e) r := by
    intro q
    refine ev_down ?_
    simp only [impl_Style_set.j0]
    exact ev_either (now _) (ev_either (h1 _) (h1 _))
  unfold impl_Style_set.f
  exact ev_either (now _) (ev_either (h0 _) (h0 _))
theorem styled_some (m : List Int) (hm : m.length ≤ 16) : ∀ (l : List Int) (i : Nat) (a b : Int) (c d e : Bool), m.drop i = l → i + l.length = m.length →
    ∃ r, Ev (fun k => impl_Styled.l0 k l a b c d e) r ∧ Ev (fun k => spec_l3Styled.l0 k m (i : Int) a b c d e) r
  | [], i, a, b, c, d, e, h, hi => by
    refine ⟨(a, b, c, d, e), Ev.now _, ev_succ ?_⟩
    simp only [spec_l3Styled.l0]
    simp only [List.length_nil] at hi
    exact ev_neg (by omega) (Ev.now _)
  | n :: l, i, a, b, c, d, e, h, hi => by
    simp only [List.length_cons] at hi
    have hlt : i < m.length := by omega
    have hn : rd m (i : Int) = n ∧ m.drop (i + 1) = l := by
      rw [List.drop_eq_getElem_cons hlt] at h
      injection h with h1 h2
      exact ⟨by rw [rd_at hlt]; exact h1, h2⟩
    obtain ⟨⟨a1, b1, c1, d1, e1⟩, es⟩ := set_some a b c d e n
    obtain ⟨r, er, em⟩ := styled_some m hm l (i + 1) a1 b1 c1 d1 e1 hn.2 (by omega)
    have wi : ∀ _ : Unit, wrap64 ((i : Int) + 1) = ((i + 1 : Nat) : Int) := fun _ => by rw [w64 (by omega) (by omega)]; omega
    refine ⟨r, Ev.bind es er, ev_succ ?_⟩
    simp only [spec_l3Styled.l0, hn.1, wi (), set_eq]
    exact ev_pos (by omega) (ev_pos (by omega) (Ev.bind es em))
theorem FnExactStyled : laws_FnExactStyled.Aim := by
  intro a b c d e l _ _ _ _ _
  refine Ev.rounds ?_
  simp only [laws_FnExactStyled.f, laws_toStyle.f, Option.bind_some]
  by_cases h1 : (l.length : Int) > 1048576
  · exact ev_pos h1 (Ev.now _)
  refine ev_neg h1 ?_
  have ta := laws_toInt64S_ev l (by omega)
  have eq := laws_eqInt64S_ev l (by omega)
  have es : ∀ a b c d e, laws_eqStyle.f a b c d e a b c d e = some true := fun a b c d e => by simp [laws_eqStyle.f]
  obtain ⟨r, e1, e2⟩ : ∃ r, Ev (fun k => spec_Styled.f k a b c d e l) r ∧ Ev (fun k => impl_Styled.f k a b c d e l) r := by
    simp only [spec_Styled.f, impl_Styled.f, spec_StyleOk_eq, impl_StyleOk_eq, Option.bind_some, spec_l3Styled.f]
    by_cases q : sokv a b = true
    · by_cases q16 : (l.length : Int) > 16
      · exact ⟨_, ev_pos q (ev_pos q16 (Ev.now _)), ev_pos q (ev_pos q16 (Ev.now _))⟩
      · by_cases q0 : (l.length : Int) = 0
        · exact ⟨_, ev_pos q (ev_neg q16 (Ev.bind (ev_pos q0 (Ev.now _)) (Ev.now _))), ev_pos q (ev_neg q16 (ev_pos q0 (Ev.now _)))⟩
        · obtain ⟨r, er, em⟩ := styled_some l (by omega) l 0 a b c d e rfl (by omega)
          exact ⟨r, ev_pos q (ev_neg q16 (Ev.bind (ev_neg q0 em) (Ev.now _))), ev_pos q (ev_neg q16 (ev_neg q0 er))⟩
    · exact ⟨_, ev_neg q (Ev.now _), ev_neg q (Ev.now _)⟩
  refine Ev.bind ta (Ev.bind e1 (Ev.bind ta (Ev.bind e2 ?_)))
  simp only [es, Option.bind_some]
  exact ev_pos (by trivial) (Ev.bind ta (Ev.bind eq (ev_pos rfl (Ev.now _))))

end Go.Proofs.Ytnkoppgbbmeknaa.Pure
