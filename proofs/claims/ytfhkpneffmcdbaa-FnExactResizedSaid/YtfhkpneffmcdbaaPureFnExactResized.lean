/- The law FnExactResized answers true at every grid and size. -/
import Derived.Test.YtfhkpneffmcdbaaQEx28
import Derived.Test.YtfhkpneffmcdbaaAimFnExactResized
namespace Go.Proofs.Ytfhkpneffmcdbaa.Pure
open Go.RowKit Go.Proofs.Ytfhkpneffmcdbaa.QE Go.Proofs.YtfhkpneffmcdbaaW.PrintWords Go.Proofs.YtfhkpneffmcdbaaW.PrintLast
set_option linter.unusedVariables false
set_option linter.unusedSimpArgs false

theorem w64 {x : Int} (h0 : -9223372036854775808 ≤ x) (h1 : x ≤ 9223372036854775807) : wrap64 x = x := by unfold wrap64; omega
theorem wf64 {x : Int} : (Lit.int .i64 x).wf = true ↔ -9223372036854775808 ≤ x ∧ x ≤ 9223372036854775807 := by
  simp [Lit.wf, IntKind.min, IntKind.max, IntKind.signed, IntKind.bits]
theorem wf8 {x : Int} : (Lit.int .u8 x).wf = true ↔ 0 ≤ x ∧ x ≤ 255 := by
  simp [Lit.wf, IntKind.min, IntKind.max, IntKind.signed, IntKind.bits]
theorem ev_succ {α : Type} {g : Nat → Option α} {r : α} (h : Ev (fun k => g (k + 1)) r) : Ev g r := by
  obtain ⟨K, h⟩ := h
  refine ⟨K + 1, fun k hk => ?_⟩
  obtain ⟨m, rfl⟩ : ∃ m, k = m + 1 := ⟨k - 1, by omega⟩
  exact h m (by omega)
theorem ev_fixed {α : Type} {x : Option α} {r : α} (h : x = some r) : Ev (fun _ => x) r := ⟨0, fun _ _ => h⟩
theorem ev_eq {α : Type} {g : Nat → Option α} {r s : α} (h : Ev g r) (e : r = s) : Ev g s := e ▸ h
/-- Never keep an equation 'wrap64 .. = ..' in the context where omega runs: it compares them by unfolding. -/
theorem wN {x : Int} {n : Nat} (e : x = (n : Int)) (h : n < 4611686018427387904) : wrap64 x = (n : Int) := by rw [e]; exact w64 (by omega) (by omega)

theorem ev_pos {α : Type} {c : Prop} [Decidable c] {a b : Nat → Option α} {r : α} (hc : c) (h : Ev a r) : Ev (fun k => if c then a k else b k) r := by
  obtain ⟨K, h⟩ := h
  exact ⟨K, fun k hk => by show (if c then a k else b k) = some r; rw [if_pos hc]; exact h k hk⟩
theorem ev_neg {α : Type} {c : Prop} [Decidable c] {a b : Nat → Option α} {r : α} (hc : ¬ c) (h : Ev b r) : Ev (fun k => if c then a k else b k) r := by
  obtain ⟨K, h⟩ := h
  exact ⟨K, fun k hk => by show (if c then a k else b k) = some r; rw [if_neg hc]; exact h k hk⟩
theorem ev_bind_some {α β : Type} {a : α} {f : Nat → α → Option β} {r : β} (h : Ev (fun k => f k a) r) : Ev (fun k => (some a).bind (f k)) r := h
theorem ev_bind_of {α β : Type} {x : Option α} {a : α} {f : Nat → α → Option β} {r : β} (hx : x = some a) (h : Ev (fun k => f k a) r) : Ev (fun k => x.bind (f k)) r := by
  subst hx; exact h

theorem rd_nat (l : List Int) (i : Nat) : rd l (i : Int) = l.getD i 0 := by simp [rd]
theorem rd_at {l : List Int} {i : Nat} (h : i < l.length) : rd l (i : Int) = l[i] := by rw [rd_nat, List.getD_eq_getElem?_getD, List.getElem?_eq_getElem h]; rfl
theorem take_set_succ {α : Type} (l : List α) (i : Nat) (a : α) (h : i < l.length) : (l.set i a).take (i + 1) = l.take i ++ [a] := by
  rw [List.take_succ_eq_append_getElem (by simpa using h), List.take_set, List.set_eq_of_length_le (by rw [List.length_take]; omega)]
  simp

theorem rdOf_at {α : Type} (d : α) {l : List α} {i : Nat} (h : i < l.length) : rdOf d l (i : Int) = l[i] := by
  unfold rdOf; rw [Int.toNat_natCast, List.getD_eq_getElem?_getD, List.getElem?_eq_getElem h]; rfl
theorem maxLen_eq : maxLen = 9223372036854775807 := rfl

theorem rdc {l : List S40} {i : Nat} (h : i < l.length) : rd_T40 l (i : Int) = l[i] := by
  unfold rd_T40; rw [Int.toNat_natCast, List.getD_eq_getElem?_getD, List.getElem?_eq_getElem h]; rfl
theorem style_ne (a b : S29) : ((!(a.f0 == b.f0) || (!(a.f1 == b.f1) || (!(a.f2 == b.f2) || (!(a.f3 == b.f3) || (!(a.f4 == b.f4)))))) = true) ↔ a ≠ b := by
  obtain ⟨a0, a1, a2, a3, a4⟩ := a
  obtain ⟨b0, b1, b2, b3, b4⟩ := b
  constructor
  · intro h e
    injection e with e0 e1 e2 e3 e4
    subst e0; subst e1; subst e2; subst e3; subst e4
    simp at h
  · intro h
    by_cases q0 : a0 = b0
    · by_cases q1 : a1 = b1
      · by_cases q2 : a2 = b2
        · by_cases q3 : a3 = b3
          · by_cases q4 : a4 = b4
            · subst q0; subst q1; subst q2; subst q3; subst q4; exact absurd rfl h
            · simp [q4]
          · simp [q3]
        · simp [q2]
      · simp [q1]
    · simp [q0]

theorem spec_l1In_eq (a b c : Int) : spec_l1In.f a b c = some (decide (b ≤ a) && decide (a ≤ c)) := by
  unfold spec_l1In.f
  by_cases h : a ≥ b
  · rw [if_pos h]; simp [h]
  · rw [if_neg h]; simp [show ¬ b ≤ a from h]

theorem impl_in_eq (a b c : Int) : impl_in.f a b c = some (decide (b ≤ a) && decide (a ≤ c)) := by
  unfold impl_in.f
  by_cases h : b ≤ a
  · rw [if_pos h]; simp [h]
  · rw [if_neg h]; simp [h]

def sokv (a b : Int) : Bool := (decide (0 ≤ a) && decide (a ≤ 8)) && (decide (0 ≤ b) && decide (b ≤ 8))
theorem impl_StyleOk_eq (a b : Int) (c d e : Bool) : impl_StyleOk.f a b c d e = some (sokv a b) := by
  simp only [impl_StyleOk.f, impl_in_eq, Option.bind_some, sokv]
  by_cases h : (decide (0 ≤ a) && decide (a ≤ 8)) = true
  · simp [h]
  · simp [h]

theorem spec_StyleOk_eq (a b : Int) (c d e : Bool) : spec_StyleOk.f a b c d e = some (sokv a b) := by
  simp only [spec_StyleOk.f, spec_l1In_eq, Option.bind_some, sokv]
  by_cases h : (decide (0 ≤ a) && decide (a ≤ 8)) = true
  · simp [h]
  · simp [h]

def rok (r : Int) : Bool := decide (0 ≤ r) && decide (r ≤ 1114111) && !(decide (55296 ≤ r) && decide (r ≤ 57343))
theorem rok_iff {r : Int} : rok r = true ↔ 0 ≤ r ∧ r ≤ 1114111 ∧ ¬ (55296 ≤ r ∧ r ≤ 57343) := by
  simp [rok]; omega

def wid (r : Int) : Int :=
  if rok r = false ∨ r < 32 ∨ (127 ≤ r ∧ r ≤ 159) ∨ (768 ≤ r ∧ r ≤ 879) then 0
  else if (4352 ≤ r ∧ r ≤ 4447) ∨ (12288 ≤ r ∧ r ≤ 55295) ∨ (127744 ≤ r ∧ r ≤ 131071) then 2 else 1
theorem wid_range (r : Int) : 0 ≤ wid r ∧ wid r ≤ 2 := by
  unfold wid
  repeat' split
  all_goals omega

theorem spec_RuneOk_eq (r : Int) : spec_RuneOk.f r = some (rok r) := by
  simp only [spec_RuneOk.f, spec_l1In_eq, Option.bind_some, rok]
  by_cases h : (decide (0 ≤ r) && decide (r ≤ 1114111)) = true
  · rw [if_pos h, h, Bool.true_and]
  · rw [if_neg h, Bool.eq_false_iff.mpr h, Bool.false_and]

theorem spec_Width_ev (r : Int) : Ev (fun k => spec_Width.f k r) (wid r) := by
  have j1 : Ev (fun k => spec_Width.j0 k r true) 0 := by
    refine ev_succ ?_
    simp only [spec_Width.j0, if_true]
    exact Ev.now _
  have j0 : Ev (fun k => spec_Width.j0 k r false) (if (4352 ≤ r ∧ r ≤ 4447) ∨ (12288 ≤ r ∧ r ≤ 55295) ∨ (127744 ≤ r ∧ r ≤ 131071) then 2 else 1) := by
    refine ev_succ ?_
    simp only [spec_Width.j0, spec_l1In_eq, Option.bind_some, Bool.false_eq_true, if_false]
    refine ev_fixed ?_
    simp only [Bool.and_eq_true, decide_eq_true_eq]
    repeat' split
    all_goals first | rfl | omega
  simp only [spec_Width.f, spec_RuneOk_eq, spec_l1In_eq, Option.bind_some]
  cases hk : rok r with
  | false => simp only [Bool.false_eq_true, if_false]; refine ev_eq j1 ?_; unfold wid; rw [if_pos (.inl hk)]
  | true =>
    simp only [if_true]
    by_cases h1 : r < 32
    · simp only [if_pos h1]; refine ev_eq j1 ?_; unfold wid; rw [if_pos (.inr (.inl h1))]
    · simp only [if_neg h1]
      by_cases h2 : 127 ≤ r ∧ r ≤ 159
      · simp only [h2.1, h2.2, decide_true, Bool.and_self, if_true]; refine ev_eq j1 ?_; unfold wid; rw [if_pos (.inr (.inr (.inl h2)))]
      · have e2 : (decide (127 ≤ r) && decide (r ≤ 159)) = false := by simpa using h2
        simp only [e2, Bool.false_eq_true, if_false]
        by_cases h3 : 768 ≤ r ∧ r ≤ 879
        · simp only [h3.1, h3.2, decide_true, Bool.and_self]; refine ev_eq j1 ?_; unfold wid; rw [if_pos (.inr (.inr (.inr h3)))]
        · have e3 : (decide (768 ≤ r) && decide (r ≤ 879)) = false := by simpa using h3
          simp only [e3]; refine ev_eq j0 ?_; unfold wid
          refine (if_neg ?_).symm
          rintro (h | h | h | h)
          · rw [hk] at h; cases h
          all_goals omega

theorem impl_RuneOk_eq (r : Int) : impl_RuneOk.f r = some (rok r) := by
  simp only [impl_RuneOk.f, impl_in_eq, Option.bind_some, rok]
  by_cases h : (decide (0 ≤ r) && decide (r ≤ 1114111)) = true
  · rw [if_pos h, h, Bool.true_and]
  · rw [if_neg h, Bool.eq_false_iff.mpr h, Bool.false_and]

theorem impl_Width_ev (r : Int) : Ev (fun k => impl_Width.f k r) (wid r) := by
  have j1 : Ev (fun k => impl_Width.j0 k r true) 0 := by
    refine ev_succ ?_
    simp only [impl_Width.j0, if_true]
    exact Ev.now _
  have j0 : Ev (fun k => impl_Width.j0 k r false) (if (4352 ≤ r ∧ r ≤ 4447) ∨ (12288 ≤ r ∧ r ≤ 55295) ∨ (127744 ≤ r ∧ r ≤ 131071) then 2 else 1) := by
    refine ev_succ ?_
    simp only [impl_Width.j0, impl_in_eq, Option.bind_some, Bool.false_eq_true, if_false]
    refine ev_fixed ?_
    simp only [Bool.and_eq_true, decide_eq_true_eq]
    repeat' split
    all_goals first | rfl | omega
  simp only [impl_Width.f, impl_RuneOk_eq, impl_in_eq, Option.bind_some]
  cases hk : rok r with
  | false => simp only [Bool.false_eq_true, if_false]; refine ev_eq j1 ?_; unfold wid; rw [if_pos (.inl hk)]
  | true =>
    simp only [if_true]
    by_cases h1 : r < 32
    · simp only [if_pos h1]; refine ev_eq j1 ?_; unfold wid; rw [if_pos (.inr (.inl h1))]
    · simp only [if_neg h1]
      by_cases h2 : 127 ≤ r ∧ r ≤ 159
      · simp only [h2.1, h2.2, decide_true, Bool.and_self, if_true]; refine ev_eq j1 ?_; unfold wid; rw [if_pos (.inr (.inr (.inl h2)))]
      · have e2 : (decide (127 ≤ r) && decide (r ≤ 159)) = false := by simpa using h2
        simp only [e2, Bool.false_eq_true, if_false]
        by_cases h3 : 768 ≤ r ∧ r ≤ 879
        · simp only [h3.1, h3.2, decide_true, Bool.and_self]; refine ev_eq j1 ?_; unfold wid; rw [if_pos (.inr (.inr (.inr h3)))]
        · have e3 : (decide (768 ≤ r) && decide (r ≤ 879)) = false := by simpa using h3
          simp only [e3]; refine ev_eq j0 ?_; unfold wid
          refine (if_neg ?_).symm
          rintro (h | h | h | h)
          · rw [hk] at h; cases h
          all_goals omega

def cellAt (l : List S40) (i : Nat) : S40 := rd_T40 l (i : Int)
/-- A cell of a row is right, beside its neighbours. -/
def CellOk (l : List S40) (i : Nat) : Prop :=
  sokv (cellAt l i).f1.f0 (cellAt l i).f1.f1 = true ∧
  (((cellAt l i).f2 = 0 ∧ wid (cellAt l i).f0 = 1) ∨
   ((cellAt l i).f2 = 1 ∧ wid (cellAt l i).f0 = 2 ∧ i + 1 < l.length ∧ (cellAt l (i + 1)).f2 = 2 ∧ (cellAt l (i + 1)).f1 = (cellAt l i).f1) ∨
   ((cellAt l i).f2 = 2 ∧ (cellAt l i).f0 = 0 ∧ 0 < i ∧ (cellAt l (i - 1)).f2 = 1))
def RowRight (l : List S40) : Prop := 1 ≤ l.length ∧ l.length ≤ 60 ∧ ∀ i, i < l.length → CellOk l i
theorem spec_RowOk_some (l : List S40) : ∃ b, Ev (fun k => spec_RowOk.f k l) b ∧ (b = true ↔ RowRight l) := by
  have go : l.length ≤ 60 → ∀ (d i : Nat), i + d = l.length → ∃ b, Ev (fun k => spec_RowOk.l0 k l (l.length : Int) (i : Int)) b ∧ (b = true ↔ ∀ j, i ≤ j → j < l.length → CellOk l j) := by
    intro hl d
    induction d with
    | zero =>
      intro i h
      refine ⟨true, ev_succ ?_, by simp; omega⟩
      simp only [spec_RowOk.l0]
      exact ev_neg (by omega) (Ev.now _)
    | succ d ih =>
      intro i h
      obtain ⟨b, e, hb⟩ := ih (i + 1) (by omega)
      have w1 : ∀ _ : Unit, wrap64 ((i : Int) + 1) = ((i + 1 : Nat) : Int) := fun _ => by rw [w64 (by omega) (by omega)]; omega
      have step : CellOk l i → (b = true ↔ ∀ j, i ≤ j → j < l.length → CellOk l j) := by
        intro c
        rw [hb]
        constructor
        · intro q j h1 h2
          by_cases e : j = i
          · rw [e]; exact c
          · exact q j (by omega) h2
        · intro q j h1 h2; exact q j (by omega) h2
      have bad : ¬ CellOk l i → (false = true ↔ ∀ j, i ≤ j → j < l.length → CellOk l j) := by
        intro c
        constructor
        · intro x; cases x
        · intro q; exact absurd (q i (Nat.le_refl _) (by omega)) c
      suffices hh : (CellOk l i ∧ Ev (fun k => spec_RowOk.l0 k l (l.length : Int) (i : Int)) b) ∨ (¬ CellOk l i ∧ Ev (fun k => spec_RowOk.l0 k l (l.length : Int) (i : Int)) false) by
        rcases hh with ⟨c, e⟩ | ⟨c, e⟩
        · exact ⟨b, e, step c⟩
        · exact ⟨false, e, bad c⟩
      have fold : ∀ {r : Bool}, Ev (fun k => spec_RowOk.l0 (k + 1) l (l.length : Int) (i : Int)) r → Ev (fun k => spec_RowOk.l0 k l (l.length : Int) (i : Int)) r := fun h => ev_succ h
      have g0 : rd_T40 l (i : Int) = cellAt l i := rfl
      have g1 : rd_T40 l ((i + 1 : Nat) : Int) = cellAt l (i + 1) := rfl
      by_cases q1 : sokv (cellAt l i).f1.f0 (cellAt l i).f1.f1 = true
      case neg =>
        refine .inr ⟨fun c => q1 c.1, fold ?_⟩
        simp only [spec_RowOk.l0, g0, spec_StyleOk_eq, Option.bind_some]
        exact ev_pos (by omega) (ev_pos (by omega) (ev_pos (by omega) (ev_neg q1 (Ev.now _))))
      by_cases p0 : (cellAt l i).f2 = 0
      · by_cases q2 : wid (cellAt l i).f0 = 1
        · refine .inl ⟨⟨q1, .inl ⟨p0, q2⟩⟩, fold ?_⟩
          simp only [spec_RowOk.l0, g0, spec_StyleOk_eq, Option.bind_some, w1 ()]
          exact ev_pos (by omega) (ev_pos (by omega) (ev_pos (by omega) (ev_pos q1 (ev_pos p0 (Ev.bind (spec_Width_ev _) (ev_pos q2 e))))))
        · refine .inr ⟨fun c => by rcases c.2 with x | x | x <;> omega, fold ?_⟩
          simp only [spec_RowOk.l0, g0, spec_StyleOk_eq, Option.bind_some, w1 ()]
          exact ev_pos (by omega) (ev_pos (by omega) (ev_pos (by omega) (ev_pos q1 (ev_pos p0 (Ev.bind (spec_Width_ev _) (ev_neg q2 (Ev.now _)))))))
      by_cases p1 : (cellAt l i).f2 = 1
      · by_cases q2 : wid (cellAt l i).f0 = 2
        case neg =>
          refine .inr ⟨fun c => by rcases c.2 with x | x | x <;> omega, fold ?_⟩
          simp only [spec_RowOk.l0, g0, spec_StyleOk_eq, Option.bind_some, w1 ()]
          exact ev_pos (by omega) (ev_pos (by omega) (ev_pos (by omega) (ev_pos q1 (ev_neg p0 (ev_pos p1 (Ev.bind (spec_Width_ev _) (ev_neg q2 (Ev.now _))))))))
        by_cases q3 : i + 1 = l.length
        · refine .inr ⟨fun c => by rcases c.2 with x | x | x <;> omega, fold ?_⟩
          simp only [spec_RowOk.l0, g0, spec_StyleOk_eq, Option.bind_some, w1 ()]
          exact ev_pos (by omega) (ev_pos (by omega) (ev_pos (by omega) (ev_pos q1 (ev_neg p0 (ev_pos p1 (Ev.bind (spec_Width_ev _) (ev_pos q2 (ev_pos (by omega) (Ev.now _)))))))))
        by_cases q4 : (cellAt l (i + 1)).f2 = 2
        case neg =>
          refine .inr ⟨fun c => by rcases c.2 with x | x | x <;> omega, fold ?_⟩
          simp only [spec_RowOk.l0, g0, spec_StyleOk_eq, Option.bind_some, w1 (), g1]
          exact ev_pos (by omega) (ev_pos (by omega) (ev_pos (by omega) (ev_pos q1 (ev_neg p0 (ev_pos p1 (Ev.bind (spec_Width_ev _) (ev_pos q2 (ev_neg (by omega) (ev_pos (by omega) (ev_pos (by omega) (ev_neg q4 (Ev.now _))))))))))))
        by_cases q5 : (cellAt l (i + 1)).f1 = (cellAt l i).f1
        · refine .inl ⟨⟨q1, .inr (.inl ⟨p1, q2, by omega, q4, q5⟩)⟩, fold ?_⟩
          simp only [spec_RowOk.l0, g0, spec_StyleOk_eq, Option.bind_some, w1 (), g1]
          exact ev_pos (by omega) (ev_pos (by omega) (ev_pos (by omega) (ev_pos q1 (ev_neg p0 (ev_pos p1 (Ev.bind (spec_Width_ev _) (ev_pos q2 (ev_neg (by omega) (ev_pos (by omega) (ev_pos (by omega) (ev_pos q4 (ev_neg (fun x => (style_ne _ _).mp x q5) e))))))))))))
        · refine .inr ⟨fun c => ?_, fold ?_⟩
          · rcases c.2 with x | x | x
            · omega
            · exact q5 x.2.2.2.2
            · omega
          simp only [spec_RowOk.l0, g0, spec_StyleOk_eq, Option.bind_some, w1 (), g1]
          exact ev_pos (by omega) (ev_pos (by omega) (ev_pos (by omega) (ev_pos q1 (ev_neg p0 (ev_pos p1 (Ev.bind (spec_Width_ev _) (ev_pos q2 (ev_neg (by omega) (ev_pos (by omega) (ev_pos (by omega) (ev_pos q4 (ev_pos ((style_ne _ _).mpr q5) (Ev.now _)))))))))))))
      by_cases p2 : (cellAt l i).f2 = 2
      case neg =>
        refine .inr ⟨fun c => by rcases c.2 with x | x | x <;> omega, fold ?_⟩
        simp only [spec_RowOk.l0, g0, spec_StyleOk_eq, Option.bind_some, w1 ()]
        exact ev_pos (by omega) (ev_pos (by omega) (ev_pos (by omega) (ev_pos q1 (ev_neg p0 (ev_neg p1 (ev_neg p2 (Ev.now _)))))))
      by_cases q2 : (cellAt l i).f0 = 0
      case neg =>
        refine .inr ⟨fun c => by rcases c.2 with x | x | x <;> omega, fold ?_⟩
        simp only [spec_RowOk.l0, g0, spec_StyleOk_eq, Option.bind_some, w1 ()]
        exact ev_pos (by omega) (ev_pos (by omega) (ev_pos (by omega) (ev_pos q1 (ev_neg p0 (ev_neg p1 (ev_pos p2 (ev_neg q2 (Ev.now _))))))))
      by_cases q3 : i = 0
      · refine .inr ⟨fun c => by rcases c.2 with x | x | x <;> omega, fold ?_⟩
        simp only [spec_RowOk.l0, g0, spec_StyleOk_eq, Option.bind_some, w1 ()]
        exact ev_pos (by omega) (ev_pos (by omega) (ev_pos (by omega) (ev_pos q1 (ev_neg p0 (ev_neg p1 (ev_pos p2 (ev_pos q2 (ev_pos (by omega) (Ev.now _)))))))))
      have w2 : ∀ _ : Unit, wrap64 ((i : Int) - 1) = ((i - 1 : Nat) : Int) := fun _ => by rw [w64 (by omega) (by omega)]; omega
      have g2 : rd_T40 l ((i - 1 : Nat) : Int) = cellAt l (i - 1) := rfl
      by_cases q4 : (cellAt l (i - 1)).f2 = 1
      · refine .inl ⟨⟨q1, .inr (.inr ⟨p2, q2, by omega, q4⟩)⟩, fold ?_⟩
        simp only [spec_RowOk.l0, g0, spec_StyleOk_eq, Option.bind_some, w1 (), w2 (), g2]
        exact ev_pos (by omega) (ev_pos (by omega) (ev_pos (by omega) (ev_pos q1 (ev_neg p0 (ev_neg p1 (ev_pos p2 (ev_pos q2 (ev_neg (by omega) (ev_pos (by omega) (ev_pos (by omega) (ev_pos q4 e)))))))))))
      · refine .inr ⟨fun c => by rcases c.2 with x | x | x <;> omega, fold ?_⟩
        simp only [spec_RowOk.l0, g0, spec_StyleOk_eq, Option.bind_some, w1 (), w2 (), g2]
        exact ev_pos (by omega) (ev_pos (by omega) (ev_pos (by omega) (ev_pos q1 (ev_neg p0 (ev_neg p1 (ev_pos p2 (ev_pos q2 (ev_neg (by omega) (ev_pos (by omega) (ev_pos (by omega) (ev_neg q4 (Ev.now _))))))))))))
  have jt : Ev (fun k => spec_RowOk.j0 k l (l.length : Int) true) false := by
    refine ev_succ ?_
    simp only [spec_RowOk.j0]
    exact ev_pos (by trivial) (Ev.now _)
  unfold spec_RowOk.f
  by_cases h1 : (l.length : Int) < 1
  · exact ⟨false, ev_pos h1 jt, ⟨fun x => (by cases x), fun x => by have := x.1; omega⟩⟩
  by_cases h2 : (l.length : Int) > 60
  · refine ⟨false, ev_neg h1 ?_, ⟨fun x => (by cases x), fun x => by have := x.2.1; omega⟩⟩
    rw [decide_eq_true h2]; exact jt
  · obtain ⟨b, e, hb⟩ := go (by omega) l.length 0 (by omega)
    refine ⟨b, ev_neg h1 (ev_succ ?_), ?_⟩
    · simp only [spec_RowOk.j0]
      exact ev_neg (by simp; omega) e
    · rw [hb]
      exact ⟨fun q => ⟨by omega, by omega, fun i hi => q i (by omega) hi⟩, fun q j _ hj => q.2.2 j hj⟩
theorem impl_isCell_ev (x : S40) : Ev (fun k => impl_isCell.f k x.f0 x.f1.f0 x.f1.f1 x.f1.f2 x.f1.f3 x.f1.f4 x.f2)
    (if x.f2 = 0 then decide (wid x.f0 = 1) && sokv x.f1.f0 x.f1.f1 else if x.f2 = 1 then decide (wid x.f0 = 2) && sokv x.f1.f0 x.f1.f1 else if x.f2 = 2 then decide (x.f0 = 0) && sokv x.f1.f0 x.f1.f1 else false) := by
  unfold impl_isCell.f
  simp only [impl_StyleOk_eq, Option.bind_some]
  by_cases p0 : x.f2 = 0
  · rw [if_pos p0]
    refine ev_pos p0 (Ev.bind (impl_Width_ev _) ?_)
    by_cases q : wid x.f0 = 1
    · exact ev_pos q (ev_eq (Ev.now _) (by rw [decide_eq_true q]; simp))
    · exact ev_neg q (ev_eq (Ev.now _) (by rw [decide_eq_false q]; simp))
  rw [if_neg p0]
  refine ev_neg p0 ?_
  by_cases p1 : x.f2 = 1
  · rw [if_pos p1]
    refine ev_pos p1 (Ev.bind (impl_Width_ev _) ?_)
    by_cases q : wid x.f0 = 2
    · exact ev_pos q (ev_eq (Ev.now _) (by rw [decide_eq_true q]; simp))
    · exact ev_neg q (ev_eq (Ev.now _) (by rw [decide_eq_false q]; simp))
  rw [if_neg p1]
  refine ev_neg p1 ?_
  by_cases p2 : x.f2 = 2
  · refine ev_eq (r := decide (x.f0 = 0) && sokv x.f1.f0 x.f1.f1) (ev_pos p2 ?_) (if_pos p2).symm
    by_cases q : x.f0 = 0
    · exact ev_pos q (ev_eq (Ev.now _) (by rw [decide_eq_true q]; simp))
    · exact ev_neg q (ev_eq (Ev.now _) (by rw [decide_eq_false q]; simp))
  · exact ev_eq (ev_neg p2 (Ev.now _)) (if_neg p2).symm
/-- A cell is right in itself. -/
def CellSelf (x : S40) : Prop := sokv x.f1.f0 x.f1.f1 = true ∧ ((x.f2 = 0 ∧ wid x.f0 = 1) ∨ (x.f2 = 1 ∧ wid x.f0 = 2) ∨ (x.f2 = 2 ∧ x.f0 = 0))
theorem impl_isCell_some (x : S40) : ∃ b, Ev (fun k => impl_isCell.f k x.f0 x.f1.f0 x.f1.f1 x.f1.f2 x.f1.f3 x.f1.f4 x.f2) b ∧ (b = true ↔ CellSelf x) := by
  refine ⟨_, impl_isCell_ev x, ?_⟩
  unfold CellSelf
  by_cases p0 : x.f2 = 0
  · rw [if_pos p0]; simp only [Bool.and_eq_true, decide_eq_true_eq]
    exact ⟨fun h => ⟨h.2, .inl ⟨p0, h.1⟩⟩, fun h => ⟨by rcases h.2 with q | q | q <;> omega, h.1⟩⟩
  rw [if_neg p0]
  by_cases p1 : x.f2 = 1
  · rw [if_pos p1]; simp only [Bool.and_eq_true, decide_eq_true_eq]
    exact ⟨fun h => ⟨h.2, .inr (.inl ⟨p1, h.1⟩)⟩, fun h => ⟨by rcases h.2 with q | q | q <;> omega, h.1⟩⟩
  rw [if_neg p1]
  by_cases p2 : x.f2 = 2
  · rw [if_pos p2]; simp only [Bool.and_eq_true, decide_eq_true_eq]
    exact ⟨fun h => ⟨h.2, .inr (.inr ⟨p2, h.1⟩)⟩, fun h => ⟨by rcases h.2 with q | q | q <;> omega, h.1⟩⟩
  rw [if_neg p2]
  exact ⟨fun h => (by cases h), fun h => by rcases h.2 with q | q | q <;> omega⟩
/-- What impl asks of a cell and the one ahead of it. -/
def CellI (l : List S40) (i : Nat) : Prop := CellSelf (cellAt l i) ∧ (0 < i → ((cellAt l (i - 1)).f2 = 1 ↔ (cellAt l i).f2 = 2) ∧ ((cellAt l (i - 1)).f2 = 1 → (cellAt l (i - 1)).f1 = (cellAt l i).f1)) ∧ (i = 0 → (cellAt l i).f2 ≠ 2)
theorem cell_iff (l : List S40) (n : Nat) (hn : l.length = n) (h1 : 1 ≤ n) : ((∀ i, i < n → CellI l i) ∧ (cellAt l (n - 1)).f2 ≠ 1) ↔ ∀ i, i < n → CellOk l i := by
  constructor
  · rintro ⟨h, hl⟩ i hi
    obtain ⟨hs, ha, h0⟩ := h i hi
    refine ⟨hs.1, ?_⟩
    rcases hs.2 with q | q | q
    · exact .inl q
    · refine .inr (.inl ⟨q.1, q.2, ?_⟩)
      have hne : i ≠ n - 1 := fun e => hl (e ▸ q.1)
      obtain ⟨_, hb, _⟩ := h (i + 1) (by omega)
      have := hb (by omega)
      rw [show i + 1 - 1 = i by omega] at this
      exact ⟨by omega, this.1.mp q.1, (this.2 q.1).symm⟩
    · refine .inr (.inr ⟨q.1, q.2, ?_⟩)
      have hp : 0 < i := by
        rcases Nat.eq_zero_or_pos i with e | e
        · exact absurd q.1 (h0 e)
        · exact e
      exact ⟨hp, (ha hp).1.mpr q.1⟩
  · intro h
    have last : (cellAt l (n - 1)).f2 ≠ 1 := by
      intro e
      rcases (h (n - 1) (by omega)).2 with q | q | q <;> omega
    refine ⟨fun i hi => ?_, last⟩
    obtain ⟨hs, hc⟩ := h i hi
    refine ⟨⟨hs, ?_⟩, ?_, ?_⟩
    · rcases hc with q | q | q
      · exact .inl q
      · exact .inr (.inl ⟨q.1, q.2.1⟩)
      · exact .inr (.inr ⟨q.1, q.2.1⟩)
    · intro hp
      obtain ⟨_, hd⟩ := h (i - 1) (by omega)
      rw [show i - 1 + 1 = i by omega] at hd
      refine ⟨⟨fun e => ?_, fun e => ?_⟩, fun e => ?_⟩
      · rcases hd with q | q | q
        · omega
        · exact q.2.2.2.1
        · omega
      · rcases hc with q | q | q
        · omega
        · omega
        · exact q.2.2.2
      · rcases hd with q | q | q
        · omega
        · exact q.2.2.2.2.symm
        · omega
    · intro e0 e
      rcases hc with q | q | q <;> omega
theorem impl_RowOk_some (l : List S40) (hl : l.length ≤ 1048576) : ∃ b, Ev (fun k => impl_RowOk.f k l) b ∧ (b = true ↔ RowRight l) := by
  have ends : ∃ b, Ev (fun k => impl_RowOk.l0 k l l (l.length : Int) (l.length : Int)) b ∧ (b = true ↔ (1 ≤ l.length ∧ l.length ≤ 60 ∧ (cellAt l (l.length - 1)).f2 ≠ 1)) := by
    by_cases h1 : 1 ≤ l.length ∧ l.length ≤ 60
    · have w2 : ∀ _ : Unit, wrap64 ((l.length : Int) - 1) = ((l.length - 1 : Nat) : Int) := fun _ => by rw [w64 (by omega) (by omega)]; omega
      have g2 : rd_T40 l ((l.length - 1 : Nat) : Int) = cellAt l (l.length - 1) := rfl
      refine ⟨(cellAt l (l.length - 1)).f2 != 1, ev_succ ?_, ?_⟩
      · simp only [impl_RowOk.l0, impl_in_eq, Option.bind_some, w2 (), g2]
        exact ev_neg (by omega) (ev_pos (by rw [decide_eq_true (p := (1 : Int) ≤ l.length) (by omega), decide_eq_true (p := (l.length : Int) ≤ 60) (by omega)]; rfl) (ev_pos (by omega) (ev_pos (by omega) (Ev.now _))))
      · rw [bne_iff_ne]; exact ⟨fun x => ⟨h1.1, h1.2, x⟩, fun x => x.2.2⟩
    · refine ⟨false, ev_succ ?_, ⟨fun x => (by cases x), fun x => absurd ⟨x.1, x.2.1⟩ h1⟩⟩
      simp only [impl_RowOk.l0, impl_in_eq, Option.bind_some]
      refine ev_neg (by omega) (ev_neg ?_ (Ev.now _))
      simp only [Bool.and_eq_true, decide_eq_true_eq]; omega
  obtain ⟨b, eb, hb⟩ := ends
  have go : ∀ (d i : Nat), i + d = l.length → ∃ c, Ev (fun k => impl_RowOk.l0 k l l (l.length : Int) (i : Int)) c ∧ (c = true ↔ ((∀ j, i ≤ j → j < l.length → CellI l j) ∧ b = true)) := by
    intro d
    induction d with
    | zero =>
      intro i h
      obtain rfl : i = l.length := by omega
      exact ⟨b, eb, ⟨fun x => ⟨fun j h1 h2 => by omega, x⟩, fun x => x.2⟩⟩
    | succ d ih =>
      intro i h
      obtain ⟨c, e, hc⟩ := ih (i + 1) (by omega)
      have w1 : ∀ _ : Unit, wrap64 ((i : Int) + 1) = ((i + 1 : Nat) : Int) := fun _ => by rw [w64 (by omega) (by omega)]; omega
      have g0 : rd_T40 l (i : Int) = cellAt l i := rfl
      obtain ⟨s, es, hs⟩ := impl_isCell_some (cellAt l i)
      suffices hh : (CellI l i ∧ Ev (fun k => impl_RowOk.l0 k l l (l.length : Int) (i : Int)) c) ∨ (¬ CellI l i ∧ Ev (fun k => impl_RowOk.l0 k l l (l.length : Int) (i : Int)) false) by
        rcases hh with ⟨q, e⟩ | ⟨q, e⟩
        · refine ⟨c, e, ?_⟩
          rw [hc]
          refine ⟨fun x => ⟨fun j h1 h2 => ?_, x.2⟩, fun x => ⟨fun j h1 h2 => x.1 j (by omega) h2, x.2⟩⟩
          by_cases e : j = i
          · rw [e]; exact q
          · exact x.1 j (by omega) h2
        · exact ⟨false, e, ⟨fun x => (by cases x), fun x => absurd (x.1 i (Nat.le_refl _) (by omega)) q⟩⟩
      by_cases hp : i = 0
      · subst hp
        cases s with
        | false =>
          refine .inr ⟨fun x => (by cases hs.mpr x.1), ev_succ ?_⟩
          simp only [impl_RowOk.l0, g0]
          exact ev_pos (by omega) (ev_pos (by omega) (ev_pos (by omega) (ev_neg (by omega) (Ev.bind es (ev_neg (by simp) (Ev.now _))))))
        | true =>
          by_cases q : (cellAt l 0).f2 = 2
          · refine .inr ⟨fun x => x.2.2 rfl q, ev_succ ?_⟩
            simp only [impl_RowOk.l0, g0]
            exact ev_pos (by omega) (ev_pos (by omega) (ev_pos (by omega) (ev_neg (by omega) (Ev.bind es (ev_pos rfl (ev_pos (by rw [beq_iff_eq.mpr q]; rfl) (Ev.now _)))))))
          · refine .inl ⟨⟨hs.mp rfl, fun x => by omega, fun _ => q⟩, ev_succ ?_⟩
            simp only [impl_RowOk.l0, g0, w1 ()]
            exact ev_pos (by omega) (ev_pos (by omega) (ev_pos (by omega) (ev_neg (by omega) (Ev.bind es (ev_pos rfl (ev_neg (by rw [beq_eq_false_iff_ne.mpr q]; simp) e))))))
      · have w2 : ∀ _ : Unit, wrap64 ((i : Int) - 1) = ((i - 1 : Nat) : Int) := fun _ => by rw [w64 (by omega) (by omega)]; omega
        have g2 : rd_T40 l ((i - 1 : Nat) : Int) = cellAt l (i - 1) := rfl
        cases s with
        | false =>
          refine .inr ⟨fun x => (by cases hs.mpr x.1), ev_succ ?_⟩
          simp only [impl_RowOk.l0, g0, w2 (), g2]
          exact ev_pos (by omega) (ev_pos (by omega) (ev_pos (by omega) (ev_pos (by omega) (ev_pos (by omega) (ev_pos (by omega) (Ev.bind es (ev_neg (by simp) (Ev.now _))))))))
        | true =>
          have hpre : ∀ {r : Bool}, Ev (fun k => (if ((((cellAt l (i - 1)).f2) == 1) != (((cellAt l i).f2) == 2)) = true then (some false) else (if ((cellAt l (i - 1)).f2) = 1 then (if (!(((cellAt l (i - 1)).f1.f0) == ((cellAt l i).f1.f0)) || (!(((cellAt l (i - 1)).f1.f1) == ((cellAt l i).f1.f1)) || (!(((cellAt l (i - 1)).f1.f2) == ((cellAt l i).f1.f2)) || (!(((cellAt l (i - 1)).f1.f3) == ((cellAt l i).f1.f3)) || (!(((cellAt l (i - 1)).f1.f4) == ((cellAt l i).f1.f4))))))) = true then (some false) else (impl_RowOk.l0 k l l (l.length : Int) ((i + 1 : Nat) : Int))) else (impl_RowOk.l0 k l l (l.length : Int) ((i + 1 : Nat) : Int))))) r → Ev (fun k => impl_RowOk.l0 k l l (l.length : Int) (i : Int)) r := by
            intro r hr
            refine ev_succ ?_
            simp only [impl_RowOk.l0, g0, w1 (), w2 (), g2]
            exact ev_pos (by omega) (ev_pos (by omega) (ev_pos (by omega) (ev_pos (by omega) (ev_pos (by omega) (ev_pos (by omega) (Ev.bind es (ev_pos rfl hr)))))))
          by_cases q1 : (cellAt l (i - 1)).f2 = 1
          · by_cases q2 : (cellAt l i).f2 = 2
            · by_cases q3 : (cellAt l (i - 1)).f1 = (cellAt l i).f1
              · exact .inl ⟨⟨hs.mp rfl, fun _ => ⟨⟨fun _ => q2, fun _ => q1⟩, fun _ => q3⟩, fun x => absurd x hp⟩, hpre (ev_neg (by rw [beq_iff_eq.mpr q1, beq_iff_eq.mpr q2]; simp) (ev_pos q1 (ev_neg (fun x => (style_ne _ _).mp x q3) e)))⟩
              · exact .inr ⟨fun x => q3 ((x.2.1 (by omega)).2 q1), hpre (ev_neg (by rw [beq_iff_eq.mpr q1, beq_iff_eq.mpr q2]; simp) (ev_pos q1 (ev_pos ((style_ne _ _).mpr q3) (Ev.now _))))⟩
            · exact .inr ⟨fun x => q2 ((x.2.1 (by omega)).1.mp q1), hpre (ev_pos (by rw [beq_iff_eq.mpr q1, beq_eq_false_iff_ne.mpr q2]; rfl) (Ev.now _))⟩
          · by_cases q2 : (cellAt l i).f2 = 2
            · exact .inr ⟨fun x => q1 ((x.2.1 (by omega)).1.mpr q2), hpre (ev_pos (by rw [beq_eq_false_iff_ne.mpr q1, beq_iff_eq.mpr q2]; rfl) (Ev.now _))⟩
            · exact .inl ⟨⟨hs.mp rfl, fun _ => ⟨⟨fun x => absurd x q1, fun x => absurd x q2⟩, fun x => absurd x q1⟩, fun x => absurd x hp⟩, hpre (ev_neg (by rw [beq_eq_false_iff_ne.mpr q1, beq_eq_false_iff_ne.mpr q2]; simp) (ev_neg q1 e))⟩
  unfold impl_RowOk.f
  obtain ⟨c, e, hc⟩ := go l.length 0 (by omega)
  refine ⟨c, e, ?_⟩
  rw [hc, hb]
  constructor
  · rintro ⟨h1, h2, h3, h4⟩
    exact ⟨h2, h3, (cell_iff l _ rfl h2).mp ⟨fun i hi => h1 i (by omega) hi, h4⟩⟩
  · rintro ⟨h2, h3, h5⟩
    obtain ⟨h1, h4⟩ := (cell_iff l _ rfl h2).mpr h5
    exact ⟨fun j _ hj => h1 j hj, h2, h3, h4⟩

/-- A blank cell in a style. -/
def blk (s : S29) : S40 := ⟨32, s, 0⟩

theorem cellAt_lt {l : List S40} {i : Nat} (h : i < l.length) : cellAt l i = l[i] := rdc h
theorem cellAt_set (l : List S40) (j i : Nat) (v : S40) (hj : j < l.length) : cellAt (l.set j v) i = if i = j then v else cellAt l i := by
  unfold cellAt rd_T40
  rw [Int.toNat_natCast, List.getD_eq_getElem?_getD, List.getD_eq_getElem?_getD, List.getElem?_set]
  by_cases h : i = j
  · rw [if_pos h, if_pos h.symm, if_pos (by omega)]; rfl
  · rw [if_neg h, if_neg (fun e => h e.symm)]
theorem cells_ext {a b : List S40} (hl : a.length = b.length) (h : ∀ i, i < a.length → cellAt a i = cellAt b i) : a = b := by
  refine List.ext_getElem hl (fun i h1 h2 => ?_)
  have := h i h1
  rwa [cellAt_lt h1, cellAt_lt h2] at this
/-- A cell, blanked in its style. -/
def bl (x : S40) : S40 := ⟨32, x.f1, 0⟩
/-- Cells from a place to a place, all the same. -/
def fillv (l : List S40) (a b : Nat) (c : S40) : List S40 := l.take a ++ List.replicate (b - a) c ++ l.drop b
theorem fillv_length (l : List S40) (a b : Nat) (c : S40) (h : a ≤ b) (hb : b ≤ l.length) : (fillv l a b c).length = l.length := by
  simp [fillv]; omega
theorem fillv_self (l : List S40) (a : Nat) (c : S40) : fillv l a a c = l := by simp [fillv]
theorem fillv_set (l : List S40) (a b : Nat) (c : S40) (h : a < b) (hb : b ≤ l.length) : fillv (l.set a c) (a + 1) b c = fillv l a b c := by
  unfold fillv
  rw [take_set_succ _ _ _ (by omega), List.drop_set_of_lt (by omega)]
  rw [show b - a = (b - (a + 1)) + 1 by omega, List.replicate_succ]
  simp
theorem cellAt_fillv (l : List S40) (a b : Nat) (c : S40) (h : a ≤ b) (hb : b ≤ l.length) (i : Nat) : cellAt (fillv l a b c) i = if a ≤ i ∧ i < b then c else cellAt l i := by
  unfold cellAt rd_T40 fillv
  rw [Int.toNat_natCast, List.getD_eq_getElem?_getD, List.getD_eq_getElem?_getD]
  by_cases h1 : i < a
  · rw [if_neg (by omega), List.append_assoc, List.getElem?_append_left (by simp; omega), List.getElem?_take, if_pos h1]
  · by_cases h2 : i < b
    · rw [if_pos (by omega), List.append_assoc, List.getElem?_append_right (by simp; omega), List.getElem?_append_left (by simp; omega)]
      rw [List.getElem?_replicate, if_pos (by simp; omega)]; rfl
    · rw [if_neg (by omega), List.getElem?_append_right (by simp; omega), List.getElem?_drop]
      congr 2
      simp; omega
/-- A wide rune parted ahead of a place. -/
def partv (l : List S40) (a : Nat) : List S40 := if 1 ≤ a ∧ a < l.length ∧ (cellAt l a).f2 = 2 then (l.set (a - 1) (bl (cellAt l (a - 1)))).set a (bl (cellAt l a)) else l
theorem partv_length (l : List S40) (a : Nat) : (partv l a).length = l.length := by
  unfold partv
  by_cases h : 1 ≤ a ∧ a < l.length ∧ (cellAt l a).f2 = 2
  · rw [if_pos h]; simp
  · rw [if_neg h]
theorem cellAt_partv (l : List S40) (a i : Nat) : cellAt (partv l a) i = if 1 ≤ a ∧ a < l.length ∧ (cellAt l a).f2 = 2 ∧ (i = a ∨ i + 1 = a) then bl (cellAt l i) else cellAt l i := by
  unfold partv
  by_cases h : 1 ≤ a ∧ a < l.length ∧ (cellAt l a).f2 = 2
  · rw [if_pos h, cellAt_set _ _ _ _ (by rw [List.length_set]; omega), cellAt_set _ _ _ _ (by omega)]
    by_cases h1 : i = a
    · rw [if_pos h1, if_pos ⟨h.1, h.2.1, h.2.2, .inl h1⟩, h1]
    · by_cases h2 : i = a - 1
      · rw [if_neg h1, if_pos h2, if_pos ⟨h.1, h.2.1, h.2.2, .inr (by omega)⟩, h2]
      · rw [if_neg h1, if_neg h2, if_neg (fun q => by omega)]
  · rw [if_neg h, if_neg (fun q => h ⟨q.1, q.2.1, q.2.2.1⟩)]
theorem impl_part_ev (l : List S40) (a : Nat) (hl : l.length < 4611686018427387904) (ha : a ≤ l.length) : Ev (fun k => impl_part.f k l (a : Int)) (partv l a) := by
  have w1 : ∀ _ : Unit, wrap64 ((l.length : Int) - 1) = (l.length : Int) - 1 := fun _ => w64 (by omega) (by omega)
  simp only [impl_part.f, impl_in_eq, Option.bind_some, w1 ()]
  have no : ∀ (q : ¬ (1 ≤ a ∧ a < l.length ∧ (cellAt l a).f2 = 2)), Ev (fun k => impl_part.j0 k l (a : Int) false) (partv l a) := by
    intro q
    refine ev_succ ?_
    simp only [impl_part.j0]
    refine ev_neg (by simp) (ev_eq (Ev.now _) ?_)
    unfold partv; rw [if_neg q]
  by_cases h : 1 ≤ a ∧ a < l.length
  · refine ev_pos (by simp; omega) (ev_pos (by omega) (ev_pos (by omega) ?_))
    show Ev (fun k => impl_part.j0 k l (a : Int) ((cellAt l a).f2 == 2)) (partv l a)
    by_cases q : (cellAt l a).f2 = 2
    · have wa : ∀ _ : Unit, wrap64 ((a : Int) - 1) = ((a - 1 : Nat) : Int) := fun _ => by rw [w64 (by omega) (by omega)]; omega
      refine ev_succ ?_
      simp only [impl_part.j0, wa (), impl_blank.f, Option.bind_some, Int.toNat_natCast]
      refine ev_pos (by simp [q]) (ev_pos (by omega) (ev_pos (by omega) (ev_pos (by omega) (ev_pos (by omega) (ev_eq (Ev.now _) ?_)))))
      unfold partv; rw [if_pos ⟨h.1, h.2, q⟩]; rfl
    · rw [show ((cellAt l a).f2 == 2) = false by simpa using q]
      exact no (fun x => q x.2.2)
  · exact ev_neg (by simp; omega) (no (fun x => h ⟨x.1, x.2.1⟩))
/-- Halves that stand alone become blank. -/
def aloneAt (m : List S40) (i : Nat) : Prop := ((cellAt m i).f2 = 1 ∧ (i + 1 = m.length ∨ (cellAt m (i + 1)).f2 ≠ 2)) ∨ ((cellAt m i).f2 = 2 ∧ (i = 0 ∨ (cellAt m (i - 1)).f2 ≠ 1))
instance (m : List S40) (i : Nat) : Decidable (aloneAt m i) := by unfold aloneAt; exact inferInstance
def mendAt (m : List S40) (i : Nat) : S40 := if aloneAt m i then bl (cellAt m i) else cellAt m i
def mended (m : List S40) : List S40 := (List.range m.length).map (mendAt m)
theorem mended_length (m : List S40) : (mended m).length = m.length := by simp [mended]
theorem cellAt_mended (m : List S40) (i : Nat) (h : i < m.length) : cellAt (mended m) i = mendAt m i := by
  rw [cellAt_lt (by rw [mended_length]; exact h)]
  simp [mended]

theorem spec_l4Mended_ev (m : List S40) (hl : m.length < 1000000) : Ev (fun k => spec_l4Mended.f k m) (mended m) := by
  have go : ∀ (d i : Nat) (out : List S40), i + d = m.length → out.length = m.length → (∀ j, j < m.length → cellAt out j = if j < i then mendAt m j else cellAt m j) → Ev (fun k => spec_l4Mended.l0 k m out (i : Int)) (mended m) := by
    intro d
    induction d with
    | zero =>
      intro i out h hm hc
      refine ev_succ ?_
      simp only [spec_l4Mended.l0]
      refine ev_neg (by omega) (ev_eq (Ev.now _) ?_)
      refine cells_ext (by rw [hm, mended_length]) (fun j hj => ?_)
      rw [hc j (by omega), if_pos (by omega), cellAt_mended _ _ (by omega)]
    | succ d ih =>
      intro i out h hm hc
      have c0 : cellAt out i = cellAt m i := by rw [hc i (by omega), if_neg (by omega)]
      have blankStep : aloneAt m i → Ev (fun k => spec_l4Mended.l0 k m (out.set i (bl (cellAt m i))) ((i + 1 : Nat) : Int)) (mended m) := by
        intro ha
        refine ih (i + 1) _ (by omega) (by rw [List.length_set]; exact hm) (fun j hj => ?_)
        rw [cellAt_set _ _ _ _ (by omega)]
        by_cases e : j = i
        · rw [if_pos e, if_pos (by omega), e]; unfold mendAt; rw [if_pos ha]
        · rw [if_neg e, hc j hj]
          by_cases q : j < i
          · rw [if_pos q, if_pos (by omega)]
          · rw [if_neg q, if_neg (by omega)]
      have keepStep : ¬ aloneAt m i → Ev (fun k => spec_l4Mended.l0 k m out ((i + 1 : Nat) : Int)) (mended m) := by
        intro ha
        refine ih (i + 1) _ (by omega) hm (fun j hj => ?_)
        rw [hc j hj]
        by_cases e : j = i
        · rw [if_neg (by omega), if_pos (by omega), e]; unfold mendAt; rw [if_neg ha]
        · by_cases q : j < i
          · rw [if_pos q, if_pos (by omega)]
          · rw [if_neg q, if_neg (by omega)]
      have wi : ∀ _ : Unit, wrap64 ((i : Int) + 1) = ((i + 1 : Nat) : Int) := fun _ => by rw [w64 (by omega) (by omega)]; omega
      have g0 : rd_T40 out (i : Int) = cellAt m i := c0
      have hlen : (out.length : Int) = (m.length : Int) := by rw [hm]
      refine ev_succ ?_
      simp only [spec_l4Mended.l0, g0, wi (), spec_l4Blank.f, Option.bind_some, Int.toNat_natCast, hlen]
      refine ev_pos (by omega) (ev_pos (by omega) ?_)
      by_cases p1 : (cellAt m i).f2 = 1
      · refine ev_pos p1 ?_
        by_cases e : i + 1 = m.length
        · exact ev_pos (by omega) (blankStep (.inl ⟨p1, .inl e⟩))
        · have g1 : rd_T40 out ((i + 1 : Nat) : Int) = cellAt m (i + 1) := by
            show cellAt out (i + 1) = _
            rw [hc (i + 1) (by omega), if_neg (by omega)]
          simp only [g1]
          refine ev_neg (by omega) (ev_pos (by omega) (ev_pos (by omega) ?_))
          by_cases p2 : (cellAt m (i + 1)).f2 = 2
          · refine ev_pos p2 (ev_neg (by omega) (keepStep ?_))
            rintro (⟨_, q | q⟩ | ⟨q, _⟩)
            · exact e q
            · exact q p2
            · omega
          · exact ev_neg p2 (blankStep (.inl ⟨p1, .inr p2⟩))
      · refine ev_neg p1 ?_
        by_cases p2 : (cellAt m i).f2 = 2
        · refine ev_pos p2 ?_
          by_cases e : i = 0
          · exact ev_pos (by omega) (blankStep (.inr ⟨p2, .inl e⟩))
          · have wm : wrap64 ((i : Int) - 1) = ((i - 1 : Nat) : Int) := by rw [w64 (by omega) (by omega)]; omega
            have g1 : rd_T40 m ((i - 1 : Nat) : Int) = cellAt m (i - 1) := rfl
            simp only [wm, g1]
            refine ev_neg (by omega) (ev_pos (by omega) (ev_pos (by omega) ?_))
            by_cases p3 : (cellAt m (i - 1)).f2 = 1
            · refine ev_pos p3 (keepStep ?_)
              rintro (⟨q, _⟩ | ⟨_, q | q⟩)
              · exact p1 q
              · exact e q
              · exact q p3
            · exact ev_neg p3 (blankStep (.inr ⟨p2, .inr p3⟩))
        · refine ev_neg p2 (keepStep ?_)
          rintro (⟨q, _⟩ | ⟨q, _⟩)
          · exact p1 q
          · exact p2 q
  simp only [spec_l4Mended.f, Option.bind_some, List.nil_append]
  exact ev_pos (by simp; omega) (go m.length 0 m (by omega) rfl (fun j _ => by rw [if_neg (by omega)]))

theorem wid_blank : wid 32 = 1 := by decide
/-- Cells that are right beside each other. -/
def CellsRight (l : List S40) : Prop := ∀ i, i < l.length → CellOk l i
theorem right_cells {l : List S40} (h : RowRight l) : CellsRight l := h.2.2
theorem cellAt_take (l : List S40) (a i : Nat) (h : i < a) : cellAt (l.take a) i = cellAt l i := by
  unfold cellAt rd_T40
  rw [Int.toNat_natCast, List.getD_eq_getElem?_getD, List.getD_eq_getElem?_getD, List.getElem?_take, if_pos h]
theorem cellAt_drop (l : List S40) (a i : Nat) : cellAt (l.drop a) i = cellAt l (a + i) := by
  unfold cellAt rd_T40
  rw [Int.toNat_natCast, Int.toNat_natCast, List.getD_eq_getElem?_getD, List.getD_eq_getElem?_getD, List.getElem?_drop]
theorem cellAt_app (a b : List S40) (i : Nat) : cellAt (a ++ b) i = if i < a.length then cellAt a i else cellAt b (i - a.length) := by
  unfold cellAt rd_T40
  rw [Int.toNat_natCast, Int.toNat_natCast, List.getD_eq_getElem?_getD, List.getD_eq_getElem?_getD, List.getD_eq_getElem?_getD, List.getElem?_append]
  by_cases h : i < a.length
  · rw [if_pos h, if_pos h]
  · rw [if_neg h, if_neg h]
theorem cellAt_rep (n : Nat) (x : S40) (i : Nat) (h : i < n) : cellAt (List.replicate n x) i = x := by
  rw [cellAt_lt (by rw [List.length_replicate]; exact h), List.getElem_replicate]
theorem part_take {l : List S40} (hr : CellsRight l) (a : Nat) (ha : a ≤ l.length) : (partv l a).take a = mended (l.take a) := by
  have hl : (l.take a).length = a := by rw [List.length_take]; omega
  refine cells_ext (by rw [mended_length, List.length_take, partv_length, hl]; omega) (fun i hi => ?_)
  have hia : i < a := by rw [List.length_take] at hi; omega
  rw [cellAt_take _ _ _ hia, cellAt_mended _ _ (by omega), cellAt_partv]
  have c := (hr i (by omega)).2
  have e0 := cellAt_take l a i hia
  unfold mendAt
  by_cases q : 1 ≤ a ∧ a < l.length ∧ (cellAt l a).f2 = 2 ∧ (i = a ∨ i + 1 = a)
  · rw [if_pos q, e0]
    have ca := (hr a q.2.1).2
    have e1 : i + 1 = a := by omega
    have f1 : (cellAt l i).f2 = 1 := by
      rcases ca with z | z | z
      · omega
      · omega
      · rw [show i = a - 1 by omega]; exact z.2.2.2
    rw [if_pos]
    unfold aloneAt
    rw [e0, hl]
    exact .inl ⟨f1, .inl e1⟩
  · rw [if_neg q, e0, if_neg]
    unfold aloneAt
    rw [e0, hl]
    rintro (⟨z, w⟩ | ⟨z, w⟩)
    · rcases c with y | y | y
      · omega
      · by_cases e1 : i + 1 = a
        · exact q ⟨by omega, by omega, by rw [← e1]; exact y.2.2.2.1, .inr e1⟩
        · rcases w with w | w
          · omega
          · rw [cellAt_take _ _ _ (by omega)] at w; exact w y.2.2.2.1
      · omega
    · rcases c with y | y | y
      · omega
      · omega
      · rcases w with w | w
        · omega
        · rw [cellAt_take _ _ _ (by omega)] at w; exact w y.2.2.2
theorem part_drop {l : List S40} (hr : CellsRight l) (a : Nat) (ha : a ≤ l.length) : (partv l a).drop a = mended (l.drop a) := by
  have hl : (l.drop a).length = l.length - a := List.length_drop
  refine cells_ext (by rw [mended_length, List.length_drop, partv_length, hl]) (fun j hj => ?_)
  have hja : j < l.length - a := by rw [List.length_drop, partv_length] at hj; exact hj
  rw [cellAt_drop, cellAt_mended _ _ (by omega), cellAt_partv]
  have c := (hr (a + j) (by omega)).2
  have e0 := cellAt_drop l a j
  unfold mendAt
  by_cases q : 1 ≤ a ∧ a < l.length ∧ (cellAt l a).f2 = 2 ∧ (a + j = a ∨ a + j + 1 = a)
  · rw [if_pos q, e0]
    have e1 : j = 0 := by omega
    rw [if_pos]
    unfold aloneAt
    rw [e0, e1]
    exact .inr ⟨q.2.2.1, .inl rfl⟩
  · rw [if_neg q, e0, if_neg]
    unfold aloneAt
    rw [e0, hl]
    rintro (⟨z, w⟩ | ⟨z, w⟩)
    · rcases c with y | y | y
      · omega
      · rcases w with w | w
        · omega
        · rw [cellAt_drop, show a + (j + 1) = a + j + 1 by omega] at w; exact w y.2.2.2.1
      · omega
    · rcases c with y | y | y
      · omega
      · omega
      · by_cases e1 : j = 0
        · subst e1
          exact q ⟨y.2.2.1, by omega, z, .inl rfl⟩
        · rcases w with w | w
          · exact e1 w
          · rw [cellAt_drop, show a + (j - 1) = a + j - 1 by omega] at w; exact w y.2.2.2
/-- A cell that is right by itself. -/
def CellSolo (x : S40) : Prop := sokv x.f1.f0 x.f1.f1 = true ∧ ((x.f2 = 0 ∧ wid x.f0 = 1) ∨ (x.f2 = 1 ∧ wid x.f0 = 2) ∨ (x.f2 = 2 ∧ x.f0 = 0))
theorem solo_of {l : List S40} {i : Nat} (h : CellOk l i) : CellSolo (cellAt l i) := by
  refine ⟨h.1, ?_⟩
  rcases h.2 with z | z | z
  · exact .inl z
  · exact .inr (.inl ⟨z.1, z.2.1⟩)
  · exact .inr (.inr ⟨z.1, z.2.1⟩)
/-- Halves side by side have one style. -/
def Paired (m : List S40) : Prop := ∀ i, i + 1 < m.length → (cellAt m i).f2 = 1 → (cellAt m (i + 1)).f2 = 2 → (cellAt m (i + 1)).f1 = (cellAt m i).f1
theorem paired_of {l : List S40} (h : CellsRight l) : Paired l := by
  intro i hi h1 h2
  rcases (h i (by omega)).2 with z | z | z
  · omega
  · exact z.2.2.2.2
  · omega
theorem mended_cells {m : List S40} (h : ∀ i, i < m.length → CellSolo (cellAt m i)) (hp : Paired m) : CellsRight (mended m) := by
  intro i hi
  rw [mended_length] at hi
  have hs := h i hi
  unfold CellOk
  rw [mended_length, cellAt_mended _ _ hi]
  by_cases q : aloneAt m i
  · have e : mendAt m i = bl (cellAt m i) := by unfold mendAt; rw [if_pos q]
    rw [e]
    exact ⟨hs.1, .inl ⟨rfl, wid_blank⟩⟩
  · have e : mendAt m i = cellAt m i := by unfold mendAt; rw [if_neg q]
    rw [e]
    refine ⟨hs.1, ?_⟩
    have q' : ¬ (((cellAt m i).f2 = 1 ∧ (i + 1 = m.length ∨ (cellAt m (i + 1)).f2 ≠ 2)) ∨ ((cellAt m i).f2 = 2 ∧ (i = 0 ∨ (cellAt m (i - 1)).f2 ≠ 1))) := q
    rcases hs.2 with z | z | z
    · exact .inl z
    · have hn : ¬ (i + 1 = m.length) ∧ (cellAt m (i + 1)).f2 = 2 := ⟨fun c => q' (.inl ⟨z.1, .inl c⟩), Decidable.byContradiction fun c => q' (.inl ⟨z.1, .inr c⟩)⟩
      have na : ¬ aloneAt m (i + 1) := by
        intro a
        rcases a with a | a
        · omega
        · rcases a.2 with b | b
          · omega
          · exact b (by rw [show i + 1 - 1 = i by omega]; exact z.1)
      have e2 : mendAt m (i + 1) = cellAt m (i + 1) := by unfold mendAt; rw [if_neg na]
      rw [cellAt_mended _ _ (by omega), e2]
      exact .inr (.inl ⟨z.1, z.2, by omega, hn.2, hp i (by omega) z.1 hn.2⟩)
    · have h0 : ¬ (i = 0) := fun c => q' (.inr ⟨z.1, .inl c⟩)
      have hp1 : (cellAt m (i - 1)).f2 = 1 := Decidable.byContradiction fun c => q' (.inr ⟨z.1, .inr c⟩)
      have na : ¬ aloneAt m (i - 1) := by
        intro a
        rcases a with a | a
        · rcases a.2 with b | b
          · omega
          · exact b (by rw [show i - 1 + 1 = i by omega]; exact z.1)
        · omega
      have e2 : mendAt m (i - 1) = cellAt m (i - 1) := by unfold mendAt; rw [if_neg na]
      exact .inr (.inr ⟨z.1, z.2, by omega, by rw [cellAt_mended _ _ (by omega), e2]; exact hp1⟩)
theorem mended_take {l : List S40} (h : CellsRight l) (a : Nat) : CellsRight (mended (l.take a)) := by
  refine mended_cells (fun i hi => ?_) (fun i hi h1 h2 => ?_)
  · rw [List.length_take] at hi
    rw [cellAt_take _ _ _ (by omega)]; exact solo_of (h i (by omega))
  · rw [List.length_take] at hi
    rw [cellAt_take _ _ _ (by omega)] at h1 h2 ⊢
    rw [cellAt_take _ _ _ (by omega)]
    exact paired_of h i (by omega) h1 h2
theorem mended_drop {l : List S40} (h : CellsRight l) (a : Nat) : CellsRight (mended (l.drop a)) := by
  refine mended_cells (fun i hi => ?_) (fun i hi h1 h2 => ?_)
  · rw [List.length_drop] at hi
    rw [cellAt_drop]; exact solo_of (h (a + i) (by omega))
  · rw [List.length_drop] at hi
    rw [cellAt_drop] at h1 h2 ⊢
    rw [cellAt_drop]
    exact paired_of h (a + i) (by omega) h1 h2
theorem cells_append {a b : List S40} (ha : CellsRight a) (hb : CellsRight b) : CellsRight (a ++ b) := by
  intro i hi
  unfold CellOk
  rw [cellAt_app, cellAt_app, cellAt_app, List.length_append]
  rw [List.length_append] at hi
  by_cases q : i < a.length
  · rw [if_pos q]
    have c := ha i q
    refine ⟨c.1, ?_⟩
    rcases c.2 with z | z | z
    · exact .inl z
    · rw [if_pos z.2.2.1]
      exact .inr (.inl ⟨z.1, z.2.1, by omega, z.2.2.2⟩)
    · rw [if_pos (show i - 1 < a.length by omega)]
      exact .inr (.inr z)
  · rw [if_neg q]
    have c := hb (i - a.length) (by omega)
    refine ⟨c.1, ?_⟩
    rcases c.2 with z | z | z
    · exact .inl z
    · rw [if_neg (show ¬ (i + 1 < a.length) by omega), show i + 1 - a.length = i - a.length + 1 by omega]
      exact .inr (.inl ⟨z.1, z.2.1, by omega, z.2.2.2⟩)
    · rw [if_neg (show ¬ (i - 1 < a.length) by omega), show i - 1 - a.length = i - a.length - 1 by omega]
      exact .inr (.inr ⟨z.1, z.2.1, by omega, z.2.2.2⟩)
theorem cells_rep (n : Nat) (s : S29) (hs : sokv s.f0 s.f1 = true) : CellsRight (List.replicate n (blk s)) := by
  intro i hi
  rw [List.length_replicate] at hi
  unfold CellOk
  rw [cellAt_rep _ _ _ hi]
  exact ⟨hs, .inl ⟨rfl, wid_blank⟩⟩
theorem cells_right {l : List S40} (h : CellsRight l) (h1 : 1 ≤ l.length) (h2 : l.length ≤ 60) : RowRight l := ⟨h1, h2, h⟩
theorem take_partv (l : List S40) (a b : Nat) (h : a < b) : (partv l b).take a = l.take a := by
  refine cells_ext (by rw [List.length_take, List.length_take, partv_length]) (fun i hi => ?_)
  have hia : i < a := by rw [List.length_take] at hi; omega
  rw [cellAt_take _ _ _ hia, cellAt_take _ _ _ hia, cellAt_partv, if_neg (by omega)]
theorem drop_partv (l : List S40) (a b : Nat) (h : a < b) : (partv (partv l a) b).drop b = (partv l b).drop b := by
  refine cells_ext (by rw [List.length_drop, List.length_drop, partv_length, partv_length, partv_length]) (fun i hi => ?_)
  have e : ∀ j, b ≤ j → cellAt (partv l a) j = cellAt l j := fun j hj => by rw [cellAt_partv, if_neg (by omega)]
  rw [cellAt_drop, cellAt_drop, cellAt_partv (partv l a) b (b + i), cellAt_partv l b (b + i), partv_length, e b (by omega), e (b + i) (by omega)]
/-- Cells taken out of a right row: to part it at both ends and to cut is to cut and to mend. -/
theorem pull_eq {l : List S40} (hr : CellsRight l) (a b : Nat) (h : a < b) (hb : b ≤ l.length) :
    (partv (partv l a) b).take a ++ (partv (partv l a) b).drop b = mended (l.take a) ++ mended (l.drop b) := by
  rw [take_partv _ _ _ h, drop_partv _ _ _ h, part_take hr a (by omega), part_drop hr b hb]
def midv (l : List S40) (a n : Nat) (s : S29) : List S40 := mended (l.take a) ++ List.replicate n (blk s) ++ mended (l.drop a)
theorem midv_length (l : List S40) (a n : Nat) (s : S29) (ha : a ≤ l.length) : (midv l a n s).length = l.length + n := by
  unfold midv; rw [List.length_append, List.length_append, mended_length, mended_length, List.length_replicate, List.length_take, List.length_drop]; omega
theorem midv_right {l : List S40} (hr : CellsRight l) (a n : Nat) (s : S29) (hs : sokv s.f0 s.f1 = true) : CellsRight (midv l a n s) :=
  cells_append (cells_append (mended_take hr a) (cells_rep n s hs)) (mended_drop hr a)
theorem mid_eq {l : List S40} (hr : CellsRight l) (a n : Nat) (s : S29) (ha : a ≤ l.length) : (partv l a).take a ++ List.replicate n (blk s) ++ (partv l a).drop a = midv l a n s := by
  unfold midv; rw [part_take hr a ha, part_drop hr a ha]
/-- Cells put into a right row, what falls off cut away. -/
theorem push_eq {l : List S40} (hr : CellsRight l) (a n : Nat) (s : S29) (hs : sokv s.f0 s.f1 = true) (ha : a ≤ l.length) :
    (partv (midv l a n s) l.length).take l.length = mended ((midv l a n s).take l.length) :=
  part_take (midv_right hr a n s hs) l.length (by rw [midv_length _ _ _ _ ha]; omega)
theorem part_self (l : List S40) (a : Nat) (h : a < l.length → (cellAt l a).f2 ≠ 2) : partv l a = l := by
  unfold partv
  rw [if_neg (fun q => h q.2.1 q.2.2)]
/-- Where no wide rune is parted, cut cells are as they were. -/
theorem take_self {l : List S40} (hr : CellsRight l) (a : Nat) (ha : a ≤ l.length) (h : a < l.length → (cellAt l a).f2 ≠ 2) : mended (l.take a) = l.take a := by
  rw [← part_take hr a ha, part_self l a h]
theorem drop_self {l : List S40} (hr : CellsRight l) (a : Nat) (ha : a ≤ l.length) (h : a < l.length → (cellAt l a).f2 ≠ 2) : mended (l.drop a) = l.drop a := by
  rw [← part_drop hr a ha, part_self l a h]

theorem laws_eqCell_self (x : S40) : laws_eqCell.f x.f0 x.f1.f0 x.f1.f1 x.f1.f2 x.f1.f3 x.f1.f4 x.f2 x.f0 x.f1.f0 x.f1.f1 x.f1.f2 x.f1.f3 x.f1.f4 x.f2 = some true := by
  simp [laws_eqCell.f, laws_eqStyle.f]
theorem laws_eqCellS_ev (l : List S40) (hl : l.length < 9223372036854775807) : Ev (fun k => laws_eqCellS.f k l l) true := by
  have go : ∀ (d i : Nat), i + d = l.length → Ev (fun k => laws_eqCellS.l0 k l l (i : Int)) true := by
    intro d
    induction d with
    | zero =>
      intro i h
      refine ev_succ ?_
      simp only [laws_eqCellS.l0]
      exact ev_neg (by omega) (Ev.now _)
    | succ d ih =>
      intro i h
      refine ev_succ ?_
      simp only [laws_eqCellS.l0, w64 (x := (i : Int) + 1) (by omega) (by omega), laws_eqCell_self, Option.bind_some]
      exact ev_pos (by omega) (ev_pos (by omega) (ev_pos (by omega) (ev_pos (by first | rfl | trivial) (ih (i + 1) (by omega)))))
  unfold laws_eqCellS.f
  exact ev_pos rfl (go l.length 0 (by omega))

theorem rdlc {l : List S60} {i : Nat} (h : i < l.length) : rd_T60 l (i : Int) = l[i] := by
  unfold rd_T60; rw [Int.toNat_natCast, List.getD_eq_getElem?_getD, List.getElem?_eq_getElem h]; rfl
def tocell (x : S60) : S40 := ⟨x.f0, ⟨x.f1.f0, x.f1.f1, x.f1.f2, x.f1.f3, x.f1.f4⟩, x.f2⟩
theorem laws_toCellS_ev (l : List S60) (hl : l.length ≤ 1048576) : Ev (fun k => laws_toCellS.f k l) (l.map tocell) := by
  have go : ∀ (d i : Nat) (m : List S40), i + d = l.length → m.length = l.length → Ev (fun k => laws_toCellS.l0 k l m (i : Int)) (m.take i ++ (l.drop i).map tocell) := by
    intro d
    induction d with
    | zero =>
      intro i m h hm
      refine ev_succ ?_
      simp only [laws_toCellS.l0]
      refine ev_neg (by omega) ?_
      rw [List.take_of_length_le (by omega), List.drop_of_length_le (by omega), List.map_nil, List.append_nil]
      exact Ev.now _
    | succ d ih =>
      intro i m h hm
      refine ev_succ ?_
      simp only [laws_toCellS.l0, laws_toCell.f, laws_toStyle.f, Option.bind_some, w64 (x := (i : Int) + 1) (by omega) (by omega)]
      refine ev_pos (by omega) (ev_pos (by omega) (ev_pos (by omega) ?_))
      have := ih (i + 1) (m.set (i : Int).toNat (tocell (rd_T60 l (i : Int)))) (by omega) (by simpa using hm)
      refine ev_eq this ?_
      rw [show (i : Int).toNat = i by omega, take_set_succ _ _ _ (by omega), rdlc (by omega), List.append_assoc, List.singleton_append, ← List.map_cons, ← List.drop_eq_getElem_cons (by omega)]
  unfold laws_toCellS.f
  refine ev_pos (by omega) (ev_pos (by omega) ?_)
  have := go l.length 0 (List.replicate l.length z40) (by omega) (by simp)
  simpa using this
theorem laws_szCellS_some (l : List S60) (hl : l.length ≤ maxLen) : ∃ r, laws_szCellS.f l 1048576 = some r ∧ (r < 0 ∨ l.length ≤ 1048576) := by
  rw [maxLen_eq] at hl
  unfold laws_szCellS.f
  rw [w64 (x := 1048576 - (l.length : Int)) (by omega) (by omega)]
  by_cases h1 : 1048576 - (l.length : Int) < 0
  · rw [if_pos h1]; exact ⟨_, rfl, .inl (by omega)⟩
  · rw [if_neg h1]; exact ⟨_, rfl, .inr (by omega)⟩

theorem rdLi (l : List (List S40)) (i : Nat) (h : i < l.length) : rd_L4 l (i : Int) = l[i] := by
  unfold rd_L4; rw [Int.toNat_natCast, List.getD_eq_getElem?_getD, List.getElem?_eq_getElem h]; rfl
theorem laws_eqCellSS_ev (l : List (List S40)) (hl : l.length < 9223372036854775807) (hw : ∀ x ∈ l, x.length < 9223372036854775807) : Ev (fun k => laws_eqCellSS.f k l l) true := by
  have go : ∀ (d i : Nat), i + d = l.length → Ev (fun k => laws_eqCellSS.l0 k l l (i : Int)) true := by
    intro d
    induction d with
    | zero =>
      intro i h
      refine ev_succ ?_
      simp only [laws_eqCellSS.l0]
      exact ev_neg (by omega) (Ev.now _)
    | succ d ih =>
      intro i h
      refine ev_succ ?_
      simp only [laws_eqCellSS.l0, rdLi l i (by omega), w64 (x := (i : Int) + 1) (by omega) (by omega)]
      exact ev_pos (by omega) (ev_pos (by omega) (ev_pos (by omega) (Ev.bind (laws_eqCellS_ev _ (hw _ (List.getElem_mem _))) (ev_pos (by trivial) (ih (i + 1) (by omega))))))
  unfold laws_eqCellSS.f
  exact ev_pos rfl (go l.length 0 (by omega))
theorem laws_eqGrid_ev (c : Int) (l : List (List S40)) (hl : l.length < 9223372036854775807) (hw : ∀ x ∈ l, x.length < 9223372036854775807) : Ev (fun k => laws_eqGrid.f k c l c l) true := by
  unfold laws_eqGrid.f
  exact ev_pos rfl (Ev.bind (laws_eqCellSS_ev l hl hw) (ev_pos (by trivial) (Ev.now _)))

theorem rdLl (l : List (List S60)) (i : Nat) (h : i < l.length) : rd_L7 l (i : Int) = l[i] := by
  unfold rd_L7; rw [Int.toNat_natCast, List.getD_eq_getElem?_getD, List.getElem?_eq_getElem h]; rfl
theorem laws_szCellS_left (l : List S60) (a : Int) (h0 : 0 ≤ a) (ha : a ≤ 1048576) (hl : l.length ≤ maxLen) : ∃ r, laws_szCellS.f l a = some r ∧ (r < 0 ∨ (0 ≤ r ∧ r ≤ a ∧ (l.length : Int) ≤ a)) := by
  rw [maxLen_eq] at hl
  unfold laws_szCellS.f
  rw [w64 (x := a - (l.length : Int)) (by omega) (by omega)]
  by_cases h1 : a - (l.length : Int) < 0
  · rw [if_pos h1]; exact ⟨_, rfl, .inl (by omega)⟩
  · rw [if_neg h1]; exact ⟨_, rfl, .inr (by omega)⟩
theorem laws_szCellSS_ev (l : List (List S60)) (a : Int) (h0 : 0 ≤ a) (ha : a ≤ 1048576) (hl : l.length ≤ maxLen) (hw : ∀ x ∈ l, x.length ≤ maxLen) :
    ∃ r, Ev (fun k => laws_szCellSS.f k l a) r ∧ (r < 0 ∨ (0 ≤ r ∧ r ≤ a ∧ (l.length : Int) ≤ a ∧ ∀ x ∈ l, (x.length : Int) ≤ a)) := by
  rw [maxLen_eq] at hl
  have go : ∀ (d i : Nat) (x : Int), i + d = l.length → 0 ≤ x → x ≤ a → ∃ r, Ev (fun k => laws_szCellSS.l0 k l x (i : Int)) r ∧ (r < 0 ∨ (0 ≤ r ∧ r ≤ x ∧ ∀ j (h : j < l.length), i ≤ j → (l[j].length : Int) ≤ a)) := by
    intro d
    induction d with
    | zero =>
      intro i x h hx0 hx1
      refine ⟨x, ev_succ ?_, .inr ⟨hx0, Int.le_refl _, fun j hj hi => absurd hj (by omega)⟩⟩
      simp only [laws_szCellSS.l0]
      exact ev_neg (by omega) (Ev.now _)
    | succ d ih =>
      intro i x h hx0 hx1
      obtain ⟨r1, e1, hr1⟩ := laws_szCellS_left l[i] x hx0 (by omega) (hw _ (List.getElem_mem _))
      have w2 : ∀ _ : Unit, wrap64 ((i : Int) + 1) = ((i + 1 : Nat) : Int) := fun _ => by rw [w64 (by omega) (by omega)]; omega
      by_cases c : r1 < 0
      · refine ⟨-1, ev_succ ?_, .inl (by omega)⟩
        simp only [laws_szCellSS.l0, rdLl l i (by omega), e1, Option.bind_some]
        exact ev_pos (by omega) (ev_pos (by omega) (ev_pos c (Ev.now _)))
      · obtain ⟨r, e, hr⟩ := ih (i + 1) r1 (by omega) (by omega) (by omega)
        refine ⟨r, ev_succ ?_, ?_⟩
        · simp only [laws_szCellSS.l0, rdLl l i (by omega), e1, Option.bind_some, w2 ()]
          exact ev_pos (by omega) (ev_pos (by omega) (ev_neg c e))
        · rcases hr with hr | ⟨q0, q1, q2⟩
          · exact .inl hr
          · refine .inr ⟨q0, by omega, fun j hj hi => ?_⟩
            by_cases e : j = i
            · subst e; omega
            · exact q2 j hj (by omega)
  unfold laws_szCellSS.f
  rw [w64 (by omega) (by omega)]
  by_cases c : a - (l.length : Int) < 0
  · exact ⟨-1, ev_pos c (Ev.now _), .inl (by omega)⟩
  · obtain ⟨r, e, hr⟩ := go l.length 0 (a - (l.length : Int)) (by omega) (by omega) (by omega)
    refine ⟨r, ev_neg c e, ?_⟩
    rcases hr with hr | ⟨q0, q1, q2⟩
    · exact .inl hr
    · refine .inr ⟨q0, by omega, by omega, fun x hx => ?_⟩
      obtain ⟨j, hj, rfl⟩ := List.mem_iff_getElem.mp hx
      exact q2 j hj (by omega)
theorem laws_szGrid_ev (c : Int) (l : List (List S60)) (a : Int) (h0 : 0 ≤ a) (ha : a ≤ 1048576) (hl : l.length ≤ maxLen) (hw : ∀ x ∈ l, x.length ≤ maxLen) :
    ∃ r, Ev (fun k => laws_szGrid.f k c l a) r ∧ (r < 0 ∨ (0 ≤ r ∧ r ≤ a ∧ (l.length : Int) ≤ a ∧ ∀ x ∈ l, (x.length : Int) ≤ a)) := by
  obtain ⟨r, e, hr⟩ := laws_szCellSS_ev l a h0 ha hl hw
  unfold laws_szGrid.f
  by_cases q : r < 0
  · exact ⟨-1, Ev.bind e (ev_pos q (Ev.now _)), .inl (by omega)⟩
  · exact ⟨r, Ev.bind e (ev_neg q (Ev.now _)), hr⟩
def torow (l : List S60) : List S40 := l.map tocell
theorem torow_length (l : List S60) : (torow l).length = l.length := List.length_map _
theorem laws_toCellSS_ev (l : List (List S60)) (hl : l.length ≤ 1048576) (hw : ∀ x ∈ l, x.length ≤ 1048576) : Ev (fun k => laws_toCellSS.f k l) (l.map torow) := by
  have go : ∀ (d i : Nat) (m : List (List S40)), i + d = l.length → m.length = l.length → Ev (fun k => laws_toCellSS.l0 k l m (i : Int)) (m.take i ++ (l.drop i).map torow) := by
    intro d
    induction d with
    | zero =>
      intro i m h hm
      refine ev_succ ?_
      simp only [laws_toCellSS.l0]
      refine ev_neg (by omega) ?_
      rw [List.take_of_length_le (by omega), List.drop_of_length_le (by omega), List.map_nil, List.append_nil]
      exact Ev.now _
    | succ d ih =>
      intro i m h hm
      refine ev_succ ?_
      simp only [laws_toCellSS.l0, rdLl l i (by omega), w64 (x := (i : Int) + 1) (by omega) (by omega)]
      refine ev_pos (by omega) (ev_pos (by omega) (Ev.bind (laws_toCellS_ev _ (hw _ (List.getElem_mem _))) (ev_pos (by omega) ?_)))
      have := ih (i + 1) (m.set (i : Int).toNat (torow l[i])) (by omega) (by simpa using hm)
      refine ev_eq this ?_
      rw [show (i : Int).toNat = i by omega, take_set_succ _ _ _ (by omega), List.append_assoc, List.singleton_append, ← List.map_cons, ← List.drop_eq_getElem_cons (by omega)]
  unfold laws_toCellSS.f
  refine ev_pos (by omega) (ev_pos (by omega) ?_)
  have := go l.length 0 (List.replicate l.length []) (by omega) (by simp)
  simpa using this
theorem laws_toGrid_ev (c : Int) (l : List (List S60)) (hl : l.length ≤ 1048576) (hw : ∀ x ∈ l, x.length ≤ 1048576) : Ev (fun k => laws_toGrid.f k c l) (c, l.map torow) := by
  unfold laws_toGrid.f
  exact Ev.bind (laws_toCellSS_ev l hl hw) (Ev.now _)

def GridRight (c : Int) (l : List (List S40)) : Prop := 1 ≤ c ∧ c ≤ 60 ∧ 1 ≤ l.length ∧ l.length ≤ 30 ∧ ∀ x ∈ l, (x.length : Int) = c ∧ RowRight x
theorem spec_GridOk_some (c : Int) (l : List (List S40)) : ∃ b, Ev (fun k => spec_GridOk.f k c l) b ∧ (b = true ↔ GridRight c l) := by
  have go : l.length ≤ 30 → ∀ (d i : Nat), i + d = l.length → ∃ b, Ev (fun k => spec_GridOk.l0 k (i : Int) c l) b ∧ (b = true ↔ ∀ x ∈ l.drop i, (x.length : Int) = c ∧ RowRight x) := by
    intro hl d
    induction d with
    | zero =>
      intro i h
      refine ⟨true, ev_succ ?_, by rw [List.drop_of_length_le (by omega)]; simp⟩
      simp only [spec_GridOk.l0]
      exact ev_neg (by omega) (Ev.now _)
    | succ d ih =>
      intro i h
      obtain ⟨b, e, hb⟩ := ih (i + 1) (by omega)
      have w2 : ∀ _ : Unit, wrap64 ((i : Int) + 1) = ((i + 1 : Nat) : Int) := fun _ => by rw [w64 (by omega) (by omega)]; omega
      obtain ⟨b1, e1, hb1⟩ := spec_RowOk_some l[i]
      rw [List.drop_eq_getElem_cons (by omega)]
      by_cases q : (l[i].length : Int) = c
      · by_cases q1 : b1 = true
        · refine ⟨b, ev_succ ?_, ?_⟩
          · simp only [spec_GridOk.l0, rdLi l i (by omega), w2 ()]
            exact ev_pos (by omega) (ev_pos (by omega) (ev_pos q (Ev.bind e1 (ev_pos q1 e))))
          · rw [hb]
            constructor
            · intro z x hx
              rcases List.mem_cons.mp hx with rfl | hx
              · exact ⟨q, hb1.mp q1⟩
              · exact z x hx
            · intro z x hx; exact z x (List.mem_cons_of_mem _ hx)
        · refine ⟨false, ev_succ ?_, ⟨fun z => (by cases z), fun z => absurd (hb1.mpr (z _ List.mem_cons_self).2) q1⟩⟩
          simp only [spec_GridOk.l0, rdLi l i (by omega), w2 ()]
          exact ev_pos (by omega) (ev_pos (by omega) (ev_pos q (Ev.bind e1 (ev_neg q1 (Ev.now _)))))
      · refine ⟨false, ev_succ ?_, ⟨fun z => (by cases z), fun z => absurd (z _ List.mem_cons_self).1 q⟩⟩
        simp only [spec_GridOk.l0, rdLi l i (by omega), w2 ()]
        exact ev_pos (by omega) (ev_pos (by omega) (ev_neg q (Ev.now _)))
  have jt : Ev (fun k => spec_GridOk.j0 k true c l) false := by
    refine ev_succ ?_
    simp only [spec_GridOk.j0]
    exact ev_pos (by trivial) (Ev.now _)
  unfold spec_GridOk.f
  by_cases h1 : 1 ≤ c ∧ c ≤ 60
  case neg =>
    refine ⟨false, ev_bind_of (spec_l1In_eq _ _ _) (ev_neg ?_ jt), ⟨fun z => (by cases z), fun z => absurd ⟨z.1, z.2.1⟩ h1⟩⟩
    simp; omega
  have i1 : (decide (1 ≤ c) && decide (c ≤ 60)) = true := by simp; omega
  by_cases h2 : (l.length : Int) < 1
  · exact ⟨false, ev_bind_of (spec_l1In_eq _ _ _) (ev_pos i1 (ev_pos h2 jt)), ⟨fun z => (by cases z), fun z => absurd z.2.2.1 (by omega)⟩⟩
  by_cases h3 : l.length ≤ 30
  · obtain ⟨b, e, hb⟩ := go h3 l.length 0 (by omega)
    refine ⟨b, ev_bind_of (spec_l1In_eq _ _ _) (ev_pos i1 (ev_neg h2 (ev_succ ?_))), ?_⟩
    · rw [decide_eq_false (by omega)]
      simp only [spec_GridOk.j0]
      exact ev_neg (by simp) e
    · rw [hb, List.drop_zero]
      exact ⟨fun z => ⟨h1.1, h1.2, by omega, h3, z⟩, fun z => z.2.2.2.2⟩
  · refine ⟨false, ev_bind_of (spec_l1In_eq _ _ _) (ev_pos i1 (ev_neg h2 ?_)), ⟨fun z => (by cases z), fun z => absurd z.2.2.2.1 h3⟩⟩
    rw [decide_eq_true (by omega)]
    exact jt
theorem impl_GridOk_some (c : Int) (l : List (List S40)) (hw : ∀ x ∈ l, x.length ≤ 1048576) : ∃ b, Ev (fun k => impl_GridOk.f k c l) b ∧ (b = true ↔ GridRight c l) := by
  have go : ∀ m : List (List S40), (∀ x ∈ m, x.length ≤ 1048576) → ∃ b, Ev (fun k => impl_GridOk.l0 k c m) b ∧ (b = false ↔ ∀ x ∈ m, (x.length : Int) = c ∧ RowRight x) := by
    intro m
    induction m with
    | nil =>
      intro _
      exact ⟨false, Ev.now _, by simp⟩
    | cons y m ih =>
      intro hm
      obtain ⟨b, e, hb⟩ := ih (fun x hx => hm x (List.mem_cons_of_mem _ hx))
      obtain ⟨b1, e1, hb1⟩ := impl_RowOk_some y (hm y List.mem_cons_self)
      by_cases q : (y.length : Int) = c
      · by_cases q1 : b1 = true
        · refine ⟨b, ?_, ?_⟩
          · simp only [impl_GridOk.l0]
            exact ev_pos q (Ev.bind e1 (ev_pos q1 e))
          · rw [hb]
            constructor
            · intro z x hx
              rcases List.mem_cons.mp hx with rfl | hx
              · exact ⟨q, hb1.mp q1⟩
              · exact z x hx
            · intro z x hx; exact z x (List.mem_cons_of_mem _ hx)
        · refine ⟨true, ?_, ⟨fun z => (by cases z), fun z => absurd (hb1.mpr (z _ List.mem_cons_self).2) q1⟩⟩
          simp only [impl_GridOk.l0]
          exact ev_pos q (Ev.bind e1 (ev_neg q1 (Ev.now _)))
      · refine ⟨true, ?_, ⟨fun z => (by cases z), fun z => absurd (z _ List.mem_cons_self).1 q⟩⟩
        simp only [impl_GridOk.l0]
        exact ev_neg q (Ev.now _)
  unfold impl_GridOk.f
  by_cases h1 : 1 ≤ c ∧ c ≤ 60
  case neg =>
    refine ⟨false, ev_bind_of (impl_in_eq _ _ _) (ev_neg ?_ (Ev.now _)), ⟨fun z => (by cases z), fun z => absurd ⟨z.1, z.2.1⟩ h1⟩⟩
    simp; omega
  have i1 : (decide (1 ≤ c) && decide (c ≤ 60)) = true := by simp; omega
  by_cases h2 : 1 ≤ l.length ∧ l.length ≤ 30
  case neg =>
    refine ⟨false, ev_bind_of (impl_in_eq _ _ _) (ev_pos i1 (ev_bind_of (impl_in_eq _ _ _) (ev_neg ?_ (Ev.now _)))), ⟨fun z => (by cases z), fun z => absurd ⟨z.2.2.1, z.2.2.2.1⟩ h2⟩⟩
    simp; omega
  have i2 : (decide (1 ≤ (l.length : Int)) && decide ((l.length : Int) ≤ 30)) = true := by simp; omega
  obtain ⟨b, e, hb⟩ := go l hw
  refine ⟨!b, ev_bind_of (impl_in_eq _ _ _) (ev_pos i1 (ev_bind_of (impl_in_eq _ _ _) (ev_pos i2 (Ev.bind e (Ev.now _))))), ?_⟩
  rw [Bool.not_eq_true', hb]
  exact ⟨fun z => ⟨h1.1, h1.2, h2.1, h2.2, z⟩, fun z => z.2.2.2.2⟩

/-- What both answer. -/
def blankOf (n : Int) (s : S29) : List S40 := if (decide (1 ≤ n) && decide (n ≤ 60)) = true ∧ sokv s.f0 s.f1 = true then List.replicate n.toNat (blk s) else []
theorem blankOf_length (n : Int) (s : S29) : (blankOf n s).length ≤ 60 := by
  unfold blankOf
  by_cases h : (decide (1 ≤ n) && decide (n ≤ 60)) = true ∧ sokv s.f0 s.f1 = true
  · rw [if_pos h, List.length_replicate]
    have := h.1
    simp only [Bool.and_eq_true, decide_eq_true_eq] at this
    omega
  · rw [if_neg h]; simp
theorem impl_Blank_ev (n : Int) (a b : Int) (c d e : Bool) : Ev (fun k => impl_Blank.f k n a b c d e) (blankOf n ⟨a, b, c, d, e⟩) := by
  simp only [impl_Blank.f, impl_in_eq, impl_StyleOk_eq, Option.bind_some]
  by_cases h : (decide (1 ≤ n) && decide (n ≤ 60)) = true
  · refine ev_pos h (ev_succ ?_)
    simp only [impl_Blank.j0, impl_blank.f, Option.bind_some]
    by_cases q : sokv a b = true
    · refine ev_neg (by rw [q]; simp) ?_
      have h2 := h
      simp only [Bool.and_eq_true, decide_eq_true_eq] at h2
      have e1 : ∀ x : S40, impl_Cell_66.f [x] n = some (List.replicate n.toNat x) := by
        intro x
        unfold impl_Cell_66.f
        rw [if_pos ⟨rfl, by omega, by omega⟩]
        rfl
      rw [e1]
      refine ev_eq (Ev.now _) ?_
      unfold blankOf; rw [if_pos ⟨h, q⟩]; rfl
    · refine ev_pos (by simp [q]) (ev_eq (Ev.now _) ?_)
      unfold blankOf; rw [if_neg (fun x => q x.2)]
  · refine ev_neg h (ev_succ ?_)
    simp only [impl_Blank.j0]
    refine ev_pos (by trivial) (ev_eq (Ev.now _) ?_)
    unfold blankOf; rw [if_neg (fun x => h x.1)]

theorem spec_l4Row_ev (n : Nat) (a b : Int) (c d e : Bool) (hn : n ≤ 1000000) : Ev (fun k => spec_l4Row.f k (n : Int) a b c d e) (List.replicate n (blk ⟨a, b, c, d, e⟩)) := by
  have go : ∀ (q i : Nat), i + q = n → Ev (fun k => spec_l4Row.l0 k (n : Int) (List.replicate i (blk ⟨a, b, c, d, e⟩)) (i : Int) a b c d e) (List.replicate n (blk ⟨a, b, c, d, e⟩)) := by
    intro q
    induction q with
    | zero =>
      intro i h
      obtain rfl : i = n := by omega
      refine ev_succ ?_
      simp only [spec_l4Row.l0]
      exact ev_neg (by omega) (Ev.now _)
    | succ q ih =>
      intro i h
      have := ih (i + 1) (by omega)
      have wi : ∀ _ : Unit, wrap64 ((i : Int) + 1) = ((i + 1 : Nat) : Int) := fun _ => by rw [w64 (by omega) (by omega)]; omega
      refine ev_succ ?_
      simp only [spec_l4Row.l0, spec_l4Blank.f, Option.bind_some, wi ()]
      refine ev_pos (by omega) (ev_pos (by rw [List.length_replicate]; omega) ?_)
      rw [List.replicate_succ'] at this
      exact this
  unfold spec_l4Row.f
  exact go n 0 (by omega)

theorem impl_part_any (l : List S40) (a : Nat) (hl : l.length < 1000000) (ha : a < 1000000) : Ev (fun k => impl_part.f k l (a : Int)) (partv l a) := by
  by_cases h : a ≤ l.length
  · exact impl_part_ev l a (by omega) h
  · have w1 : ∀ _ : Unit, wrap64 ((l.length : Int) - 1) = (l.length : Int) - 1 := fun _ => w64 (by omega) (by omega)
    simp only [impl_part.f, impl_in_eq, Option.bind_some, w1 ()]
    refine ev_neg (by simp; omega) (ev_succ ?_)
    simp only [impl_part.j0]
    refine ev_neg (by simp) (ev_eq (Ev.now _) ?_)
    rw [part_self l a (fun q => absurd q (by omega))]
/-- A blank cell of no style. -/
def b0 : S40 := blk ⟨0, 0, false, false, false⟩
/-- A row, made as wide. -/
def rowv (x : List S40) (c : Nat) : List S40 := mended (x.take c) ++ List.replicate (c - min c x.length) b0
theorem rowv_length (x : List S40) (c : Nat) : (rowv x c).length = c := by unfold rowv; rw [List.length_append, mended_length, List.length_take, List.length_replicate]; omega
theorem rowv_right {x : List S40} (hx : RowRight x) (c : Nat) (h1 : 1 ≤ c) (h2 : c ≤ 60) : RowRight (rowv x c) :=
  cells_right (cells_append (mended_take (right_cells hx) c) (cells_rep _ ⟨0, 0, false, false, false⟩ (by decide))) (by rw [rowv_length]; exact h1) (by rw [rowv_length]; exact h2)
theorem blank0_right (c : Nat) (h1 : 1 ≤ c) (h2 : c ≤ 60) : RowRight (List.replicate c b0) :=
  cells_right (cells_rep c ⟨0, 0, false, false, false⟩ (by decide)) (by rw [List.length_replicate]; exact h1) (by rw [List.length_replicate]; exact h2)
/-- A right row, parted and cut or filled. -/
theorem row_eq {x : List S40} (hx : CellsRight x) (c : Nat) : (partv x c).take (min c x.length) = mended (x.take c) := by
  by_cases h : c ≤ x.length
  · rw [Nat.min_eq_left h, part_take hx c h]
  · have e := take_self hx x.length (Nat.le_refl _) (fun q => absurd q (by omega))
    rw [Nat.min_eq_right (by omega), part_self x c (fun q => absurd q (by omega)), List.take_of_length_le (Nat.le_refl x.length), List.take_of_length_le (show x.length ≤ c by omega)]
    rw [List.take_of_length_le (Nat.le_refl x.length)] at e
    exact e.symm
/-- A grid's rows of another size. -/
def resizedv (l : List (List S40)) (c n : Nat) : List (List S40) := (l.drop (l.length - n)).map (fun x => rowv x c) ++ List.replicate (n - min n l.length) (List.replicate c b0)
theorem resizedv_length (l : List (List S40)) (c n : Nat) : (resizedv l c n).length = n := by unfold resizedv; rw [List.length_append, List.length_map, List.length_drop, List.length_replicate]; omega
theorem resizedv_get (l : List (List S40)) (c n j : Nat) (hj : j < n) : (resizedv l c n)[j]'(by rw [resizedv_length]; exact hj) = if h : l.length - n + j < l.length then rowv l[l.length - n + j] c else List.replicate c b0 := by
  unfold resizedv
  by_cases h : l.length - n + j < l.length
  · rw [dif_pos h, List.getElem_append_left (by rw [List.length_map, List.length_drop]; omega), List.getElem_map, List.getElem_drop]
  · rw [dif_neg h, List.getElem_append_right (by rw [List.length_map, List.length_drop]; omega), List.getElem_replicate]
theorem resizedv_step (l : List (List S40)) (c n j : Nat) (hj : j < n) : (resizedv l c n).take (j + 1) = (resizedv l c n).take j ++ [if h : l.length - n + j < l.length then rowv l[l.length - n + j] c else List.replicate c b0] := by
  rw [List.take_succ_eq_append_getElem (by rw [resizedv_length]; exact hj), resizedv_get l c n j hj]
theorem resizedv_rows {l : List (List S40)} (h : ∀ x ∈ l, RowRight x) (c n : Nat) (h1 : 1 ≤ c) (h2 : c ≤ 60) : ∀ x ∈ resizedv l c n, x.length = c ∧ RowRight x := by
  intro x hx
  unfold resizedv at hx
  rw [List.mem_append] at hx
  rcases hx with hx | hx
  · obtain ⟨y, hy, rfl⟩ := List.mem_map.mp hx
    exact ⟨rowv_length _ _, rowv_right (h y (List.mem_of_mem_drop hy)) c h1 h2⟩
  · obtain ⟨_, rfl⟩ := List.mem_replicate.mp hx
    exact ⟨List.length_replicate, blank0_right c h1 h2⟩
theorem spec_l5Resized_ev (w : Nat) (l : List (List S40)) (c n : Nat) (hl : l.length ≤ 30) (hw : ∀ x ∈ l, x.length = w) (h60 : w ≤ 60) (hc : c ≤ 60) (hn : n ≤ 30) :
    Ev (fun k => spec_l5Resized.f k (w : Int) l (c : Int) (n : Int)) ((c : Int), resizedv l c n) := by
  have go : ∀ (d j : Nat), j + d = n → Ev (fun k => spec_l5Resized.l0 k (c : Int) (n : Int) ((l.length - n : Nat) : Int) ((l.length - n + j : Nat) : Int) (w : Int) l (c : Int) ((resizedv l c n).take j)) ((c : Int), resizedv l c n) := by
    intro d
    induction d with
    | zero =>
      intro j h
      have wf : ∀ _ : Unit, wrap64 (((l.length - n : Nat) : Int) + (n : Int)) = ((l.length - n + n : Nat) : Int) := fun _ => by rw [w64 (by omega) (by omega)]; omega
      refine ev_succ ?_
      simp only [spec_l5Resized.l0, wf ()]
      refine ev_neg (by omega) (ev_eq (Ev.now _) ?_)
      rw [List.take_of_length_le (by rw [resizedv_length]; omega)]
    | succ d ih =>
      intro j h
      have e := ih (j + 1) (by omega)
      rw [resizedv_step l c n j (by omega)] at e
      have wf : ∀ _ : Unit, wrap64 (((l.length - n : Nat) : Int) + (n : Int)) = ((l.length - n + n : Nat) : Int) := fun _ => by rw [w64 (by omega) (by omega)]; omega
      have wi : ∀ _ : Unit, wrap64 (((l.length - n + j : Nat) : Int) + 1) = ((l.length - n + (j + 1) : Nat) : Int) := fun _ => by rw [w64 (by omega) (by omega)]; omega
      have lt : ((resizedv l c n).take j).length = j := by rw [List.length_take, resizedv_length]; omega
      refine ev_succ ?_
      simp only [spec_l5Resized.l0, wf (), wi (), Option.bind_some]
      refine ev_pos (by omega) ?_
      by_cases q : l.length - n + j < l.length
      · rw [dif_pos q] at e
        have hx := hw _ (List.getElem_mem q)
        have rd : ∀ _ : Unit, rd_L4 l ((l.length - n + j : Nat) : Int) = l[l.length - n + j] := fun _ => rdLi l (l.length - n + j) q
        have hmin : ∀ _ : Unit, spec_l1Min.f (c : Int) (w : Int) = some ((min c w : Nat) : Int) := fun _ => by
          unfold spec_l1Min.f
          by_cases z : (c : Int) < (w : Int)
          · rw [if_pos z, show min c w = c by omega]
          · rw [if_neg z, show min c w = w by omega]
        simp only [rd (), hmin (), Option.bind_some, Int.toNat_natCast]
        have ml : (mended (l[l.length - n + j].take (min c w))).length = min c w := by rw [mended_length, List.length_take, hx]; omega
        have wr : ∀ _ : Unit, wrap64 ((c : Int) - ((mended (l[l.length - n + j].take (min c w))).length : Int)) = ((c - min c w : Nat) : Int) := fun _ => by rw [ml, w64 (by omega) (by omega)]; omega
        refine ev_pos (by omega) (ev_pos (by omega) (ev_pos (by omega) (ev_pos (by rw [hx]; omega) (Ev.bind (spec_l4Mended_ev _ (by rw [List.length_take, hx]; omega)) ?_))))
        simp only [wr ()]
        refine Ev.bind (spec_l4Row_ev (c - min c w) 0 0 false false false (by omega)) (ev_pos (by rw [ml, List.length_replicate]; omega) (ev_pos (by rw [lt]; omega) ?_))
        have hr : mended (l[l.length - n + j].take (min c w)) ++ List.replicate (c - min c w) (blk ⟨0, 0, false, false, false⟩) = rowv l[l.length - n + j] c := by
          unfold rowv b0
          rw [hx]
          congr 2
          by_cases z : c ≤ w
          · rw [Nat.min_eq_left z]
          · rw [Nat.min_eq_right (by omega), List.take_of_length_le (by omega), List.take_of_length_le (by omega)]
        rw [hr]
        exact e
      · rw [dif_neg q] at e
        have wr : ∀ _ : Unit, wrap64 ((c : Int) - (([] : List S40).length : Int)) = (c : Int) := fun _ => by rw [List.length_nil, w64 (by omega) (by omega)]; omega
        refine ev_neg (by omega) ?_
        simp only [wr ()]
        refine Ev.bind (spec_l4Row_ev c 0 0 false false false (by omega)) (ev_pos (by rw [List.length_nil, List.length_replicate]; omega) (ev_pos (by rw [lt]; omega) ?_))
        rw [List.nil_append]
        exact e
  have hmax : spec_l1Max.f 0 (wrap64 ((l.length : Int) - (n : Int))) = some ((l.length - n : Nat) : Int) := by
    unfold spec_l1Max.f
    have w1 : wrap64 ((l.length : Int) - (n : Int)) = (l.length : Int) - (n : Int) := w64 (by omega) (by omega)
    rw [w1]
    by_cases z : (0 : Int) > (l.length : Int) - (n : Int)
    · rw [if_pos z]; congr 1; omega
    · rw [if_neg z]; congr 1; omega
  unfold spec_l5Resized.f
  refine ev_bind_of hmax ?_
  have := go n 0 (by omega)
  simpa using this
theorem impl_blanks_ev (c n : Nat) (l : List (List S40)) (h1 : 1 ≤ c) (hc : c ≤ 60) (hn : n ≤ 30) : Ev (fun k => impl_Grid_blanks.f k (c : Int) l (n : Int) 0 0 false false false) (List.replicate n (List.replicate c b0)) := by
  have eb : Ev (fun k => impl_Blank.f k (c : Int) 0 0 false false false) (List.replicate c b0) := by
    refine ev_eq (impl_Blank_ev (c : Int) 0 0 false false false) ?_
    unfold blankOf
    rw [if_pos ⟨by simp; omega, by decide⟩, Int.toNat_natCast]; rfl
  have go : ∀ (q i : Nat), i + q = n → Ev (fun k => impl_Grid_blanks.l0 k (List.replicate i (List.replicate c b0)) (n : Int) (i : Int) (c : Int) l 0 0 false false false) (List.replicate n (List.replicate c b0)) := by
    intro q
    induction q with
    | zero =>
      intro i h
      obtain rfl : i = n := by omega
      refine ev_succ ?_
      simp only [impl_Grid_blanks.l0]
      exact ev_neg (by omega) (Ev.now _)
    | succ q ih =>
      intro i h
      have e := ih (i + 1) (by omega)
      have wi : ∀ _ : Unit, wrap64 ((i : Int) + 1) = ((i + 1 : Nat) : Int) := fun _ => by rw [w64 (by omega) (by omega)]; omega
      refine ev_succ ?_
      simp only [impl_Grid_blanks.l0, wi ()]
      refine ev_pos (by omega) (Ev.bind eb (ev_pos (by rw [List.length_replicate]; omega) ?_))
      rw [List.replicate_succ'] at e
      exact e
  unfold impl_Grid_blanks.f
  exact go n 0 (by omega)
theorem impl_resized_ev (w : Nat) (l : List (List S40)) (c n : Nat) (hl : l.length ≤ 30) (hw : ∀ x ∈ l, x.length = w) (hr : ∀ x ∈ l, RowRight x) (h60 : w ≤ 60) (h1 : 1 ≤ c) (hc : c ≤ 60) (hn : n ≤ 30) :
    Ev (fun k => impl_Grid_resized.f k (w : Int) l (c : Int) (n : Int)) ((c : Int), resizedv l c n) := by
  have hmx : ∀ _ : Unit, mx 0 (wrap64 ((l.length : Int) - (n : Int))) = ((l.length - n : Nat) : Int) := fun _ => by
    have w1 : wrap64 ((l.length : Int) - (n : Int)) = (l.length : Int) - (n : Int) := w64 (by omega) (by omega)
    rw [w1]; unfold mx; split <;> omega
  have hmn : ∀ _ : Unit, mn (c : Int) (w : Int) = ((min c w : Nat) : Int) := fun _ => by unfold mn; split <;> omega
  have dl : (l.drop (l.length - n)).length = min n l.length := by rw [List.length_drop]; omega
  have fill : ∀ (d : Nat) (x : List S40) (y : List (List S40)) (i : Int) (out : List (List S40)) (r : Int × List (List S40)), x.length + d = c → out.length < 100 →
      Ev (fun k => impl_Grid_resized.l0 k (c : Int) (n : Int) y ((min n l.length : Nat) : Int) (wrap64 (i + 1)) (w : Int) l (c : Int) (out ++ [x ++ List.replicate d b0])) r →
      Ev (fun k => impl_Grid_resized.l1 k (c : Int) (n : Int) x y ((min n l.length : Nat) : Int) i (w : Int) l (c : Int) out) r := by
    intro d
    induction d with
    | zero =>
      intro x y i out r hx ho he
      rw [List.replicate_zero, List.append_nil] at he
      refine ev_succ ?_
      simp only [impl_Grid_resized.l1]
      exact ev_neg (by omega) (ev_pos (by omega) he)
    | succ d ih =>
      intro x y i out r hx ho he
      have e := ih (x ++ [b0]) y i out r (by rw [List.length_append, List.length_singleton]; omega) ho (by rw [List.append_assoc, List.singleton_append, ← List.replicate_succ]; exact he)
      refine ev_succ ?_
      simp only [impl_Grid_resized.l1, impl_blank.f, Option.bind_some]
      exact ev_pos (by omega) (ev_pos (by omega) e)
  have go : ∀ (d j : Nat), j + d = min n l.length → Ev (fun k => impl_Grid_resized.l0 k (c : Int) (n : Int) (l.drop (l.length - n)) ((min n l.length : Nat) : Int) (j : Int) (w : Int) l (c : Int) ((resizedv l c n).take j)) ((c : Int), resizedv l c n) := by
    intro d
    induction d with
    | zero =>
      intro j h
      have lt : ((resizedv l c n).take j).length = j := by rw [List.length_take, resizedv_length]; omega
      have wr : ∀ _ : Unit, wrap64 ((n : Int) - (((resizedv l c n).take j).length : Int)) = ((n - min n l.length : Nat) : Int) := fun _ => by rw [lt, w64 (by omega) (by omega)]; omega
      refine ev_succ ?_
      simp only [impl_Grid_resized.l0, wr ()]
      refine ev_neg (by omega) (Ev.bind (impl_blanks_ev c (n - min n l.length) _ h1 hc (by omega)) (ev_pos (by rw [lt, List.length_replicate]; omega) (ev_eq (Ev.now _) ?_)))
      rw [Prod.mk.injEq]
      refine ⟨rfl, ?_⟩
      unfold resizedv
      rw [List.take_left' (by rw [List.length_map, dl]; omega)]
    | succ d ih =>
      intro j h
      have e := ih (j + 1) (by omega)
      have q : l.length - n + j < l.length := by omega
      rw [resizedv_step l c n j (by omega), dif_pos q] at e
      have lt : ((resizedv l c n).take j).length = j := by rw [List.length_take, resizedv_length]; omega
      have hx := hw _ (List.getElem_mem q)
      have hxr := hr _ (List.getElem_mem q)
      have rd : ∀ _ : Unit, rd_L4 (l.drop (l.length - n)) (j : Int) = l[l.length - n + j] := fun _ => by rw [rdLi _ _ (by rw [dl]; omega), List.getElem_drop]
      have wi : ∀ _ : Unit, wrap64 ((j : Int) + 1) = ((j + 1 : Nat) : Int) := fun _ => by rw [w64 (by omega) (by omega)]; omega
      have cl : ∀ _ : Unit, impl_Cell_63.f l[l.length - n + j] = some l[l.length - n + j] := fun _ => by
        simp only [impl_Cell_63.f, Option.bind_some, List.nil_append]
        rw [if_pos (by simp [hx]; omega)]
      have re := row_eq (right_cells hxr) c
      rw [hx] at re
      refine ev_succ ?_
      simp only [impl_Grid_resized.l0, rd (), cl (), hmn (), Option.bind_some, Int.toNat_natCast]
      refine ev_pos (by omega) (ev_pos (by omega) (ev_pos (by rw [dl]; omega) (Ev.bind (impl_part_any _ c (by omega) (by omega)) (ev_pos (by omega) (ev_pos (by rw [hx]; omega) ?_)))))
      rw [re]
      have ml : (mended (l[l.length - n + j].take c)).length = min c w := by rw [mended_length, List.length_take, hx]
      refine fill (c - min c w) _ _ _ _ _ (by rw [ml]; omega) (by rw [lt]; omega) ?_
      rw [wi ()]
      have hrv : mended (l[l.length - n + j].take c) ++ List.replicate (c - min c w) b0 = rowv l[l.length - n + j] c := by unfold rowv; rw [hx]
      rw [hrv]
      exact e
  simp only [impl_Grid_resized.f, hmx (), Option.bind_some, Int.toNat_natCast]
  refine ev_pos (by omega) (ev_pos (by omega) ?_)
  have := go (min n l.length) 0 (by omega)
  rw [dl]
  simpa using this
/-- What both answer. -/
theorem Resized_yes (c : Int) (l : List (List S40)) (a b : Nat) (hg : GridRight c l) (h1 : 1 ≤ a) (h2 : a ≤ 60) (h3 : 1 ≤ b) (h4 : b ≤ 30) :
    Ev (fun k => spec_Resized.f k c l (a : Int) (b : Int)) ((a : Int), resizedv l a b) ∧ Ev (fun k => impl_Resized.f k c l (a : Int) (b : Int)) ((a : Int), resizedv l a b) := by
  obtain ⟨g1, g2, g3, g4, g5⟩ := id hg
  obtain ⟨w, rfl⟩ := Int.eq_ofNat_of_zero_le (show 0 ≤ c by omega)
  have hw : ∀ x ∈ l, x.length = w := fun x hx => by have := (g5 x hx).1; omega
  obtain ⟨b1, e1, hb1⟩ := spec_GridOk_some (w : Int) l
  obtain ⟨b2, e2, hb2⟩ := impl_GridOk_some (w : Int) l (fun x hx => by rw [hw x hx]; omega)
  have c2 : (decide (1 ≤ (a : Int)) && decide ((a : Int) ≤ 60)) = true := by simp; omega
  have c3 : (decide (1 ≤ (b : Int)) && decide ((b : Int) ≤ 30)) = true := by simp; omega
  constructor
  · refine Ev.bind e1 (ev_pos (hb1.mpr hg) ?_)
    simp only [spec_l1In_eq, Option.bind_some]
    exact ev_pos c2 (ev_pos c3 (Ev.bind (spec_l5Resized_ev w l a b g4 hw (by omega) h2 h4) (Ev.now _)))
  · refine Ev.bind e2 (ev_pos (hb2.mpr hg) ?_)
    simp only [impl_in_eq, Option.bind_some]
    exact ev_pos c2 (ev_pos c3 (Ev.bind (impl_resized_ev w l a b g4 hw (fun x hx => (g5 x hx).2) (by omega) h1 h2 h4) (Ev.now _)))
theorem Resized_some (c : Int) (l : List (List S40)) (a b : Int) (hl : l.length ≤ 1048576) (hw : ∀ x ∈ l, x.length ≤ 1048576) :
    ∃ (r : Int) (m : List (List S40)), m.length ≤ 30 ∧ (∀ x ∈ m, x.length ≤ 60) ∧ Ev (fun k => spec_Resized.f k c l a b) (r, m) ∧ Ev (fun k => impl_Resized.f k c l a b) (r, m) := by
  obtain ⟨b1, e1, hb1⟩ := spec_GridOk_some c l
  obtain ⟨b2, e2, hb2⟩ := impl_GridOk_some c l hw
  obtain rfl : b1 = b2 := Bool.eq_iff_iff.mpr (hb1.trans hb2.symm)
  by_cases c1 : b1 = true
  case neg => exact ⟨0, [], by simp, by simp, Ev.bind e1 (ev_neg c1 (Ev.now _)), Ev.bind e2 (ev_neg c1 (Ev.now _))⟩
  have hg := hb1.mp c1
  by_cases c2 : (decide (1 ≤ a) && decide (a ≤ 60)) = true
  case neg =>
    refine ⟨0, [], by simp, by simp, Ev.bind e1 (ev_pos c1 ?_), Ev.bind e2 (ev_pos c1 ?_)⟩
    · simp only [spec_l1In_eq, Option.bind_some]; exact ev_neg c2 (Ev.now _)
    · simp only [impl_in_eq, Option.bind_some]; exact ev_neg c2 (Ev.now _)
  by_cases c3 : (decide (1 ≤ b) && decide (b ≤ 30)) = true
  case neg =>
    refine ⟨0, [], by simp, by simp, Ev.bind e1 (ev_pos c1 ?_), Ev.bind e2 (ev_pos c1 ?_)⟩
    · simp only [spec_l1In_eq, Option.bind_some]; exact ev_pos c2 (ev_neg c3 (Ev.now _))
    · simp only [impl_in_eq, Option.bind_some]; exact ev_pos c2 (ev_neg c3 (Ev.now _))
  simp only [Bool.and_eq_true, decide_eq_true_eq] at c2 c3
  obtain ⟨x, rfl⟩ := Int.eq_ofNat_of_zero_le (show 0 ≤ a by omega)
  obtain ⟨y, rfl⟩ := Int.eq_ofNat_of_zero_le (show 0 ≤ b by omega)
  obtain ⟨u1, u2⟩ := Resized_yes c l x y hg (by omega) (by omega) (by omega) (by omega)
  refine ⟨(x : Int), resizedv l x y, by rw [resizedv_length]; omega, fun z hz => ?_, u1, u2⟩
  rw [(resizedv_rows (fun q hq => (hg.2.2.2.2 q hq).2) x y (by omega) (by omega) z hz).1]; omega

def tm3 (x : Int) : Bool := (Int.tmod x 3 == 0)
def mkC (a : Int) : S40 := ⟨a, ⟨a + 1, a + 2, tm3 (a + 3), tm3 (a + 4), tm3 (a + 5)⟩, a + 6⟩
def mksC : Nat → Int → List S40
  | 0, _ => []
  | n + 1, a => mkC a :: mksC n (a + 7)
theorem mksC_length : ∀ (n : Nat) (a : Int), (mksC n a).length = n
  | 0, _ => rfl
  | n + 1, a => by simp [mksC, mksC_length n]
theorem mksC_get : ∀ (n : Nat) (a : Int) (i : Nat) (h : i < (mksC n a).length), (mksC n a)[i] = mkC (a + 7 * i)
  | n + 1, a, 0, _ => by simp [mksC]
  | n + 1, a, i + 1, h => by
    simp only [mksC, List.getElem_cons_succ]
    rw [mksC_get n (a + 7) i]
    have e : a + 7 + 7 * (i : Int) = a + 7 * ((i + 1 : Nat) : Int) := by omega
    rw [e]
theorem laws_markCellS_ev (l : List S40) (a0 : Int) (h0 : 0 ≤ a0) (hl : a0 + 7 * l.length < 9007199254740992) : Ev (fun k => laws_markCellS.f k l a0) (a0 + 7 * (l.length : Int), mksC l.length a0) := by
  have go : ∀ (d i : Nat) (m : List S40) (a : Int), 0 ≤ a → a + 7 * d < 9007199254740992 → i + d = l.length → m.length = l.length → l.length < 9007199254740992 → Ev (fun k => laws_markCellS.l0 k m a (i : Int)) (a + 7 * d, m.take i ++ mksC d a) := by
    intro d
    induction d with
    | zero =>
      intro i m a h0 h1 h hm hlm
      refine ev_succ ?_
      simp only [laws_markCellS.l0]
      refine ev_neg (by omega) (ev_eq (Ev.now _) ?_)
      rw [List.take_of_length_le (by omega)]
      simp [mksC]
    | succ d ih =>
      intro i m a h0 h1 h hm hlm
      have w1 : ∀ _ : Unit, wrap64 (a + 1) = a + 1 := fun _ => w64 (by omega) (by omega)
      have w2 : ∀ _ : Unit, wrap64 (a + 1 + 1) = a + 2 := fun _ => by rw [w64 (by omega) (by omega)]; omega
      have w3 : ∀ _ : Unit, wrap64 (a + 2 + 1) = a + 3 := fun _ => by rw [w64 (by omega) (by omega)]; omega
      have w4 : ∀ _ : Unit, wrap64 (a + 3 + 1) = a + 4 := fun _ => by rw [w64 (by omega) (by omega)]; omega
      have w5 : ∀ _ : Unit, wrap64 (a + 4 + 1) = a + 5 := fun _ => by rw [w64 (by omega) (by omega)]; omega
      have w6 : ∀ _ : Unit, wrap64 (a + 5 + 1) = a + 6 := fun _ => by rw [w64 (by omega) (by omega)]; omega
      have w7 : ∀ _ : Unit, wrap64 (a + 6 + 1) = a + 7 := fun _ => by rw [w64 (by omega) (by omega)]; omega
      have wi : ∀ _ : Unit, wrap64 ((i : Int) + 1) = ((i + 1 : Nat) : Int) := fun _ => by rw [w64 (by omega) (by omega)]; omega
      have hr : ∀ v : S40, rd_T40 (m.set i v) (i : Int) = v := fun v => by rw [rdc (by rw [List.length_set]; omega), List.getElem_set_self]
      refine ev_succ ?_
      simp only [laws_markCellS.l0, w1 (), w2 (), w3 (), w4 (), w5 (), w6 (), w7 (), wi (), Int.toNat_natCast, Option.bind_some, hr, List.set_set]
      refine ev_pos (by omega) (ev_pos (by omega) ?_)
      have := ih (i + 1) (m.set i (mkC a)) (a + 7) (by omega) (by omega) (by omega) (by simpa using hm) hlm
      refine ev_eq this ?_
      rw [take_set_succ _ _ _ (by omega), List.append_assoc, List.singleton_append]
      have e : a + 7 + 7 * (d : Int) = a + 7 * ((d + 1 : Nat) : Int) := by omega
      rw [e]; rfl
  unfold laws_markCellS.f
  have := go l.length 0 l a0 (by omega) (by omega) (by omega) rfl (by omega)
  simpa using this
theorem laws_heldCellS_ev (n : Nat) (a0 : Int) (h0 : 0 ≤ a0) (hn : a0 + 7 * n < 9007199254740992) : Ev (fun k => laws_heldCellS.f k (mksC n a0) a0) (a0 + 7 * (n : Int)) := by
  have go : ∀ (d i : Nat), i + d = n → Ev (fun k => laws_heldCellS.l0 k (mksC n a0) (a0 + 7 * (i : Int)) (i : Int)) (a0 + 7 * (n : Int)) := by
    intro d
    induction d with
    | zero =>
      intro i h
      obtain rfl : i = n := by omega
      refine ev_succ ?_
      simp only [laws_heldCellS.l0]
      exact ev_neg (by rw [mksC_length]; omega) (Ev.now _)
    | succ d ih =>
      intro i h
      have hr : rd_T40 (mksC n a0) (i : Int) = mkC (a0 + 7 * i) := by rw [rdc (by rw [mksC_length]; omega), mksC_get]
      obtain ⟨a, ha⟩ : ∃ a, a = a0 + 7 * (i : Int) := ⟨_, rfl⟩
      have hb : 0 ≤ a ∧ a + 7 < 9007199254740992 := by omega
      have hn2 : ((i + 1 : Nat) : Int) < 9007199254740992 := by omega
      have hnext : a + 7 = a0 + 7 * ((i + 1 : Nat) : Int) := by omega
      rw [← ha] at hr ⊢
      have := ih (i + 1) (by omega)
      rw [← hnext] at this
      have w1 : ∀ _ : Unit, wrap64 (a + 1) = a + 1 := fun _ => w64 (by omega) (by omega)
      have w2 : ∀ _ : Unit, wrap64 (a + 1 + 1) = a + 2 := fun _ => by rw [w64 (by omega) (by omega)]; omega
      have w3 : ∀ _ : Unit, wrap64 (a + 2 + 1) = a + 3 := fun _ => by rw [w64 (by omega) (by omega)]; omega
      have w4 : ∀ _ : Unit, wrap64 (a + 3 + 1) = a + 4 := fun _ => by rw [w64 (by omega) (by omega)]; omega
      have w5 : ∀ _ : Unit, wrap64 (a + 4 + 1) = a + 5 := fun _ => by rw [w64 (by omega) (by omega)]; omega
      have w6 : ∀ _ : Unit, wrap64 (a + 5 + 1) = a + 6 := fun _ => by rw [w64 (by omega) (by omega)]; omega
      have w7 : ∀ _ : Unit, wrap64 (a + 6 + 1) = a + 7 := fun _ => by rw [w64 (by omega) (by omega)]; omega
      have wi : ∀ _ : Unit, wrap64 ((i : Int) + 1) = ((i + 1 : Nat) : Int) := fun _ => by rw [w64 (by omega) (by omega)]; omega
      refine ev_succ ?_
      simp only [laws_heldCellS.l0, hr, mkC, tm3, w1 (), w2 (), w3 (), w4 (), w5 (), w6 (), w7 (), wi (), bne_self_eq_false]
      exact ev_pos (by rw [mksC_length]; omega) (ev_pos (by omega) (ev_pos (by trivial) (ev_pos (by trivial) (ev_pos (by trivial) (ev_neg (by simp) (ev_neg (by simp) (ev_neg (by simp) (ev_pos (by trivial) this))))))))
  unfold laws_heldCellS.f
  have := go n 0 (by omega)
  simpa using this

/-- Rows of marks, one behind the other. -/
def mksCC : List Nat → Int → List (List S40)
  | [], _ => []
  | n :: ns, a => mksC n a :: mksCC ns (a + 7 * (n : Int))
def sumN : List Nat → Nat
  | [] => 0
  | n :: ns => n + sumN ns
theorem mksCC_length : ∀ (ns : List Nat) (a : Int), (mksCC ns a).length = ns.length
  | [], _ => rfl
  | n :: ns, a => by simp [mksCC, mksCC_length ns]
theorem laws_markCellSS_ev (l : List (List S40)) (a0 : Int) (h0 : 0 ≤ a0) (hl : l.length < 4611686018427387904) (hs : a0 + 7 * (sumN (l.map List.length) : Int) < 9007199254740992) :
    Ev (fun k => laws_markCellSS.f k l a0) (a0 + 7 * (sumN (l.map List.length) : Int), mksCC (l.map List.length) a0) := by
  have go : ∀ (r : List (List S40)) (p : List (List S40)) (a : Int), 0 ≤ a → p.length + r.length < 4611686018427387904 → a + 7 * (sumN (r.map List.length) : Int) < 9007199254740992 →
      Ev (fun k => laws_markCellSS.l0 k (p ++ r) a (p.length : Int)) (a + 7 * (sumN (r.map List.length) : Int), p ++ mksCC (r.map List.length) a) := by
    intro r
    induction r with
    | nil =>
      intro p a _ _ _
      refine ev_succ ?_
      simp only [laws_markCellSS.l0, List.append_nil]
      refine ev_neg (by omega) (ev_eq (Ev.now _) ?_)
      simp [sumN, mksCC]
    | cons x r ih =>
      intro p a ha hn hb
      simp only [List.map_cons, sumN, List.length_cons] at hb hn
      have e := ih (p ++ [mksC x.length a]) (a + 7 * (x.length : Int)) (by omega) (by simp; omega) (by omega)
      have wi : ∀ _ : Unit, wrap64 ((p.length : Int) + 1) = ((p.length + 1 : Nat) : Int) := fun _ => by rw [w64 (by omega) (by omega)]; omega
      have gd : (p ++ x :: r).getD p.length [] = x := by simp
      have sd : (p ++ x :: r).set p.length (mksC x.length a) = p ++ [mksC x.length a] ++ r := by simp
      refine ev_succ ?_
      simp only [laws_markCellSS.l0, wi (), Int.toNat_natCast, gd]
      refine ev_pos (by simp; omega) (ev_pos (by omega) (Ev.bind (laws_markCellS_ev x a ha (by omega)) ?_))
      simp only [sd]
      rw [show (p ++ [mksC x.length a]).length = p.length + 1 by simp] at e
      refine ev_eq e ?_
      simp only [List.map_cons, sumN, mksCC, List.append_assoc, List.singleton_append, Prod.mk.injEq, and_true]
      omega
  have := go l [] a0 h0 (by simpa using hl) hs
  unfold laws_markCellSS.f
  simpa using this
theorem laws_heldCellSS_ev (ns : List Nat) (a0 : Int) (h0 : 0 ≤ a0) (hl : ns.length < 4611686018427387904) (hs : a0 + 7 * (sumN ns : Int) < 9007199254740992) : Ev (fun k => laws_heldCellSS.f k (mksCC ns a0) a0) (a0 + 7 * (sumN ns : Int)) := by
  have go : ∀ (r : List Nat) (p : List (List S40)) (a : Int), 0 ≤ a → p.length + r.length < 4611686018427387904 → a + 7 * (sumN r : Int) < 9007199254740992 →
      Ev (fun k => laws_heldCellSS.l0 k (p ++ mksCC r a) a (p.length : Int)) (a + 7 * (sumN r : Int)) := by
    intro r
    induction r with
    | nil =>
      intro p a _ _ _
      refine ev_succ ?_
      simp only [laws_heldCellSS.l0, mksCC, List.append_nil]
      refine ev_neg (by omega) (ev_eq (Ev.now _) ?_)
      simp [sumN]
    | cons x r ih =>
      intro p a ha hn hb
      simp only [sumN, List.length_cons] at hb hn
      have e := ih (p ++ [mksC x a]) (a + 7 * (x : Int)) (by omega) (by simp; omega) (by omega)
      have wi : ∀ _ : Unit, wrap64 ((p.length : Int) + 1) = ((p.length + 1 : Nat) : Int) := fun _ => by rw [w64 (by omega) (by omega)]; omega
      have gd : rd_L4 (p ++ mksC x a :: mksCC r (a + 7 * (x : Int))) (p.length : Int) = mksC x a := by rw [rdLi _ _ (by simp)]; simp
      refine ev_succ ?_
      simp only [laws_heldCellSS.l0, wi (), mksCC, gd]
      refine ev_pos (by simp; omega) (ev_pos (by omega) (Ev.bind (laws_heldCellS_ev x a ha (by omega)) (ev_neg (by omega) ?_)))
      rw [show (p ++ [mksC x a]).length = p.length + 1 by simp, List.append_assoc, List.singleton_append] at e
      refine ev_eq e ?_
      simp only [sumN]
      omega
  have := go ns [] a0 h0 (by simpa using hl) hs
  unfold laws_heldCellSS.f
  simpa using this
theorem laws_markGrid_ev (c : Int) (l : List (List S40)) (a0 : Int) (h0 : 0 ≤ a0) (hl : l.length < 4611686018427387904) (hs : a0 + 7 * (sumN (l.map List.length) : Int) < 9007199254740992) :
    Ev (fun k => laws_markGrid.f k c l a0) (a0 + 7 * (sumN (l.map List.length) : Int), mksCC (l.map List.length) a0) := by
  unfold laws_markGrid.f
  exact Ev.bind (laws_markCellSS_ev l a0 h0 hl hs) (Ev.now _)
theorem laws_heldGrid_ev (c : Int) (ns : List Nat) (a0 : Int) (h0 : 0 ≤ a0) (hl : ns.length < 4611686018427387904) (hs : a0 + 7 * (sumN ns : Int) < 9007199254740992) : Ev (fun k => laws_heldGrid.f k c (mksCC ns a0) a0) (a0 + 7 * (sumN ns : Int)) := by
  unfold laws_heldGrid.f
  exact Ev.bind (laws_heldCellSS_ev ns a0 h0 hl hs) (ev_neg (by omega) (Ev.now _))
theorem sumN_le (ns : List Nat) (b : Nat) (h : ∀ n ∈ ns, n ≤ b) : sumN ns ≤ b * ns.length := by
  induction ns with
  | nil => simp [sumN]
  | cons x r ih =>
    have h1 := h x (by simp)
    have h2 := ih (fun n hn => h n (by simp [hn]))
    simp only [sumN, List.length_cons, Nat.mul_succ]
    omega

theorem FnExactResized : laws_FnExactResized.Aim := by
  intro c l a b _ hl _ _
  refine Ev.rounds ?_
  unfold laws_FnExactResized.f
  obtain ⟨r, er, hr⟩ := laws_szGrid_ev c l 1048576 (by omega) (by omega) hl.1 (fun x hx => (hl.2 x hx).1)
  refine Ev.bind er ?_
  by_cases h : r < 0
  · exact ev_pos h (Ev.now _)
  refine ev_neg h ?_
  have h1 : l.length ≤ 1048576 ∧ ∀ x ∈ l, x.length ≤ 1048576 := by
    rcases hr with hr | ⟨_, _, q2, q3⟩
    · exact absurd hr h
    · exact ⟨by omega, fun x hx => by have := q3 x hx; omega⟩
  have ht := laws_toGrid_ev c l h1.1 h1.2
  have h2 : ∀ x ∈ l.map torow, x.length ≤ 1048576 := by
    intro x hx
    obtain ⟨y, hy, rfl⟩ := List.mem_map.mp hx
    rw [torow_length]; exact h1.2 y hy
  have hL : (l.map torow).length ≤ 1048576 := by rw [List.length_map]; exact h1.1
  obtain ⟨g, m, hm, hw, e1, e2⟩ := Resized_some c (l.map torow) a b hL h2
  have eq := laws_eqGrid_ev g m (by omega) (fun x hx => by have := hw x hx; omega)
  have eq2 := laws_eqGrid_ev c (l.map torow) (by omega) (fun x hx => by have := h2 x hx; omega)
  have hs : sumN (m.map List.length) ≤ 60 * (m.map List.length).length := sumN_le _ 60 (fun n hn => by obtain ⟨x, hx, rfl⟩ := List.mem_map.mp hn; exact hw x hx)
  have hs2 : sumN ((l.map torow).map List.length) ≤ 1048576 * ((l.map torow).map List.length).length := sumN_le _ 1048576 (fun n hn => by obtain ⟨x, hx, rfl⟩ := List.mem_map.mp hn; exact h2 x hx)
  rw [List.length_map] at hs hs2
  have mk := laws_markGrid_ev g m 1 (by omega) (by omega) (by omega)
  have mk2 := laws_markGrid_ev c (l.map torow) 1 (by omega) (by omega) (by omega)
  have hh := laws_heldGrid_ev g (m.map List.length) 1 (by omega) (by rw [List.length_map]; omega) (by omega)
  exact Ev.bind ht (Ev.bind e1 (Ev.bind ht (Ev.bind e2 (Ev.bind eq (ev_pos rfl (Ev.bind ht (Ev.bind eq2 (ev_pos rfl (Ev.bind mk2 (ev_neg (by show ¬ ((1 : Int) + _ < 0); omega) (Ev.bind eq (ev_pos rfl (Ev.bind mk (Ev.bind hh (ev_neg (by omega) (ev_pos rfl (Ev.bind ht (Ev.bind e2 (Ev.bind eq (ev_pos rfl (Ev.bind hh (ev_neg (by omega) (ev_pos rfl (Ev.now _))))))))))))))))))))))))

end Go.Proofs.Ytfhkpneffmcdbaa.Pure
