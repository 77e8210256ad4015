/- The law FnMoved answers true at every code: cells that are pushed and pulled back are as they were up to what fell off, where no wide rune was parted, and a row stays right and as long. -/
import Derived.Test.YtfhkpneffmcdbaaQDx29
namespace Go.Proofs.Ytfhkpneffmcdbaa.Pure
open Go.RowKit Go.Proofs.Ytfhkpneffmcdbaa.QD Go.Proofs.YtfhkpneffmcdbaaW.PrintWords Go.Proofs.YtfhkpneffmcdbaaW.PrintLast
set_option linter.unusedVariables false
set_option linter.unusedSimpArgs false

theorem w64 {x : Int} (h0 : -9223372036854775808 ≤ x) (h1 : x ≤ 9223372036854775807) : wrap64 x = x := by unfold wrap64; omega
theorem wf64 {x : Int} : (Lit.int .i64 x).wf = true ↔ -9223372036854775808 ≤ x ∧ x ≤ 9223372036854775807 := by
  simp [Lit.wf, IntKind.min, IntKind.max, IntKind.signed, IntKind.bits]
theorem wf8 {x : Int} : (Lit.int .u8 x).wf = true ↔ 0 ≤ x ∧ x ≤ 255 := by
  simp [Lit.wf, IntKind.min, IntKind.max, IntKind.signed, IntKind.bits]
theorem ev_succ {α : Type} {g : Nat → Option α} {r : α} (h : Ev (fun k => g (k + 1)) r) : Ev g r := by
  obtain ⟨K, h⟩ := h
  refine ⟨K + 1, fun k hk => ?_⟩
  obtain ⟨m, rfl⟩ : ∃ m, k = m + 1 := ⟨k - 1, by omega⟩
  exact h m (by omega)
theorem ev_fixed {α : Type} {x : Option α} {r : α} (h : x = some r) : Ev (fun _ => x) r := ⟨0, fun _ _ => h⟩
theorem ev_eq {α : Type} {g : Nat → Option α} {r s : α} (h : Ev g r) (e : r = s) : Ev g s := e ▸ h
/-- Never keep an equation 'wrap64 .. = ..' in the context where omega runs: it compares them by unfolding. -/
theorem wN {x : Int} {n : Nat} (e : x = (n : Int)) (h : n < 4611686018427387904) : wrap64 x = (n : Int) := by rw [e]; exact w64 (by omega) (by omega)

theorem ev_pos {α : Type} {c : Prop} [Decidable c] {a b : Nat → Option α} {r : α} (hc : c) (h : Ev a r) : Ev (fun k => if c then a k else b k) r := by
  obtain ⟨K, h⟩ := h
  exact ⟨K, fun k hk => by show (if c then a k else b k) = some r; rw [if_pos hc]; exact h k hk⟩
theorem ev_neg {α : Type} {c : Prop} [Decidable c] {a b : Nat → Option α} {r : α} (hc : ¬ c) (h : Ev b r) : Ev (fun k => if c then a k else b k) r := by
  obtain ⟨K, h⟩ := h
  exact ⟨K, fun k hk => by show (if c then a k else b k) = some r; rw [if_neg hc]; exact h k hk⟩
theorem ev_bind_some {α β : Type} {a : α} {f : Nat → α → Option β} {r : β} (h : Ev (fun k => f k a) r) : Ev (fun k => (some a).bind (f k)) r := h
theorem ev_bind_of {α β : Type} {x : Option α} {a : α} {f : Nat → α → Option β} {r : β} (hx : x = some a) (h : Ev (fun k => f k a) r) : Ev (fun k => x.bind (f k)) r := by
  subst hx; exact h

theorem rd_nat (l : List Int) (i : Nat) : rd l (i : Int) = l.getD i 0 := by simp [rd]
theorem rd_at {l : List Int} {i : Nat} (h : i < l.length) : rd l (i : Int) = l[i] := by rw [rd_nat, List.getD_eq_getElem?_getD, List.getElem?_eq_getElem h]; rfl
theorem take_set_succ {α : Type} (l : List α) (i : Nat) (a : α) (h : i < l.length) : (l.set i a).take (i + 1) = l.take i ++ [a] := by
  rw [List.take_succ_eq_append_getElem (by simpa using h), List.take_set, List.set_eq_of_length_le (by rw [List.length_take]; omega)]
  simp

theorem rdOf_at {α : Type} (d : α) {l : List α} {i : Nat} (h : i < l.length) : rdOf d l (i : Int) = l[i] := by
  unfold rdOf; rw [Int.toNat_natCast, List.getD_eq_getElem?_getD, List.getElem?_eq_getElem h]; rfl
theorem maxLen_eq : maxLen = 9223372036854775807 := rfl

theorem rdc {l : List S40} {i : Nat} (h : i < l.length) : rd_T40 l (i : Int) = l[i] := by
  unfold rd_T40; rw [Int.toNat_natCast, List.getD_eq_getElem?_getD, List.getElem?_eq_getElem h]; rfl
theorem style_ne (a b : S29) : ((!(a.f0 == b.f0) || (!(a.f1 == b.f1) || (!(a.f2 == b.f2) || (!(a.f3 == b.f3) || (!(a.f4 == b.f4)))))) = true) ↔ a ≠ b := by
  obtain ⟨a0, a1, a2, a3, a4⟩ := a
  obtain ⟨b0, b1, b2, b3, b4⟩ := b
  constructor
  · intro h e
    injection e with e0 e1 e2 e3 e4
    subst e0; subst e1; subst e2; subst e3; subst e4
    simp at h
  · intro h
    by_cases q0 : a0 = b0
    · by_cases q1 : a1 = b1
      · by_cases q2 : a2 = b2
        · by_cases q3 : a3 = b3
          · by_cases q4 : a4 = b4
            · subst q0; subst q1; subst q2; subst q3; subst q4; exact absurd rfl h
            · simp [q4]
          · simp [q3]
        · simp [q2]
      · simp [q1]
    · simp [q0]

theorem spec_l1In_eq (a b c : Int) : spec_l1In.f a b c = some (decide (b ≤ a) && decide (a ≤ c)) := by
  unfold spec_l1In.f
  by_cases h : a ≥ b
  · rw [if_pos h]; simp [h]
  · rw [if_neg h]; simp [show ¬ b ≤ a from h]

theorem impl_in_eq (a b c : Int) : impl_in.f a b c = some (decide (b ≤ a) && decide (a ≤ c)) := by
  unfold impl_in.f
  by_cases h : b ≤ a
  · rw [if_pos h]; simp [h]
  · rw [if_neg h]; simp [h]

def sokv (a b : Int) : Bool := (decide (0 ≤ a) && decide (a ≤ 8)) && (decide (0 ≤ b) && decide (b ≤ 8))
theorem spec_StyleOk_eq (a b : Int) (c d e : Bool) : spec_StyleOk.f a b c d e = some (sokv a b) := by
  simp only [spec_StyleOk.f, spec_l1In_eq, Option.bind_some, sokv]
  by_cases h : (decide (0 ≤ a) && decide (a ≤ 8)) = true
  · simp [h]
  · simp [h]
theorem impl_StyleOk_eq (a b : Int) (c d e : Bool) : impl_StyleOk.f a b c d e = some (sokv a b) := by
  simp only [impl_StyleOk.f, impl_in_eq, Option.bind_some, sokv]
  by_cases h : (decide (0 ≤ a) && decide (a ≤ 8)) = true
  · simp [h]
  · simp [h]

def rok (r : Int) : Bool := decide (0 ≤ r) && decide (r ≤ 1114111) && !(decide (55296 ≤ r) && decide (r ≤ 57343))
theorem rok_iff {r : Int} : rok r = true ↔ 0 ≤ r ∧ r ≤ 1114111 ∧ ¬ (55296 ≤ r ∧ r ≤ 57343) := by
  simp [rok]; omega

def wid (r : Int) : Int :=
  if rok r = false ∨ r < 32 ∨ (127 ≤ r ∧ r ≤ 159) ∨ (768 ≤ r ∧ r ≤ 879) then 0
  else if (4352 ≤ r ∧ r ≤ 4447) ∨ (12288 ≤ r ∧ r ≤ 55295) ∨ (127744 ≤ r ∧ r ≤ 131071) then 2 else 1
theorem wid_range (r : Int) : 0 ≤ wid r ∧ wid r ≤ 2 := by
  unfold wid
  repeat' split
  all_goals omega

theorem spec_RuneOk_eq (r : Int) : spec_RuneOk.f r = some (rok r) := by
  simp only [spec_RuneOk.f, spec_l1In_eq, Option.bind_some, rok]
  by_cases h : (decide (0 ≤ r) && decide (r ≤ 1114111)) = true
  · rw [if_pos h, h, Bool.true_and]
  · rw [if_neg h, Bool.eq_false_iff.mpr h, Bool.false_and]

theorem spec_Width_ev (r : Int) : Ev (fun k => spec_Width.f k r) (wid r) := by
  have j1 : Ev (fun k => spec_Width.j0 k r true) 0 := by
    refine ev_succ ?_
    simp only [spec_Width.j0, if_true]
    exact Ev.now _
  have j0 : Ev (fun k => spec_Width.j0 k r false) (if (4352 ≤ r ∧ r ≤ 4447) ∨ (12288 ≤ r ∧ r ≤ 55295) ∨ (127744 ≤ r ∧ r ≤ 131071) then 2 else 1) := by
    refine ev_succ ?_
    simp only [spec_Width.j0, spec_l1In_eq, Option.bind_some, Bool.false_eq_true, if_false]
    refine ev_fixed ?_
    simp only [Bool.and_eq_true, decide_eq_true_eq]
    repeat' split
    all_goals first | rfl | omega
  simp only [spec_Width.f, spec_RuneOk_eq, spec_l1In_eq, Option.bind_some]
  cases hk : rok r with
  | false => simp only [Bool.false_eq_true, if_false]; refine ev_eq j1 ?_; unfold wid; rw [if_pos (.inl hk)]
  | true =>
    simp only [if_true]
    by_cases h1 : r < 32
    · simp only [if_pos h1]; refine ev_eq j1 ?_; unfold wid; rw [if_pos (.inr (.inl h1))]
    · simp only [if_neg h1]
      by_cases h2 : 127 ≤ r ∧ r ≤ 159
      · simp only [h2.1, h2.2, decide_true, Bool.and_self, if_true]; refine ev_eq j1 ?_; unfold wid; rw [if_pos (.inr (.inr (.inl h2)))]
      · have e2 : (decide (127 ≤ r) && decide (r ≤ 159)) = false := by simpa using h2
        simp only [e2, Bool.false_eq_true, if_false]
        by_cases h3 : 768 ≤ r ∧ r ≤ 879
        · simp only [h3.1, h3.2, decide_true, Bool.and_self]; refine ev_eq j1 ?_; unfold wid; rw [if_pos (.inr (.inr (.inr h3)))]
        · have e3 : (decide (768 ≤ r) && decide (r ≤ 879)) = false := by simpa using h3
          simp only [e3]; refine ev_eq j0 ?_; unfold wid
          refine (if_neg ?_).symm
          rintro (h | h | h | h)
          · rw [hk] at h; cases h
          all_goals omega

theorem impl_RuneOk_eq (r : Int) : impl_RuneOk.f r = some (rok r) := by
  simp only [impl_RuneOk.f, impl_in_eq, Option.bind_some, rok]
  by_cases h : (decide (0 ≤ r) && decide (r ≤ 1114111)) = true
  · rw [if_pos h, h, Bool.true_and]
  · rw [if_neg h, Bool.eq_false_iff.mpr h, Bool.false_and]

theorem impl_Width_ev (r : Int) : Ev (fun k => impl_Width.f k r) (wid r) := by
  have j1 : Ev (fun k => impl_Width.j0 k r true) 0 := by
    refine ev_succ ?_
    simp only [impl_Width.j0, if_true]
    exact Ev.now _
  have j0 : Ev (fun k => impl_Width.j0 k r false) (if (4352 ≤ r ∧ r ≤ 4447) ∨ (12288 ≤ r ∧ r ≤ 55295) ∨ (127744 ≤ r ∧ r ≤ 131071) then 2 else 1) := by
    refine ev_succ ?_
    simp only [impl_Width.j0, impl_in_eq, Option.bind_some, Bool.false_eq_true, if_false]
    refine ev_fixed ?_
    simp only [Bool.and_eq_true, decide_eq_true_eq]
    repeat' split
    all_goals first | rfl | omega
  simp only [impl_Width.f, impl_RuneOk_eq, impl_in_eq, Option.bind_some]
  cases hk : rok r with
  | false => simp only [Bool.false_eq_true, if_false]; refine ev_eq j1 ?_; unfold wid; rw [if_pos (.inl hk)]
  | true =>
    simp only [if_true]
    by_cases h1 : r < 32
    · simp only [if_pos h1]; refine ev_eq j1 ?_; unfold wid; rw [if_pos (.inr (.inl h1))]
    · simp only [if_neg h1]
      by_cases h2 : 127 ≤ r ∧ r ≤ 159
      · simp only [h2.1, h2.2, decide_true, Bool.and_self, if_true]; refine ev_eq j1 ?_; unfold wid; rw [if_pos (.inr (.inr (.inl h2)))]
      · have e2 : (decide (127 ≤ r) && decide (r ≤ 159)) = false := by simpa using h2
        simp only [e2, Bool.false_eq_true, if_false]
        by_cases h3 : 768 ≤ r ∧ r ≤ 879
        · simp only [h3.1, h3.2, decide_true, Bool.and_self]; refine ev_eq j1 ?_; unfold wid; rw [if_pos (.inr (.inr (.inr h3)))]
        · have e3 : (decide (768 ≤ r) && decide (r ≤ 879)) = false := by simpa using h3
          simp only [e3]; refine ev_eq j0 ?_; unfold wid
          refine (if_neg ?_).symm
          rintro (h | h | h | h)
          · rw [hk] at h; cases h
          all_goals omega

def cellAt (l : List S40) (i : Nat) : S40 := rd_T40 l (i : Int)
/-- A cell of a row is right, beside its neighbours. -/
def CellOk (l : List S40) (i : Nat) : Prop :=
  sokv (cellAt l i).f1.f0 (cellAt l i).f1.f1 = true ∧
  (((cellAt l i).f2 = 0 ∧ wid (cellAt l i).f0 = 1) ∨
   ((cellAt l i).f2 = 1 ∧ wid (cellAt l i).f0 = 2 ∧ i + 1 < l.length ∧ (cellAt l (i + 1)).f2 = 2 ∧ (cellAt l (i + 1)).f1 = (cellAt l i).f1) ∨
   ((cellAt l i).f2 = 2 ∧ (cellAt l i).f0 = 0 ∧ 0 < i ∧ (cellAt l (i - 1)).f2 = 1))
def RowRight (l : List S40) : Prop := 1 ≤ l.length ∧ l.length ≤ 60 ∧ ∀ i, i < l.length → CellOk l i
theorem spec_RowOk_some (l : List S40) : ∃ b, Ev (fun k => spec_RowOk.f k l) b ∧ (b = true ↔ RowRight l) := by
  have go : l.length ≤ 60 → ∀ (d i : Nat), i + d = l.length → ∃ b, Ev (fun k => spec_RowOk.l0 k l (l.length : Int) (i : Int)) b ∧ (b = true ↔ ∀ j, i ≤ j → j < l.length → CellOk l j) := by
    intro hl d
    induction d with
    | zero =>
      intro i h
      refine ⟨true, ev_succ ?_, by simp; omega⟩
      simp only [spec_RowOk.l0]
      exact ev_neg (by omega) (Ev.now _)
    | succ d ih =>
      intro i h
      obtain ⟨b, e, hb⟩ := ih (i + 1) (by omega)
      have w1 : ∀ _ : Unit, wrap64 ((i : Int) + 1) = ((i + 1 : Nat) : Int) := fun _ => by rw [w64 (by omega) (by omega)]; omega
      have step : CellOk l i → (b = true ↔ ∀ j, i ≤ j → j < l.length → CellOk l j) := by
        intro c
        rw [hb]
        constructor
        · intro q j h1 h2
          by_cases e : j = i
          · rw [e]; exact c
          · exact q j (by omega) h2
        · intro q j h1 h2; exact q j (by omega) h2
      have bad : ¬ CellOk l i → (false = true ↔ ∀ j, i ≤ j → j < l.length → CellOk l j) := by
        intro c
        constructor
        · intro x; cases x
        · intro q; exact absurd (q i (Nat.le_refl _) (by omega)) c
      suffices hh : (CellOk l i ∧ Ev (fun k => spec_RowOk.l0 k l (l.length : Int) (i : Int)) b) ∨ (¬ CellOk l i ∧ Ev (fun k => spec_RowOk.l0 k l (l.length : Int) (i : Int)) false) by
        rcases hh with ⟨c, e⟩ | ⟨c, e⟩
        · exact ⟨b, e, step c⟩
        · exact ⟨false, e, bad c⟩
      have fold : ∀ {r : Bool}, Ev (fun k => spec_RowOk.l0 (k + 1) l (l.length : Int) (i : Int)) r → Ev (fun k => spec_RowOk.l0 k l (l.length : Int) (i : Int)) r := fun h => ev_succ h
      have g0 : rd_T40 l (i : Int) = cellAt l i := rfl
      have g1 : rd_T40 l ((i + 1 : Nat) : Int) = cellAt l (i + 1) := rfl
      by_cases q1 : sokv (cellAt l i).f1.f0 (cellAt l i).f1.f1 = true
      case neg =>
        refine .inr ⟨fun c => q1 c.1, fold ?_⟩
        simp only [spec_RowOk.l0, g0, spec_StyleOk_eq, Option.bind_some]
        exact ev_pos (by omega) (ev_pos (by omega) (ev_pos (by omega) (ev_neg q1 (Ev.now _))))
      by_cases p0 : (cellAt l i).f2 = 0
      · by_cases q2 : wid (cellAt l i).f0 = 1
        · refine .inl ⟨⟨q1, .inl ⟨p0, q2⟩⟩, fold ?_⟩
          simp only [spec_RowOk.l0, g0, spec_StyleOk_eq, Option.bind_some, w1 ()]
          exact ev_pos (by omega) (ev_pos (by omega) (ev_pos (by omega) (ev_pos q1 (ev_pos p0 (Ev.bind (spec_Width_ev _) (ev_pos q2 e))))))
        · refine .inr ⟨fun c => by rcases c.2 with x | x | x <;> omega, fold ?_⟩
          simp only [spec_RowOk.l0, g0, spec_StyleOk_eq, Option.bind_some, w1 ()]
          exact ev_pos (by omega) (ev_pos (by omega) (ev_pos (by omega) (ev_pos q1 (ev_pos p0 (Ev.bind (spec_Width_ev _) (ev_neg q2 (Ev.now _)))))))
      by_cases p1 : (cellAt l i).f2 = 1
      · by_cases q2 : wid (cellAt l i).f0 = 2
        case neg =>
          refine .inr ⟨fun c => by rcases c.2 with x | x | x <;> omega, fold ?_⟩
          simp only [spec_RowOk.l0, g0, spec_StyleOk_eq, Option.bind_some, w1 ()]
          exact ev_pos (by omega) (ev_pos (by omega) (ev_pos (by omega) (ev_pos q1 (ev_neg p0 (ev_pos p1 (Ev.bind (spec_Width_ev _) (ev_neg q2 (Ev.now _))))))))
        by_cases q3 : i + 1 = l.length
        · refine .inr ⟨fun c => by rcases c.2 with x | x | x <;> omega, fold ?_⟩
          simp only [spec_RowOk.l0, g0, spec_StyleOk_eq, Option.bind_some, w1 ()]
          exact ev_pos (by omega) (ev_pos (by omega) (ev_pos (by omega) (ev_pos q1 (ev_neg p0 (ev_pos p1 (Ev.bind (spec_Width_ev _) (ev_pos q2 (ev_pos (by omega) (Ev.now _)))))))))
        by_cases q4 : (cellAt l (i + 1)).f2 = 2
        case neg =>
          refine .inr ⟨fun c => by rcases c.2 with x | x | x <;> omega, fold ?_⟩
          simp only [spec_RowOk.l0, g0, spec_StyleOk_eq, Option.bind_some, w1 (), g1]
          exact ev_pos (by omega) (ev_pos (by omega) (ev_pos (by omega) (ev_pos q1 (ev_neg p0 (ev_pos p1 (Ev.bind (spec_Width_ev _) (ev_pos q2 (ev_neg (by omega) (ev_pos (by omega) (ev_pos (by omega) (ev_neg q4 (Ev.now _))))))))))))
        by_cases q5 : (cellAt l (i + 1)).f1 = (cellAt l i).f1
        · refine .inl ⟨⟨q1, .inr (.inl ⟨p1, q2, by omega, q4, q5⟩)⟩, fold ?_⟩
          simp only [spec_RowOk.l0, g0, spec_StyleOk_eq, Option.bind_some, w1 (), g1]
          exact ev_pos (by omega) (ev_pos (by omega) (ev_pos (by omega) (ev_pos q1 (ev_neg p0 (ev_pos p1 (Ev.bind (spec_Width_ev _) (ev_pos q2 (ev_neg (by omega) (ev_pos (by omega) (ev_pos (by omega) (ev_pos q4 (ev_neg (fun x => (style_ne _ _).mp x q5) e))))))))))))
        · refine .inr ⟨fun c => ?_, fold ?_⟩
          · rcases c.2 with x | x | x
            · omega
            · exact q5 x.2.2.2.2
            · omega
          simp only [spec_RowOk.l0, g0, spec_StyleOk_eq, Option.bind_some, w1 (), g1]
          exact ev_pos (by omega) (ev_pos (by omega) (ev_pos (by omega) (ev_pos q1 (ev_neg p0 (ev_pos p1 (Ev.bind (spec_Width_ev _) (ev_pos q2 (ev_neg (by omega) (ev_pos (by omega) (ev_pos (by omega) (ev_pos q4 (ev_pos ((style_ne _ _).mpr q5) (Ev.now _)))))))))))))
      by_cases p2 : (cellAt l i).f2 = 2
      case neg =>
        refine .inr ⟨fun c => by rcases c.2 with x | x | x <;> omega, fold ?_⟩
        simp only [spec_RowOk.l0, g0, spec_StyleOk_eq, Option.bind_some, w1 ()]
        exact ev_pos (by omega) (ev_pos (by omega) (ev_pos (by omega) (ev_pos q1 (ev_neg p0 (ev_neg p1 (ev_neg p2 (Ev.now _)))))))
      by_cases q2 : (cellAt l i).f0 = 0
      case neg =>
        refine .inr ⟨fun c => by rcases c.2 with x | x | x <;> omega, fold ?_⟩
        simp only [spec_RowOk.l0, g0, spec_StyleOk_eq, Option.bind_some, w1 ()]
        exact ev_pos (by omega) (ev_pos (by omega) (ev_pos (by omega) (ev_pos q1 (ev_neg p0 (ev_neg p1 (ev_pos p2 (ev_neg q2 (Ev.now _))))))))
      by_cases q3 : i = 0
      · refine .inr ⟨fun c => by rcases c.2 with x | x | x <;> omega, fold ?_⟩
        simp only [spec_RowOk.l0, g0, spec_StyleOk_eq, Option.bind_some, w1 ()]
        exact ev_pos (by omega) (ev_pos (by omega) (ev_pos (by omega) (ev_pos q1 (ev_neg p0 (ev_neg p1 (ev_pos p2 (ev_pos q2 (ev_pos (by omega) (Ev.now _)))))))))
      have w2 : ∀ _ : Unit, wrap64 ((i : Int) - 1) = ((i - 1 : Nat) : Int) := fun _ => by rw [w64 (by omega) (by omega)]; omega
      have g2 : rd_T40 l ((i - 1 : Nat) : Int) = cellAt l (i - 1) := rfl
      by_cases q4 : (cellAt l (i - 1)).f2 = 1
      · refine .inl ⟨⟨q1, .inr (.inr ⟨p2, q2, by omega, q4⟩)⟩, fold ?_⟩
        simp only [spec_RowOk.l0, g0, spec_StyleOk_eq, Option.bind_some, w1 (), w2 (), g2]
        exact ev_pos (by omega) (ev_pos (by omega) (ev_pos (by omega) (ev_pos q1 (ev_neg p0 (ev_neg p1 (ev_pos p2 (ev_pos q2 (ev_neg (by omega) (ev_pos (by omega) (ev_pos (by omega) (ev_pos q4 e)))))))))))
      · refine .inr ⟨fun c => by rcases c.2 with x | x | x <;> omega, fold ?_⟩
        simp only [spec_RowOk.l0, g0, spec_StyleOk_eq, Option.bind_some, w1 (), w2 (), g2]
        exact ev_pos (by omega) (ev_pos (by omega) (ev_pos (by omega) (ev_pos q1 (ev_neg p0 (ev_neg p1 (ev_pos p2 (ev_pos q2 (ev_neg (by omega) (ev_pos (by omega) (ev_pos (by omega) (ev_neg q4 (Ev.now _))))))))))))
  have jt : Ev (fun k => spec_RowOk.j0 k l (l.length : Int) true) false := by
    refine ev_succ ?_
    simp only [spec_RowOk.j0]
    exact ev_pos (by trivial) (Ev.now _)
  unfold spec_RowOk.f
  by_cases h1 : (l.length : Int) < 1
  · exact ⟨false, ev_pos h1 jt, ⟨fun x => (by cases x), fun x => by have := x.1; omega⟩⟩
  by_cases h2 : (l.length : Int) > 60
  · refine ⟨false, ev_neg h1 ?_, ⟨fun x => (by cases x), fun x => by have := x.2.1; omega⟩⟩
    rw [decide_eq_true h2]; exact jt
  · obtain ⟨b, e, hb⟩ := go (by omega) l.length 0 (by omega)
    refine ⟨b, ev_neg h1 (ev_succ ?_), ?_⟩
    · simp only [spec_RowOk.j0]
      exact ev_neg (by simp; omega) e
    · rw [hb]
      exact ⟨fun q => ⟨by omega, by omega, fun i hi => q i (by omega) hi⟩, fun q j _ hj => q.2.2 j hj⟩
theorem impl_isCell_ev (x : S40) : Ev (fun k => impl_isCell.f k x.f0 x.f1.f0 x.f1.f1 x.f1.f2 x.f1.f3 x.f1.f4 x.f2)
    (if x.f2 = 0 then decide (wid x.f0 = 1) && sokv x.f1.f0 x.f1.f1 else if x.f2 = 1 then decide (wid x.f0 = 2) && sokv x.f1.f0 x.f1.f1 else if x.f2 = 2 then decide (x.f0 = 0) && sokv x.f1.f0 x.f1.f1 else false) := by
  unfold impl_isCell.f
  simp only [impl_StyleOk_eq, Option.bind_some]
  by_cases p0 : x.f2 = 0
  · rw [if_pos p0]
    refine ev_pos p0 (Ev.bind (impl_Width_ev _) ?_)
    by_cases q : wid x.f0 = 1
    · exact ev_pos q (ev_eq (Ev.now _) (by rw [decide_eq_true q]; simp))
    · exact ev_neg q (ev_eq (Ev.now _) (by rw [decide_eq_false q]; simp))
  rw [if_neg p0]
  refine ev_neg p0 ?_
  by_cases p1 : x.f2 = 1
  · rw [if_pos p1]
    refine ev_pos p1 (Ev.bind (impl_Width_ev _) ?_)
    by_cases q : wid x.f0 = 2
    · exact ev_pos q (ev_eq (Ev.now _) (by rw [decide_eq_true q]; simp))
    · exact ev_neg q (ev_eq (Ev.now _) (by rw [decide_eq_false q]; simp))
  rw [if_neg p1]
  refine ev_neg p1 ?_
  by_cases p2 : x.f2 = 2
  · refine ev_eq (r := decide (x.f0 = 0) && sokv x.f1.f0 x.f1.f1) (ev_pos p2 ?_) (if_pos p2).symm
    by_cases q : x.f0 = 0
    · exact ev_pos q (ev_eq (Ev.now _) (by rw [decide_eq_true q]; simp))
    · exact ev_neg q (ev_eq (Ev.now _) (by rw [decide_eq_false q]; simp))
  · exact ev_eq (ev_neg p2 (Ev.now _)) (if_neg p2).symm
/-- A cell is right in itself. -/
def CellSelf (x : S40) : Prop := sokv x.f1.f0 x.f1.f1 = true ∧ ((x.f2 = 0 ∧ wid x.f0 = 1) ∨ (x.f2 = 1 ∧ wid x.f0 = 2) ∨ (x.f2 = 2 ∧ x.f0 = 0))
theorem impl_isCell_some (x : S40) : ∃ b, Ev (fun k => impl_isCell.f k x.f0 x.f1.f0 x.f1.f1 x.f1.f2 x.f1.f3 x.f1.f4 x.f2) b ∧ (b = true ↔ CellSelf x) := by
  refine ⟨_, impl_isCell_ev x, ?_⟩
  unfold CellSelf
  by_cases p0 : x.f2 = 0
  · rw [if_pos p0]; simp only [Bool.and_eq_true, decide_eq_true_eq]
    exact ⟨fun h => ⟨h.2, .inl ⟨p0, h.1⟩⟩, fun h => ⟨by rcases h.2 with q | q | q <;> omega, h.1⟩⟩
  rw [if_neg p0]
  by_cases p1 : x.f2 = 1
  · rw [if_pos p1]; simp only [Bool.and_eq_true, decide_eq_true_eq]
    exact ⟨fun h => ⟨h.2, .inr (.inl ⟨p1, h.1⟩)⟩, fun h => ⟨by rcases h.2 with q | q | q <;> omega, h.1⟩⟩
  rw [if_neg p1]
  by_cases p2 : x.f2 = 2
  · rw [if_pos p2]; simp only [Bool.and_eq_true, decide_eq_true_eq]
    exact ⟨fun h => ⟨h.2, .inr (.inr ⟨p2, h.1⟩)⟩, fun h => ⟨by rcases h.2 with q | q | q <;> omega, h.1⟩⟩
  rw [if_neg p2]
  exact ⟨fun h => (by cases h), fun h => by rcases h.2 with q | q | q <;> omega⟩
/-- What impl asks of a cell and the one ahead of it. -/
def CellI (l : List S40) (i : Nat) : Prop := CellSelf (cellAt l i) ∧ (0 < i → ((cellAt l (i - 1)).f2 = 1 ↔ (cellAt l i).f2 = 2) ∧ ((cellAt l (i - 1)).f2 = 1 → (cellAt l (i - 1)).f1 = (cellAt l i).f1)) ∧ (i = 0 → (cellAt l i).f2 ≠ 2)
theorem cell_iff (l : List S40) (n : Nat) (hn : l.length = n) (h1 : 1 ≤ n) : ((∀ i, i < n → CellI l i) ∧ (cellAt l (n - 1)).f2 ≠ 1) ↔ ∀ i, i < n → CellOk l i := by
  constructor
  · rintro ⟨h, hl⟩ i hi
    obtain ⟨hs, ha, h0⟩ := h i hi
    refine ⟨hs.1, ?_⟩
    rcases hs.2 with q | q | q
    · exact .inl q
    · refine .inr (.inl ⟨q.1, q.2, ?_⟩)
      have hne : i ≠ n - 1 := fun e => hl (e ▸ q.1)
      obtain ⟨_, hb, _⟩ := h (i + 1) (by omega)
      have := hb (by omega)
      rw [show i + 1 - 1 = i by omega] at this
      exact ⟨by omega, this.1.mp q.1, (this.2 q.1).symm⟩
    · refine .inr (.inr ⟨q.1, q.2, ?_⟩)
      have hp : 0 < i := by
        rcases Nat.eq_zero_or_pos i with e | e
        · exact absurd q.1 (h0 e)
        · exact e
      exact ⟨hp, (ha hp).1.mpr q.1⟩
  · intro h
    have last : (cellAt l (n - 1)).f2 ≠ 1 := by
      intro e
      rcases (h (n - 1) (by omega)).2 with q | q | q <;> omega
    refine ⟨fun i hi => ?_, last⟩
    obtain ⟨hs, hc⟩ := h i hi
    refine ⟨⟨hs, ?_⟩, ?_, ?_⟩
    · rcases hc with q | q | q
      · exact .inl q
      · exact .inr (.inl ⟨q.1, q.2.1⟩)
      · exact .inr (.inr ⟨q.1, q.2.1⟩)
    · intro hp
      obtain ⟨_, hd⟩ := h (i - 1) (by omega)
      rw [show i - 1 + 1 = i by omega] at hd
      refine ⟨⟨fun e => ?_, fun e => ?_⟩, fun e => ?_⟩
      · rcases hd with q | q | q
        · omega
        · exact q.2.2.2.1
        · omega
      · rcases hc with q | q | q
        · omega
        · omega
        · exact q.2.2.2
      · rcases hd with q | q | q
        · omega
        · exact q.2.2.2.2.symm
        · omega
    · intro e0 e
      rcases hc with q | q | q <;> omega
theorem impl_RowOk_some (l : List S40) (hl : l.length ≤ 1048576) : ∃ b, Ev (fun k => impl_RowOk.f k l) b ∧ (b = true ↔ RowRight l) := by
  have ends : ∃ b, Ev (fun k => impl_RowOk.l0 k l l (l.length : Int) (l.length : Int)) b ∧ (b = true ↔ (1 ≤ l.length ∧ l.length ≤ 60 ∧ (cellAt l (l.length - 1)).f2 ≠ 1)) := by
    by_cases h1 : 1 ≤ l.length ∧ l.length ≤ 60
    · have w2 : ∀ _ : Unit, wrap64 ((l.length : Int) - 1) = ((l.length - 1 : Nat) : Int) := fun _ => by rw [w64 (by omega) (by omega)]; omega
      have g2 : rd_T40 l ((l.length - 1 : Nat) : Int) = cellAt l (l.length - 1) := rfl
      refine ⟨(cellAt l (l.length - 1)).f2 != 1, ev_succ ?_, ?_⟩
      · simp only [impl_RowOk.l0, impl_in_eq, Option.bind_some, w2 (), g2]
        exact ev_neg (by omega) (ev_pos (by rw [decide_eq_true (p := (1 : Int) ≤ l.length) (by omega), decide_eq_true (p := (l.length : Int) ≤ 60) (by omega)]; rfl) (ev_pos (by omega) (ev_pos (by omega) (Ev.now _))))
      · rw [bne_iff_ne]; exact ⟨fun x => ⟨h1.1, h1.2, x⟩, fun x => x.2.2⟩
    · refine ⟨false, ev_succ ?_, ⟨fun x => (by cases x), fun x => absurd ⟨x.1, x.2.1⟩ h1⟩⟩
      simp only [impl_RowOk.l0, impl_in_eq, Option.bind_some]
      refine ev_neg (by omega) (ev_neg ?_ (Ev.now _))
      simp only [Bool.and_eq_true, decide_eq_true_eq]; omega
  obtain ⟨b, eb, hb⟩ := ends
  have go : ∀ (d i : Nat), i + d = l.length → ∃ c, Ev (fun k => impl_RowOk.l0 k l l (l.length : Int) (i : Int)) c ∧ (c = true ↔ ((∀ j, i ≤ j → j < l.length → CellI l j) ∧ b = true)) := by
    intro d
    induction d with
    | zero =>
      intro i h
      obtain rfl : i = l.length := by omega
      exact ⟨b, eb, ⟨fun x => ⟨fun j h1 h2 => by omega, x⟩, fun x => x.2⟩⟩
    | succ d ih =>
      intro i h
      obtain ⟨c, e, hc⟩ := ih (i + 1) (by omega)
      have w1 : ∀ _ : Unit, wrap64 ((i : Int) + 1) = ((i + 1 : Nat) : Int) := fun _ => by rw [w64 (by omega) (by omega)]; omega
      have g0 : rd_T40 l (i : Int) = cellAt l i := rfl
      obtain ⟨s, es, hs⟩ := impl_isCell_some (cellAt l i)
      suffices hh : (CellI l i ∧ Ev (fun k => impl_RowOk.l0 k l l (l.length : Int) (i : Int)) c) ∨ (¬ CellI l i ∧ Ev (fun k => impl_RowOk.l0 k l l (l.length : Int) (i : Int)) false) by
        rcases hh with ⟨q, e⟩ | ⟨q, e⟩
        · refine ⟨c, e, ?_⟩
          rw [hc]
          refine ⟨fun x => ⟨fun j h1 h2 => ?_, x.2⟩, fun x => ⟨fun j h1 h2 => x.1 j (by omega) h2, x.2⟩⟩
          by_cases e : j = i
          · rw [e]; exact q
          · exact x.1 j (by omega) h2
        · exact ⟨false, e, ⟨fun x => (by cases x), fun x => absurd (x.1 i (Nat.le_refl _) (by omega)) q⟩⟩
      by_cases hp : i = 0
      · subst hp
        cases s with
        | false =>
          refine .inr ⟨fun x => (by cases hs.mpr x.1), ev_succ ?_⟩
          simp only [impl_RowOk.l0, g0]
          exact ev_pos (by omega) (ev_pos (by omega) (ev_pos (by omega) (ev_neg (by omega) (Ev.bind es (ev_neg (by simp) (Ev.now _))))))
        | true =>
          by_cases q : (cellAt l 0).f2 = 2
          · refine .inr ⟨fun x => x.2.2 rfl q, ev_succ ?_⟩
            simp only [impl_RowOk.l0, g0]
            exact ev_pos (by omega) (ev_pos (by omega) (ev_pos (by omega) (ev_neg (by omega) (Ev.bind es (ev_pos rfl (ev_pos (by rw [beq_iff_eq.mpr q]; rfl) (Ev.now _)))))))
          · refine .inl ⟨⟨hs.mp rfl, fun x => by omega, fun _ => q⟩, ev_succ ?_⟩
            simp only [impl_RowOk.l0, g0, w1 ()]
            exact ev_pos (by omega) (ev_pos (by omega) (ev_pos (by omega) (ev_neg (by omega) (Ev.bind es (ev_pos rfl (ev_neg (by rw [beq_eq_false_iff_ne.mpr q]; simp) e))))))
      · have w2 : ∀ _ : Unit, wrap64 ((i : Int) - 1) = ((i - 1 : Nat) : Int) := fun _ => by rw [w64 (by omega) (by omega)]; omega
        have g2 : rd_T40 l ((i - 1 : Nat) : Int) = cellAt l (i - 1) := rfl
        cases s with
        | false =>
          refine .inr ⟨fun x => (by cases hs.mpr x.1), ev_succ ?_⟩
          simp only [impl_RowOk.l0, g0, w2 (), g2]
          exact ev_pos (by omega) (ev_pos (by omega) (ev_pos (by omega) (ev_pos (by omega) (ev_pos (by omega) (ev_pos (by omega) (Ev.bind es (ev_neg (by simp) (Ev.now _))))))))
        | true =>
          have hpre : ∀ {r : Bool}, Ev (fun k => (if ((((cellAt l (i - 1)).f2) == 1) != (((cellAt l i).f2) == 2)) = true then (some false) else (if ((cellAt l (i - 1)).f2) = 1 then (if (!(((cellAt l (i - 1)).f1.f0) == ((cellAt l i).f1.f0)) || (!(((cellAt l (i - 1)).f1.f1) == ((cellAt l i).f1.f1)) || (!(((cellAt l (i - 1)).f1.f2) == ((cellAt l i).f1.f2)) || (!(((cellAt l (i - 1)).f1.f3) == ((cellAt l i).f1.f3)) || (!(((cellAt l (i - 1)).f1.f4) == ((cellAt l i).f1.f4))))))) = true then (some false) else (impl_RowOk.l0 k l l (l.length : Int) ((i + 1 : Nat) : Int))) else (impl_RowOk.l0 k l l (l.length : Int) ((i + 1 : Nat) : Int))))) r → Ev (fun k => impl_RowOk.l0 k l l (l.length : Int) (i : Int)) r := by
            intro r hr
            refine ev_succ ?_
            simp only [impl_RowOk.l0, g0, w1 (), w2 (), g2]
            exact ev_pos (by omega) (ev_pos (by omega) (ev_pos (by omega) (ev_pos (by omega) (ev_pos (by omega) (ev_pos (by omega) (Ev.bind es (ev_pos rfl hr)))))))
          by_cases q1 : (cellAt l (i - 1)).f2 = 1
          · by_cases q2 : (cellAt l i).f2 = 2
            · by_cases q3 : (cellAt l (i - 1)).f1 = (cellAt l i).f1
              · exact .inl ⟨⟨hs.mp rfl, fun _ => ⟨⟨fun _ => q2, fun _ => q1⟩, fun _ => q3⟩, fun x => absurd x hp⟩, hpre (ev_neg (by rw [beq_iff_eq.mpr q1, beq_iff_eq.mpr q2]; simp) (ev_pos q1 (ev_neg (fun x => (style_ne _ _).mp x q3) e)))⟩
              · exact .inr ⟨fun x => q3 ((x.2.1 (by omega)).2 q1), hpre (ev_neg (by rw [beq_iff_eq.mpr q1, beq_iff_eq.mpr q2]; simp) (ev_pos q1 (ev_pos ((style_ne _ _).mpr q3) (Ev.now _))))⟩
            · exact .inr ⟨fun x => q2 ((x.2.1 (by omega)).1.mp q1), hpre (ev_pos (by rw [beq_iff_eq.mpr q1, beq_eq_false_iff_ne.mpr q2]; rfl) (Ev.now _))⟩
          · by_cases q2 : (cellAt l i).f2 = 2
            · exact .inr ⟨fun x => q1 ((x.2.1 (by omega)).1.mpr q2), hpre (ev_pos (by rw [beq_eq_false_iff_ne.mpr q1, beq_iff_eq.mpr q2]; rfl) (Ev.now _))⟩
            · exact .inl ⟨⟨hs.mp rfl, fun _ => ⟨⟨fun x => absurd x q1, fun x => absurd x q2⟩, fun x => absurd x q1⟩, fun x => absurd x hp⟩, hpre (ev_neg (by rw [beq_eq_false_iff_ne.mpr q1, beq_eq_false_iff_ne.mpr q2]; simp) (ev_neg q1 e))⟩
  unfold impl_RowOk.f
  obtain ⟨c, e, hc⟩ := go l.length 0 (by omega)
  refine ⟨c, e, ?_⟩
  rw [hc, hb]
  constructor
  · rintro ⟨h1, h2, h3, h4⟩
    exact ⟨h2, h3, (cell_iff l _ rfl h2).mp ⟨fun i hi => h1 i (by omega) hi, h4⟩⟩
  · rintro ⟨h2, h3, h5⟩
    obtain ⟨h1, h4⟩ := (cell_iff l _ rfl h2).mpr h5
    exact ⟨fun j _ hj => h1 j hj, h2, h3, h4⟩

/-- A blank cell in a style. -/
def blk (s : S29) : S40 := ⟨32, s, 0⟩

theorem cellAt_lt {l : List S40} {i : Nat} (h : i < l.length) : cellAt l i = l[i] := rdc h
theorem cellAt_set (l : List S40) (j i : Nat) (v : S40) (hj : j < l.length) : cellAt (l.set j v) i = if i = j then v else cellAt l i := by
  unfold cellAt rd_T40
  rw [Int.toNat_natCast, List.getD_eq_getElem?_getD, List.getD_eq_getElem?_getD, List.getElem?_set]
  by_cases h : i = j
  · rw [if_pos h, if_pos h.symm, if_pos (by omega)]; rfl
  · rw [if_neg h, if_neg (fun e => h e.symm)]
theorem cells_ext {a b : List S40} (hl : a.length = b.length) (h : ∀ i, i < a.length → cellAt a i = cellAt b i) : a = b := by
  refine List.ext_getElem hl (fun i h1 h2 => ?_)
  have := h i h1
  rwa [cellAt_lt h1, cellAt_lt h2] at this
/-- A cell, blanked in its style. -/
def bl (x : S40) : S40 := ⟨32, x.f1, 0⟩
/-- Cells from a place to a place, all the same. -/
def fillv (l : List S40) (a b : Nat) (c : S40) : List S40 := l.take a ++ List.replicate (b - a) c ++ l.drop b
theorem fillv_length (l : List S40) (a b : Nat) (c : S40) (h : a ≤ b) (hb : b ≤ l.length) : (fillv l a b c).length = l.length := by
  simp [fillv]; omega
theorem fillv_self (l : List S40) (a : Nat) (c : S40) : fillv l a a c = l := by simp [fillv]
theorem fillv_set (l : List S40) (a b : Nat) (c : S40) (h : a < b) (hb : b ≤ l.length) : fillv (l.set a c) (a + 1) b c = fillv l a b c := by
  unfold fillv
  rw [take_set_succ _ _ _ (by omega), List.drop_set_of_lt (by omega)]
  rw [show b - a = (b - (a + 1)) + 1 by omega, List.replicate_succ]
  simp
theorem cellAt_fillv (l : List S40) (a b : Nat) (c : S40) (h : a ≤ b) (hb : b ≤ l.length) (i : Nat) : cellAt (fillv l a b c) i = if a ≤ i ∧ i < b then c else cellAt l i := by
  unfold cellAt rd_T40 fillv
  rw [Int.toNat_natCast, List.getD_eq_getElem?_getD, List.getD_eq_getElem?_getD]
  by_cases h1 : i < a
  · rw [if_neg (by omega), List.append_assoc, List.getElem?_append_left (by simp; omega), List.getElem?_take, if_pos h1]
  · by_cases h2 : i < b
    · rw [if_pos (by omega), List.append_assoc, List.getElem?_append_right (by simp; omega), List.getElem?_append_left (by simp; omega)]
      rw [List.getElem?_replicate, if_pos (by simp; omega)]; rfl
    · rw [if_neg (by omega), List.getElem?_append_right (by simp; omega), List.getElem?_drop]
      congr 2
      simp; omega
/-- A wide rune parted ahead of a place. -/
def partv (l : List S40) (a : Nat) : List S40 := if 1 ≤ a ∧ a < l.length ∧ (cellAt l a).f2 = 2 then (l.set (a - 1) (bl (cellAt l (a - 1)))).set a (bl (cellAt l a)) else l
theorem partv_length (l : List S40) (a : Nat) : (partv l a).length = l.length := by
  unfold partv
  by_cases h : 1 ≤ a ∧ a < l.length ∧ (cellAt l a).f2 = 2
  · rw [if_pos h]; simp
  · rw [if_neg h]
theorem cellAt_partv (l : List S40) (a i : Nat) : cellAt (partv l a) i = if 1 ≤ a ∧ a < l.length ∧ (cellAt l a).f2 = 2 ∧ (i = a ∨ i + 1 = a) then bl (cellAt l i) else cellAt l i := by
  unfold partv
  by_cases h : 1 ≤ a ∧ a < l.length ∧ (cellAt l a).f2 = 2
  · rw [if_pos h, cellAt_set _ _ _ _ (by rw [List.length_set]; omega), cellAt_set _ _ _ _ (by omega)]
    by_cases h1 : i = a
    · rw [if_pos h1, if_pos ⟨h.1, h.2.1, h.2.2, .inl h1⟩, h1]
    · by_cases h2 : i = a - 1
      · rw [if_neg h1, if_pos h2, if_pos ⟨h.1, h.2.1, h.2.2, .inr (by omega)⟩, h2]
      · rw [if_neg h1, if_neg h2, if_neg (fun q => by omega)]
  · rw [if_neg h, if_neg (fun q => h ⟨q.1, q.2.1, q.2.2.1⟩)]
theorem impl_part_ev (l : List S40) (a : Nat) (hl : l.length < 4611686018427387904) (ha : a ≤ l.length) : Ev (fun k => impl_part.f k l (a : Int)) (partv l a) := by
  have w1 : ∀ _ : Unit, wrap64 ((l.length : Int) - 1) = (l.length : Int) - 1 := fun _ => w64 (by omega) (by omega)
  simp only [impl_part.f, impl_in_eq, Option.bind_some, w1 ()]
  have no : ∀ (q : ¬ (1 ≤ a ∧ a < l.length ∧ (cellAt l a).f2 = 2)), Ev (fun k => impl_part.j0 k l (a : Int) false) (partv l a) := by
    intro q
    refine ev_succ ?_
    simp only [impl_part.j0]
    refine ev_neg (by simp) (ev_eq (Ev.now _) ?_)
    unfold partv; rw [if_neg q]
  by_cases h : 1 ≤ a ∧ a < l.length
  · refine ev_pos (by simp; omega) (ev_pos (by omega) (ev_pos (by omega) ?_))
    show Ev (fun k => impl_part.j0 k l (a : Int) ((cellAt l a).f2 == 2)) (partv l a)
    by_cases q : (cellAt l a).f2 = 2
    · have wa : ∀ _ : Unit, wrap64 ((a : Int) - 1) = ((a - 1 : Nat) : Int) := fun _ => by rw [w64 (by omega) (by omega)]; omega
      refine ev_succ ?_
      simp only [impl_part.j0, wa (), impl_blank.f, Option.bind_some, Int.toNat_natCast]
      refine ev_pos (by simp [q]) (ev_pos (by omega) (ev_pos (by omega) (ev_pos (by omega) (ev_pos (by omega) (ev_eq (Ev.now _) ?_)))))
      unfold partv; rw [if_pos ⟨h.1, h.2, q⟩]; rfl
    · rw [show ((cellAt l a).f2 == 2) = false by simpa using q]
      exact no (fun x => q x.2.2)
  · exact ev_neg (by simp; omega) (no (fun x => h ⟨x.1, x.2.1⟩))
/-- Halves that stand alone become blank. -/
def aloneAt (m : List S40) (i : Nat) : Prop := ((cellAt m i).f2 = 1 ∧ (i + 1 = m.length ∨ (cellAt m (i + 1)).f2 ≠ 2)) ∨ ((cellAt m i).f2 = 2 ∧ (i = 0 ∨ (cellAt m (i - 1)).f2 ≠ 1))
instance (m : List S40) (i : Nat) : Decidable (aloneAt m i) := by unfold aloneAt; exact inferInstance
def mendAt (m : List S40) (i : Nat) : S40 := if aloneAt m i then bl (cellAt m i) else cellAt m i
def mended (m : List S40) : List S40 := (List.range m.length).map (mendAt m)
theorem mended_length (m : List S40) : (mended m).length = m.length := by simp [mended]
theorem cellAt_mended (m : List S40) (i : Nat) (h : i < m.length) : cellAt (mended m) i = mendAt m i := by
  rw [cellAt_lt (by rw [mended_length]; exact h)]
  simp [mended]

theorem spec_l4Mended_ev (m : List S40) (hl : m.length < 1000000) : Ev (fun k => spec_l4Mended.f k m) (mended m) := by
  have go : ∀ (d i : Nat) (out : List S40), i + d = m.length → out.length = m.length → (∀ j, j < m.length → cellAt out j = if j < i then mendAt m j else cellAt m j) → Ev (fun k => spec_l4Mended.l0 k m out (i : Int)) (mended m) := by
    intro d
    induction d with
    | zero =>
      intro i out h hm hc
      refine ev_succ ?_
      simp only [spec_l4Mended.l0]
      refine ev_neg (by omega) (ev_eq (Ev.now _) ?_)
      refine cells_ext (by rw [hm, mended_length]) (fun j hj => ?_)
      rw [hc j (by omega), if_pos (by omega), cellAt_mended _ _ (by omega)]
    | succ d ih =>
      intro i out h hm hc
      have c0 : cellAt out i = cellAt m i := by rw [hc i (by omega), if_neg (by omega)]
      have blankStep : aloneAt m i → Ev (fun k => spec_l4Mended.l0 k m (out.set i (bl (cellAt m i))) ((i + 1 : Nat) : Int)) (mended m) := by
        intro ha
        refine ih (i + 1) _ (by omega) (by rw [List.length_set]; exact hm) (fun j hj => ?_)
        rw [cellAt_set _ _ _ _ (by omega)]
        by_cases e : j = i
        · rw [if_pos e, if_pos (by omega), e]; unfold mendAt; rw [if_pos ha]
        · rw [if_neg e, hc j hj]
          by_cases q : j < i
          · rw [if_pos q, if_pos (by omega)]
          · rw [if_neg q, if_neg (by omega)]
      have keepStep : ¬ aloneAt m i → Ev (fun k => spec_l4Mended.l0 k m out ((i + 1 : Nat) : Int)) (mended m) := by
        intro ha
        refine ih (i + 1) _ (by omega) hm (fun j hj => ?_)
        rw [hc j hj]
        by_cases e : j = i
        · rw [if_neg (by omega), if_pos (by omega), e]; unfold mendAt; rw [if_neg ha]
        · by_cases q : j < i
          · rw [if_pos q, if_pos (by omega)]
          · rw [if_neg q, if_neg (by omega)]
      have wi : ∀ _ : Unit, wrap64 ((i : Int) + 1) = ((i + 1 : Nat) : Int) := fun _ => by rw [w64 (by omega) (by omega)]; omega
      have g0 : rd_T40 out (i : Int) = cellAt m i := c0
      have hlen : (out.length : Int) = (m.length : Int) := by rw [hm]
      refine ev_succ ?_
      simp only [spec_l4Mended.l0, g0, wi (), spec_l4Blank.f, Option.bind_some, Int.toNat_natCast, hlen]
      refine ev_pos (by omega) (ev_pos (by omega) ?_)
      by_cases p1 : (cellAt m i).f2 = 1
      · refine ev_pos p1 ?_
        by_cases e : i + 1 = m.length
        · exact ev_pos (by omega) (blankStep (.inl ⟨p1, .inl e⟩))
        · have g1 : rd_T40 out ((i + 1 : Nat) : Int) = cellAt m (i + 1) := by
            show cellAt out (i + 1) = _
            rw [hc (i + 1) (by omega), if_neg (by omega)]
          simp only [g1]
          refine ev_neg (by omega) (ev_pos (by omega) (ev_pos (by omega) ?_))
          by_cases p2 : (cellAt m (i + 1)).f2 = 2
          · refine ev_pos p2 (ev_neg (by omega) (keepStep ?_))
            rintro (⟨_, q | q⟩ | ⟨q, _⟩)
            · exact e q
            · exact q p2
            · omega
          · exact ev_neg p2 (blankStep (.inl ⟨p1, .inr p2⟩))
      · refine ev_neg p1 ?_
        by_cases p2 : (cellAt m i).f2 = 2
        · refine ev_pos p2 ?_
          by_cases e : i = 0
          · exact ev_pos (by omega) (blankStep (.inr ⟨p2, .inl e⟩))
          · have wm : wrap64 ((i : Int) - 1) = ((i - 1 : Nat) : Int) := by rw [w64 (by omega) (by omega)]; omega
            have g1 : rd_T40 m ((i - 1 : Nat) : Int) = cellAt m (i - 1) := rfl
            simp only [wm, g1]
            refine ev_neg (by omega) (ev_pos (by omega) (ev_pos (by omega) ?_))
            by_cases p3 : (cellAt m (i - 1)).f2 = 1
            · refine ev_pos p3 (keepStep ?_)
              rintro (⟨q, _⟩ | ⟨_, q | q⟩)
              · exact p1 q
              · exact e q
              · exact q p3
            · exact ev_neg p3 (blankStep (.inr ⟨p2, .inr p3⟩))
        · refine ev_neg p2 (keepStep ?_)
          rintro (⟨q, _⟩ | ⟨q, _⟩)
          · exact p1 q
          · exact p2 q
  simp only [spec_l4Mended.f, Option.bind_some, List.nil_append]
  exact ev_pos (by simp; omega) (go m.length 0 m (by omega) rfl (fun j _ => by rw [if_neg (by omega)]))

theorem wid_blank : wid 32 = 1 := by decide
/-- Cells that are right beside each other. -/
def CellsRight (l : List S40) : Prop := ∀ i, i < l.length → CellOk l i
theorem right_cells {l : List S40} (h : RowRight l) : CellsRight l := h.2.2
theorem cellAt_take (l : List S40) (a i : Nat) (h : i < a) : cellAt (l.take a) i = cellAt l i := by
  unfold cellAt rd_T40
  rw [Int.toNat_natCast, List.getD_eq_getElem?_getD, List.getD_eq_getElem?_getD, List.getElem?_take, if_pos h]
theorem cellAt_drop (l : List S40) (a i : Nat) : cellAt (l.drop a) i = cellAt l (a + i) := by
  unfold cellAt rd_T40
  rw [Int.toNat_natCast, Int.toNat_natCast, List.getD_eq_getElem?_getD, List.getD_eq_getElem?_getD, List.getElem?_drop]
theorem cellAt_app (a b : List S40) (i : Nat) : cellAt (a ++ b) i = if i < a.length then cellAt a i else cellAt b (i - a.length) := by
  unfold cellAt rd_T40
  rw [Int.toNat_natCast, Int.toNat_natCast, List.getD_eq_getElem?_getD, List.getD_eq_getElem?_getD, List.getD_eq_getElem?_getD, List.getElem?_append]
  by_cases h : i < a.length
  · rw [if_pos h, if_pos h]
  · rw [if_neg h, if_neg h]
theorem cellAt_rep (n : Nat) (x : S40) (i : Nat) (h : i < n) : cellAt (List.replicate n x) i = x := by
  rw [cellAt_lt (by rw [List.length_replicate]; exact h), List.getElem_replicate]
theorem part_take {l : List S40} (hr : CellsRight l) (a : Nat) (ha : a ≤ l.length) : (partv l a).take a = mended (l.take a) := by
  have hl : (l.take a).length = a := by rw [List.length_take]; omega
  refine cells_ext (by rw [mended_length, List.length_take, partv_length, hl]; omega) (fun i hi => ?_)
  have hia : i < a := by rw [List.length_take] at hi; omega
  rw [cellAt_take _ _ _ hia, cellAt_mended _ _ (by omega), cellAt_partv]
  have c := (hr i (by omega)).2
  have e0 := cellAt_take l a i hia
  unfold mendAt
  by_cases q : 1 ≤ a ∧ a < l.length ∧ (cellAt l a).f2 = 2 ∧ (i = a ∨ i + 1 = a)
  · rw [if_pos q, e0]
    have ca := (hr a q.2.1).2
    have e1 : i + 1 = a := by omega
    have f1 : (cellAt l i).f2 = 1 := by
      rcases ca with z | z | z
      · omega
      · omega
      · rw [show i = a - 1 by omega]; exact z.2.2.2
    rw [if_pos]
    unfold aloneAt
    rw [e0, hl]
    exact .inl ⟨f1, .inl e1⟩
  · rw [if_neg q, e0, if_neg]
    unfold aloneAt
    rw [e0, hl]
    rintro (⟨z, w⟩ | ⟨z, w⟩)
    · rcases c with y | y | y
      · omega
      · by_cases e1 : i + 1 = a
        · exact q ⟨by omega, by omega, by rw [← e1]; exact y.2.2.2.1, .inr e1⟩
        · rcases w with w | w
          · omega
          · rw [cellAt_take _ _ _ (by omega)] at w; exact w y.2.2.2.1
      · omega
    · rcases c with y | y | y
      · omega
      · omega
      · rcases w with w | w
        · omega
        · rw [cellAt_take _ _ _ (by omega)] at w; exact w y.2.2.2
theorem part_drop {l : List S40} (hr : CellsRight l) (a : Nat) (ha : a ≤ l.length) : (partv l a).drop a = mended (l.drop a) := by
  have hl : (l.drop a).length = l.length - a := List.length_drop
  refine cells_ext (by rw [mended_length, List.length_drop, partv_length, hl]) (fun j hj => ?_)
  have hja : j < l.length - a := by rw [List.length_drop, partv_length] at hj; exact hj
  rw [cellAt_drop, cellAt_mended _ _ (by omega), cellAt_partv]
  have c := (hr (a + j) (by omega)).2
  have e0 := cellAt_drop l a j
  unfold mendAt
  by_cases q : 1 ≤ a ∧ a < l.length ∧ (cellAt l a).f2 = 2 ∧ (a + j = a ∨ a + j + 1 = a)
  · rw [if_pos q, e0]
    have e1 : j = 0 := by omega
    rw [if_pos]
    unfold aloneAt
    rw [e0, e1]
    exact .inr ⟨q.2.2.1, .inl rfl⟩
  · rw [if_neg q, e0, if_neg]
    unfold aloneAt
    rw [e0, hl]
    rintro (⟨z, w⟩ | ⟨z, w⟩)
    · rcases c with y | y | y
      · omega
      · rcases w with w | w
        · omega
        · rw [cellAt_drop, show a + (j + 1) = a + j + 1 by omega] at w; exact w y.2.2.2.1
      · omega
    · rcases c with y | y | y
      · omega
      · omega
      · by_cases e1 : j = 0
        · subst e1
          exact q ⟨y.2.2.1, by omega, z, .inl rfl⟩
        · rcases w with w | w
          · exact e1 w
          · rw [cellAt_drop, show a + (j - 1) = a + j - 1 by omega] at w; exact w y.2.2.2
/-- A cell that is right by itself. -/
def CellSolo (x : S40) : Prop := sokv x.f1.f0 x.f1.f1 = true ∧ ((x.f2 = 0 ∧ wid x.f0 = 1) ∨ (x.f2 = 1 ∧ wid x.f0 = 2) ∨ (x.f2 = 2 ∧ x.f0 = 0))
theorem solo_of {l : List S40} {i : Nat} (h : CellOk l i) : CellSolo (cellAt l i) := by
  refine ⟨h.1, ?_⟩
  rcases h.2 with z | z | z
  · exact .inl z
  · exact .inr (.inl ⟨z.1, z.2.1⟩)
  · exact .inr (.inr ⟨z.1, z.2.1⟩)
/-- Halves side by side have one style. -/
def Paired (m : List S40) : Prop := ∀ i, i + 1 < m.length → (cellAt m i).f2 = 1 → (cellAt m (i + 1)).f2 = 2 → (cellAt m (i + 1)).f1 = (cellAt m i).f1
theorem paired_of {l : List S40} (h : CellsRight l) : Paired l := by
  intro i hi h1 h2
  rcases (h i (by omega)).2 with z | z | z
  · omega
  · exact z.2.2.2.2
  · omega
theorem mended_cells {m : List S40} (h : ∀ i, i < m.length → CellSolo (cellAt m i)) (hp : Paired m) : CellsRight (mended m) := by
  intro i hi
  rw [mended_length] at hi
  have hs := h i hi
  unfold CellOk
  rw [mended_length, cellAt_mended _ _ hi]
  by_cases q : aloneAt m i
  · have e : mendAt m i = bl (cellAt m i) := by unfold mendAt; rw [if_pos q]
    rw [e]
    exact ⟨hs.1, .inl ⟨rfl, wid_blank⟩⟩
  · have e : mendAt m i = cellAt m i := by unfold mendAt; rw [if_neg q]
    rw [e]
    refine ⟨hs.1, ?_⟩
    have q' : ¬ (((cellAt m i).f2 = 1 ∧ (i + 1 = m.length ∨ (cellAt m (i + 1)).f2 ≠ 2)) ∨ ((cellAt m i).f2 = 2 ∧ (i = 0 ∨ (cellAt m (i - 1)).f2 ≠ 1))) := q
    rcases hs.2 with z | z | z
    · exact .inl z
    · have hn : ¬ (i + 1 = m.length) ∧ (cellAt m (i + 1)).f2 = 2 := ⟨fun c => q' (.inl ⟨z.1, .inl c⟩), Decidable.byContradiction fun c => q' (.inl ⟨z.1, .inr c⟩)⟩
      have na : ¬ aloneAt m (i + 1) := by
        intro a
        rcases a with a | a
        · omega
        · rcases a.2 with b | b
          · omega
          · exact b (by rw [show i + 1 - 1 = i by omega]; exact z.1)
      have e2 : mendAt m (i + 1) = cellAt m (i + 1) := by unfold mendAt; rw [if_neg na]
      rw [cellAt_mended _ _ (by omega), e2]
      exact .inr (.inl ⟨z.1, z.2, by omega, hn.2, hp i (by omega) z.1 hn.2⟩)
    · have h0 : ¬ (i = 0) := fun c => q' (.inr ⟨z.1, .inl c⟩)
      have hp1 : (cellAt m (i - 1)).f2 = 1 := Decidable.byContradiction fun c => q' (.inr ⟨z.1, .inr c⟩)
      have na : ¬ aloneAt m (i - 1) := by
        intro a
        rcases a with a | a
        · rcases a.2 with b | b
          · omega
          · exact b (by rw [show i - 1 + 1 = i by omega]; exact z.1)
        · omega
      have e2 : mendAt m (i - 1) = cellAt m (i - 1) := by unfold mendAt; rw [if_neg na]
      exact .inr (.inr ⟨z.1, z.2, by omega, by rw [cellAt_mended _ _ (by omega), e2]; exact hp1⟩)
theorem mended_take {l : List S40} (h : CellsRight l) (a : Nat) : CellsRight (mended (l.take a)) := by
  refine mended_cells (fun i hi => ?_) (fun i hi h1 h2 => ?_)
  · rw [List.length_take] at hi
    rw [cellAt_take _ _ _ (by omega)]; exact solo_of (h i (by omega))
  · rw [List.length_take] at hi
    rw [cellAt_take _ _ _ (by omega)] at h1 h2 ⊢
    rw [cellAt_take _ _ _ (by omega)]
    exact paired_of h i (by omega) h1 h2
theorem mended_drop {l : List S40} (h : CellsRight l) (a : Nat) : CellsRight (mended (l.drop a)) := by
  refine mended_cells (fun i hi => ?_) (fun i hi h1 h2 => ?_)
  · rw [List.length_drop] at hi
    rw [cellAt_drop]; exact solo_of (h (a + i) (by omega))
  · rw [List.length_drop] at hi
    rw [cellAt_drop] at h1 h2 ⊢
    rw [cellAt_drop]
    exact paired_of h (a + i) (by omega) h1 h2
theorem cells_append {a b : List S40} (ha : CellsRight a) (hb : CellsRight b) : CellsRight (a ++ b) := by
  intro i hi
  unfold CellOk
  rw [cellAt_app, cellAt_app, cellAt_app, List.length_append]
  rw [List.length_append] at hi
  by_cases q : i < a.length
  · rw [if_pos q]
    have c := ha i q
    refine ⟨c.1, ?_⟩
    rcases c.2 with z | z | z
    · exact .inl z
    · rw [if_pos z.2.2.1]
      exact .inr (.inl ⟨z.1, z.2.1, by omega, z.2.2.2⟩)
    · rw [if_pos (show i - 1 < a.length by omega)]
      exact .inr (.inr z)
  · rw [if_neg q]
    have c := hb (i - a.length) (by omega)
    refine ⟨c.1, ?_⟩
    rcases c.2 with z | z | z
    · exact .inl z
    · rw [if_neg (show ¬ (i + 1 < a.length) by omega), show i + 1 - a.length = i - a.length + 1 by omega]
      exact .inr (.inl ⟨z.1, z.2.1, by omega, z.2.2.2⟩)
    · rw [if_neg (show ¬ (i - 1 < a.length) by omega), show i - 1 - a.length = i - a.length - 1 by omega]
      exact .inr (.inr ⟨z.1, z.2.1, by omega, z.2.2.2⟩)
theorem cells_rep (n : Nat) (s : S29) (hs : sokv s.f0 s.f1 = true) : CellsRight (List.replicate n (blk s)) := by
  intro i hi
  rw [List.length_replicate] at hi
  unfold CellOk
  rw [cellAt_rep _ _ _ hi]
  exact ⟨hs, .inl ⟨rfl, wid_blank⟩⟩
theorem cells_right {l : List S40} (h : CellsRight l) (h1 : 1 ≤ l.length) (h2 : l.length ≤ 60) : RowRight l := ⟨h1, h2, h⟩
theorem take_partv (l : List S40) (a b : Nat) (h : a < b) : (partv l b).take a = l.take a := by
  refine cells_ext (by rw [List.length_take, List.length_take, partv_length]) (fun i hi => ?_)
  have hia : i < a := by rw [List.length_take] at hi; omega
  rw [cellAt_take _ _ _ hia, cellAt_take _ _ _ hia, cellAt_partv, if_neg (by omega)]
theorem drop_partv (l : List S40) (a b : Nat) (h : a < b) : (partv (partv l a) b).drop b = (partv l b).drop b := by
  refine cells_ext (by rw [List.length_drop, List.length_drop, partv_length, partv_length, partv_length]) (fun i hi => ?_)
  have e : ∀ j, b ≤ j → cellAt (partv l a) j = cellAt l j := fun j hj => by rw [cellAt_partv, if_neg (by omega)]
  rw [cellAt_drop, cellAt_drop, cellAt_partv (partv l a) b (b + i), cellAt_partv l b (b + i), partv_length, e b (by omega), e (b + i) (by omega)]
/-- Cells taken out of a right row: to part it at both ends and to cut is to cut and to mend. -/
theorem pull_eq {l : List S40} (hr : CellsRight l) (a b : Nat) (h : a < b) (hb : b ≤ l.length) :
    (partv (partv l a) b).take a ++ (partv (partv l a) b).drop b = mended (l.take a) ++ mended (l.drop b) := by
  rw [take_partv _ _ _ h, drop_partv _ _ _ h, part_take hr a (by omega), part_drop hr b hb]
def midv (l : List S40) (a n : Nat) (s : S29) : List S40 := mended (l.take a) ++ List.replicate n (blk s) ++ mended (l.drop a)
theorem midv_length (l : List S40) (a n : Nat) (s : S29) (ha : a ≤ l.length) : (midv l a n s).length = l.length + n := by
  unfold midv; rw [List.length_append, List.length_append, mended_length, mended_length, List.length_replicate, List.length_take, List.length_drop]; omega
theorem midv_right {l : List S40} (hr : CellsRight l) (a n : Nat) (s : S29) (hs : sokv s.f0 s.f1 = true) : CellsRight (midv l a n s) :=
  cells_append (cells_append (mended_take hr a) (cells_rep n s hs)) (mended_drop hr a)
theorem mid_eq {l : List S40} (hr : CellsRight l) (a n : Nat) (s : S29) (ha : a ≤ l.length) : (partv l a).take a ++ List.replicate n (blk s) ++ (partv l a).drop a = midv l a n s := by
  unfold midv; rw [part_take hr a ha, part_drop hr a ha]
/-- Cells put into a right row, what falls off cut away. -/
theorem push_eq {l : List S40} (hr : CellsRight l) (a n : Nat) (s : S29) (hs : sokv s.f0 s.f1 = true) (ha : a ≤ l.length) :
    (partv (midv l a n s) l.length).take l.length = mended ((midv l a n s).take l.length) :=
  part_take (midv_right hr a n s hs) l.length (by rw [midv_length _ _ _ _ ha]; omega)

theorem spec_l4Row_ev (n : Nat) (a b : Int) (c d e : Bool) (hn : n ≤ 1000000) : Ev (fun k => spec_l4Row.f k (n : Int) a b c d e) (List.replicate n (blk ⟨a, b, c, d, e⟩)) := by
  have go : ∀ (q i : Nat), i + q = n → Ev (fun k => spec_l4Row.l0 k (n : Int) (List.replicate i (blk ⟨a, b, c, d, e⟩)) (i : Int) a b c d e) (List.replicate n (blk ⟨a, b, c, d, e⟩)) := by
    intro q
    induction q with
    | zero =>
      intro i h
      obtain rfl : i = n := by omega
      refine ev_succ ?_
      simp only [spec_l4Row.l0]
      exact ev_neg (by omega) (Ev.now _)
    | succ q ih =>
      intro i h
      have := ih (i + 1) (by omega)
      have wi : ∀ _ : Unit, wrap64 ((i : Int) + 1) = ((i + 1 : Nat) : Int) := fun _ => by rw [w64 (by omega) (by omega)]; omega
      refine ev_succ ?_
      simp only [spec_l4Row.l0, spec_l4Blank.f, Option.bind_some, wi ()]
      refine ev_pos (by omega) (ev_pos (by rw [List.length_replicate]; omega) ?_)
      rw [List.replicate_succ'] at this
      exact this
  unfold spec_l4Row.f
  exact go n 0 (by omega)

/-- Cells of a row can be moved. -/
def Mov (l : List S40) (a n s0 s1 : Int) : Prop := RowRight l ∧ sokv s0 s1 = true ∧ (0 ≤ a ∧ a ≤ (l.length : Int) - 1) ∧ 0 ≤ n ∧ n ≤ (l.length : Int)
theorem impl_isMove_some (l : List S40) (a n s0 s1 : Int) (s2 s3 s4 : Bool) (hl : l.length ≤ 1048576) : ∃ b, Ev (fun k => impl_isMove.f k l a n s0 s1 s2 s3 s4) b ∧ (b = true ↔ Mov l a n s0 s1) := by
  obtain ⟨b1, e1, hb1⟩ := impl_RowOk_some l hl
  have wl : wrap64 ((l.length : Int) - 1) = (l.length : Int) - 1 := w64 (by omega) (by omega)
  by_cases c1 : b1 = true
  case neg => exact ⟨false, Ev.bind e1 (ev_neg c1 (Ev.now _)), by simp; intro h; exact absurd (hb1.mpr h.1) c1⟩
  by_cases c2 : sokv s0 s1 = true
  case neg =>
    refine ⟨false, Ev.bind e1 (ev_pos c1 ?_), by simp; intro h; exact absurd h.2.1 c2⟩
    simp only [impl_StyleOk_eq, Option.bind_some]; exact ev_neg c2 (Ev.now _)
  by_cases c3 : (decide (0 ≤ a) && decide (a ≤ (l.length : Int) - 1)) = true
  case neg =>
    refine ⟨false, Ev.bind e1 (ev_pos c1 ?_), by simp; intro h; exact absurd (by have := h.2.2.1; simp; exact this) c3⟩
    simp only [impl_StyleOk_eq, impl_in_eq, Option.bind_some, wl]; exact ev_pos c2 (ev_neg c3 (Ev.now _))
  refine ⟨(decide (0 ≤ n) && decide (n ≤ (l.length : Int))), Ev.bind e1 (ev_pos c1 ?_), ?_⟩
  · simp only [impl_StyleOk_eq, impl_in_eq, Option.bind_some, wl]; exact ev_pos c2 (ev_pos c3 (Ev.now _))
  · simp only [Bool.and_eq_true, decide_eq_true_eq] at c3 ⊢
    exact ⟨fun h => ⟨hb1.mp c1, c2, c3, h⟩, fun h => h.2.2.2⟩
theorem clone_is (l : List S40) (h : l.length < 1000000) : impl_Cell_63.f l = some l := by
  simp only [impl_Cell_63.f, Option.bind_some, List.nil_append]
  rw [if_pos (by simp; omega)]
theorem repeat_is (x : S40) (n : Nat) (h : n ≤ 1000) : impl_Cell_66.f [x] (n : Int) = some (List.replicate n x) := by
  unfold impl_Cell_66.f
  rw [if_pos ⟨rfl, by omega, by omega⟩]
  rfl
/-- Cells taken out of a right row, blank ones behind. -/
def pulledv (l : List S40) (x m : Nat) (s : S29) : List S40 :=
  if min m (l.length - x) = 0 then l else mended (l.take x) ++ mended (l.drop (x + min m (l.length - x))) ++ List.replicate (min m (l.length - x)) (blk s)
theorem pulledv_length (l : List S40) (x m : Nat) (s : S29) (hx : x < l.length) : (pulledv l x m s).length = l.length := by
  unfold pulledv
  by_cases h : min m (l.length - x) = 0
  · rw [if_pos h]
  · rw [if_neg h, List.length_append, List.length_append, mended_length, mended_length, List.length_replicate, List.length_take, List.length_drop]; omega
theorem pulledv_right {l : List S40} (hr : RowRight l) (x m : Nat) (s : S29) (hs : sokv s.f0 s.f1 = true) (hx : x < l.length) : RowRight (pulledv l x m s) := by
  refine cells_right ?_ (by rw [pulledv_length _ _ _ _ hx]; exact hr.1) (by rw [pulledv_length _ _ _ _ hx]; exact hr.2.1)
  unfold pulledv
  by_cases h : min m (l.length - x) = 0
  · rw [if_pos h]; exact right_cells hr
  · rw [if_neg h]; exact cells_append (cells_append (mended_take (right_cells hr) _) (mended_drop (right_cells hr) _)) (cells_rep _ s hs)
/-- Blank cells put into a right row, what falls off cut away. -/
def pushedv (l : List S40) (x m : Nat) (s : S29) : List S40 := if m = 0 then l else mended ((midv l x m s).take l.length)
theorem pushedv_length (l : List S40) (x m : Nat) (s : S29) (hx : x < l.length) : (pushedv l x m s).length = l.length := by
  unfold pushedv
  by_cases h : m = 0
  · rw [if_pos h]
  · rw [if_neg h, mended_length, List.length_take, midv_length _ _ _ _ (by omega)]; omega
theorem pushedv_right {l : List S40} (hr : RowRight l) (x m : Nat) (s : S29) (hs : sokv s.f0 s.f1 = true) (hx : x < l.length) : RowRight (pushedv l x m s) := by
  refine cells_right ?_ (by rw [pushedv_length _ _ _ _ hx]; exact hr.1) (by rw [pushedv_length _ _ _ _ hx]; exact hr.2.1)
  unfold pushedv
  by_cases h : m = 0
  · rw [if_pos h]; exact right_cells hr
  · rw [if_neg h]; exact mended_take (midv_right (right_cells hr) _ _ s hs) _
theorem spec_moves (l : List S40) (a n s0 s1 : Int) (hl : l.length ≤ 1048576) : ∃ b1, Ev (fun k => spec_RowOk.f k l) b1 ∧
    (Mov l a n s0 s1 → b1 = true ∧ sokv s0 s1 = true ∧ (decide (0 ≤ a) && decide (a ≤ (l.length : Int) - 1)) = true ∧ (decide (0 ≤ n) && decide (n ≤ (l.length : Int))) = true) ∧
    (¬ Mov l a n s0 s1 → b1 = true → sokv s0 s1 = true → (decide (0 ≤ a) && decide (a ≤ (l.length : Int) - 1)) = true → ¬ (decide (0 ≤ n) && decide (n ≤ (l.length : Int))) = true) := by
  obtain ⟨b1, e1, hb1⟩ := spec_RowOk_some l
  refine ⟨b1, e1, fun h => ⟨hb1.mpr h.1, h.2.1, ?_, ?_⟩, fun h c1 c2 c3 c4 => h ⟨hb1.mp c1, c2, ?_, ?_⟩⟩
  · have := h.2.2.1; simp; exact this
  · have := h.2.2.2; simp; exact this
  · simpa using c3
  · simpa using c4

theorem Pulled_yes (l : List S40) (x m : Nat) (s0 s1 : Int) (s2 s3 s4 : Bool) (h : Mov l (x : Int) (m : Int) s0 s1) :
    Ev (fun k => spec_Pulled.f k l (x : Int) (m : Int) s0 s1 s2 s3 s4) (pulledv l x m ⟨s0, s1, s2, s3, s4⟩) ∧ Ev (fun k => impl_Pulled.f k l (x : Int) (m : Int) s0 s1 s2 s3 s4) (pulledv l x m ⟨s0, s1, s2, s3, s4⟩) := by
  have h60 := h.1.2.1
  have hx : x < l.length := by have := h.2.2.1.2; omega
  have hm : m ≤ l.length := by have := h.2.2.2.2; omega
  obtain ⟨b1, e1, hy, _⟩ := spec_moves l x m s0 s1 (by omega)
  obtain ⟨c1, c2, c3, c4⟩ := hy h
  obtain ⟨b2, e2, hb2⟩ := impl_isMove_some l x m s0 s1 s2 s3 s4 (by omega)
  have wl : wrap64 ((l.length : Int) - 1) = (l.length : Int) - 1 := w64 (by omega) (by omega)
  have wd : wrap64 ((l.length : Int) - (x : Int)) = ((l.length - x : Nat) : Int) := by rw [w64 (by omega) (by omega)]; omega
  obtain ⟨q, hq⟩ : ∃ q, q = min m (l.length - x) := ⟨_, rfl⟩
  have hmin : spec_l1Min.f (m : Int) ((l.length - x : Nat) : Int) = some (q : Int) := by
    unfold spec_l1Min.f
    by_cases z : (m : Int) < ((l.length - x : Nat) : Int)
    · rw [if_pos z, show q = m by omega]
    · rw [if_neg z, show q = l.length - x by omega]
  have hmn : mn (m : Int) ((l.length - x : Nat) : Int) = (q : Int) := by unfold mn; split <;> omega
  have wq : wrap64 ((x : Int) + (q : Int)) = ((x + q : Nat) : Int) := by rw [w64 (by omega) (by omega)]; omega
  have hv : pulledv l x m ⟨s0, s1, s2, s3, s4⟩ = if q = 0 then l else mended (l.take x) ++ mended (l.drop (x + q)) ++ List.replicate q (blk ⟨s0, s1, s2, s3, s4⟩) := by unfold pulledv; rw [← hq]
  rw [hv]
  have hr := right_cells h.1
  have lt : (mended (l.take x)).length = x := by rw [mended_length, List.length_take]; omega
  have ld : (mended (l.drop (x + q))).length = l.length - (x + q) := by rw [mended_length, List.length_drop]
  constructor
  · refine Ev.bind e1 (ev_pos c1 ?_)
    simp only [spec_StyleOk_eq, spec_l1In_eq, Option.bind_some, wl]
    refine ev_pos c2 (ev_pos c3 (ev_pos c4 ?_))
    refine Ev.bind ?_ (Ev.now _)
    simp only [spec_l4Pulled.f, wd, hmin, Option.bind_some, wq, Int.toNat_natCast, List.nil_append]
    by_cases z : q = 0
    · rw [if_pos z]
      exact ev_pos (by omega) (ev_pos (by simp; omega) (Ev.now _))
    · rw [if_neg z]
      refine ev_neg (by omega) (ev_pos (by omega) (ev_pos (by omega) (Ev.bind (spec_l4Mended_ev _ (by rw [List.length_take]; omega)) (ev_pos (by omega) (ev_pos (by omega) (Ev.bind (spec_l4Mended_ev _ (by rw [List.length_drop]; omega)) ?_))))))
      refine ev_pos (by rw [lt, ld]; omega) (Ev.bind (spec_l4Row_ev q s0 s1 s2 s3 s4 (by omega)) (ev_pos ?_ (Ev.now _)))
      rw [List.length_append, lt, ld, List.length_replicate]; omega
  · refine Ev.bind e2 (ev_pos (hb2.mpr h) (Ev.bind ?_ (Ev.now _)))
    simp only [impl_pull.f, clone_is l (by omega), wd, hmn, wq, Option.bind_some, impl_blank.f]
    by_cases z : q = 0
    · rw [if_pos z]; exact ev_pos (by omega) (Ev.now _)
    · rw [if_neg z]
      refine ev_neg (by omega) (Ev.bind (impl_part_ev l x (by omega) (by omega)) (Ev.bind (impl_part_ev _ (x + q) (by rw [partv_length]; omega) (by rw [partv_length]; omega)) ?_))
      have pl : (partv (partv l x) (x + q)).length = l.length := by rw [partv_length, partv_length]
      have ed : impl_Cell_65.f (partv (partv l x) (x + q)) (x : Int) ((x + q : Nat) : Int) = some (mended (l.take x) ++ mended (l.drop (x + q))) := by
        unfold impl_Cell_65.f
        rw [if_pos ⟨by omega, by omega, by rw [pl]; omega⟩, Int.toNat_natCast, Int.toNat_natCast, pull_eq hr x (x + q) (by omega) (by omega)]
      refine ev_bind_of ed (ev_bind_of (repeat_is _ q (by omega)) (ev_pos ?_ (Ev.now _)))
      rw [List.length_append, lt, ld, List.length_replicate]; omega
theorem Pulled_no (l : List S40) (a n : Int) (s0 s1 : Int) (s2 s3 s4 : Bool) (hl : l.length ≤ 1048576) (h : ¬ Mov l a n s0 s1) :
    Ev (fun k => spec_Pulled.f k l a n s0 s1 s2 s3 s4) [] ∧ Ev (fun k => impl_Pulled.f k l a n s0 s1 s2 s3 s4) [] := by
  obtain ⟨b1, e1, _, hn⟩ := spec_moves l a n s0 s1 (by omega)
  obtain ⟨b2, e2, hb2⟩ := impl_isMove_some l a n s0 s1 s2 s3 s4 (by omega)
  have wl : wrap64 ((l.length : Int) - 1) = (l.length : Int) - 1 := w64 (by omega) (by omega)
  constructor
  · by_cases c1 : b1 = true
    case neg => exact Ev.bind e1 (ev_neg c1 (Ev.now _))
    refine Ev.bind e1 (ev_pos c1 ?_)
    simp only [spec_StyleOk_eq, spec_l1In_eq, Option.bind_some, wl]
    by_cases c2 : sokv s0 s1 = true
    case neg => exact ev_neg c2 (Ev.now _)
    by_cases c3 : (decide (0 ≤ a) && decide (a ≤ (l.length : Int) - 1)) = true
    case neg => exact ev_pos c2 (ev_neg c3 (Ev.now _))
    exact ev_pos c2 (ev_pos c3 (ev_neg (hn h c1 c2 c3) (Ev.now _)))
  · exact Ev.bind e2 (ev_neg (fun z => h (hb2.mp z)) (Ev.now _))
theorem Pulled_is (l : List S40) (a n : Int) (s0 s1 : Int) (s2 s3 s4 : Bool) (hl : l.length ≤ 1048576) :
    ∃ v : List S40, v.length ≤ 60 ∧ Ev (fun k => spec_Pulled.f k l a n s0 s1 s2 s3 s4) v ∧ Ev (fun k => impl_Pulled.f k l a n s0 s1 s2 s3 s4) v := by
  by_cases h : Mov l a n s0 s1
  · obtain ⟨x, rfl⟩ := Int.eq_ofNat_of_zero_le h.2.2.1.1
    obtain ⟨m, rfl⟩ := Int.eq_ofNat_of_zero_le h.2.2.2.1
    exact ⟨_, by rw [pulledv_length _ _ _ _ (by have := h.2.2.1.2; omega)]; exact h.1.2.1, (Pulled_yes l x m s0 s1 s2 s3 s4 h).1, (Pulled_yes l x m s0 s1 s2 s3 s4 h).2⟩
  · exact ⟨[], by simp, (Pulled_no l a n s0 s1 s2 s3 s4 hl h).1, (Pulled_no l a n s0 s1 s2 s3 s4 hl h).2⟩

theorem Pushed_yes (l : List S40) (x m : Nat) (s0 s1 : Int) (s2 s3 s4 : Bool) (h : Mov l (x : Int) (m : Int) s0 s1) :
    Ev (fun k => spec_Pushed.f k l (x : Int) (m : Int) s0 s1 s2 s3 s4) (pushedv l x m ⟨s0, s1, s2, s3, s4⟩) ∧ Ev (fun k => impl_Pushed.f k l (x : Int) (m : Int) s0 s1 s2 s3 s4) (pushedv l x m ⟨s0, s1, s2, s3, s4⟩) := by
  have h60 := h.1.2.1
  have hx : x < l.length := by have := h.2.2.1.2; omega
  have hm : m ≤ l.length := by have := h.2.2.2.2; omega
  obtain ⟨b1, e1, hy, _⟩ := spec_moves l x m s0 s1 (by omega)
  obtain ⟨c1, c2, c3, c4⟩ := hy h
  obtain ⟨b2, e2, hb2⟩ := impl_isMove_some l x m s0 s1 s2 s3 s4 (by omega)
  have wl : wrap64 ((l.length : Int) - 1) = (l.length : Int) - 1 := w64 (by omega) (by omega)
  have hr := right_cells h.1
  unfold pushedv
  have lt : (mended (l.take x)).length = x := by rw [mended_length, List.length_take]; omega
  have ld : (mended (l.drop x)).length = l.length - x := by rw [mended_length, List.length_drop]
  have mid : mended (l.take x) ++ List.replicate m (blk ⟨s0, s1, s2, s3, s4⟩) ++ mended (l.drop x) = midv l x m ⟨s0, s1, s2, s3, s4⟩ := rfl
  have ml := midv_length l x m ⟨s0, s1, s2, s3, s4⟩ (by omega)
  constructor
  · refine Ev.bind e1 (ev_pos c1 ?_)
    simp only [spec_StyleOk_eq, spec_l1In_eq, Option.bind_some, wl]
    refine ev_pos c2 (ev_pos c3 (ev_pos c4 ?_))
    refine Ev.bind ?_ (Ev.now _)
    simp only [spec_l4Pushed.f, Option.bind_some, Int.toNat_natCast, List.nil_append]
    by_cases z : m = 0
    · rw [if_pos z]
      exact ev_pos (by omega) (ev_pos (by simp; omega) (Ev.now _))
    · rw [if_neg z]
      refine ev_neg (by omega) (ev_pos (by omega) (ev_pos (by omega) (Ev.bind (spec_l4Mended_ev _ (by rw [List.length_take]; omega)) (Ev.bind (spec_l4Row_ev m s0 s1 s2 s3 s4 (by omega)) (ev_pos (by rw [lt, List.length_replicate]; omega) (Ev.bind (spec_l4Mended_ev _ (by rw [List.length_drop]; omega)) ?_))))))
      simp only [mid]
      refine ev_pos (by rw [List.length_append, lt, ld, List.length_replicate]; omega) (ev_pos (by omega) (ev_pos (by rw [ml]; omega) (Ev.bind (spec_l4Mended_ev _ (by rw [List.length_take, ml]; omega)) (Ev.now _))))
  · refine Ev.bind e2 (ev_pos (hb2.mpr h) (Ev.bind ?_ (Ev.now _)))
    simp only [impl_push.f, clone_is l (by omega), Option.bind_some, impl_blank.f]
    by_cases z : m = 0
    · rw [if_pos z]; exact ev_pos (by omega) (Ev.now _)
    · rw [if_neg z]
      refine ev_neg (by omega) (Ev.bind (impl_part_ev l x (by omega) (by omega)) (ev_bind_of (repeat_is _ m (by omega)) ?_))
      have ei : impl_Cell_69.f (partv l x) (x : Int) (List.replicate m (blk ⟨s0, s1, s2, s3, s4⟩)) = some (midv l x m ⟨s0, s1, s2, s3, s4⟩) := by
        unfold impl_Cell_69.f
        rw [if_pos ⟨by omega, by rw [partv_length]; omega, by rw [List.length_replicate]; omega, by rw [partv_length, List.length_replicate]; omega⟩, Int.toNat_natCast, mid_eq hr x m _ (by omega)]
      refine ev_bind_of ei (Ev.bind (impl_part_ev _ l.length (by rw [ml]; omega) (by rw [ml]; omega)) ?_)
      simp only [Int.toNat_natCast]
      rw [push_eq hr x m _ c2 (by omega), clone_is _ (by rw [mended_length, List.length_take]; omega)]
      exact ev_pos (by omega) (ev_pos (by rw [ml]; omega) (Ev.now _))
theorem Pushed_no (l : List S40) (a n : Int) (s0 s1 : Int) (s2 s3 s4 : Bool) (hl : l.length ≤ 1048576) (h : ¬ Mov l a n s0 s1) :
    Ev (fun k => spec_Pushed.f k l a n s0 s1 s2 s3 s4) [] ∧ Ev (fun k => impl_Pushed.f k l a n s0 s1 s2 s3 s4) [] := by
  obtain ⟨b1, e1, _, hn⟩ := spec_moves l a n s0 s1 (by omega)
  obtain ⟨b2, e2, hb2⟩ := impl_isMove_some l a n s0 s1 s2 s3 s4 (by omega)
  have wl : wrap64 ((l.length : Int) - 1) = (l.length : Int) - 1 := w64 (by omega) (by omega)
  constructor
  · by_cases c1 : b1 = true
    case neg => exact Ev.bind e1 (ev_neg c1 (Ev.now _))
    refine Ev.bind e1 (ev_pos c1 ?_)
    simp only [spec_StyleOk_eq, spec_l1In_eq, Option.bind_some, wl]
    by_cases c2 : sokv s0 s1 = true
    case neg => exact ev_neg c2 (Ev.now _)
    by_cases c3 : (decide (0 ≤ a) && decide (a ≤ (l.length : Int) - 1)) = true
    case neg => exact ev_pos c2 (ev_neg c3 (Ev.now _))
    exact ev_pos c2 (ev_pos c3 (ev_neg (hn h c1 c2 c3) (Ev.now _)))
  · exact Ev.bind e2 (ev_neg (fun z => h (hb2.mp z)) (Ev.now _))
theorem Pushed_is (l : List S40) (a n : Int) (s0 s1 : Int) (s2 s3 s4 : Bool) (hl : l.length ≤ 1048576) :
    ∃ v : List S40, v.length ≤ 60 ∧ Ev (fun k => spec_Pushed.f k l a n s0 s1 s2 s3 s4) v ∧ Ev (fun k => impl_Pushed.f k l a n s0 s1 s2 s3 s4) v := by
  by_cases h : Mov l a n s0 s1
  · obtain ⟨x, rfl⟩ := Int.eq_ofNat_of_zero_le h.2.2.1.1
    obtain ⟨m, rfl⟩ := Int.eq_ofNat_of_zero_le h.2.2.2.1
    exact ⟨_, by rw [pushedv_length _ _ _ _ (by have := h.2.2.1.2; omega)]; exact h.1.2.1, (Pushed_yes l x m s0 s1 s2 s3 s4 h).1, (Pushed_yes l x m s0 s1 s2 s3 s4 h).2⟩
  · exact ⟨[], by simp, (Pushed_no l a n s0 s1 s2 s3 s4 hl h).1, (Pushed_no l a n s0 s1 s2 s3 s4 hl h).2⟩

theorem and255 (x : Int) : 0 ≤ Go.bits .and .i64 x 255 ∧ Go.bits .and .i64 x 255 ≤ 255 := by
  have h : ((BitVec.ofInt 64 x &&& BitVec.ofInt 64 255).toNat : Int) ≤ 255 := by
    rw [BitVec.toNat_and]
    have : (BitVec.ofInt 64 x).toNat &&& (BitVec.ofInt 64 255).toNat ≤ (BitVec.ofInt 64 255).toNat := Nat.and_le_right
    have e : (BitVec.ofInt 64 255).toNat = 255 := by decide
    omega
  have w : Go.bits .and .i64 x 255 = IntKind.i64.wrap ((BitVec.ofInt 64 x &&& BitVec.ofInt 64 255).toNat : Int) := rfl
  rw [w, IntKind.wrap_i64]
  omega
/-- A draw's byte. -/
theorem spec_l1Byte_some (b : List Int) (hb : b.length < 4611686018427387904) (i h : Int) (hi : 0 ≤ i) :
    ∃ v i' h', spec_l1Byte.f b i h = some (v, i', h') ∧ 0 ≤ v ∧ v ≤ 255 ∧ 0 ≤ i' := by
  unfold spec_l1Byte.f
  by_cases c : i < (b.length : Int)
  · rw [if_pos c, if_pos hi]
    exact ⟨_, _, _, rfl, (and255 _).1, (and255 _).2, by rw [w64 (by omega) (by omega)]; omega⟩
  · rw [if_neg c]
    exact ⟨_, _, _, rfl, (and255 _).1, (and255 _).2, hi⟩
theorem spec_l1Below_some (b : List Int) (hb : b.length < 4611686018427387904) (i h n : Int) (hi : 0 ≤ i) (hn : n < 4611686018427387904) :
    ∃ v i' h', spec_l1Below.f b i h n = some (v, i', h') ∧ 0 ≤ v ∧ (v < n ∨ (n ≤ 0 ∧ v = 0)) ∧ 0 ≤ i' := by
  unfold spec_l1Below.f
  by_cases c : n ≤ 0
  · rw [if_pos c]; exact ⟨0, i, h, rfl, by omega, .inr ⟨c, rfl⟩, hi⟩
  · rw [if_neg c]
    by_cases c2 : n ≤ 256
    · rw [if_pos c2]
      obtain ⟨v, i', h', e, h0, h1, h2⟩ := spec_l1Byte_some b hb i h hi
      rw [e]
      simp only [Option.bind_some]
      rw [if_neg (by omega), Int.tmod_eq_emod_of_nonneg h0]
      exact ⟨_, _, _, rfl, Int.emod_nonneg _ (by omega), .inl (Int.emod_lt_of_pos _ (by omega)), h2⟩
    · rw [if_neg c2]
      obtain ⟨x, i1, h1, e1, x0, x1, j1⟩ := spec_l1Byte_some b hb i h hi
      obtain ⟨y, i2, h2, e2, y0, y1, j2⟩ := spec_l1Byte_some b hb i1 h1 j1
      obtain ⟨z, i3, h3, e3, z0, z1, j3⟩ := spec_l1Byte_some b hb i2 h2 j2
      obtain ⟨u, i4, h4, e4, u0, u1, j4⟩ := spec_l1Byte_some b hb i3 h3 j3
      rw [e1]; simp only [Option.bind_some]
      rw [e2]; simp only [Option.bind_some]
      rw [e3]; simp only [Option.bind_some]
      rw [e4]; simp only [Option.bind_some]
      rw [if_neg (by omega), w64 (x := x * 16777216) (by omega) (by omega), w64 (x := y * 65536) (by omega) (by omega), w64 (x := z * 256) (by omega) (by omega), w64 (x := x * 16777216 + y * 65536) (by omega) (by omega),
        w64 (x := x * 16777216 + y * 65536 + z * 256) (by omega) (by omega), w64 (x := x * 16777216 + y * 65536 + z * 256 + u) (by omega) (by omega), Int.tmod_eq_emod_of_nonneg (by omega)]
      exact ⟨_, _, _, rfl, Int.emod_nonneg _ (by omega), .inl (Int.emod_lt_of_pos _ (by omega)), j4⟩

theorem spec_l1Once_some (b : List Int) (hb : b.length < 4611686018427387904) (i h n : Int) (hi : 0 ≤ i) (hn : n < 4611686018427387904) :
    ∃ v i' h', spec_l1Once.f b i h n = some (v, i', h') ∧ 0 ≤ i' := by
  unfold spec_l1Once.f
  obtain ⟨v, i', h', e, _, _, h2⟩ := spec_l1Below_some b hb i h n hi hn
  rw [e]
  exact ⟨_, _, _, rfl, h2⟩

theorem spec_l1New_some (l : List Int) (hl : l.length < 4611686018427387904) : ∃ h, Ev (fun k => spec_l1New.f k l) (l, 0, h) := by
  have go : ∀ (d i : Nat) (x : Int), i + d = l.length → ∃ h, Ev (fun k => spec_l1New.l0 k l x (i : Int)) (l, 0, h) := by
    intro d
    induction d with
    | zero =>
      intro i x h
      refine ⟨x, ev_succ ?_⟩
      simp only [spec_l1New.l0]
      exact ev_neg (by omega) (Ev.now _)
    | succ d ih =>
      intro i x h
      obtain ⟨h', e⟩ := ih (i + 1) (Go.bits .and .i64 (wrap64 ((wrap64 ((wrap64 (x * 137)) + (wrap64 (rd l (i : Int))))) + 11)) 1073741823) (by omega)
      refine ⟨h', ev_succ ?_⟩
      simp only [spec_l1New.l0, w64 (x := (i : Int) + 1) (by omega) (by omega)]
      exact ev_pos (by omega) (ev_pos (by omega) e)
  exact go l.length 0 _ (by omega)

theorem spec_l3Draw_some (b : List Int) (hb : b.length < 4611686018427387904) (i h : Int) (hi : 0 ≤ i) :
    ∃ a0 a1 a2 a3 a4 i' h', spec_l3Draw.f b i h = some (a0, a1, a2, a3, a4, i', h') ∧ 0 ≤ i' := by
  obtain ⟨v, i1, h1, e1, j1⟩ := spec_l1Once_some b hb i h 3 hi (by omega)
  unfold spec_l3Draw.f
  rw [e1]
  simp only [Option.bind_some]
  cases v with
  | true => rw [if_pos rfl]; exact ⟨_, _, _, _, _, _, _, rfl, j1⟩
  | false =>
    rw [if_neg (by simp)]
    obtain ⟨x, i2, h2, e2, _, _, j2⟩ := spec_l1Below_some b hb i1 h1 9 j1 (by omega)
    rw [e2]; simp only [Option.bind_some]
    obtain ⟨y, i3, h3, e3, _, _, j3⟩ := spec_l1Below_some b hb i2 h2 9 j2 (by omega)
    rw [e3]; simp only [Option.bind_some]
    obtain ⟨u, i4, h4, e4, j4⟩ := spec_l1Once_some b hb i3 h3 3 j3 (by omega)
    rw [e4]; simp only [Option.bind_some]
    obtain ⟨v, i5, h5, e5, j5⟩ := spec_l1Once_some b hb i4 h4 4 j4 (by omega)
    rw [e5]; simp only [Option.bind_some]
    obtain ⟨z, i6, h6, e6, j6⟩ := spec_l1Once_some b hb i5 h5 4 j5 (by omega)
    rw [e6]; simp only [Option.bind_some]
    exact ⟨_, _, _, _, _, _, _, rfl, j6⟩
theorem spec_l3DrawAny_some (b : List Int) (hb : b.length < 4611686018427387904) (i h : Int) (hi : 0 ≤ i) :
    ∃ a0 a1 a2 a3 a4 i' h', spec_l3DrawAny.f b i h = some (a0, a1, a2, a3, a4, i', h') ∧ 0 ≤ i' := by
  obtain ⟨a0, a1, a2, a3, a4, i1, h1, e1, j1⟩ := spec_l3Draw_some b hb i h hi
  obtain ⟨v, i2, h2, e2, j2⟩ := spec_l1Once_some b hb i1 h1 14 j1 (by omega)
  unfold spec_l3DrawAny.f
  rw [e1]; simp only [Option.bind_some]
  rw [e2]; simp only [Option.bind_some]
  cases v with
  | false => rw [if_neg (by simp)]; exact ⟨_, _, _, _, _, _, _, rfl, j2⟩
  | true =>
    rw [if_pos rfl]
    obtain ⟨x, i3, h3, e3, x0, x1, j3⟩ := spec_l1Below_some b hb i2 h2 4 j2 (by omega)
    rw [e3]; simp only [Option.bind_some]
    rw [if_pos (by omega), if_pos (by simp only [List.length_cons, List.length_nil]; omega)]
    exact ⟨_, _, _, _, _, _, _, rfl, j3⟩

theorem spec_l4Cleared_ev (l : List S40) (a b : Nat) (s0 s1 : Int) (s2 s3 s4 : Bool) (hl : l.length < 1000000) (hab : a ≤ b) (hb : b ≤ l.length) :
    Ev (fun k => spec_l4Cleared.f k l (a : Int) (b : Int) s0 s1 s2 s3 s4) (mended (fillv l a b (blk ⟨s0, s1, s2, s3, s4⟩))) := by
  have loop : ∀ (d i : Nat) (m : List S40), i + d = b → m.length = l.length → Ev (fun k => spec_l4Cleared.l0 k (b : Int) m (i : Int) s0 s1 s2 s3 s4) (mended (fillv m i b (blk ⟨s0, s1, s2, s3, s4⟩))) := by
    intro d
    induction d with
    | zero =>
      intro i m h hm
      refine ev_succ ?_
      simp only [spec_l4Cleared.l0]
      refine ev_neg (by omega) ?_
      rw [show i = b by omega, fillv_self]
      exact Ev.bind (spec_l4Mended_ev m (by omega)) (Ev.now _)
    | succ d ih =>
      intro i m h hm
      have := ih (i + 1) (m.set i (blk ⟨s0, s1, s2, s3, s4⟩)) (by omega) (by simpa using hm)
      rw [fillv_set _ _ _ _ (by omega) (by omega)] at this
      have wi : ∀ _ : Unit, wrap64 ((i : Int) + 1) = ((i + 1 : Nat) : Int) := fun _ => by rw [w64 (by omega) (by omega)]; omega
      refine ev_succ ?_
      simp only [spec_l4Cleared.l0, spec_l4Blank.f, Option.bind_some, wi (), Int.toNat_natCast]
      exact ev_pos (by omega) (ev_pos (by omega) (ev_pos (by omega) this))
  simp only [spec_l4Cleared.f, Option.bind_some, List.nil_append]
  exact ev_pos (by simp; omega) (loop (b - a) a l (by omega) rfl)

/-- A rune written over a cleared row. -/
def writtenOf (l : List S40) (a : Nat) (r : Int) (s : S29) : List S40 :=
  if wid r = 2 then ((mended (fillv l a (a + 2) (blk s))).set a ⟨r, s, 1⟩).set (a + 1) ⟨0, s, 2⟩ else (mended (fillv l a (a + 1) (blk s))).set a ⟨r, s, 0⟩
theorem writtenOf_length (l : List S40) (a : Nat) (r : Int) (s : S29) (h : a + 1 ≤ l.length) (h2 : wid r = 2 → a + 2 ≤ l.length) : (writtenOf l a r s).length = l.length := by
  unfold writtenOf
  by_cases q : wid r = 2
  · rw [if_pos q, List.length_set, List.length_set, mended_length, fillv_length _ _ _ _ (by omega) (h2 q)]
  · rw [if_neg q, List.length_set, mended_length, fillv_length _ _ _ _ (by omega) h]
theorem spec_l4Written_ev (l : List S40) (a : Nat) (r : Int) (s0 s1 : Int) (s2 s3 s4 : Bool) (hl : l.length < 1000000) (h0 : wid r = 1 ∨ wid r = 2) (ha : (a : Int) + wid r ≤ (l.length : Int)) :
    Ev (fun k => spec_l4Written.f k l (a : Int) r s0 s1 s2 s3 s4) (writtenOf l a r ⟨s0, s1, s2, s3, s4⟩) := by
  unfold spec_l4Written.f writtenOf
  refine Ev.bind (spec_Width_ev r) ?_
  rcases h0 with h0 | h0
  · rw [if_neg (by omega)]
    have wa : wrap64 ((a : Int) + wid r) = ((a + 1 : Nat) : Int) := by rw [h0, w64 (by omega) (by omega)]; omega
    have wp : wrap64 (wid r - 1) = 0 := by rw [h0]; exact w64 (by omega) (by omega)
    simp only [wa, wp, Int.toNat_natCast, Option.bind_some]
    have e := spec_l4Cleared_ev l a (a + 1) s0 s1 s2 s3 s4 hl (by omega) (by omega)
    have hlen : (mended (fillv l a (a + 1) (blk ⟨s0, s1, s2, s3, s4⟩))).length = l.length := by rw [mended_length, fillv_length _ _ _ _ (by omega) (by omega)]
    refine Ev.bind e (ev_pos (by omega) (ev_pos (by rw [hlen]; omega) (ev_neg (by omega) (Ev.now _))))
  · rw [if_pos h0]
    have wa : wrap64 ((a : Int) + wid r) = ((a + 2 : Nat) : Int) := by rw [h0, w64 (by omega) (by omega)]; omega
    have wp : wrap64 (wid r - 1) = 1 := by rw [h0]; exact w64 (by omega) (by omega)
    have w1 : wrap64 ((a : Int) + 1) = ((a + 1 : Nat) : Int) := by rw [w64 (by omega) (by omega)]; omega
    simp only [wa, wp, w1, Int.toNat_natCast, Option.bind_some]
    have e := spec_l4Cleared_ev l a (a + 2) s0 s1 s2 s3 s4 hl (by omega) (by omega)
    have hlen : (mended (fillv l a (a + 2) (blk ⟨s0, s1, s2, s3, s4⟩))).length = l.length := by rw [mended_length, fillv_length _ _ _ _ (by omega) (by omega)]
    refine Ev.bind e (ev_pos (by omega) (ev_pos (by rw [hlen]; omega) (ev_pos h0 (ev_pos (by omega) (ev_pos (by rw [hlen]; omega) (Ev.now _))))))

theorem spec_l4DrawRune_some (b : List Int) (hb : b.length < 4611686018427387904) (i h : Int) (hi : 0 ≤ i) : ∃ v i' h', spec_l4DrawRune.f b i h = some (v, i', h') ∧ (wid v = 1 ∨ wid v = 2) ∧ 0 ≤ i' := by
  unfold spec_l4DrawRune.f
  obtain ⟨v, i1, h1, e, v0, v1, j1⟩ := spec_l1Below_some b hb i h 8 hi (by omega)
  rw [Option.bind_some, e]
  simp only [Option.bind_some]
  rw [if_pos v0, if_pos (by simp; omega)]
  refine ⟨_, _, _, rfl, ?_, j1⟩
  have hv : v = 0 ∨ v = 1 ∨ v = 2 ∨ v = 3 ∨ v = 4 ∨ v = 5 ∨ v = 6 ∨ v = 7 := by omega
  rcases hv with rfl | rfl | rfl | rfl | rfl | rfl | rfl | rfl <;> decide
theorem spec_l4DrawAt_some (b : List Int) (hb : b.length < 4611686018427387904) (i h a : Int) (hi : 0 ≤ i) (ha : a < 1000000000) : ∃ v i' h', spec_l4DrawAt.f b i h a = some (v, i', h') ∧ 0 ≤ i' := by
  unfold spec_l4DrawAt.f
  obtain ⟨v, i1, h1, e, j1⟩ := spec_l1Once_some b hb i h 12 hi (by omega)
  rw [e]; simp only [Option.bind_some]
  cases v with
  | true =>
    rw [if_pos rfl]
    obtain ⟨v, i2, h2, e2, v0, v1, j2⟩ := spec_l1Below_some b hb i1 h1 5 j1 (by omega)
    rw [e2]; simp only [Option.bind_some]
    rw [if_pos v0, if_pos (by simp; omega)]
    exact ⟨_, _, _, rfl, j2⟩
  | false =>
    rw [if_neg (by simp)]
    obtain ⟨m, em, hm⟩ : ∃ m, spec_l1Max.f 1 a = some m ∧ m < 1000000001 := by
      unfold spec_l1Max.f
      split <;> exact ⟨_, rfl, by omega⟩
    rw [em]; simp only [Option.bind_some]
    obtain ⟨v, i2, h2, e2, _, _, j2⟩ := spec_l1Below_some b hb i1 h1 m j1 (by omega)
    rw [e2]; simp only [Option.bind_some]
    exact ⟨_, _, _, rfl, j2⟩
theorem spec_l4Draw_some (b : List Int) (hb : b.length < 4611686018427387904) (i h : Int) (hi : 0 ≤ i) (n : Nat) (h1 : 1 ≤ n) (h9 : n ≤ 60) :
    ∃ l i' h', Ev (fun k => spec_l4Draw.f k b i h (n : Int)) (l, i', h') ∧ l.length = n ∧ 0 ≤ i' := by
  have go : ∀ (d : Nat) (l : List S40) (i h : Int), d ≤ 7 → l.length = n → 0 ≤ i → ∃ l' i' h', Ev (fun k => spec_l4Draw.l0 k (n : Int) l (d : Int) b i h) (l', i', h') ∧ l'.length = n ∧ 0 ≤ i' := by
    intro d
    induction d with
    | zero =>
      intro l i h _ hl hi
      refine ⟨l, i, h, ev_succ ?_, hl, hi⟩
      simp only [spec_l4Draw.l0]
      exact ev_neg (by omega) (Ev.now _)
    | succ d ih =>
      intro l i h hd hl hi
      have wd : ∀ _ : Unit, wrap64 (((d + 1 : Nat) : Int) - 1) = (d : Int) := fun _ => by rw [w64 (by omega) (by omega)]; omega
      obtain ⟨r, i1, h1', e1, hw, j1⟩ := spec_l4DrawRune_some b hb i h hi
      obtain ⟨a, i2, h2, e2, a0, a1, j2⟩ := spec_l1Below_some b hb i1 h1' (n : Int) j1 (by omega)
      obtain ⟨x, rfl⟩ := Int.eq_ofNat_of_zero_le a0
      have wa : wrap64 ((x : Int) + wid r) = (x : Int) + wid r := w64 (by omega) (by omega)
      by_cases c : (x : Int) + wid r ≤ (n : Int)
      · obtain ⟨s0, s1, s2, s3, s4, i3, h3, e3, j3⟩ := spec_l3Draw_some b hb i2 h2 j2
        have ew := spec_l4Written_ev l x r s0 s1 s2 s3 s4 (by omega) hw (by omega)
        have lw := writtenOf_length l x r ⟨s0, s1, s2, s3, s4⟩ (by omega) (fun q => by omega)
        obtain ⟨l', i', h', e', hl', hi'⟩ := ih (writtenOf l x r ⟨s0, s1, s2, s3, s4⟩) i3 h3 (by omega) (by omega) j3
        refine ⟨l', i', h', ev_succ ?_, hl', hi'⟩
        simp only [spec_l4Draw.l0, e1, e2, e3, Option.bind_some, wd ()]
        exact ev_pos (by omega) (Ev.bind (spec_Width_ev r) (ev_pos (by rw [wa]; exact c) (Ev.bind ew e')))
      · obtain ⟨l', i', h', e', hl', hi'⟩ := ih l i2 h2 (by omega) hl j2
        refine ⟨l', i', h', ev_succ ?_, hl', hi'⟩
        simp only [spec_l4Draw.l0, e1, e2, Option.bind_some, wd ()]
        exact ev_pos (by omega) (Ev.bind (spec_Width_ev r) (ev_neg (by rw [wa]; exact c) e'))
  unfold spec_l4Draw.f
  obtain ⟨v, i1, h1', e1, v0, v1, j1⟩ := spec_l1Below_some b hb i h 7 hi (by omega)
  obtain ⟨d, rfl⟩ := Int.eq_ofNat_of_zero_le v0
  obtain ⟨l', i', h', e', hl', hi'⟩ := go d (List.replicate n (blk ⟨0, 0, false, false, false⟩)) i1 h1' (by omega) (by simp) j1
  exact ⟨l', i', h', Ev.bind (spec_l4Row_ev n 0 0 false false false (by omega)) (ev_bind_of e1 e'), hl', hi'⟩
theorem spec_l4DrawAny_some (b : List Int) (hb : b.length < 4611686018427387904) (i h : Int) (hi : 0 ≤ i) :
    ∃ l i' h', Ev (fun k => spec_l4DrawAny.f k b i h) (l, i', h') ∧ l.length ≤ 61 ∧ 0 ≤ i' := by
  unfold spec_l4DrawAny.f
  obtain ⟨v, i1, h1, e1, v0, v1, j1⟩ := spec_l1Below_some b hb i h 9 hi (by omega)
  obtain ⟨d, rfl⟩ := Int.eq_ofNat_of_zero_le v0
  have w1 : ∀ _ : Unit, wrap64 (1 + (d : Int)) = ((1 + d : Nat) : Int) := fun _ => by rw [w64 (by omega) (by omega)]; omega
  obtain ⟨l, i2, h2, e2, hl, j2⟩ := spec_l4Draw_some b hb i1 h1 j1 (1 + d) (by omega) (by omega)
  obtain ⟨o, i3, h3, e3, j3⟩ := spec_l1Once_some b hb i2 h2 12 j2 (by omega)
  cases o with
  | false =>
    refine ⟨l, i3, h3, ev_bind_of e1 ?_, by omega, j3⟩
    simp only [w1 ()]
    exact Ev.bind e2 (ev_bind_of e3 (ev_neg (by simp) (Ev.now _)))
  | true =>
    obtain ⟨a, i4, h4, e4, a0, a1, j4⟩ := spec_l1Below_some b hb i3 h3 (l.length : Int) j3 (by omega)
    obtain ⟨c, i5, h5, e5, c0, c1, j5⟩ := spec_l1Below_some b hb i4 h4 4 j4 (by omega)
    by_cases q0 : c = 0
    · obtain ⟨u, i6, h6, e6, u0, u1, j6⟩ := spec_l1Below_some b hb i5 h5 6 j5 (by omega)
      have ef : spec_l1From.f b i5 h5 (-1) 4 = some (wrap64 (-1 + u), i6, h6) := by
        unfold spec_l1From.f
        rw [w64 (x := 4 - (-1)) (by omega) (by omega), show (4 : Int) - (-1) + 1 = 6 by omega, w64 (x := 6) (by omega) (by omega), e6]
        rfl
      refine ⟨l.set a.toNat ⟨(rd_T40 l a).f0, ⟨(rd_T40 l a).f1.f0, (rd_T40 l a).f1.f1, (rd_T40 l a).f1.f2, (rd_T40 l a).f1.f3, (rd_T40 l a).f1.f4⟩, wrap64 (-1 + u)⟩, i6, h6, ev_bind_of e1 ?_, by rw [List.length_set]; omega, j6⟩
      simp only [w1 ()]
      exact Ev.bind e2 (ev_bind_of e3 (ev_pos rfl (ev_bind_of e4 (ev_pos a0 (ev_pos (show a < (l.length : Int) by omega) (ev_bind_of e5 (ev_pos q0 (ev_bind_of ef (Ev.now _)))))))))
    by_cases q1 : c = 1
    · obtain ⟨u, i6, h6, e6, u0, u1, j6⟩ := spec_l1Below_some b hb i5 h5 4 j5 (by omega)
      refine ⟨l.set a.toNat ⟨rd [0, 10, 19968, (-1)] u, ⟨(rd_T40 l a).f1.f0, (rd_T40 l a).f1.f1, (rd_T40 l a).f1.f2, (rd_T40 l a).f1.f3, (rd_T40 l a).f1.f4⟩, (rd_T40 l a).f2⟩, i6, h6, ev_bind_of e1 ?_, by rw [List.length_set]; omega, j6⟩
      simp only [w1 (), Option.bind_some]
      exact Ev.bind e2 (ev_bind_of e3 (ev_pos rfl (ev_bind_of e4 (ev_pos a0 (ev_pos (show a < (l.length : Int) by omega) (ev_bind_of e5 (ev_neg q0 (ev_pos q1 (ev_bind_of e6 (ev_pos u0 (ev_pos (by simp only [List.length_cons, List.length_nil]; omega) (Ev.now _))))))))))))
    by_cases q2 : c = 2
    · obtain ⟨s0, s1, s2, s3, s4, i6, h6, e6, j6⟩ := spec_l3DrawAny_some b hb i5 h5 j5
      refine ⟨l.set a.toNat ⟨(rd_T40 l a).f0, ⟨s0, s1, s2, s3, s4⟩, (rd_T40 l a).f2⟩, i6, h6, ev_bind_of e1 ?_, by rw [List.length_set]; omega, j6⟩
      simp only [w1 ()]
      exact Ev.bind e2 (ev_bind_of e3 (ev_pos rfl (ev_bind_of e4 (ev_pos a0 (ev_pos (show a < (l.length : Int) by omega) (ev_bind_of e5 (ev_neg q0 (ev_neg q1 (ev_pos q2 (ev_bind_of e6 (Ev.now _)))))))))))
    · obtain ⟨u, i6, h6, e6, u0, u1, j6⟩ := spec_l1Below_some b hb i5 h5 2 j5 (by omega)
      obtain ⟨m, rfl⟩ := Int.eq_ofNat_of_zero_le u0
      have w2 : ∀ _ : Unit, wrap64 (60 + (m : Int)) = ((60 + m : Nat) : Int) := fun _ => by rw [w64 (by omega) (by omega)]; omega
      have er := spec_l4Row_ev (60 + m) 0 0 false false false (by omega)
      refine ⟨List.replicate (60 + m) (blk ⟨0, 0, false, false, false⟩), i6, h6, ev_bind_of e1 ?_, by rw [List.length_replicate]; omega, j6⟩
      simp only [w1 ()]
      refine Ev.bind e2 (ev_bind_of e3 (ev_pos rfl (ev_bind_of e4 (ev_pos a0 (ev_pos (show a < (l.length : Int) by omega) (ev_bind_of e5 (ev_neg q0 (ev_neg q1 (ev_neg q2 (ev_pos (by omega) (ev_bind_of e6 ?_)))))))))))
      simp only [w2 ()]
      exact Ev.bind er (Ev.now _)

theorem style_self (x : S29) : (!(x.f0 == x.f0) || (!(x.f1 == x.f1) || (!(x.f2 == x.f2) || (!(x.f3 == x.f3) || (!(x.f4 == x.f4)))))) = false := by simp
theorem cell_self (x : S40) : (!(x.f0 == x.f0) || ((!(x.f1.f0 == x.f1.f0) || (!(x.f1.f1 == x.f1.f1) || (!(x.f1.f2 == x.f1.f2) || (!(x.f1.f3 == x.f1.f3) || (!(x.f1.f4 == x.f1.f4)))))) || (!(x.f2 == x.f2)))) = false := by simp
theorem laws_likeRow_ev (l : List S40) (hl : l.length < 1000000000) : Ev (fun k => laws_likeRow.f k l l) true := by
  have go : ∀ (d i : Nat), i + d = l.length → Ev (fun k => laws_likeRow.l0 k l l (i : Int)) true := by
    intro d
    induction d with
    | zero =>
      intro i h
      refine ev_succ ?_
      simp only [laws_likeRow.l0]
      exact ev_neg (by omega) (Ev.now _)
    | succ d ih =>
      intro i h
      refine ev_succ ?_
      simp only [laws_likeRow.l0, w64 (x := (i : Int) + 1) (by omega) (by omega)]
      exact ev_pos (by omega) (ev_pos (by omega) (ev_pos (by omega) (ev_neg (by rw [cell_self]; simp) (ih (i + 1) (by omega)))))
  unfold laws_likeRow.f
  exact ev_pos rfl (go l.length 0 (by omega))
theorem likeRow_eq (a b : List S40) (e : a = b) (hl : a.length < 1000000000) : Ev (fun k => laws_likeRow.f k a b) true := by
  subst e; exact laws_likeRow_ev a hl

theorem part_self (l : List S40) (a : Nat) (h : a < l.length → (cellAt l a).f2 ≠ 2) : partv l a = l := by
  unfold partv
  rw [if_neg (fun q => h q.2.1 q.2.2)]
/-- Where no wide rune is parted, cut cells are as they were. -/
theorem take_self {l : List S40} (hr : CellsRight l) (a : Nat) (ha : a ≤ l.length) (h : a < l.length → (cellAt l a).f2 ≠ 2) : mended (l.take a) = l.take a := by
  rw [← part_take hr a ha, part_self l a h]
theorem drop_self {l : List S40} (hr : CellsRight l) (a : Nat) (ha : a ≤ l.length) (h : a < l.length → (cellAt l a).f2 ≠ 2) : mended (l.drop a) = l.drop a := by
  rw [← part_drop hr a ha, part_self l a h]
theorem mid_at (l : List S40) (x m : Nat) (s : S29) (hx : x ≤ l.length) (i : Nat) (h1 : x ≤ i) (h2 : i < x + m) : cellAt (midv l x m s) i = blk s := by
  have lt : (mended (l.take x)).length = x := by rw [mended_length, List.length_take]; omega
  unfold midv
  rw [cellAt_app, if_pos (by rw [List.length_append, lt, List.length_replicate]; omega), cellAt_app, if_neg (by rw [lt]; omega), lt, cellAt_rep _ _ _ (by omega)]
theorem mid_far (l : List S40) (x m : Nat) (s : S29) (hx : x ≤ l.length) (i : Nat) (h1 : x + m ≤ i) : cellAt (midv l x m s) i = cellAt (mended (l.drop x)) (i - x - m) := by
  have lt : (mended (l.take x)).length = x := by rw [mended_length, List.length_take]; omega
  unfold midv
  have e : (mended (l.take x) ++ List.replicate m (blk s)).length = x + m := by rw [List.length_append, lt, List.length_replicate]
  rw [cellAt_app, if_neg (by rw [e]; omega), e, show i - (x + m) = i - x - m by omega]
theorem pushed_at (l : List S40) (x m : Nat) (s : S29) (hx : x < l.length) (i : Nat) (h1 : x ≤ i) (h2 : i < x + m) (h3 : i < l.length) : cellAt (pushedv l x m s) i = blk s := by
  have ml := midv_length l x m s (by omega)
  have e : cellAt ((midv l x m s).take l.length) i = blk s := by rw [cellAt_take _ _ _ h3, mid_at l x m s (by omega) i h1 h2]
  unfold pushedv
  rw [if_neg (by omega), cellAt_mended _ _ (by rw [List.length_take, ml]; omega)]
  unfold mendAt
  rw [if_neg, e]
  unfold aloneAt
  rw [e]
  rintro (⟨q, _⟩ | ⟨q, _⟩) <;> exact absurd q (by show ¬ ((0 : Int) = _); omega)
/-- Pushed and pulled back. -/
theorem back_eq {l : List S40} (hr : RowRight l) (x m : Nat) (s : S29) (hs : sokv s.f0 s.f1 = true) (hm : x + m < l.length) (h1 : (cellAt l x).f2 ≠ 2)
    (h2 : (cellAt (pushedv l x m s) (l.length - 1)).f2 = (cellAt l (l.length - 1 - m)).f2) : (pulledv (pushedv l x m s) x m s).take (l.length - m) = l.take (l.length - m) := by
  have hc := right_cells hr
  by_cases z : m = 0
  · subst z
    have e : pushedv l x 0 s = l := by unfold pushedv; rw [if_pos rfl]
    rw [e]
    unfold pulledv
    rw [if_pos (Nat.zero_min _)]
  · have et := take_self hc x (by omega) (fun _ => h1)
    have ed := drop_self hc x (by omega) (fun _ => h1)
    have hd : CellsRight (l.drop x) := ed ▸ mended_drop hc x
    have hml := midv_length l x m s (by omega)
    have hmr := midv_right hc x m s hs
    have hP : pushedv l x m s = mended ((midv l x m s).take l.length) := by unfold pushedv; rw [if_neg z]
    have mf : ∀ i, x + m ≤ i → cellAt (midv l x m s) i = cellAt l (i - m) := fun i hi => by
      rw [mid_far l x m s (by omega) i hi, ed, cellAt_drop, show x + (i - x - m) = i - m by omega]
    have hn2 : (cellAt l (l.length - m)).f2 ≠ 2 := by
      intro q
      have h3 := (hc (l.length - m) (by omega)).2
      have h4 : (cellAt l (l.length - m - 1)).f2 = 1 := by
        rcases h3 with w | w | w
        · omega
        · omega
        · exact w.2.2.2
      rw [show l.length - 1 - m = l.length - m - 1 by omega, h4, hP, cellAt_mended _ _ (by rw [List.length_take, hml]; omega)] at h2
      have e1 : cellAt ((midv l x m s).take l.length) (l.length - 1) = cellAt l (l.length - m - 1) := by
        rw [cellAt_take _ _ _ (by omega), mf _ (by omega), show l.length - 1 - m = l.length - m - 1 by omega]
      unfold mendAt at h2
      rw [if_pos] at h2
      · exact absurd h2 (by show ¬ ((0 : Int) = 1); omega)
      · unfold aloneAt
        rw [e1, h4, List.length_take, hml]
        exact .inl ⟨rfl, .inl (by omega)⟩
    have hZ : pushedv l x m s = (midv l x m s).take l.length := by
      rw [hP]
      refine take_self hmr l.length (by omega) (fun _ => ?_)
      rw [mf _ (by omega)]; exact hn2
    have hmid : midv l x m s = l.take x ++ List.replicate m (blk s) ++ l.drop x := by unfold midv; rw [et, ed]
    have ltx : (l.take x).length = x := by rw [List.length_take]; omega
    have hpre : (l.take x ++ List.replicate m (blk s)).length = x + m := by rw [List.length_append, ltx, List.length_replicate]
    have hZ2 : pushedv l x m s = l.take x ++ List.replicate m (blk s) ++ (l.drop x).take (l.length - x - m) := by
      rw [hZ, hmid, List.take_append, List.take_of_length_le (by rw [hpre]; omega), hpre, show l.length - (x + m) = l.length - x - m by omega]
    have pt : (pushedv l x m s).take x = l.take x := by rw [hZ2, List.append_assoc, List.take_left' ltx]
    have pd : (pushedv l x m s).drop (x + m) = (l.drop x).take (l.length - x - m) := by rw [hZ2, List.drop_left' hpre]
    have pl := pushedv_length l x m s (by omega)
    have em : mended ((l.drop x).take (l.length - x - m)) = (l.drop x).take (l.length - x - m) := by
      refine take_self hd _ (by rw [List.length_drop]; omega) (fun _ => ?_)
      rw [cellAt_drop, show x + (l.length - x - m) = l.length - m by omega]; exact hn2
    have hq : min m ((pushedv l x m s).length - x) = m := by rw [pl]; omega
    unfold pulledv
    rw [hq, if_neg z, pt, et, pd, em]
    have e2 : (l.take x ++ (l.drop x).take (l.length - x - m)).length = l.length - m := by rw [List.length_append, ltx, List.length_take, List.length_drop]; omega
    rw [List.take_left' e2]
    rw [show l.length - m = x + (l.length - x - m) by omega, List.take_add]
theorem moved_end (row : List S40) (x m : Nat) (s0 s1 : Int) (s2 s3 s4 : Bool) (h : Mov row (x : Int) (m : Int) s0 s1) (i : Int) :
    Ev (fun k => laws_FnMoved.j3 k row (x : Int) (m : Int) (pushedv row x m ⟨s0, s1, s2, s3, s4⟩) (row.length : Int) i false s0 s1 s2 s3 s4) true := by
  have hr := h.1
  have h60 := hr.2.1
  have hs := h.2.1
  have hx : x < row.length := by have := h.2.2.1.2; omega
  have hm : m ≤ row.length := by have := h.2.2.2.2; omega
  have pl := pushedv_length row x m ⟨s0, s1, s2, s3, s4⟩ hx
  have pr := pushedv_right hr x m ⟨s0, s1, s2, s3, s4⟩ hs hx
  obtain ⟨P, hP⟩ : ∃ P, P = pushedv row x m ⟨s0, s1, s2, s3, s4⟩ := ⟨_, rfl⟩
  have hm2 : Mov P (x : Int) (m : Int) s0 s1 := by rw [hP]; exact ⟨pr, hs, by rw [pl]; exact h.2.2.1, by rw [pl]; exact h.2.2.2⟩
  have eb := (Pulled_yes P x m s0 s1 s2 s3 s4 hm2).2
  rw [← hP] at pl pr ⊢
  have br := pulledv_right pr x m ⟨s0, s1, s2, s3, s4⟩ hs (by omega)
  have bl := pulledv_length P x m ⟨s0, s1, s2, s3, s4⟩ (by omega)
  have jt : Ev (fun k => laws_FnMoved.j4 k row (x : Int) (m : Int) (row.length : Int) (pulledv P x m ⟨s0, s1, s2, s3, s4⟩) true s0 s1 s2 s3 s4) true := by
    obtain ⟨b, e, hb⟩ := impl_RowOk_some (pulledv P x m ⟨s0, s1, s2, s3, s4⟩) (by omega)
    obtain rfl : b = true := hb.mpr br
    refine ev_succ ?_
    simp only [laws_FnMoved.j4]
    exact ev_pos (by trivial) (Ev.bind e (Ev.now _))
  have wxm : ∀ _ : Unit, wrap64 ((x : Int) + (m : Int)) = ((x + m : Nat) : Int) := fun _ => by rw [w64 (by omega) (by omega)]; omega
  have wl1 : ∀ _ : Unit, wrap64 ((row.length : Int) - 1) = ((row.length - 1 : Nat) : Int) := fun _ => by rw [w64 (by omega) (by omega)]; omega
  refine ev_succ ?_
  simp only [laws_FnMoved.j3, wxm (), wl1 ()]
  refine ev_neg (by simp) (Ev.bind eb ?_)
  by_cases c1 : x + m < row.length
  case neg => exact ev_pos (by omega) jt
  refine ev_neg (by omega) (ev_pos (by omega) (ev_pos (by omega) ?_))
  by_cases c2 : (rd_T40 row (x : Int)).f2 = 2
  · exact ev_pos c2 jt
  refine ev_neg c2 ?_
  have wlm : ∀ _ : Unit, wrap64 (((row.length - 1 : Nat) : Int) - (m : Int)) = ((row.length - 1 - m : Nat) : Int) := fun _ => by rw [w64 (by omega) (by omega)]; omega
  simp only [wlm ()]
  refine ev_pos (by omega) (ev_pos (by omega) (ev_pos (by omega) (ev_pos (by omega) ?_)))
  by_cases c3 : (rd_T40 P ((row.length - 1 : Nat) : Int)).f2 = (rd_T40 row ((row.length - 1 - m : Nat) : Int)).f2
  case neg => rw [show ((rd_T40 P ((row.length - 1 : Nat) : Int)).f2 != (rd_T40 row ((row.length - 1 - m : Nat) : Int)).f2) = true by simpa using c3]; exact jt
  rw [show ((rd_T40 P ((row.length - 1 : Nat) : Int)).f2 != (rd_T40 row ((row.length - 1 - m : Nat) : Int)).f2) = false by simpa using c3]
  have be : (pulledv P x m ⟨s0, s1, s2, s3, s4⟩).take (row.length - m) = row.take (row.length - m) := by
    rw [hP]
    refine back_eq hr x m _ hs c1 c2 ?_
    rw [← hP]; exact c3
  have h0 : Mov row (x : Int) ((0 : Nat) : Int) s0 s1 := ⟨hr, hs, h.2.2.1, by omega⟩
  have ep := (Pushed_yes row x 0 s0 s1 s2 s3 s4 h0).2
  have e0 : pushedv row x 0 ⟨s0, s1, s2, s3, s4⟩ = row := by unfold pushedv; rw [if_pos rfl]
  rw [e0] at ep
  have wlm2 : ∀ _ : Unit, wrap64 ((row.length : Int) - (m : Int)) = ((row.length - m : Nat) : Int) := fun _ => by rw [w64 (by omega) (by omega)]; omega
  refine ev_succ ?_
  simp only [laws_FnMoved.j4, wlm2 (), Int.toNat_natCast]
  refine ev_neg (by simp) (ev_pos (by omega) (ev_pos (by omega) (ev_pos (by omega) ?_)))
  exact Ev.bind (likeRow_eq _ _ be (by rw [List.length_take]; omega)) (ev_pos rfl (Ev.bind ep (Ev.bind (laws_likeRow_ev row (by omega)) (Ev.now _))))
theorem moved_l0 (row : List S40) (x m : Nat) (s0 s1 : Int) (s2 s3 s4 : Bool) (h : Mov row (x : Int) (m : Int) s0 s1) : ∀ (d i : Nat), i + d = min (x + m) row.length → x ≤ i →
    Ev (fun k => laws_FnMoved.l0 k row (x : Int) (m : Int) (pushedv row x m ⟨s0, s1, s2, s3, s4⟩) (row.length : Int) (i : Int) s0 s1 s2 s3 s4) true := by
  have h60 := h.1.2.1
  have hx : x < row.length := by have := h.2.2.1.2; omega
  have hm : m ≤ row.length := by have := h.2.2.2.2; omega
  have pl := pushedv_length row x m ⟨s0, s1, s2, s3, s4⟩ hx
  have wxm : ∀ _ : Unit, wrap64 ((x : Int) + (m : Int)) = ((x + m : Nat) : Int) := fun _ => by rw [w64 (by omega) (by omega)]; omega
  intro d
  induction d with
  | zero =>
    intro i hi _
    refine ev_succ ?_
    simp only [laws_FnMoved.l0, wxm ()]
    by_cases c : i < x + m
    · refine ev_pos (by omega) ?_
      rw [decide_eq_false (by omega)]; exact moved_end row x m s0 s1 s2 s3 s4 h _
    · exact ev_neg (by omega) (moved_end row x m s0 s1 s2 s3 s4 h _)
  | succ d ih =>
    intro i hi hxi
    have e := ih (i + 1) (by omega) (by omega)
    have wi : ∀ _ : Unit, wrap64 ((i : Int) + 1) = ((i + 1 : Nat) : Int) := fun _ => by rw [w64 (by omega) (by omega)]; omega
    have hc : rd_T40 (pushedv row x m ⟨s0, s1, s2, s3, s4⟩) (i : Int) = blk ⟨s0, s1, s2, s3, s4⟩ := pushed_at row x m _ hx i hxi (by omega) (by omega)
    refine ev_succ ?_
    simp only [laws_FnMoved.l0, wxm ()]
    refine ev_pos (by omega) ?_
    rw [decide_eq_true (by omega)]
    refine ev_succ ?_
    simp only [laws_FnMoved.j3, wi (), hc]
    exact ev_pos (by trivial) (ev_pos (by omega) (ev_pos (by rw [pl]; omega) (ev_neg (by simp [blk]) e)))
theorem spec_DrawPushed_some (l : List Int) (hl : l.length < 4611686018427387904) : ∃ (r : List S40) (a n s0 s1 : Int) (s2 s3 s4 : Bool), Ev (fun k => spec_DrawPushed.f k l) (r, a, n, s0, s1, s2, s3, s4) ∧ r.length ≤ 61 := by
  obtain ⟨h, e0⟩ := spec_l1New_some l hl
  obtain ⟨r, i1, h1, e1, hr, j1⟩ := spec_l4DrawAny_some l hl 0 h (by omega)
  obtain ⟨a, i5, h5, e5, j5⟩ := spec_l4DrawAt_some l hl i1 h1 (r.length : Int) j1 (by omega)
  have wr : ∀ _ : Unit, wrap64 ((r.length : Int) + 1) = (r.length : Int) + 1 := fun _ => w64 (by omega) (by omega)
  obtain ⟨n, i6, h6, e6, j6⟩ := spec_l4DrawAt_some l hl i5 h5 ((r.length : Int) + 1) j5 (by omega)
  obtain ⟨s0, s1, s2, s3, s4, i7, h7, e7, j7⟩ := spec_l3DrawAny_some l hl i6 h6 j6
  unfold spec_DrawPushed.f
  refine ⟨r, a, n, s0, s1, s2, s3, s4, Ev.bind e0 (Ev.bind e1 (ev_bind_of e5 ?_)), hr⟩
  simp only [wr ()]
  exact ev_bind_of e6 (ev_bind_of e7 (Ev.now _))
theorem FnMoved : laws_FnMoved.Pure := by
  intro l _ hl _
  refine Ev.rounds ?_
  unfold laws_FnMoved.f laws_big.f
  refine ev_bind_of rfl ?_
  by_cases hb : (l.length : Int) > 4096
  · exact ev_pos (by simpa using hb) (Ev.now _)
  refine ev_neg (by simpa using hb) ?_
  have hl' : l.length < 4611686018427387904 := by omega
  obtain ⟨row, a, n, s0, s1, s2, s3, s4, e0, hlen⟩ := spec_DrawPushed_some l hl'
  refine Ev.bind e0 ?_
  by_cases h : Mov row a n s0 s1
  · obtain ⟨x, rfl⟩ := Int.eq_ofNat_of_zero_le h.2.2.1.1
    obtain ⟨m, rfl⟩ := Int.eq_ofNat_of_zero_le h.2.2.2.1
    have hx : x < row.length := by have := h.2.2.1.2; omega
    have h60 := h.1.2.1
    obtain ⟨u1, u2⟩ := Pushed_yes row x m s0 s1 s2 s3 s4 h
    obtain ⟨v1, v2⟩ := Pulled_yes row x m s0 s1 s2 s3 s4 h
    have pl := pushedv_length row x m ⟨s0, s1, s2, s3, s4⟩ hx
    have ql := pulledv_length row x m ⟨s0, s1, s2, s3, s4⟩ hx
    obtain ⟨b1, e1, hb1⟩ := impl_RowOk_some (pushedv row x m ⟨s0, s1, s2, s3, s4⟩) (by omega)
    obtain rfl : b1 = true := hb1.mpr (pushedv_right h.1 x m _ h.2.1 hx)
    obtain ⟨b2, e2, hb2⟩ := impl_RowOk_some (pulledv row x m ⟨s0, s1, s2, s3, s4⟩) (by omega)
    obtain rfl : b2 = true := hb2.mpr (pulledv_right h.1 x m _ h.2.1 hx)
    have el := moved_l0 row x m s0 s1 s2 s3 s4 h (min (x + m) row.length - x) x (by omega) (by omega)
    refine Ev.bind u2 (Ev.bind v2 (Ev.bind u1 (Ev.bind (laws_likeRow_ev _ (by omega)) (ev_pos rfl (Ev.bind v1 (Ev.bind (laws_likeRow_ev _ (by omega)) ?_))))))
    refine ev_succ ?_
    simp only [laws_FnMoved.j0]
    refine ev_neg (by simp) (ev_neg (by omega) (Ev.bind e1 (ev_pos rfl (Ev.bind e2 (ev_pos rfl (ev_pos (by omega) ?_))))))
    rw [show (((pulledv row x m ⟨s0, s1, s2, s3, s4⟩).length : Int) != (row.length : Int)) = false by simp [ql]]
    refine ev_succ ?_
    simp only [laws_FnMoved.j1]
    exact ev_neg (by simp) el
  · obtain ⟨u1, u2⟩ := Pushed_no row a n s0 s1 s2 s3 s4 (by omega) h
    obtain ⟨v1, v2⟩ := Pulled_no row a n s0 s1 s2 s3 s4 (by omega) h
    have ek := laws_likeRow_ev ([] : List S40) (by simp)
    refine Ev.bind u2 (Ev.bind v2 (Ev.bind u1 (Ev.bind ek (ev_pos rfl (Ev.bind v1 (Ev.bind ek ?_))))))
    refine ev_succ ?_
    simp only [laws_FnMoved.j0]
    exact ev_neg (by simp) (ev_pos (by simp) (ev_eq (Ev.now _) (by simp)))

end Go.Proofs.Ytfhkpneffmcdbaa.Pure
