/- The law FnExactGridText answers true at every grid. -/
import Derived.Test.YtepeanpoicefdaaDoorPAx19
import Derived.Test.YtepeanpoicefdaaDoorAimFnExactGridText
import Derived.Lib.TrimByte
namespace Go.Proofs.YtepeanpoicefdaaDoor.Pure
open Go.RowKit Go.Proofs.YtepeanpoicefdaaDoor.PA Go.Proofs.YtepeanpoicefdaaDoorW.PrintWords Go.Proofs.YtepeanpoicefdaaDoorW.PrintLast
set_option linter.unusedVariables false
set_option linter.unusedSimpArgs false

theorem w64 {x : Int} (h0 : -9223372036854775808 ≤ x) (h1 : x ≤ 9223372036854775807) : wrap64 x = x := by unfold wrap64; omega
theorem wf64 {x : Int} : (Lit.int .i64 x).wf = true ↔ -9223372036854775808 ≤ x ∧ x ≤ 9223372036854775807 := by
  simp [Lit.wf, IntKind.min, IntKind.max, IntKind.signed, IntKind.bits]
theorem wf8 {x : Int} : (Lit.int .u8 x).wf = true ↔ 0 ≤ x ∧ x ≤ 255 := by
  simp [Lit.wf, IntKind.min, IntKind.max, IntKind.signed, IntKind.bits]
theorem ev_succ {α : Type} {g : Nat → Option α} {r : α} (h : Ev (fun k => g (k + 1)) r) : Ev g r := by
  obtain ⟨K, h⟩ := h
  refine ⟨K + 1, fun k hk => ?_⟩
  obtain ⟨m, rfl⟩ : ∃ m, k = m + 1 := ⟨k - 1, by omega⟩
  exact h m (by omega)
theorem ev_fixed {α : Type} {x : Option α} {r : α} (h : x = some r) : Ev (fun _ => x) r := ⟨0, fun _ _ => h⟩
theorem ev_eq {α : Type} {g : Nat → Option α} {r s : α} (h : Ev g r) (e : r = s) : Ev g s := e ▸ h
/-- Never keep an equation 'wrap64 .. = ..' in the context where omega runs: it compares them by unfolding. -/
theorem wN {x : Int} {n : Nat} (e : x = (n : Int)) (h : n < 4611686018427387904) : wrap64 x = (n : Int) := by rw [e]; exact w64 (by omega) (by omega)

theorem ev_pos {α : Type} {c : Prop} [Decidable c] {a b : Nat → Option α} {r : α} (hc : c) (h : Ev a r) : Ev (fun k => if c then a k else b k) r := by
  obtain ⟨K, h⟩ := h
  exact ⟨K, fun k hk => by show (if c then a k else b k) = some r; rw [if_pos hc]; exact h k hk⟩
theorem ev_neg {α : Type} {c : Prop} [Decidable c] {a b : Nat → Option α} {r : α} (hc : ¬ c) (h : Ev b r) : Ev (fun k => if c then a k else b k) r := by
  obtain ⟨K, h⟩ := h
  exact ⟨K, fun k hk => by show (if c then a k else b k) = some r; rw [if_neg hc]; exact h k hk⟩
theorem ev_bind_some {α β : Type} {a : α} {f : Nat → α → Option β} {r : β} (h : Ev (fun k => f k a) r) : Ev (fun k => (some a).bind (f k)) r := h
theorem ev_bind_of {α β : Type} {x : Option α} {a : α} {f : Nat → α → Option β} {r : β} (hx : x = some a) (h : Ev (fun k => f k a) r) : Ev (fun k => x.bind (f k)) r := by
  subst hx; exact h

theorem rd_nat (l : List Int) (i : Nat) : rd l (i : Int) = l.getD i 0 := by simp [rd]
theorem rd_at {l : List Int} {i : Nat} (h : i < l.length) : rd l (i : Int) = l[i] := by rw [rd_nat, List.getD_eq_getElem?_getD, List.getElem?_eq_getElem h]; rfl
theorem take_set_succ {α : Type} (l : List α) (i : Nat) (a : α) (h : i < l.length) : (l.set i a).take (i + 1) = l.take i ++ [a] := by
  rw [List.take_succ_eq_append_getElem (by simpa using h), List.take_set, List.set_eq_of_length_le (by rw [List.length_take]; omega)]
  simp

theorem rdOf_at {α : Type} (d : α) {l : List α} {i : Nat} (h : i < l.length) : rdOf d l (i : Int) = l[i] := by
  unfold rdOf; rw [Int.toNat_natCast, List.getD_eq_getElem?_getD, List.getElem?_eq_getElem h]; rfl
theorem maxLen_eq : maxLen = 9223372036854775807 := rfl

theorem rdc {l : List S48} {i : Nat} (h : i < l.length) : rd_T48 l (i : Int) = l[i] := by
  unfold rd_T48; rw [Int.toNat_natCast, List.getD_eq_getElem?_getD, List.getElem?_eq_getElem h]; rfl
theorem style_ne (a b : S37) : ((!(a.f0 == b.f0) || (!(a.f1 == b.f1) || (!(a.f2 == b.f2) || (!(a.f3 == b.f3) || (!(a.f4 == b.f4)))))) = true) ↔ a ≠ b := by
  obtain ⟨a0, a1, a2, a3, a4⟩ := a
  obtain ⟨b0, b1, b2, b3, b4⟩ := b
  constructor
  · intro h e
    injection e with e0 e1 e2 e3 e4
    subst e0; subst e1; subst e2; subst e3; subst e4
    simp at h
  · intro h
    by_cases q0 : a0 = b0
    · by_cases q1 : a1 = b1
      · by_cases q2 : a2 = b2
        · by_cases q3 : a3 = b3
          · by_cases q4 : a4 = b4
            · subst q0; subst q1; subst q2; subst q3; subst q4; exact absurd rfl h
            · simp [q4]
          · simp [q3]
        · simp [q2]
      · simp [q1]
    · simp [q0]
theorem laws_eqCell_self (x : S48) : laws_eqCell.f x.f0 x.f1.f0 x.f1.f1 x.f1.f2 x.f1.f3 x.f1.f4 x.f2 x.f0 x.f1.f0 x.f1.f1 x.f1.f2 x.f1.f3 x.f1.f4 x.f2 = some true := by
  simp [laws_eqCell.f, laws_eqStyle.f]
theorem laws_eqCellS_ev (l : List S48) (hl : l.length < 9223372036854775807) : Ev (fun k => laws_eqCellS.f k l l) true := by
  have go : ∀ (d i : Nat), i + d = l.length → Ev (fun k => laws_eqCellS.l0 k l l (i : Int)) true := by
    intro d
    induction d with
    | zero =>
      intro i h
      refine ev_succ ?_
      simp only [laws_eqCellS.l0]
      exact ev_neg (by omega) (Ev.now _)
    | succ d ih =>
      intro i h
      refine ev_succ ?_
      simp only [laws_eqCellS.l0, w64 (x := (i : Int) + 1) (by omega) (by omega), laws_eqCell_self, Option.bind_some]
      exact ev_pos (by omega) (ev_pos (by omega) (ev_pos (by omega) (ev_pos (by first | rfl | trivial) (ih (i + 1) (by omega)))))
  unfold laws_eqCellS.f
  exact ev_pos rfl (go l.length 0 (by omega))

theorem rdlc {l : List S108} {i : Nat} (h : i < l.length) : rd_T108 l (i : Int) = l[i] := by
  unfold rd_T108; rw [Int.toNat_natCast, List.getD_eq_getElem?_getD, List.getElem?_eq_getElem h]; rfl
def tocell (x : S108) : S48 := ⟨x.f0, ⟨x.f1.f0, x.f1.f1, x.f1.f2, x.f1.f3, x.f1.f4⟩, x.f2⟩
theorem laws_toCellS_ev (l : List S108) (hl : l.length ≤ 1048576) : Ev (fun k => laws_toCellS.f k l) (l.map tocell) := by
  have go : ∀ (d i : Nat) (m : List S48), i + d = l.length → m.length = l.length → Ev (fun k => laws_toCellS.l0 k l m (i : Int)) (m.take i ++ (l.drop i).map tocell) := by
    intro d
    induction d with
    | zero =>
      intro i m h hm
      refine ev_succ ?_
      simp only [laws_toCellS.l0]
      refine ev_neg (by omega) ?_
      rw [List.take_of_length_le (by omega), List.drop_of_length_le (by omega), List.map_nil, List.append_nil]
      exact Ev.now _
    | succ d ih =>
      intro i m h hm
      refine ev_succ ?_
      simp only [laws_toCellS.l0, laws_toCell.f, laws_toStyle.f, Option.bind_some, w64 (x := (i : Int) + 1) (by omega) (by omega)]
      refine ev_pos (by omega) (ev_pos (by omega) (ev_pos (by omega) ?_))
      have := ih (i + 1) (m.set (i : Int).toNat (tocell (rd_T108 l (i : Int)))) (by omega) (by simpa using hm)
      refine ev_eq this ?_
      rw [show (i : Int).toNat = i by omega, take_set_succ _ _ _ (by omega), rdlc (by omega), List.append_assoc, List.singleton_append, ← List.map_cons, ← List.drop_eq_getElem_cons (by omega)]
  unfold laws_toCellS.f
  refine ev_pos (by omega) (ev_pos (by omega) ?_)
  have := go l.length 0 (List.replicate l.length z48) (by omega) (by simp)
  simpa using this
theorem laws_szCellS_some (l : List S108) (hl : l.length ≤ maxLen) : ∃ r, laws_szCellS.f l 1048576 = some r ∧ (r < 0 ∨ l.length ≤ 1048576) := by
  rw [maxLen_eq] at hl
  unfold laws_szCellS.f
  rw [w64 (x := 1048576 - (l.length : Int)) (by omega) (by omega)]
  by_cases h1 : 1048576 - (l.length : Int) < 0
  · rw [if_pos h1]; exact ⟨_, rfl, .inl (by omega)⟩
  · rw [if_neg h1]; exact ⟨_, rfl, .inr (by omega)⟩

theorem spec_l1In_eq (a b c : Int) : spec_l1In.f a b c = some (decide (b ≤ a) && decide (a ≤ c)) := by
  unfold spec_l1In.f
  by_cases h : a ≥ b
  · rw [if_pos h]; simp [h]
  · rw [if_neg h]; simp [show ¬ b ≤ a from h]

theorem impl_in_eq (a b c : Int) : impl_in.f a b c = some (decide (b ≤ a) && decide (a ≤ c)) := by
  unfold impl_in.f
  by_cases h : b ≤ a
  · rw [if_pos h]; simp [h]
  · rw [if_neg h]; simp [h]

def sokv (a b : Int) : Bool := (decide (0 ≤ a) && decide (a ≤ 8)) && (decide (0 ≤ b) && decide (b ≤ 8))
theorem spec_StyleOk_eq (a b : Int) (c d e : Bool) : spec_StyleOk.f a b c d e = some (sokv a b) := by
  simp only [spec_StyleOk.f, spec_l1In_eq, Option.bind_some, sokv]
  by_cases h : (decide (0 ≤ a) && decide (a ≤ 8)) = true
  · simp [h]
  · simp [h]
theorem impl_StyleOk_eq (a b : Int) (c d e : Bool) : impl_StyleOk.f a b c d e = some (sokv a b) := by
  simp only [impl_StyleOk.f, impl_in_eq, Option.bind_some, sokv]
  by_cases h : (decide (0 ≤ a) && decide (a ≤ 8)) = true
  · simp [h]
  · simp [h]

def rok (r : Int) : Bool := decide (0 ≤ r) && decide (r ≤ 1114111) && !(decide (55296 ≤ r) && decide (r ≤ 57343))
theorem rok_iff {r : Int} : rok r = true ↔ 0 ≤ r ∧ r ≤ 1114111 ∧ ¬ (55296 ≤ r ∧ r ≤ 57343) := by
  simp [rok]; omega

def wid (r : Int) : Int :=
  if rok r = false ∨ r < 32 ∨ (127 ≤ r ∧ r ≤ 159) ∨ (768 ≤ r ∧ r ≤ 879) then 0
  else if (4352 ≤ r ∧ r ≤ 4447) ∨ (12288 ≤ r ∧ r ≤ 55295) ∨ (127744 ≤ r ∧ r ≤ 131071) then 2 else 1
theorem wid_range (r : Int) : 0 ≤ wid r ∧ wid r ≤ 2 := by
  unfold wid
  repeat' split
  all_goals omega

theorem spec_RuneOk_eq (r : Int) : spec_RuneOk.f r = some (rok r) := by
  simp only [spec_RuneOk.f, spec_l1In_eq, Option.bind_some, rok]
  by_cases h : (decide (0 ≤ r) && decide (r ≤ 1114111)) = true
  · rw [if_pos h, h, Bool.true_and]
  · rw [if_neg h, Bool.eq_false_iff.mpr h, Bool.false_and]

theorem spec_Width_ev (r : Int) : Ev (fun k => spec_Width.f k r) (wid r) := by
  have j1 : Ev (fun k => spec_Width.j0 k r true) 0 := by
    refine ev_succ ?_
    simp only [spec_Width.j0, if_true]
    exact Ev.now _
  have j0 : Ev (fun k => spec_Width.j0 k r false) (if (4352 ≤ r ∧ r ≤ 4447) ∨ (12288 ≤ r ∧ r ≤ 55295) ∨ (127744 ≤ r ∧ r ≤ 131071) then 2 else 1) := by
    refine ev_succ ?_
    simp only [spec_Width.j0, spec_l1In_eq, Option.bind_some, Bool.false_eq_true, if_false]
    refine ev_fixed ?_
    simp only [Bool.and_eq_true, decide_eq_true_eq]
    repeat' split
    all_goals first | rfl | omega
  simp only [spec_Width.f, spec_RuneOk_eq, spec_l1In_eq, Option.bind_some]
  cases hk : rok r with
  | false => simp only [Bool.false_eq_true, if_false]; refine ev_eq j1 ?_; unfold wid; rw [if_pos (.inl hk)]
  | true =>
    simp only [if_true]
    by_cases h1 : r < 32
    · simp only [if_pos h1]; refine ev_eq j1 ?_; unfold wid; rw [if_pos (.inr (.inl h1))]
    · simp only [if_neg h1]
      by_cases h2 : 127 ≤ r ∧ r ≤ 159
      · simp only [h2.1, h2.2, decide_true, Bool.and_self, if_true]; refine ev_eq j1 ?_; unfold wid; rw [if_pos (.inr (.inr (.inl h2)))]
      · have e2 : (decide (127 ≤ r) && decide (r ≤ 159)) = false := by simpa using h2
        simp only [e2, Bool.false_eq_true, if_false]
        by_cases h3 : 768 ≤ r ∧ r ≤ 879
        · simp only [h3.1, h3.2, decide_true, Bool.and_self]; refine ev_eq j1 ?_; unfold wid; rw [if_pos (.inr (.inr (.inr h3)))]
        · have e3 : (decide (768 ≤ r) && decide (r ≤ 879)) = false := by simpa using h3
          simp only [e3]; refine ev_eq j0 ?_; unfold wid
          refine (if_neg ?_).symm
          rintro (h | h | h | h)
          · rw [hk] at h; cases h
          all_goals omega

theorem impl_RuneOk_eq (r : Int) : impl_RuneOk.f r = some (rok r) := by
  simp only [impl_RuneOk.f, impl_in_eq, Option.bind_some, rok]
  by_cases h : (decide (0 ≤ r) && decide (r ≤ 1114111)) = true
  · rw [if_pos h, h, Bool.true_and]
  · rw [if_neg h, Bool.eq_false_iff.mpr h, Bool.false_and]

theorem impl_Width_ev (r : Int) : Ev (fun k => impl_Width.f k r) (wid r) := by
  have j1 : Ev (fun k => impl_Width.j0 k r true) 0 := by
    refine ev_succ ?_
    simp only [impl_Width.j0, if_true]
    exact Ev.now _
  have j0 : Ev (fun k => impl_Width.j0 k r false) (if (4352 ≤ r ∧ r ≤ 4447) ∨ (12288 ≤ r ∧ r ≤ 55295) ∨ (127744 ≤ r ∧ r ≤ 131071) then 2 else 1) := by
    refine ev_succ ?_
    simp only [impl_Width.j0, impl_in_eq, Option.bind_some, Bool.false_eq_true, if_false]
    refine ev_fixed ?_
    simp only [Bool.and_eq_true, decide_eq_true_eq]
    repeat' split
    all_goals first | rfl | omega
  simp only [impl_Width.f, impl_RuneOk_eq, impl_in_eq, Option.bind_some]
  cases hk : rok r with
  | false => simp only [Bool.false_eq_true, if_false]; refine ev_eq j1 ?_; unfold wid; rw [if_pos (.inl hk)]
  | true =>
    simp only [if_true]
    by_cases h1 : r < 32
    · simp only [if_pos h1]; refine ev_eq j1 ?_; unfold wid; rw [if_pos (.inr (.inl h1))]
    · simp only [if_neg h1]
      by_cases h2 : 127 ≤ r ∧ r ≤ 159
      · simp only [h2.1, h2.2, decide_true, Bool.and_self, if_true]; refine ev_eq j1 ?_; unfold wid; rw [if_pos (.inr (.inr (.inl h2)))]
      · have e2 : (decide (127 ≤ r) && decide (r ≤ 159)) = false := by simpa using h2
        simp only [e2, Bool.false_eq_true, if_false]
        by_cases h3 : 768 ≤ r ∧ r ≤ 879
        · simp only [h3.1, h3.2, decide_true, Bool.and_self]; refine ev_eq j1 ?_; unfold wid; rw [if_pos (.inr (.inr (.inr h3)))]
        · have e3 : (decide (768 ≤ r) && decide (r ≤ 879)) = false := by simpa using h3
          simp only [e3]; refine ev_eq j0 ?_; unfold wid
          refine (if_neg ?_).symm
          rintro (h | h | h | h)
          · rw [hk] at h; cases h
          all_goals omega

def cellAt (l : List S48) (i : Nat) : S48 := rd_T48 l (i : Int)
/-- A cell of a row is right, beside its neighbours. -/
def CellOk (l : List S48) (i : Nat) : Prop :=
  sokv (cellAt l i).f1.f0 (cellAt l i).f1.f1 = true ∧
  (((cellAt l i).f2 = 0 ∧ wid (cellAt l i).f0 = 1) ∨
   ((cellAt l i).f2 = 1 ∧ wid (cellAt l i).f0 = 2 ∧ i + 1 < l.length ∧ (cellAt l (i + 1)).f2 = 2 ∧ (cellAt l (i + 1)).f1 = (cellAt l i).f1) ∨
   ((cellAt l i).f2 = 2 ∧ (cellAt l i).f0 = 0 ∧ 0 < i ∧ (cellAt l (i - 1)).f2 = 1))
def RowRight (l : List S48) : Prop := 1 ≤ l.length ∧ l.length ≤ 60 ∧ ∀ i, i < l.length → CellOk l i
theorem spec_RowOk_some (l : List S48) : ∃ b, Ev (fun k => spec_RowOk.f k l) b ∧ (b = true ↔ RowRight l) := by
  have go : l.length ≤ 60 → ∀ (d i : Nat), i + d = l.length → ∃ b, Ev (fun k => spec_RowOk.l0 k l (l.length : Int) (i : Int)) b ∧ (b = true ↔ ∀ j, i ≤ j → j < l.length → CellOk l j) := by
    intro hl d
    induction d with
    | zero =>
      intro i h
      refine ⟨true, ev_succ ?_, by simp; omega⟩
      simp only [spec_RowOk.l0]
      exact ev_neg (by omega) (Ev.now _)
    | succ d ih =>
      intro i h
      obtain ⟨b, e, hb⟩ := ih (i + 1) (by omega)
      have w1 : ∀ _ : Unit, wrap64 ((i : Int) + 1) = ((i + 1 : Nat) : Int) := fun _ => by rw [w64 (by omega) (by omega)]; omega
      have step : CellOk l i → (b = true ↔ ∀ j, i ≤ j → j < l.length → CellOk l j) := by
        intro c
        rw [hb]
        constructor
        · intro q j h1 h2
          by_cases e : j = i
          · rw [e]; exact c
          · exact q j (by omega) h2
        · intro q j h1 h2; exact q j (by omega) h2
      have bad : ¬ CellOk l i → (false = true ↔ ∀ j, i ≤ j → j < l.length → CellOk l j) := by
        intro c
        constructor
        · intro x; cases x
        · intro q; exact absurd (q i (Nat.le_refl _) (by omega)) c
      suffices hh : (CellOk l i ∧ Ev (fun k => spec_RowOk.l0 k l (l.length : Int) (i : Int)) b) ∨ (¬ CellOk l i ∧ Ev (fun k => spec_RowOk.l0 k l (l.length : Int) (i : Int)) false) by
        rcases hh with ⟨c, e⟩ | ⟨c, e⟩
        · exact ⟨b, e, step c⟩
        · exact ⟨false, e, bad c⟩
      have fold : ∀ {r : Bool}, Ev (fun k => spec_RowOk.l0 (k + 1) l (l.length : Int) (i : Int)) r → Ev (fun k => spec_RowOk.l0 k l (l.length : Int) (i : Int)) r := fun h => ev_succ h
      have g0 : rd_T48 l (i : Int) = cellAt l i := rfl
      have g1 : rd_T48 l ((i + 1 : Nat) : Int) = cellAt l (i + 1) := rfl
      by_cases q1 : sokv (cellAt l i).f1.f0 (cellAt l i).f1.f1 = true
      case neg =>
        refine .inr ⟨fun c => q1 c.1, fold ?_⟩
        simp only [spec_RowOk.l0, g0, spec_StyleOk_eq, Option.bind_some]
        exact ev_pos (by omega) (ev_pos (by omega) (ev_pos (by omega) (ev_neg q1 (Ev.now _))))
      by_cases p0 : (cellAt l i).f2 = 0
      · by_cases q2 : wid (cellAt l i).f0 = 1
        · refine .inl ⟨⟨q1, .inl ⟨p0, q2⟩⟩, fold ?_⟩
          simp only [spec_RowOk.l0, g0, spec_StyleOk_eq, Option.bind_some, w1 ()]
          exact ev_pos (by omega) (ev_pos (by omega) (ev_pos (by omega) (ev_pos q1 (ev_pos p0 (Ev.bind (spec_Width_ev _) (ev_pos q2 e))))))
        · refine .inr ⟨fun c => by rcases c.2 with x | x | x <;> omega, fold ?_⟩
          simp only [spec_RowOk.l0, g0, spec_StyleOk_eq, Option.bind_some, w1 ()]
          exact ev_pos (by omega) (ev_pos (by omega) (ev_pos (by omega) (ev_pos q1 (ev_pos p0 (Ev.bind (spec_Width_ev _) (ev_neg q2 (Ev.now _)))))))
      by_cases p1 : (cellAt l i).f2 = 1
      · by_cases q2 : wid (cellAt l i).f0 = 2
        case neg =>
          refine .inr ⟨fun c => by rcases c.2 with x | x | x <;> omega, fold ?_⟩
          simp only [spec_RowOk.l0, g0, spec_StyleOk_eq, Option.bind_some, w1 ()]
          exact ev_pos (by omega) (ev_pos (by omega) (ev_pos (by omega) (ev_pos q1 (ev_neg p0 (ev_pos p1 (Ev.bind (spec_Width_ev _) (ev_neg q2 (Ev.now _))))))))
        by_cases q3 : i + 1 = l.length
        · refine .inr ⟨fun c => by rcases c.2 with x | x | x <;> omega, fold ?_⟩
          simp only [spec_RowOk.l0, g0, spec_StyleOk_eq, Option.bind_some, w1 ()]
          exact ev_pos (by omega) (ev_pos (by omega) (ev_pos (by omega) (ev_pos q1 (ev_neg p0 (ev_pos p1 (Ev.bind (spec_Width_ev _) (ev_pos q2 (ev_pos (by omega) (Ev.now _)))))))))
        by_cases q4 : (cellAt l (i + 1)).f2 = 2
        case neg =>
          refine .inr ⟨fun c => by rcases c.2 with x | x | x <;> omega, fold ?_⟩
          simp only [spec_RowOk.l0, g0, spec_StyleOk_eq, Option.bind_some, w1 (), g1]
          exact ev_pos (by omega) (ev_pos (by omega) (ev_pos (by omega) (ev_pos q1 (ev_neg p0 (ev_pos p1 (Ev.bind (spec_Width_ev _) (ev_pos q2 (ev_neg (by omega) (ev_pos (by omega) (ev_pos (by omega) (ev_neg q4 (Ev.now _))))))))))))
        by_cases q5 : (cellAt l (i + 1)).f1 = (cellAt l i).f1
        · refine .inl ⟨⟨q1, .inr (.inl ⟨p1, q2, by omega, q4, q5⟩)⟩, fold ?_⟩
          simp only [spec_RowOk.l0, g0, spec_StyleOk_eq, Option.bind_some, w1 (), g1]
          exact ev_pos (by omega) (ev_pos (by omega) (ev_pos (by omega) (ev_pos q1 (ev_neg p0 (ev_pos p1 (Ev.bind (spec_Width_ev _) (ev_pos q2 (ev_neg (by omega) (ev_pos (by omega) (ev_pos (by omega) (ev_pos q4 (ev_neg (fun x => (style_ne _ _).mp x q5) e))))))))))))
        · refine .inr ⟨fun c => ?_, fold ?_⟩
          · rcases c.2 with x | x | x
            · omega
            · exact q5 x.2.2.2.2
            · omega
          simp only [spec_RowOk.l0, g0, spec_StyleOk_eq, Option.bind_some, w1 (), g1]
          exact ev_pos (by omega) (ev_pos (by omega) (ev_pos (by omega) (ev_pos q1 (ev_neg p0 (ev_pos p1 (Ev.bind (spec_Width_ev _) (ev_pos q2 (ev_neg (by omega) (ev_pos (by omega) (ev_pos (by omega) (ev_pos q4 (ev_pos ((style_ne _ _).mpr q5) (Ev.now _)))))))))))))
      by_cases p2 : (cellAt l i).f2 = 2
      case neg =>
        refine .inr ⟨fun c => by rcases c.2 with x | x | x <;> omega, fold ?_⟩
        simp only [spec_RowOk.l0, g0, spec_StyleOk_eq, Option.bind_some, w1 ()]
        exact ev_pos (by omega) (ev_pos (by omega) (ev_pos (by omega) (ev_pos q1 (ev_neg p0 (ev_neg p1 (ev_neg p2 (Ev.now _)))))))
      by_cases q2 : (cellAt l i).f0 = 0
      case neg =>
        refine .inr ⟨fun c => by rcases c.2 with x | x | x <;> omega, fold ?_⟩
        simp only [spec_RowOk.l0, g0, spec_StyleOk_eq, Option.bind_some, w1 ()]
        exact ev_pos (by omega) (ev_pos (by omega) (ev_pos (by omega) (ev_pos q1 (ev_neg p0 (ev_neg p1 (ev_pos p2 (ev_neg q2 (Ev.now _))))))))
      by_cases q3 : i = 0
      · refine .inr ⟨fun c => by rcases c.2 with x | x | x <;> omega, fold ?_⟩
        simp only [spec_RowOk.l0, g0, spec_StyleOk_eq, Option.bind_some, w1 ()]
        exact ev_pos (by omega) (ev_pos (by omega) (ev_pos (by omega) (ev_pos q1 (ev_neg p0 (ev_neg p1 (ev_pos p2 (ev_pos q2 (ev_pos (by omega) (Ev.now _)))))))))
      have w2 : ∀ _ : Unit, wrap64 ((i : Int) - 1) = ((i - 1 : Nat) : Int) := fun _ => by rw [w64 (by omega) (by omega)]; omega
      have g2 : rd_T48 l ((i - 1 : Nat) : Int) = cellAt l (i - 1) := rfl
      by_cases q4 : (cellAt l (i - 1)).f2 = 1
      · refine .inl ⟨⟨q1, .inr (.inr ⟨p2, q2, by omega, q4⟩)⟩, fold ?_⟩
        simp only [spec_RowOk.l0, g0, spec_StyleOk_eq, Option.bind_some, w1 (), w2 (), g2]
        exact ev_pos (by omega) (ev_pos (by omega) (ev_pos (by omega) (ev_pos q1 (ev_neg p0 (ev_neg p1 (ev_pos p2 (ev_pos q2 (ev_neg (by omega) (ev_pos (by omega) (ev_pos (by omega) (ev_pos q4 e)))))))))))
      · refine .inr ⟨fun c => by rcases c.2 with x | x | x <;> omega, fold ?_⟩
        simp only [spec_RowOk.l0, g0, spec_StyleOk_eq, Option.bind_some, w1 (), w2 (), g2]
        exact ev_pos (by omega) (ev_pos (by omega) (ev_pos (by omega) (ev_pos q1 (ev_neg p0 (ev_neg p1 (ev_pos p2 (ev_pos q2 (ev_neg (by omega) (ev_pos (by omega) (ev_pos (by omega) (ev_neg q4 (Ev.now _))))))))))))
  have jt : Ev (fun k => spec_RowOk.j0 k l (l.length : Int) true) false := by
    refine ev_succ ?_
    simp only [spec_RowOk.j0]
    exact ev_pos (by trivial) (Ev.now _)
  unfold spec_RowOk.f
  by_cases h1 : (l.length : Int) < 1
  · exact ⟨false, ev_pos h1 jt, ⟨fun x => (by cases x), fun x => by have := x.1; omega⟩⟩
  by_cases h2 : (l.length : Int) > 60
  · refine ⟨false, ev_neg h1 ?_, ⟨fun x => (by cases x), fun x => by have := x.2.1; omega⟩⟩
    rw [decide_eq_true h2]; exact jt
  · obtain ⟨b, e, hb⟩ := go (by omega) l.length 0 (by omega)
    refine ⟨b, ev_neg h1 (ev_succ ?_), ?_⟩
    · simp only [spec_RowOk.j0]
      exact ev_neg (by simp; omega) e
    · rw [hb]
      exact ⟨fun q => ⟨by omega, by omega, fun i hi => q i (by omega) hi⟩, fun q j _ hj => q.2.2 j hj⟩
theorem impl_isCell_ev (x : S48) : Ev (fun k => impl_isCell.f k x.f0 x.f1.f0 x.f1.f1 x.f1.f2 x.f1.f3 x.f1.f4 x.f2)
    (if x.f2 = 0 then decide (wid x.f0 = 1) && sokv x.f1.f0 x.f1.f1 else if x.f2 = 1 then decide (wid x.f0 = 2) && sokv x.f1.f0 x.f1.f1 else if x.f2 = 2 then decide (x.f0 = 0) && sokv x.f1.f0 x.f1.f1 else false) := by
  unfold impl_isCell.f
  simp only [impl_StyleOk_eq, Option.bind_some]
  by_cases p0 : x.f2 = 0
  · rw [if_pos p0]
    refine ev_pos p0 (Ev.bind (impl_Width_ev _) ?_)
    by_cases q : wid x.f0 = 1
    · exact ev_pos q (ev_eq (Ev.now _) (by rw [decide_eq_true q]; simp))
    · exact ev_neg q (ev_eq (Ev.now _) (by rw [decide_eq_false q]; simp))
  rw [if_neg p0]
  refine ev_neg p0 ?_
  by_cases p1 : x.f2 = 1
  · rw [if_pos p1]
    refine ev_pos p1 (Ev.bind (impl_Width_ev _) ?_)
    by_cases q : wid x.f0 = 2
    · exact ev_pos q (ev_eq (Ev.now _) (by rw [decide_eq_true q]; simp))
    · exact ev_neg q (ev_eq (Ev.now _) (by rw [decide_eq_false q]; simp))
  rw [if_neg p1]
  refine ev_neg p1 ?_
  by_cases p2 : x.f2 = 2
  · refine ev_eq (r := decide (x.f0 = 0) && sokv x.f1.f0 x.f1.f1) (ev_pos p2 ?_) (if_pos p2).symm
    by_cases q : x.f0 = 0
    · exact ev_pos q (ev_eq (Ev.now _) (by rw [decide_eq_true q]; simp))
    · exact ev_neg q (ev_eq (Ev.now _) (by rw [decide_eq_false q]; simp))
  · exact ev_eq (ev_neg p2 (Ev.now _)) (if_neg p2).symm
/-- A cell is right in itself. -/
def CellSelf (x : S48) : Prop := sokv x.f1.f0 x.f1.f1 = true ∧ ((x.f2 = 0 ∧ wid x.f0 = 1) ∨ (x.f2 = 1 ∧ wid x.f0 = 2) ∨ (x.f2 = 2 ∧ x.f0 = 0))
theorem impl_isCell_some (x : S48) : ∃ b, Ev (fun k => impl_isCell.f k x.f0 x.f1.f0 x.f1.f1 x.f1.f2 x.f1.f3 x.f1.f4 x.f2) b ∧ (b = true ↔ CellSelf x) := by
  refine ⟨_, impl_isCell_ev x, ?_⟩
  unfold CellSelf
  by_cases p0 : x.f2 = 0
  · rw [if_pos p0]; simp only [Bool.and_eq_true, decide_eq_true_eq]
    exact ⟨fun h => ⟨h.2, .inl ⟨p0, h.1⟩⟩, fun h => ⟨by rcases h.2 with q | q | q <;> omega, h.1⟩⟩
  rw [if_neg p0]
  by_cases p1 : x.f2 = 1
  · rw [if_pos p1]; simp only [Bool.and_eq_true, decide_eq_true_eq]
    exact ⟨fun h => ⟨h.2, .inr (.inl ⟨p1, h.1⟩)⟩, fun h => ⟨by rcases h.2 with q | q | q <;> omega, h.1⟩⟩
  rw [if_neg p1]
  by_cases p2 : x.f2 = 2
  · rw [if_pos p2]; simp only [Bool.and_eq_true, decide_eq_true_eq]
    exact ⟨fun h => ⟨h.2, .inr (.inr ⟨p2, h.1⟩)⟩, fun h => ⟨by rcases h.2 with q | q | q <;> omega, h.1⟩⟩
  rw [if_neg p2]
  exact ⟨fun h => (by cases h), fun h => by rcases h.2 with q | q | q <;> omega⟩
/-- What impl asks of a cell and the one ahead of it. -/
def CellI (l : List S48) (i : Nat) : Prop := CellSelf (cellAt l i) ∧ (0 < i → ((cellAt l (i - 1)).f2 = 1 ↔ (cellAt l i).f2 = 2) ∧ ((cellAt l (i - 1)).f2 = 1 → (cellAt l (i - 1)).f1 = (cellAt l i).f1)) ∧ (i = 0 → (cellAt l i).f2 ≠ 2)
theorem cell_iff (l : List S48) (n : Nat) (hn : l.length = n) (h1 : 1 ≤ n) : ((∀ i, i < n → CellI l i) ∧ (cellAt l (n - 1)).f2 ≠ 1) ↔ ∀ i, i < n → CellOk l i := by
  constructor
  · rintro ⟨h, hl⟩ i hi
    obtain ⟨hs, ha, h0⟩ := h i hi
    refine ⟨hs.1, ?_⟩
    rcases hs.2 with q | q | q
    · exact .inl q
    · refine .inr (.inl ⟨q.1, q.2, ?_⟩)
      have hne : i ≠ n - 1 := fun e => hl (e ▸ q.1)
      obtain ⟨_, hb, _⟩ := h (i + 1) (by omega)
      have := hb (by omega)
      rw [show i + 1 - 1 = i by omega] at this
      exact ⟨by omega, this.1.mp q.1, (this.2 q.1).symm⟩
    · refine .inr (.inr ⟨q.1, q.2, ?_⟩)
      have hp : 0 < i := by
        rcases Nat.eq_zero_or_pos i with e | e
        · exact absurd q.1 (h0 e)
        · exact e
      exact ⟨hp, (ha hp).1.mpr q.1⟩
  · intro h
    have last : (cellAt l (n - 1)).f2 ≠ 1 := by
      intro e
      rcases (h (n - 1) (by omega)).2 with q | q | q <;> omega
    refine ⟨fun i hi => ?_, last⟩
    obtain ⟨hs, hc⟩ := h i hi
    refine ⟨⟨hs, ?_⟩, ?_, ?_⟩
    · rcases hc with q | q | q
      · exact .inl q
      · exact .inr (.inl ⟨q.1, q.2.1⟩)
      · exact .inr (.inr ⟨q.1, q.2.1⟩)
    · intro hp
      obtain ⟨_, hd⟩ := h (i - 1) (by omega)
      rw [show i - 1 + 1 = i by omega] at hd
      refine ⟨⟨fun e => ?_, fun e => ?_⟩, fun e => ?_⟩
      · rcases hd with q | q | q
        · omega
        · exact q.2.2.2.1
        · omega
      · rcases hc with q | q | q
        · omega
        · omega
        · exact q.2.2.2
      · rcases hd with q | q | q
        · omega
        · exact q.2.2.2.2.symm
        · omega
    · intro e0 e
      rcases hc with q | q | q <;> omega
theorem impl_RowOk_some (l : List S48) (hl : l.length ≤ 1048576) : ∃ b, Ev (fun k => impl_RowOk.f k l) b ∧ (b = true ↔ RowRight l) := by
  have ends : ∃ b, Ev (fun k => impl_RowOk.l0 k l l (l.length : Int) (l.length : Int)) b ∧ (b = true ↔ (1 ≤ l.length ∧ l.length ≤ 60 ∧ (cellAt l (l.length - 1)).f2 ≠ 1)) := by
    by_cases h1 : 1 ≤ l.length ∧ l.length ≤ 60
    · have w2 : ∀ _ : Unit, wrap64 ((l.length : Int) - 1) = ((l.length - 1 : Nat) : Int) := fun _ => by rw [w64 (by omega) (by omega)]; omega
      have g2 : rd_T48 l ((l.length - 1 : Nat) : Int) = cellAt l (l.length - 1) := rfl
      refine ⟨(cellAt l (l.length - 1)).f2 != 1, ev_succ ?_, ?_⟩
      · simp only [impl_RowOk.l0, impl_in_eq, Option.bind_some, w2 (), g2]
        exact ev_neg (by omega) (ev_pos (by rw [decide_eq_true (p := (1 : Int) ≤ l.length) (by omega), decide_eq_true (p := (l.length : Int) ≤ 60) (by omega)]; rfl) (ev_pos (by omega) (ev_pos (by omega) (Ev.now _))))
      · rw [bne_iff_ne]; exact ⟨fun x => ⟨h1.1, h1.2, x⟩, fun x => x.2.2⟩
    · refine ⟨false, ev_succ ?_, ⟨fun x => (by cases x), fun x => absurd ⟨x.1, x.2.1⟩ h1⟩⟩
      simp only [impl_RowOk.l0, impl_in_eq, Option.bind_some]
      refine ev_neg (by omega) (ev_neg ?_ (Ev.now _))
      simp only [Bool.and_eq_true, decide_eq_true_eq]; omega
  obtain ⟨b, eb, hb⟩ := ends
  have go : ∀ (d i : Nat), i + d = l.length → ∃ c, Ev (fun k => impl_RowOk.l0 k l l (l.length : Int) (i : Int)) c ∧ (c = true ↔ ((∀ j, i ≤ j → j < l.length → CellI l j) ∧ b = true)) := by
    intro d
    induction d with
    | zero =>
      intro i h
      obtain rfl : i = l.length := by omega
      exact ⟨b, eb, ⟨fun x => ⟨fun j h1 h2 => by omega, x⟩, fun x => x.2⟩⟩
    | succ d ih =>
      intro i h
      obtain ⟨c, e, hc⟩ := ih (i + 1) (by omega)
      have w1 : ∀ _ : Unit, wrap64 ((i : Int) + 1) = ((i + 1 : Nat) : Int) := fun _ => by rw [w64 (by omega) (by omega)]; omega
      have g0 : rd_T48 l (i : Int) = cellAt l i := rfl
      obtain ⟨s, es, hs⟩ := impl_isCell_some (cellAt l i)
      suffices hh : (CellI l i ∧ Ev (fun k => impl_RowOk.l0 k l l (l.length : Int) (i : Int)) c) ∨ (¬ CellI l i ∧ Ev (fun k => impl_RowOk.l0 k l l (l.length : Int) (i : Int)) false) by
        rcases hh with ⟨q, e⟩ | ⟨q, e⟩
        · refine ⟨c, e, ?_⟩
          rw [hc]
          refine ⟨fun x => ⟨fun j h1 h2 => ?_, x.2⟩, fun x => ⟨fun j h1 h2 => x.1 j (by omega) h2, x.2⟩⟩
          by_cases e : j = i
          · rw [e]; exact q
          · exact x.1 j (by omega) h2
        · exact ⟨false, e, ⟨fun x => (by cases x), fun x => absurd (x.1 i (Nat.le_refl _) (by omega)) q⟩⟩
      by_cases hp : i = 0
      · subst hp
        cases s with
        | false =>
          refine .inr ⟨fun x => (by cases hs.mpr x.1), ev_succ ?_⟩
          simp only [impl_RowOk.l0, g0]
          exact ev_pos (by omega) (ev_pos (by omega) (ev_pos (by omega) (ev_neg (by omega) (Ev.bind es (ev_neg (by simp) (Ev.now _))))))
        | true =>
          by_cases q : (cellAt l 0).f2 = 2
          · refine .inr ⟨fun x => x.2.2 rfl q, ev_succ ?_⟩
            simp only [impl_RowOk.l0, g0]
            exact ev_pos (by omega) (ev_pos (by omega) (ev_pos (by omega) (ev_neg (by omega) (Ev.bind es (ev_pos rfl (ev_pos (by rw [beq_iff_eq.mpr q]; rfl) (Ev.now _)))))))
          · refine .inl ⟨⟨hs.mp rfl, fun x => by omega, fun _ => q⟩, ev_succ ?_⟩
            simp only [impl_RowOk.l0, g0, w1 ()]
            exact ev_pos (by omega) (ev_pos (by omega) (ev_pos (by omega) (ev_neg (by omega) (Ev.bind es (ev_pos rfl (ev_neg (by rw [beq_eq_false_iff_ne.mpr q]; simp) e))))))
      · have w2 : ∀ _ : Unit, wrap64 ((i : Int) - 1) = ((i - 1 : Nat) : Int) := fun _ => by rw [w64 (by omega) (by omega)]; omega
        have g2 : rd_T48 l ((i - 1 : Nat) : Int) = cellAt l (i - 1) := rfl
        cases s with
        | false =>
          refine .inr ⟨fun x => (by cases hs.mpr x.1), ev_succ ?_⟩
          simp only [impl_RowOk.l0, g0, w2 (), g2]
          exact ev_pos (by omega) (ev_pos (by omega) (ev_pos (by omega) (ev_pos (by omega) (ev_pos (by omega) (ev_pos (by omega) (Ev.bind es (ev_neg (by simp) (Ev.now _))))))))
        | true =>
          have hpre : ∀ {r : Bool}, Ev (fun k => (if ((((cellAt l (i - 1)).f2) == 1) != (((cellAt l i).f2) == 2)) = true then (some false) else (if ((cellAt l (i - 1)).f2) = 1 then (if (!(((cellAt l (i - 1)).f1.f0) == ((cellAt l i).f1.f0)) || (!(((cellAt l (i - 1)).f1.f1) == ((cellAt l i).f1.f1)) || (!(((cellAt l (i - 1)).f1.f2) == ((cellAt l i).f1.f2)) || (!(((cellAt l (i - 1)).f1.f3) == ((cellAt l i).f1.f3)) || (!(((cellAt l (i - 1)).f1.f4) == ((cellAt l i).f1.f4))))))) = true then (some false) else (impl_RowOk.l0 k l l (l.length : Int) ((i + 1 : Nat) : Int))) else (impl_RowOk.l0 k l l (l.length : Int) ((i + 1 : Nat) : Int))))) r → Ev (fun k => impl_RowOk.l0 k l l (l.length : Int) (i : Int)) r := by
            intro r hr
            refine ev_succ ?_
            simp only [impl_RowOk.l0, g0, w1 (), w2 (), g2]
            exact ev_pos (by omega) (ev_pos (by omega) (ev_pos (by omega) (ev_pos (by omega) (ev_pos (by omega) (ev_pos (by omega) (Ev.bind es (ev_pos rfl hr)))))))
          by_cases q1 : (cellAt l (i - 1)).f2 = 1
          · by_cases q2 : (cellAt l i).f2 = 2
            · by_cases q3 : (cellAt l (i - 1)).f1 = (cellAt l i).f1
              · exact .inl ⟨⟨hs.mp rfl, fun _ => ⟨⟨fun _ => q2, fun _ => q1⟩, fun _ => q3⟩, fun x => absurd x hp⟩, hpre (ev_neg (by rw [beq_iff_eq.mpr q1, beq_iff_eq.mpr q2]; simp) (ev_pos q1 (ev_neg (fun x => (style_ne _ _).mp x q3) e)))⟩
              · exact .inr ⟨fun x => q3 ((x.2.1 (by omega)).2 q1), hpre (ev_neg (by rw [beq_iff_eq.mpr q1, beq_iff_eq.mpr q2]; simp) (ev_pos q1 (ev_pos ((style_ne _ _).mpr q3) (Ev.now _))))⟩
            · exact .inr ⟨fun x => q2 ((x.2.1 (by omega)).1.mp q1), hpre (ev_pos (by rw [beq_iff_eq.mpr q1, beq_eq_false_iff_ne.mpr q2]; rfl) (Ev.now _))⟩
          · by_cases q2 : (cellAt l i).f2 = 2
            · exact .inr ⟨fun x => q1 ((x.2.1 (by omega)).1.mpr q2), hpre (ev_pos (by rw [beq_eq_false_iff_ne.mpr q1, beq_iff_eq.mpr q2]; rfl) (Ev.now _))⟩
            · exact .inl ⟨⟨hs.mp rfl, fun _ => ⟨⟨fun x => absurd x q1, fun x => absurd x q2⟩, fun x => absurd x q1⟩, fun x => absurd x hp⟩, hpre (ev_neg (by rw [beq_eq_false_iff_ne.mpr q1, beq_eq_false_iff_ne.mpr q2]; simp) (ev_neg q1 e))⟩
  unfold impl_RowOk.f
  obtain ⟨c, e, hc⟩ := go l.length 0 (by omega)
  refine ⟨c, e, ?_⟩
  rw [hc, hb]
  constructor
  · rintro ⟨h1, h2, h3, h4⟩
    exact ⟨h2, h3, (cell_iff l _ rfl h2).mp ⟨fun i hi => h1 i (by omega) hi, h4⟩⟩
  · rintro ⟨h2, h3, h5⟩
    obtain ⟨h1, h4⟩ := (cell_iff l _ rfl h2).mpr h5
    exact ⟨fun j _ hj => h1 j hj, h2, h3, h4⟩

def enc (r : Int) : List Int :=
  if r < 128 then [r] else if r < 2048 then [192 + r / 64, 128 + r % 64]
  else if r < 65536 then [224 + r / 4096, 128 + r / 64 % 64, 128 + r % 64]
  else [240 + r / 262144, 128 + r / 4096 % 64, 128 + r / 64 % 64, 128 + r % 64]
theorem enc_length (r : Int) : (enc r).length ≤ 4 := by
  unfold enc
  repeat' split
  all_goals simp
theorem enc_pos (r : Int) : 0 < (enc r).length := by
  unfold enc
  repeat' split
  all_goals simp
theorem enc_byte {r : Int} (h : rok r = true) : ∀ x ∈ enc r, 0 ≤ x ∧ x ≤ 255 := by
  rw [rok_iff] at h
  unfold enc
  repeat' split
  all_goals (intro x hx; simp only [List.mem_cons, List.not_mem_nil, or_false] at hx; omega)

def fixr (r : Int) : Int := if rok r then r else 65533
theorem fixr_ok (r : Int) : rok (fixr r) = true := by
  unfold fixr
  split
  · assumption
  · decide
def encs (l : List Int) : List Int := l.flatMap fun r => enc (fixr r)
theorem encs_nil : encs [] = [] := rfl
theorem encs_cons (r : Int) (l : List Int) : encs (r :: l) = enc (fixr r) ++ encs l := by simp [encs]
theorem encs_append (a b : List Int) : encs (a ++ b) = encs a ++ encs b := by simp [encs]
theorem encs_length : ∀ l : List Int, (encs l).length ≤ 4 * l.length
  | [] => by simp [encs]
  | r :: l => by
    have := encs_length l
    have := enc_length (fixr r)
    rw [encs_cons, List.length_append, List.length_cons]; omega

theorem spec_l1Put_eq {r : Int} (h : rok r = true) : spec_l1Put.f r = some (enc r) := by
  rw [rok_iff] at h
  have t64 : Int.tdiv r 64 = r / 64 := Int.tdiv_eq_ediv_of_nonneg h.1
  have t4096 : Int.tdiv r 4096 = r / 4096 := Int.tdiv_eq_ediv_of_nonneg h.1
  have t262144 : Int.tdiv r 262144 = r / 262144 := Int.tdiv_eq_ediv_of_nonneg h.1
  have m64 : Int.tmod r 64 = r % 64 := Int.tmod_eq_emod_of_nonneg h.1
  have w1 : wrap64 (r / 64) = r / 64 := w64 (by omega) (by omega)
  have w2 : wrap64 (r / 4096) = r / 4096 := w64 (by omega) (by omega)
  have w3 : wrap64 (r / 262144) = r / 262144 := w64 (by omega) (by omega)
  have m1 : Int.tmod (r / 64) 64 = r / 64 % 64 := Int.tmod_eq_emod_of_nonneg (by omega)
  have m2 : Int.tmod (r / 4096) 64 = r / 4096 % 64 := Int.tmod_eq_emod_of_nonneg (by omega)
  unfold spec_l1Put.f enc
  simp only [t64, t4096, t262144, m64, w1, w2, w3, m1, m2]
  repeat' split
  · rw [show r % 256 = r by omega]
  · rw [w64 (by omega) (by omega), w64 (by omega) (by omega), show (192 + r / 64) % 256 = 192 + r / 64 by omega, show (128 + r % 64) % 256 = 128 + r % 64 by omega]
  · rw [w64 (x := 224 + r / 4096) (by omega) (by omega), w64 (x := 128 + r / 64 % 64) (by omega) (by omega), w64 (x := 128 + r % 64) (by omega) (by omega), show (224 + r / 4096) % 256 = 224 + r / 4096 by omega,
      show (128 + r / 64 % 64) % 256 = 128 + r / 64 % 64 by omega, show (128 + r % 64) % 256 = 128 + r % 64 by omega]
  · rw [w64 (x := 240 + r / 262144) (by omega) (by omega), w64 (x := 128 + r / 4096 % 64) (by omega) (by omega), w64 (x := 128 + r / 64 % 64) (by omega) (by omega), w64 (x := 128 + r % 64) (by omega) (by omega), show (240 + r / 262144) % 256 = 240 + r / 262144 by omega,
      show (128 + r / 4096 % 64) % 256 = 128 + r / 4096 % 64 by omega, show (128 + r / 64 % 64) % 256 = 128 + r / 64 % 64 by omega, show (128 + r % 64) % 256 = 128 + r % 64 by omega]

theorem spec_Text_ev (l : List Int) (hl : l.length < 17592186044416) : Ev (fun k => spec_Text.f k l) (strOfNums (encs l)) := by
  have go : ∀ (d i : Nat) (acc : List Int), i + d = l.length → acc.length ≤ 4 * i → Ev (fun k => spec_Text.l0 k l acc (i : Int)) (strOfNums (acc ++ encs (l.drop i))) := by
    intro d
    induction d with
    | zero =>
      intro i acc h ha
      refine ev_succ ?_
      simp only [spec_Text.l0]
      refine ev_neg (by omega) ?_
      rw [List.drop_of_length_le (by omega), encs_nil, List.append_nil]
      exact Ev.now _
    | succ d ih =>
      intro i acc h ha
      refine ev_succ ?_
      have hr : rd l (i : Int) = l[i]'(by omega) := rd_at (by omega)
      simp only [spec_Text.l0, w64 (x := (i : Int) + 1) (by omega) (by omega), spec_RuneOk_eq, Option.bind_some]
      refine ev_pos (by omega) (ev_pos (by omega) ?_)
      have hn : Ev (fun k => spec_Text.l0 k l (acc ++ enc (fixr (rd l (i : Int)))) ((i : Int) + 1)) (strOfNums (acc ++ encs (l.drop i))) := by
        have := ih (i + 1) (acc ++ enc (fixr (rd l (i : Int)))) (by omega) (by have := enc_length (fixr (rd l (i : Int))); rw [List.length_append]; omega)
        refine ev_eq this ?_
        rw [show l.drop i = l[i]'(by omega) :: l.drop (i + 1) from List.drop_eq_getElem_cons (by omega), encs_cons, hr, List.append_assoc]
      have hle := enc_length (fixr (rd l (i : Int)))
      by_cases c : rok (rd l (i : Int)) = true
      · refine ev_pos c (ev_bind_of (spec_l1Put_eq c) ?_)
        have e : fixr (rd l (i : Int)) = rd l (i : Int) := by unfold fixr; rw [if_pos c]
        rw [e] at hn hle
        exact ev_pos (by omega) hn
      · refine ev_neg c (ev_bind_of (spec_l1Put_eq (by decide)) ?_)
        have e : fixr (rd l (i : Int)) = 65533 := by unfold fixr; rw [if_neg c]
        rw [e] at hn hle
        exact ev_pos (by omega) hn
  exact go l.length 0 [] (by omega) (by simp)

def putv (r : Int) : ByteArray := if rok r then strOfNums (enc r) else ⟨#[]⟩

theorem utf8_AppendRune_ev {r : Int} (h : rok r = true) (l : List Int) (hl : l.length < 140737488355300) : Ev (fun k => utf8_AppendRune.f k l r) (l ++ enc r) := by
  rw [rok_iff] at h
  have e0 : r % 4294967296 = r := by omega
  have a1 : Go.bits .and .u8 (r % 256) 63 = r % 64 := by rw [u8_and63 _ (by omega) (by omega)]; omega
  have a2 : Go.bits .and .u8 ((r / 64) % 256) 63 = r / 64 % 64 := by rw [u8_and63 _ (by omega) (by omega)]; omega
  have a3 : Go.bits .and .u8 ((r / 4096) % 256) 63 = r / 4096 % 64 := by rw [u8_and63 _ (by omega) (by omega)]; omega
  have o1 : Go.bits .or .u8 128 (r % 64) = 128 + r % 64 := u8_or128 _ (by omega) (by omega)
  have o2 : Go.bits .or .u8 128 (r / 64 % 64) = 128 + r / 64 % 64 := u8_or128 _ (by omega) (by omega)
  have o3 : Go.bits .or .u8 128 (r / 4096 % 64) = 128 + r / 4096 % 64 := u8_or128 _ (by omega) (by omega)
  simp only [utf8_AppendRune.f, utf8_appendRuneNonASCII.f, e0, a1, o1]
  unfold enc
  by_cases h1 : r < 128
  · simp only [if_pos (show r ≤ 127 by omega), if_pos h1, if_pos (show l.length < 140737488355328 by omega), show r % 256 = r by omega]
    exact Ev.now _
  · simp only [if_neg (show ¬ r ≤ 127 by omega), if_neg h1]
    by_cases h2 : r < 2048
    · have o : Go.bits .or .u8 192 (r / 64 % 256) = 192 + r / 64 := by rw [show r / 64 % 256 = r / 64 by omega]; exact u8_or192 _ (by omega) (by omega)
      simp only [if_pos (show r ≤ 2047 by omega), if_pos h2, Option.bind_some, o]
      exact ev_fixed (by rw [if_pos (by simp; omega)]; rfl)
    · simp only [if_neg (show ¬ r ≤ 2047 by omega), if_neg h2]
      have j1 : r < 65536 → Ev (fun k => utf8_appendRuneNonASCII.j0 k l r r true) (l ++ [224 + r / 4096, 128 + r / 64 % 64, 128 + r % 64]) := fun h3 => by
        have o : Go.bits .or .u8 224 (r / 4096 % 256) = 224 + r / 4096 := by rw [show r / 4096 % 256 = r / 4096 by omega]; exact u8_or224 _ (by omega) (by omega)
        refine ev_succ ?_
        simp only [utf8_appendRuneNonASCII.j0, if_true, Option.bind_some, o, a1, a2, o1, o2]
        exact ev_fixed (by rw [if_pos (by simp; omega)])
      have j0 : ¬ r < 65536 → Ev (fun k => utf8_appendRuneNonASCII.j0 k l r r false) (l ++ [240 + r / 262144, 128 + r / 4096 % 64, 128 + r / 64 % 64, 128 + r % 64]) := fun h3 => by
        have o : Go.bits .or .u8 240 (r / 262144 % 256) = 240 + r / 262144 := by rw [show r / 262144 % 256 = r / 262144 by omega]; exact u8_or240 _ (by omega) (by omega)
        refine ev_succ ?_
        simp only [utf8_appendRuneNonASCII.j0, Bool.false_eq_true, if_false, Option.bind_some, o, a1, a2, a3, o1, o2, o3, if_pos (show r > 65535 by omega), if_pos (show r ≤ 1114111 by omega)]
        exact ev_fixed (by rw [if_pos (by simp; omega)])
      by_cases h3 : r < 65536
      · simp only [if_pos h3]
        by_cases h4 : r < 55296
        · simp only [if_pos h4, decide_eq_true h4]
          exact (Ev.bind (j1 h3) (Ev.now _))
        · simp only [if_neg h4, if_pos (show 57343 < r by omega), decide_eq_true (show r ≤ 65535 by omega)]
          exact (Ev.bind (j1 h3) (Ev.now _))
      · simp only [if_neg h3, if_neg (show ¬ r < 55296 by omega), if_pos (show 57343 < r by omega), decide_eq_false (show ¬ r ≤ 65535 by omega)]
        exact (Ev.bind (j0 h3) (Ev.now _))

theorem w32 {x : Int} (h0 : -2147483648 ≤ x) (h1 : x ≤ 2147483647) : wrap32 x = x := by unfold wrap32; omega

theorem impl_Put_ev (r : Int) : Ev (fun k => impl_Put.f k r) (putv r) := by
  simp only [impl_Put.f, impl_RuneOk_eq, Option.bind_some]
  unfold putv
  by_cases h : rok r = true
  · have h' := rok_iff.mp h
    simp only [if_pos h, w32 (x := r) (by omega) (by omega)]
    exact Ev.bind (utf8_AppendRune_ev h [] (by simp)) (Ev.now _)
  · simp only [if_neg h]
    exact Ev.now _

/-- A rune's bytes. -/
def ub (r : Int) : List UInt8 := (enc r).map fun n => UInt8.ofNat n.toNat
/-- The runes of a row's first n cells. -/
def txtv (l : List S48) : Nat → List Int
  | 0 => []
  | n + 1 => if (cellAt l n).f2 = 2 then txtv l n else txtv l n ++ [(cellAt l n).f0]
def bts (rs : List Int) : List UInt8 := rs.flatMap ub
theorem bts_append (a b : List Int) : bts (a ++ b) = bts a ++ bts b := by simp [bts]
theorem bts_one (r : Int) : bts [r] = ub r := by simp [bts]
theorem txtv_length (l : List S48) : ∀ n, (txtv l n).length ≤ n
  | 0 => by simp [txtv]
  | n + 1 => by
    have := txtv_length l n
    unfold txtv
    split
    · omega
    · rw [List.length_append, List.length_cons, List.length_nil]; omega
theorem bts_length (rs : List Int) : (bts rs).length ≤ 4 * rs.length := by
  induction rs with
  | nil => simp [bts]
  | cons r rs ih =>
    have := enc_length r
    have e : bts (r :: rs) = ub r ++ bts rs := by simp [bts]
    rw [e, List.length_append, List.length_cons]
    unfold ub
    rw [List.length_map]; omega
theorem wid_rok {r : Int} (h : 1 ≤ wid r) : rok r = true := by
  unfold wid at h
  split at h
  · omega
  · rename_i q
    cases hr : rok r with
    | true => rfl
    | false => exact absurd (.inl hr) q
theorem wid_two {r : Int} (h : wid r = 2) : r ≠ 32 := by
  unfold wid at h
  split at h
  · omega
  · split at h
    · omega
    · omega
theorem right_rok {l : List S48} (h : RowRight l) (i : Nat) (hi : i < l.length) (h2 : (cellAt l i).f2 ≠ 2) : rok (cellAt l i).f0 = true := by
  rcases (h.2.2 i hi).2 with q | q | q
  · exact wid_rok (by omega)
  · exact wid_rok (by omega)
  · exact absurd q.1 h2
theorem txtv_rok {l : List S48} (h : RowRight l) : ∀ n, n ≤ l.length → ∀ r ∈ txtv l n, rok r = true
  | 0, _ => by simp [txtv]
  | n + 1, hn => by
    intro r hr
    unfold txtv at hr
    split at hr
    · exact txtv_rok h n (by omega) r hr
    · rename_i q
      rw [List.mem_append, List.mem_singleton] at hr
      rcases hr with hr | rfl
      · exact txtv_rok h n (by omega) r hr
      · exact right_rok h n (by omega) q
theorem encs_bts (rs : List Int) (h : ∀ r ∈ rs, rok r = true) : (strOfNums (encs rs)).data.toList = bts rs := by
  rw [strOfNums_data]
  induction rs with
  | nil => rfl
  | cons r rs ih =>
    have hr := h r (by simp)
    have e : bts (r :: rs) = ub r ++ bts rs := by simp [bts]
    rw [encs_cons, List.map_append, ih (fun x hx => h x (by simp [hx])), e]
    unfold fixr
    rw [if_pos hr]; rfl
theorem putv_ub {r : Int} (h : rok r = true) : (putv r).data.toList = ub r := by
  unfold putv
  rw [if_pos h, strOfNums_data]; rfl
theorem spec_l4_l1 (l : List S48) (m : Nat) (hm : m ≤ l.length) (hl : l.length ≤ 60) : ∀ (d i : Nat), i + d = m → Ev (fun k => spec_l4Text.l1 k l (m : Int) (txtv l i) (i : Int)) (strOfNums (encs (txtv l m))) := by
  intro d
  induction d with
  | zero =>
    intro i h
    obtain rfl : i = m := by omega
    have := txtv_length l i
    refine ev_succ ?_
    simp only [spec_l4Text.l1]
    exact ev_neg (by omega) (Ev.bind (spec_Text_ev _ (by omega)) (Ev.now _))
  | succ d ih =>
    intro i h
    have := txtv_length l i
    have wi : ∀ _ : Unit, wrap64 ((i : Int) + 1) = ((i + 1 : Nat) : Int) := fun _ => by rw [w64 (by omega) (by omega)]; omega
    have e := ih (i + 1) (by omega)
    refine ev_succ ?_
    simp only [spec_l4Text.l1, wi ()]
    refine ev_pos (by omega) (ev_pos (by omega) (ev_pos (by omega) ?_))
    by_cases q : (cellAt l i).f2 = 2
    · have ht : txtv l (i + 1) = txtv l i := by show (if (cellAt l i).f2 = 2 then _ else _) = _; rw [if_pos q]
      rw [ht] at e
      exact ev_pos q e
    · have ht : txtv l (i + 1) = txtv l i ++ [(cellAt l i).f0] := by show (if (cellAt l i).f2 = 2 then _ else _) = _; rw [if_neg q]
      rw [ht] at e
      exact ev_neg q (ev_pos (by omega) e)
theorem spec_l4_l0 (l : List S48) (hl : l.length ≤ 60) : ∀ m : Nat, m ≤ l.length → ∃ q : Nat, q ≤ m ∧ Ev (fun k => spec_l4Text.l0 k l (m : Int)) (strOfNums (encs (txtv l q))) ∧ (∀ i, q ≤ i → i < m → (cellAt l i).f0 = 32) ∧ (0 < q → (cellAt l (q - 1)).f0 ≠ 32)
  | 0, _ => by
    refine ⟨0, by omega, ev_succ ?_, fun i h1 h2 => by omega, fun h => by omega⟩
    simp only [spec_l4Text.l0]
    refine ev_neg (by omega) (ev_succ ?_)
    simp only [spec_l4Text.j1]
    exact spec_l4_l1 l 0 (by omega) hl 0 0 rfl
  | m + 1, hm => by
    have wi : ∀ _ : Unit, wrap64 (((m + 1 : Nat) : Int) - 1) = (m : Int) := fun _ => by rw [w64 (by omega) (by omega)]; omega
    by_cases c : (cellAt l m).f0 = 32
    · obtain ⟨q, hq, e, h1, h2⟩ := spec_l4_l0 l hl m (by omega)
      refine ⟨q, by omega, ev_succ ?_, fun i hi hi2 => ?_, h2⟩
      · simp only [spec_l4Text.l0, wi ()]
        exact ev_pos (by omega) (ev_pos (by omega) (ev_pos (by omega) (ev_pos c e)))
      · by_cases hc : i < m
        · exact h1 i hi hc
        · obtain rfl : i = m := by omega
          exact c
    · refine ⟨m + 1, by omega, ev_succ ?_, fun i h1 h2 => by omega, fun _ => c⟩
      simp only [spec_l4Text.l0, wi ()]
      refine ev_pos (by omega) (ev_pos (by omega) (ev_pos (by omega) (ev_neg c (ev_succ ?_))))
      simp only [spec_l4Text.j1]
      exact spec_l4_l1 l (m + 1) hm hl (m + 1) 0 (by omega)
theorem ub_last (r : Int) (hr : rok r = true) (h : r ≠ 32) : ∃ v z, ub r = v ++ [z] ∧ z ≠ 32 := by
  have h' := rok_iff.mp hr
  have ne : ∀ n : Int, 0 ≤ n → n ≤ 255 → n ≠ 32 → UInt8.ofNat n.toNat ≠ 32 := by
    intro n h0 h1 h2 e
    have := congrArg UInt8.toNat e
    rw [UInt8.toNat_ofNat'] at this
    have e32 : (32 : UInt8).toNat = 32 := rfl
    omega
  unfold ub enc
  split
  · exact ⟨[], _, rfl, ne r (by omega) (by omega) h⟩
  · split
    · exact ⟨[_], _, rfl, ne _ (by omega) (by omega) (by omega)⟩
    · split
      · exact ⟨[_, _], _, rfl, ne _ (by omega) (by omega) (by omega)⟩
      · exact ⟨[_, _, _], _, rfl, ne _ (by omega) (by omega) (by omega)⟩
theorem bts_last {l : List S48} (h : RowRight l) (q : Nat) (hq : q ≤ l.length) (h0 : 0 < q) (hc : (cellAt l (q - 1)).f0 ≠ 32) : ∃ v z, bts (txtv l q) = v ++ [z] ∧ z ≠ 32 := by
  obtain ⟨p, rfl⟩ : ∃ p, q = p + 1 := ⟨q - 1, by omega⟩
  have one : ∀ n, n < l.length → (cellAt l n).f2 ≠ 2 → (cellAt l n).f0 ≠ 32 → ∃ v z, bts (txtv l (n + 1)) = v ++ [z] ∧ z ≠ 32 := by
    intro n hn h2 h3
    obtain ⟨v, z, e, hz⟩ := ub_last _ (right_rok h n hn h2) h3
    refine ⟨bts (txtv l n) ++ v, z, ?_, hz⟩
    have ht : txtv l (n + 1) = txtv l n ++ [(cellAt l n).f0] := by show (if (cellAt l n).f2 = 2 then _ else _) = _; rw [if_neg h2]
    rw [ht, bts_append, bts_one, e, List.append_assoc]
  by_cases h2 : (cellAt l p).f2 = 2
  · have ht : txtv l (p + 1) = txtv l p := by show (if (cellAt l p).f2 = 2 then _ else _) = _; rw [if_pos h2]
    rw [ht]
    have hp : 0 < p ∧ (cellAt l (p - 1)).f2 = 1 := by
      rcases (h.2.2 p (by omega)).2 with x | x | x
      · omega
      · omega
      · exact x.2.2
    obtain ⟨o, rfl⟩ : ∃ o, p = o + 1 := ⟨p - 1, by omega⟩
    have h1 : (cellAt l o).f2 = 1 := hp.2
    refine one o (by omega) (by omega) ?_
    rcases (h.2.2 o (by omega)).2 with x | x | x
    · omega
    · exact wid_two x.2.1
    · omega
  · exact one p (by omega) h2 hc
theorem bts_tail {l : List S48} (h : RowRight l) (q : Nat) : ∀ d, q + d ≤ l.length → (∀ i, q ≤ i → i < q + d → (cellAt l i).f0 = 32) → bts (txtv l (q + d)) = bts (txtv l q) ++ List.replicate d 32
  | 0, _, _ => by simp
  | d + 1, hd, hc => by
    have ih := bts_tail h q d (by omega) (fun i h1 h2 => hc i h1 (by omega))
    have c := hc (q + d) (by omega) (by omega)
    have h2 : (cellAt l (q + d)).f2 ≠ 2 := by
      intro e
      rcases (h.2.2 (q + d) (by omega)).2 with x | x | x <;> omega
    have ht : txtv l (q + d + 1) = txtv l (q + d) ++ [(cellAt l (q + d)).f0] := by show (if (cellAt l (q + d)).f2 = 2 then _ else _) = _; rw [if_neg h2]
    rw [show q + (d + 1) = q + d + 1 by omega, ht, bts_append, bts_one, ih, c, List.replicate_succ', List.append_assoc]
    rfl
theorem trim_is {l : List S48} (h : RowRight l) (q : Nat) (hq : q ≤ l.length) (hc : ∀ i, q ≤ i → i < l.length → (cellAt l i).f0 = 32) (h0 : 0 < q → (cellAt l (q - 1)).f0 ≠ 32) : Lib.trimRightB (bts (txtv l l.length)) 32 = bts (txtv l q) := by
  have e := bts_tail h q (l.length - q) (by omega) (fun i h1 h2 => hc i h1 (by omega))
  rw [show q + (l.length - q) = l.length by omega] at e
  rw [Lib.trimRightB_take _ 32 (bts (txtv l q)).length]
  · rw [e, List.take_left']
    rfl
  · rw [e, List.length_append]; omega
  · intro j b hj hb
    rw [e, List.getElem?_append_right hj, List.getElem?_replicate] at hb
    split at hb
    · exact (Option.some.inj hb).symm
    · cases hb
  · intro b hk hb
    have hq0 : 0 < q := by
      rcases Nat.eq_zero_or_pos q with z | z
      · subst z; simp [txtv, bts] at hk
      · exact z
    obtain ⟨v, z, ev, hz⟩ := bts_last h q hq hq0 (h0 hq0)
    rw [e, List.getElem?_append_left (by omega), ev] at hb
    simp at hb
    rw [← hb]; exact hz
theorem impl_rt_l0 (l : List S48) (h : RowRight l) : ∀ (d i : Nat), i + d = l.length → Ev (fun k => impl_RowText.l0 k l (bts (txtv l i)) (i : Int)) ⟨(Lib.trimRightB (bts (txtv l l.length)) 32).toArray⟩ := by
  have hl := h.2.1
  intro d
  induction d with
  | zero =>
    intro i hi
    obtain rfl : i = l.length := by omega
    have h1 := bts_length (txtv l l.length)
    have h2 := txtv_length l l.length
    refine ev_succ ?_
    simp only [impl_RowText.l0]
    refine ev_neg (by omega) (ev_fixed ?_)
    unfold strings_TrimRight.f
    rw [if_pos ⟨by show (bts (txtv l l.length)).toArray.size ≤ _; rw [List.size_toArray]; omega, rfl⟩]
  | succ d ih =>
    intro i hi
    have h1 := bts_length (txtv l i)
    have h2 := txtv_length l i
    have wi : ∀ _ : Unit, wrap64 ((i : Int) + 1) = ((i + 1 : Nat) : Int) := fun _ => by rw [w64 (by omega) (by omega)]; omega
    have e := ih (i + 1) (by omega)
    refine ev_succ ?_
    simp only [impl_RowText.l0, wi ()]
    refine ev_pos (by omega) (ev_pos (by omega) ?_)
    by_cases q : (cellAt l i).f2 = 2
    · have ht : txtv l (i + 1) = txtv l i := by show (if (cellAt l i).f2 = 2 then _ else _) = _; rw [if_pos q]
      rw [ht] at e
      exact ev_pos q e
    · have ht : txtv l (i + 1) = txtv l i ++ [(cellAt l i).f0] := by show (if (cellAt l i).f2 = 2 then _ else _) = _; rw [if_neg q]
      have hr := right_rok h i (by omega) q
      have hp := putv_ub hr
      have hz : (putv (cellAt l i).f0).size ≤ 4 := by
        unfold putv
        rw [if_pos hr, strOfNums_size]; exact enc_length _
      rw [ht, bts_append, bts_one, ← hp] at e
      have hz' : (bts (txtv l i)).length + (putv (rd_T48 l (i : Int)).f0).size ≤ 140737488355328 := by
        show (bts (txtv l i)).length + (putv (cellAt l i).f0).size ≤ 140737488355328
        omega
      exact ev_neg q (Ev.bind (impl_Put_ev _) (ev_pos hz' e))

theorem rdLl (l : List (List S108)) (i : Nat) (h : i < l.length) : rd_L4 l (i : Int) = l[i] := by
  unfold rd_L4; rw [Int.toNat_natCast, List.getD_eq_getElem?_getD, List.getElem?_eq_getElem h]; rfl
theorem rdLi (l : List (List S48)) (i : Nat) (h : i < l.length) : rd_L7 l (i : Int) = l[i] := by
  unfold rd_L7; rw [Int.toNat_natCast, List.getD_eq_getElem?_getD, List.getElem?_eq_getElem h]; rfl
theorem laws_szCellS_left (l : List S108) (a : Int) (h0 : 0 ≤ a) (ha : a ≤ 1048576) (hl : l.length ≤ maxLen) : ∃ r, laws_szCellS.f l a = some r ∧ (r < 0 ∨ (0 ≤ r ∧ r ≤ a ∧ (l.length : Int) ≤ a)) := by
  rw [maxLen_eq] at hl
  unfold laws_szCellS.f
  rw [w64 (x := a - (l.length : Int)) (by omega) (by omega)]
  by_cases h1 : a - (l.length : Int) < 0
  · rw [if_pos h1]; exact ⟨_, rfl, .inl (by omega)⟩
  · rw [if_neg h1]; exact ⟨_, rfl, .inr (by omega)⟩
theorem laws_szCellSS_ev (l : List (List S108)) (a : Int) (h0 : 0 ≤ a) (ha : a ≤ 1048576) (hl : l.length ≤ maxLen) (hw : ∀ x ∈ l, x.length ≤ maxLen) :
    ∃ r, Ev (fun k => laws_szCellSS.f k l a) r ∧ (r < 0 ∨ (0 ≤ r ∧ r ≤ a ∧ (l.length : Int) ≤ a ∧ ∀ x ∈ l, (x.length : Int) ≤ a)) := by
  rw [maxLen_eq] at hl
  have go : ∀ (d i : Nat) (x : Int), i + d = l.length → 0 ≤ x → x ≤ a → ∃ r, Ev (fun k => laws_szCellSS.l0 k l x (i : Int)) r ∧ (r < 0 ∨ (0 ≤ r ∧ r ≤ x ∧ ∀ j (h : j < l.length), i ≤ j → (l[j].length : Int) ≤ a)) := by
    intro d
    induction d with
    | zero =>
      intro i x h hx0 hx1
      refine ⟨x, ev_succ ?_, .inr ⟨hx0, Int.le_refl _, fun j hj hi => absurd hj (by omega)⟩⟩
      simp only [laws_szCellSS.l0]
      exact ev_neg (by omega) (Ev.now _)
    | succ d ih =>
      intro i x h hx0 hx1
      obtain ⟨r1, e1, hr1⟩ := laws_szCellS_left l[i] x hx0 (by omega) (hw _ (List.getElem_mem _))
      have w2 : ∀ _ : Unit, wrap64 ((i : Int) + 1) = ((i + 1 : Nat) : Int) := fun _ => by rw [w64 (by omega) (by omega)]; omega
      by_cases c : r1 < 0
      · refine ⟨-1, ev_succ ?_, .inl (by omega)⟩
        simp only [laws_szCellSS.l0, rdLl l i (by omega), e1, Option.bind_some]
        exact ev_pos (by omega) (ev_pos (by omega) (ev_pos c (Ev.now _)))
      · obtain ⟨r, e, hr⟩ := ih (i + 1) r1 (by omega) (by omega) (by omega)
        refine ⟨r, ev_succ ?_, ?_⟩
        · simp only [laws_szCellSS.l0, rdLl l i (by omega), e1, Option.bind_some, w2 ()]
          exact ev_pos (by omega) (ev_pos (by omega) (ev_neg c e))
        · rcases hr with hr | ⟨q0, q1, q2⟩
          · exact .inl hr
          · refine .inr ⟨q0, by omega, fun j hj hi => ?_⟩
            by_cases e : j = i
            · subst e; omega
            · exact q2 j hj (by omega)
  unfold laws_szCellSS.f
  rw [w64 (by omega) (by omega)]
  by_cases c : a - (l.length : Int) < 0
  · exact ⟨-1, ev_pos c (Ev.now _), .inl (by omega)⟩
  · obtain ⟨r, e, hr⟩ := go l.length 0 (a - (l.length : Int)) (by omega) (by omega) (by omega)
    refine ⟨r, ev_neg c e, ?_⟩
    rcases hr with hr | ⟨q0, q1, q2⟩
    · exact .inl hr
    · refine .inr ⟨q0, by omega, by omega, fun x hx => ?_⟩
      obtain ⟨j, hj, rfl⟩ := List.mem_iff_getElem.mp hx
      exact q2 j hj (by omega)
theorem laws_szGrid_ev (c : Int) (l : List (List S108)) (a : Int) (h0 : 0 ≤ a) (ha : a ≤ 1048576) (hl : l.length ≤ maxLen) (hw : ∀ x ∈ l, x.length ≤ maxLen) :
    ∃ r, Ev (fun k => laws_szGrid.f k c l a) r ∧ (r < 0 ∨ (0 ≤ r ∧ r ≤ a ∧ (l.length : Int) ≤ a ∧ ∀ x ∈ l, (x.length : Int) ≤ a)) := by
  obtain ⟨r, e, hr⟩ := laws_szCellSS_ev l a h0 ha hl hw
  unfold laws_szGrid.f
  by_cases q : r < 0
  · exact ⟨-1, Ev.bind e (ev_pos q (Ev.now _)), .inl (by omega)⟩
  · exact ⟨r, Ev.bind e (ev_neg q (Ev.now _)), hr⟩
def torow (l : List S108) : List S48 := l.map tocell
theorem torow_length (l : List S108) : (torow l).length = l.length := List.length_map _
theorem laws_toCellSS_ev (l : List (List S108)) (hl : l.length ≤ 1048576) (hw : ∀ x ∈ l, x.length ≤ 1048576) : Ev (fun k => laws_toCellSS.f k l) (l.map torow) := by
  have go : ∀ (d i : Nat) (m : List (List S48)), i + d = l.length → m.length = l.length → Ev (fun k => laws_toCellSS.l0 k l m (i : Int)) (m.take i ++ (l.drop i).map torow) := by
    intro d
    induction d with
    | zero =>
      intro i m h hm
      refine ev_succ ?_
      simp only [laws_toCellSS.l0]
      refine ev_neg (by omega) ?_
      rw [List.take_of_length_le (by omega), List.drop_of_length_le (by omega), List.map_nil, List.append_nil]
      exact Ev.now _
    | succ d ih =>
      intro i m h hm
      refine ev_succ ?_
      simp only [laws_toCellSS.l0, rdLl l i (by omega), w64 (x := (i : Int) + 1) (by omega) (by omega)]
      refine ev_pos (by omega) (ev_pos (by omega) (Ev.bind (laws_toCellS_ev _ (hw _ (List.getElem_mem _))) (ev_pos (by omega) ?_)))
      have := ih (i + 1) (m.set (i : Int).toNat (torow l[i])) (by omega) (by simpa using hm)
      refine ev_eq this ?_
      rw [show (i : Int).toNat = i by omega, take_set_succ _ _ _ (by omega), List.append_assoc, List.singleton_append, ← List.map_cons, ← List.drop_eq_getElem_cons (by omega)]
  unfold laws_toCellSS.f
  refine ev_pos (by omega) (ev_pos (by omega) ?_)
  have := go l.length 0 (List.replicate l.length []) (by omega) (by simp)
  simpa using this
theorem laws_toGrid_ev (c : Int) (l : List (List S108)) (hl : l.length ≤ 1048576) (hw : ∀ x ∈ l, x.length ≤ 1048576) : Ev (fun k => laws_toGrid.f k c l) (c, l.map torow) := by
  unfold laws_toGrid.f
  exact Ev.bind (laws_toCellSS_ev l hl hw) (Ev.now _)
theorem laws_eqCellSS_ev (l : List (List S48)) (hl : l.length < 9223372036854775807) (hw : ∀ x ∈ l, x.length < 9223372036854775807) : Ev (fun k => laws_eqCellSS.f k l l) true := by
  have go : ∀ (d i : Nat), i + d = l.length → Ev (fun k => laws_eqCellSS.l0 k l l (i : Int)) true := by
    intro d
    induction d with
    | zero =>
      intro i h
      refine ev_succ ?_
      simp only [laws_eqCellSS.l0]
      exact ev_neg (by omega) (Ev.now _)
    | succ d ih =>
      intro i h
      refine ev_succ ?_
      simp only [laws_eqCellSS.l0, rdLi l i (by omega), w64 (x := (i : Int) + 1) (by omega) (by omega)]
      exact ev_pos (by omega) (ev_pos (by omega) (ev_pos (by omega) (Ev.bind (laws_eqCellS_ev _ (hw _ (List.getElem_mem _))) (ev_pos (by trivial) (ih (i + 1) (by omega))))))
  unfold laws_eqCellSS.f
  exact ev_pos rfl (go l.length 0 (by omega))
theorem laws_eqGrid_ev (c : Int) (l : List (List S48)) (hl : l.length < 9223372036854775807) (hw : ∀ x ∈ l, x.length < 9223372036854775807) : Ev (fun k => laws_eqGrid.f k c l c l) true := by
  unfold laws_eqGrid.f
  exact ev_pos rfl (Ev.bind (laws_eqCellSS_ev l hl hw) (ev_pos (by trivial) (Ev.now _)))

def GridRight (c : Int) (l : List (List S48)) : Prop := 1 ≤ c ∧ c ≤ 60 ∧ 1 ≤ l.length ∧ l.length ≤ 30 ∧ ∀ x ∈ l, (x.length : Int) = c ∧ RowRight x
theorem spec_GridOk_some (c : Int) (l : List (List S48)) : ∃ b, Ev (fun k => spec_GridOk.f k c l) b ∧ (b = true ↔ GridRight c l) := by
  have go : l.length ≤ 30 → ∀ (d i : Nat), i + d = l.length → ∃ b, Ev (fun k => spec_GridOk.l0 k (i : Int) c l) b ∧ (b = true ↔ ∀ x ∈ l.drop i, (x.length : Int) = c ∧ RowRight x) := by
    intro hl d
    induction d with
    | zero =>
      intro i h
      refine ⟨true, ev_succ ?_, by rw [List.drop_of_length_le (by omega)]; simp⟩
      simp only [spec_GridOk.l0]
      exact ev_neg (by omega) (Ev.now _)
    | succ d ih =>
      intro i h
      obtain ⟨b, e, hb⟩ := ih (i + 1) (by omega)
      have w2 : ∀ _ : Unit, wrap64 ((i : Int) + 1) = ((i + 1 : Nat) : Int) := fun _ => by rw [w64 (by omega) (by omega)]; omega
      obtain ⟨b1, e1, hb1⟩ := spec_RowOk_some l[i]
      rw [List.drop_eq_getElem_cons (by omega)]
      by_cases q : (l[i].length : Int) = c
      · by_cases q1 : b1 = true
        · refine ⟨b, ev_succ ?_, ?_⟩
          · simp only [spec_GridOk.l0, rdLi l i (by omega), w2 ()]
            exact ev_pos (by omega) (ev_pos (by omega) (ev_pos q (Ev.bind e1 (ev_pos q1 e))))
          · rw [hb]
            constructor
            · intro z x hx
              rcases List.mem_cons.mp hx with rfl | hx
              · exact ⟨q, hb1.mp q1⟩
              · exact z x hx
            · intro z x hx; exact z x (List.mem_cons_of_mem _ hx)
        · refine ⟨false, ev_succ ?_, ⟨fun z => (by cases z), fun z => absurd (hb1.mpr (z _ List.mem_cons_self).2) q1⟩⟩
          simp only [spec_GridOk.l0, rdLi l i (by omega), w2 ()]
          exact ev_pos (by omega) (ev_pos (by omega) (ev_pos q (Ev.bind e1 (ev_neg q1 (Ev.now _)))))
      · refine ⟨false, ev_succ ?_, ⟨fun z => (by cases z), fun z => absurd (z _ List.mem_cons_self).1 q⟩⟩
        simp only [spec_GridOk.l0, rdLi l i (by omega), w2 ()]
        exact ev_pos (by omega) (ev_pos (by omega) (ev_neg q (Ev.now _)))
  have jt : Ev (fun k => spec_GridOk.j0 k true c l) false := by
    refine ev_succ ?_
    simp only [spec_GridOk.j0]
    exact ev_pos (by trivial) (Ev.now _)
  unfold spec_GridOk.f
  by_cases h1 : 1 ≤ c ∧ c ≤ 60
  case neg =>
    refine ⟨false, ev_bind_of (spec_l1In_eq _ _ _) (ev_neg ?_ jt), ⟨fun z => (by cases z), fun z => absurd ⟨z.1, z.2.1⟩ h1⟩⟩
    simp; omega
  have i1 : (decide (1 ≤ c) && decide (c ≤ 60)) = true := by simp; omega
  by_cases h2 : (l.length : Int) < 1
  · exact ⟨false, ev_bind_of (spec_l1In_eq _ _ _) (ev_pos i1 (ev_pos h2 jt)), ⟨fun z => (by cases z), fun z => absurd z.2.2.1 (by omega)⟩⟩
  by_cases h3 : l.length ≤ 30
  · obtain ⟨b, e, hb⟩ := go h3 l.length 0 (by omega)
    refine ⟨b, ev_bind_of (spec_l1In_eq _ _ _) (ev_pos i1 (ev_neg h2 (ev_succ ?_))), ?_⟩
    · rw [decide_eq_false (by omega)]
      simp only [spec_GridOk.j0]
      exact ev_neg (by simp) e
    · rw [hb, List.drop_zero]
      exact ⟨fun z => ⟨h1.1, h1.2, by omega, h3, z⟩, fun z => z.2.2.2.2⟩
  · refine ⟨false, ev_bind_of (spec_l1In_eq _ _ _) (ev_pos i1 (ev_neg h2 ?_)), ⟨fun z => (by cases z), fun z => absurd z.2.2.2.1 h3⟩⟩
    rw [decide_eq_true (by omega)]
    exact jt
theorem impl_GridOk_some (c : Int) (l : List (List S48)) (hw : ∀ x ∈ l, x.length ≤ 1048576) : ∃ b, Ev (fun k => impl_GridOk.f k c l) b ∧ (b = true ↔ GridRight c l) := by
  have go : ∀ m : List (List S48), (∀ x ∈ m, x.length ≤ 1048576) → ∃ b, Ev (fun k => impl_GridOk.l0 k c m) b ∧ (b = false ↔ ∀ x ∈ m, (x.length : Int) = c ∧ RowRight x) := by
    intro m
    induction m with
    | nil =>
      intro _
      exact ⟨false, Ev.now _, by simp⟩
    | cons y m ih =>
      intro hm
      obtain ⟨b, e, hb⟩ := ih (fun x hx => hm x (List.mem_cons_of_mem _ hx))
      obtain ⟨b1, e1, hb1⟩ := impl_RowOk_some y (hm y List.mem_cons_self)
      by_cases q : (y.length : Int) = c
      · by_cases q1 : b1 = true
        · refine ⟨b, ?_, ?_⟩
          · simp only [impl_GridOk.l0]
            exact ev_pos q (Ev.bind e1 (ev_pos q1 e))
          · rw [hb]
            constructor
            · intro z x hx
              rcases List.mem_cons.mp hx with rfl | hx
              · exact ⟨q, hb1.mp q1⟩
              · exact z x hx
            · intro z x hx; exact z x (List.mem_cons_of_mem _ hx)
        · refine ⟨true, ?_, ⟨fun z => (by cases z), fun z => absurd (hb1.mpr (z _ List.mem_cons_self).2) q1⟩⟩
          simp only [impl_GridOk.l0]
          exact ev_pos q (Ev.bind e1 (ev_neg q1 (Ev.now _)))
      · refine ⟨true, ?_, ⟨fun z => (by cases z), fun z => absurd (z _ List.mem_cons_self).1 q⟩⟩
        simp only [impl_GridOk.l0]
        exact ev_neg q (Ev.now _)
  unfold impl_GridOk.f
  by_cases h1 : 1 ≤ c ∧ c ≤ 60
  case neg =>
    refine ⟨false, ev_bind_of (impl_in_eq _ _ _) (ev_neg ?_ (Ev.now _)), ⟨fun z => (by cases z), fun z => absurd ⟨z.1, z.2.1⟩ h1⟩⟩
    simp; omega
  have i1 : (decide (1 ≤ c) && decide (c ≤ 60)) = true := by simp; omega
  by_cases h2 : 1 ≤ l.length ∧ l.length ≤ 30
  case neg =>
    refine ⟨false, ev_bind_of (impl_in_eq _ _ _) (ev_pos i1 (ev_bind_of (impl_in_eq _ _ _) (ev_neg ?_ (Ev.now _)))), ⟨fun z => (by cases z), fun z => absurd ⟨z.2.2.1, z.2.2.2.1⟩ h2⟩⟩
    simp; omega
  have i2 : (decide (1 ≤ (l.length : Int)) && decide ((l.length : Int) ≤ 30)) = true := by simp; omega
  obtain ⟨b, e, hb⟩ := go l hw
  refine ⟨!b, ev_bind_of (impl_in_eq _ _ _) (ev_pos i1 (ev_bind_of (impl_in_eq _ _ _) (ev_pos i2 (Ev.bind e (Ev.now _))))), ?_⟩
  rw [Bool.not_eq_true', hb]
  exact ⟨fun z => ⟨h1.1, h1.2, h2.1, h2.2, z⟩, fun z => z.2.2.2.2⟩

theorem l4Text_evs (l : List S48) (h : RowRight l) : ∃ v : ByteArray, v.size ≤ 240 ∧ Ev (fun k => spec_l4Text.f k l) v ∧ Ev (fun k => impl_RowText.f k l) v := by
  have hl := h.2.1
  obtain ⟨b2, e2, hb2⟩ := impl_RowOk_some l (by omega)
  obtain rfl : b2 = true := hb2.mpr h
  obtain ⟨q, hq, e3, h1, h2⟩ := spec_l4_l0 l h.2.1 l.length (by omega)
  have e4 := impl_rt_l0 l h l.length 0 (by omega)
  rw [trim_is h q hq h1 h2] at e4
  have hs := encs_bts _ (txtv_rok h q hq)
  have he : (⟨(bts (txtv l q)).toArray⟩ : ByteArray) = strOfNums (encs (txtv l q)) := by
    refine ByteArray.ext (Array.toList_inj.mp ?_)
    rw [hs]
  rw [he] at e4
  refine ⟨strOfNums (encs (txtv l q)), ?_, e3, ?_⟩
  · have z1 := bts_length (txtv l q)
    have z2 := txtv_length l q
    show (strOfNums (encs (txtv l q))).data.size ≤ 240
    rw [← Array.length_toList, hs]; omega
  · unfold impl_RowText.f
    exact Ev.bind e2 (ev_pos rfl e4)
theorem bta_list (a b : ByteArray) : (a ++ b).data.toList = a.data.toList ++ b.data.toList := by
  rw [ByteArray.data_append, Array.toList_append]
theorem bta_size (a b : ByteArray) : (a ++ b).size = a.size + b.size := by
  have := congrArg List.length (bta_list a b)
  rw [List.length_append, Array.length_toList, Array.length_toList, Array.length_toList] at this
  exact this
theorem gt_evs (c : Int) (l : List (List S48)) (hl : l.length ≤ 30) (hw : ∀ x ∈ l, RowRight x) : ∀ (d i : Nat) (bs : ByteArray), i + d = l.length → bs.size ≤ 300 * i →
    ∃ v, Ev (fun k => spec_l5Text.l0 k bs (i : Int) c l) v ∧ Ev (fun k => impl_GridText.l0 k l bs.data.toList (i : Int)) v := by
  intro d
  induction d with
  | zero =>
    intro i bs h hb
    refine ⟨bs, ev_succ ?_, ev_succ ?_⟩
    · simp only [spec_l5Text.l0]
      exact ev_neg (by omega) (Ev.now _)
    · simp only [impl_GridText.l0]
      exact ev_neg (by omega) (Ev.now _)
  | succ d ih =>
    intro i bs h hb
    obtain ⟨t, zt, e1, e2⟩ := l4Text_evs l[i] (hw _ (List.getElem_mem _))
    have wi : ∀ _ : Unit, wrap64 ((i : Int) + 1) = ((i + 1 : Nat) : Int) := fun _ => by rw [w64 (by omega) (by omega)]; omega
    have s1 : (⟨#[10]⟩ : ByteArray).size = 1 := rfl
    have s2 := bta_size bs t
    have s3 := bta_size (bs ++ t) ⟨#[10]⟩
    have s4 := bta_size t ⟨#[10]⟩
    obtain ⟨v, e3, e4⟩ := ih (i + 1) ((bs ++ t) ++ ⟨#[10]⟩) (by omega) (by omega)
    have eb : ((bs ++ t) ++ (⟨#[10]⟩ : ByteArray)).data.toList = bs.data.toList ++ (t ++ (⟨#[10]⟩ : ByteArray)).data.toList := by
      rw [bta_list, bta_list, bta_list, List.append_assoc]
    rw [eb] at e4
    have ebl : bs.data.toList.length = bs.size := Array.length_toList
    have eg : l.getD (i : Int).toNat [] = l[i] := by
      rw [Int.toNat_natCast, List.getD_eq_getElem?_getD, List.getElem?_eq_getElem (by omega)]; rfl
    refine ⟨v, ev_succ ?_, ev_succ ?_⟩
    · simp only [spec_l5Text.l0, rdLi l i (by omega), wi ()]
      exact ev_pos (by omega) (ev_pos (by omega) (Ev.bind e1 (ev_pos (by omega) (ev_pos (by omega) e3))))
    · simp only [impl_GridText.l0, eg, wi ()]
      exact ev_pos (by omega) (ev_pos (by omega) (Ev.bind e2 (ev_pos (by omega) (ev_pos (by omega) e4))))
theorem GridText_evs (c : Int) (l : List (List S48)) (hw : ∀ x ∈ l, x.length ≤ 1048576) : ∃ v, Ev (fun k => spec_GridText.f k c l) v ∧ Ev (fun k => impl_GridText.f k c l) v := by
  obtain ⟨b1, e1, hb1⟩ := spec_GridOk_some c l
  obtain ⟨b2, e2, hb2⟩ := impl_GridOk_some c l hw
  obtain rfl : b1 = b2 := Bool.eq_iff_iff.mpr (hb1.trans hb2.symm)
  unfold spec_GridText.f impl_GridText.f
  cases b1 with
  | false => exact ⟨_, Ev.bind e1 (ev_neg (by simp) (Ev.now _)), Ev.bind e2 (ev_neg (by simp) (Ev.now _))⟩
  | true =>
    have h := hb1.mp rfl
    obtain ⟨v, e3, e4⟩ := gt_evs c l h.2.2.2.1 (fun x hx => (h.2.2.2.2 x hx).2) l.length 0 ⟨#[]⟩ (by omega) (Nat.le_refl _)
    exact ⟨v, Ev.bind e1 (ev_pos rfl (Ev.bind e3 (Ev.now _))), Ev.bind e2 (ev_pos rfl e4)⟩

theorem FnExactGridText : laws_FnExactGridText.Aim := by
  intro c l _ hl
  refine Ev.rounds ?_
  unfold laws_FnExactGridText.f
  obtain ⟨r, er, hr⟩ := laws_szGrid_ev c l 1048576 (by omega) (by omega) hl.1 (fun x hx => (hl.2 x hx).1)
  refine Ev.bind er ?_
  by_cases h : r < 0
  · exact ev_pos h (Ev.now _)
  refine ev_neg h ?_
  have h1 : l.length ≤ 1048576 ∧ ∀ x ∈ l, x.length ≤ 1048576 := by
    rcases hr with hr | ⟨_, _, q2, q3⟩
    · exact absurd hr h
    · exact ⟨by omega, fun x hx => by have := q3 x hx; omega⟩
  have ht := laws_toGrid_ev c l h1.1 h1.2
  have h2 : ∀ x ∈ l.map torow, x.length ≤ 1048576 := by
    intro x hx
    obtain ⟨y, hy, rfl⟩ := List.mem_map.mp hx
    rw [torow_length]; exact h1.2 y hy
  obtain ⟨v, e1, e2⟩ := GridText_evs c (l.map torow) h2
  exact Ev.bind ht (Ev.bind e1 (Ev.bind ht (Ev.bind e2 (ev_pos rfl (Ev.bind ht (Ev.bind (laws_eqGrid_ev c _ (by rw [List.length_map]; omega) (fun x hx => by have := h2 x hx; omega)) (ev_pos rfl (Ev.now _))))))))

end Go.Proofs.YtepeanpoicefdaaDoor.Pure
