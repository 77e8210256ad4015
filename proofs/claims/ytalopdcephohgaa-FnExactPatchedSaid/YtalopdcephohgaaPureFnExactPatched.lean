/- The law FnExactPatched answers true at every grid and patch. -/
import Derived.Test.YtalopdcephohgaaRCx31
import Derived.Test.YtalopdcephohgaaAimFnExactPatched
namespace Go.Proofs.Ytalopdcephohgaa.Pure
open Go.RowKit Go.Proofs.Ytalopdcephohgaa.RC Go.Proofs.YtalopdcephohgaaW.PrintWords Go.Proofs.YtalopdcephohgaaW.PrintLast
set_option linter.unusedVariables false
set_option linter.unusedSimpArgs false

theorem w64 {x : Int} (h0 : -9223372036854775808 ≤ x) (h1 : x ≤ 9223372036854775807) : wrap64 x = x := by unfold wrap64; omega
theorem zad {α : Type} {g : Nat → Option α} {r : α} (h : Ev (fun k => g (k + 1)) r) : Ev g r := by
 obtain ⟨K, h⟩ := h
 refine ⟨K + 1, fun k hk => ?_⟩
 obtain ⟨m, rfl⟩ : ∃ m, k = m + 1 := ⟨k - 1, by omega⟩
 exact h m (by omega)
theorem ev_fixed {α : Type} {x : Option α} {r : α} (h : x = some r) : Ev (fun _ => x) r := ⟨0, fun _ _ => h⟩
theorem zam {α : Type} {g : Nat → Option α} {r s : α} (h : Ev g r) (e : r = s) : Ev g s := e ▸ h
theorem zaa {α : Type} {c : Prop} [Decidable c] {a b : Nat → Option α} {r : α} (hc : c) (h : Ev a r) : Ev (fun k => if c then a k else b k) r := by
 obtain ⟨K, h⟩ := h
 exact ⟨K, fun k hk => by show (if c then a k else b k) = some r; rw [if_pos hc]; exact h k hk⟩
theorem zab {α : Type} {c : Prop} [Decidable c] {a b : Nat → Option α} {r : α} (hc : ¬ c) (h : Ev b r) : Ev (fun k => if c then a k else b k) r := by
 obtain ⟨K, h⟩ := h
 exact ⟨K, fun k hk => by show (if c then a k else b k) = some r; rw [if_neg hc]; exact h k hk⟩
theorem zan {α β : Type} {x : Option α} {a : α} {f : Nat → α → Option β} {r : β} (hx : x = some a) (h : Ev (fun k => f k a) r) : Ev (fun k => x.bind (f k)) r := by
 subst hx; exact h

theorem zaq {α : Type} (l : List α) (i : Nat) (a : α) (h : i < l.length) : (l.set i a).take (i + 1) = l.take i ++ [a] := by
 rw [List.take_succ_eq_append_getElem (by simpa using h), List.take_set, List.set_eq_of_length_le (by rw [List.length_take]; omega)]
 simp

theorem zb8 : maxLen = 9223372036854775807 := rfl

theorem rdc {l : List S98} {i : Nat} (h : i < l.length) : rd_T98 l (i : Int) = l[i] := by
 unfold rd_T98; rw [Int.toNat_natCast, List.getD_eq_getElem?_getD, List.getElem?_eq_getElem h]; rfl
theorem zb3 (a b : S96) : ((!(a.f0 == b.f0) || (!(a.f1 == b.f1) || (!(a.f2 == b.f2) || (!(a.f3 == b.f3) || (!(a.f4 == b.f4)))))) = true) ↔ a ≠ b := by
 obtain ⟨a0, a1, a2, a3, a4⟩ := a
 obtain ⟨b0, b1, b2, b3, b4⟩ := b
 constructor
 ·intro h e
  injection e with e0 e1 e2 e3 e4
  subst e0; subst e1; subst e2; subst e3; subst e4
  simp at h
 ·intro h
  by_cases q0 : a0 = b0
  ·by_cases q1 : a1 = b1
   ·by_cases q2 : a2 = b2
    ·by_cases q3 : a3 = b3
     ·by_cases q4 : a4 = b4
      ·subst q0; subst q1; subst q2; subst q3; subst q4; exact absurd rfl h
      ·simp [q4]
     ·simp [q3]
    ·simp [q2]
   ·simp [q1]
  ·simp [q0]

theorem zag (a b c : Int) : spec_l1In.f a b c = some (decide (b ≤ a) && decide (a ≤ c)) := by
 unfold spec_l1In.f
 by_cases h : a ≥ b
 ·rw [if_pos h]; simp [h]
 ·rw [if_neg h]; simp [show ¬ b ≤ a from h]

theorem zaf (a b c : Int) : impl_in.f a b c = some (decide (b ≤ a) && decide (a ≤ c)) := by
 unfold impl_in.f
 by_cases h : b ≤ a
 ·rw [if_pos h]; simp [h]
 ·rw [if_neg h]; simp [h]

def sokv (a b : Int) : Bool := (decide (0 ≤ a) && decide (a ≤ 8)) && (decide (0 ≤ b) && decide (b ≤ 8))
theorem za4 (a b : Int) (c d e : Bool) : impl_StyleOk.f a b c d e = some (sokv a b) := by
 simp only [impl_StyleOk.f, zaf, Option.bind_some, sokv]
 by_cases h : (decide (0 ≤ a) && decide (a ≤ 8)) = true
 ·simp [h]
 ·simp [h]

theorem zae (a b : Int) (c d e : Bool) : spec_StyleOk.f a b c d e = some (sokv a b) := by
 simp only [spec_StyleOk.f, zag, Option.bind_some, sokv]
 by_cases h : (decide (0 ≤ a) && decide (a ≤ 8)) = true
 ·simp [h]
 ·simp [h]

def rok (r : Int) : Bool := decide (0 ≤ r) && decide (r ≤ 1114111) && !(decide (55296 ≤ r) && decide (r ≤ 57343))
def wid (r : Int) : Int :=
 if rok r = false ∨ r < 32 ∨ (127 ≤ r ∧ r ≤ 159) ∨ (768 ≤ r ∧ r ≤ 879) then 0
 else if (4352 ≤ r ∧ r ≤ 4447) ∨ (12288 ≤ r ∧ r ≤ 55295) ∨ (127744 ≤ r ∧ r ≤ 131071) then 2 else 1
theorem zcg (r : Int) : spec_RuneOk.f r = some (rok r) := by
 simp only [spec_RuneOk.f, zag, Option.bind_some, rok]
 by_cases h : (decide (0 ≤ r) && decide (r ≤ 1114111)) = true
 ·rw [if_pos h, h, Bool.true_and]
 ·rw [if_neg h, Bool.eq_false_iff.mpr h, Bool.false_and]

theorem zal (r : Int) : Ev (fun k => spec_Width.f k r) (wid r) := by
 have j1 : Ev (fun k => spec_Width.j0 k r true) 0 := by
  refine zad ?_
  simp only [spec_Width.j0, if_true]
  exact Ev.now _
 have j0 : Ev (fun k => spec_Width.j0 k r false) (if (4352 ≤ r ∧ r ≤ 4447) ∨ (12288 ≤ r ∧ r ≤ 55295) ∨ (127744 ≤ r ∧ r ≤ 131071) then 2 else 1) := by
  refine zad ?_
  simp only [spec_Width.j0, zag, Option.bind_some, Bool.false_eq_true, if_false]
  refine ev_fixed ?_
  simp only [Bool.and_eq_true, decide_eq_true_eq]
  repeat' split
  all_goals first | rfl | omega
 simp only [spec_Width.f, zcg, zag, Option.bind_some]
 cases hk : rok r with
 | false => simp only [Bool.false_eq_true, if_false]; refine zam j1 ?_; unfold wid; rw [if_pos (.inl hk)]
 | true =>
  simp only [if_true]
  by_cases h1 : r < 32
  ·simp only [if_pos h1]; refine zam j1 ?_; unfold wid; rw [if_pos (.inr (.inl h1))]
  ·simp only [if_neg h1]
   by_cases h2 : 127 ≤ r ∧ r ≤ 159
   ·simp only [h2.1, h2.2, decide_true, Bool.and_self, if_true]; refine zam j1 ?_; unfold wid; rw [if_pos (.inr (.inr (.inl h2)))]
   ·have e2 : (decide (127 ≤ r) && decide (r ≤ 159)) = false := by simpa using h2
    simp only [e2, Bool.false_eq_true, if_false]
    by_cases h3 : 768 ≤ r ∧ r ≤ 879
    ·simp only [h3.1, h3.2, decide_true, Bool.and_self]; refine zam j1 ?_; unfold wid; rw [if_pos (.inr (.inr (.inr h3)))]
    ·have e3 : (decide (768 ≤ r) && decide (r ≤ 879)) = false := by simpa using h3
     simp only [e3]; refine zam j0 ?_; unfold wid
     refine (if_neg ?_).symm
     rintro (h | h | h | h)
     ·rw [hk] at h; cases h
     all_goals omega

theorem zcl (r : Int) : impl_RuneOk.f r = some (rok r) := by
 simp only [impl_RuneOk.f, zaf, Option.bind_some, rok]
 by_cases h : (decide (0 ≤ r) && decide (r ≤ 1114111)) = true
 ·rw [if_pos h, h, Bool.true_and]
 ·rw [if_neg h, Bool.eq_false_iff.mpr h, Bool.false_and]

theorem zbe (r : Int) : Ev (fun k => impl_Width.f k r) (wid r) := by
 have j1 : Ev (fun k => impl_Width.j0 k r true) 0 := by
  refine zad ?_
  simp only [impl_Width.j0, if_true]
  exact Ev.now _
 have j0 : Ev (fun k => impl_Width.j0 k r false) (if (4352 ≤ r ∧ r ≤ 4447) ∨ (12288 ≤ r ∧ r ≤ 55295) ∨ (127744 ≤ r ∧ r ≤ 131071) then 2 else 1) := by
  refine zad ?_
  simp only [impl_Width.j0, zaf, Option.bind_some, Bool.false_eq_true, if_false]
  refine ev_fixed ?_
  simp only [Bool.and_eq_true, decide_eq_true_eq]
  repeat' split
  all_goals first | rfl | omega
 simp only [impl_Width.f, zcl, zaf, Option.bind_some]
 cases hk : rok r with
 | false => simp only [Bool.false_eq_true, if_false]; refine zam j1 ?_; unfold wid; rw [if_pos (.inl hk)]
 | true =>
  simp only [if_true]
  by_cases h1 : r < 32
  ·simp only [if_pos h1]; refine zam j1 ?_; unfold wid; rw [if_pos (.inr (.inl h1))]
  ·simp only [if_neg h1]
   by_cases h2 : 127 ≤ r ∧ r ≤ 159
   ·simp only [h2.1, h2.2, decide_true, Bool.and_self, if_true]; refine zam j1 ?_; unfold wid; rw [if_pos (.inr (.inr (.inl h2)))]
   ·have e2 : (decide (127 ≤ r) && decide (r ≤ 159)) = false := by simpa using h2
    simp only [e2, Bool.false_eq_true, if_false]
    by_cases h3 : 768 ≤ r ∧ r ≤ 879
    ·simp only [h3.1, h3.2, decide_true, Bool.and_self]; refine zam j1 ?_; unfold wid; rw [if_pos (.inr (.inr (.inr h3)))]
    ·have e3 : (decide (768 ≤ r) && decide (r ≤ 879)) = false := by simpa using h3
     simp only [e3]; refine zam j0 ?_; unfold wid
     refine (if_neg ?_).symm
     rintro (h | h | h | h)
     ·rw [hk] at h; cases h
     all_goals omega

def zac (l : List S98) (i : Nat) : S98 := rd_T98 l (i : Int)
def zav (l : List S98) (i : Nat) : Prop :=
 sokv (zac l i).f1.f0 (zac l i).f1.f1 = true ∧
 (((zac l i).f2 = 0 ∧ wid (zac l i).f0 = 1) ∨
 ((zac l i).f2 = 1 ∧ wid (zac l i).f0 = 2 ∧ i + 1 < l.length ∧ (zac l (i + 1)).f2 = 2 ∧ (zac l (i + 1)).f1 = (zac l i).f1) ∨
 ((zac l i).f2 = 2 ∧ (zac l i).f0 = 0 ∧ 0 < i ∧ (zac l (i - 1)).f2 = 1))
def zao (l : List S98) : Prop := 1 ≤ l.length ∧ l.length ≤ 60 ∧ ∀ i, i < l.length → zav l i
theorem zb4 (l : List S98) : ∃ b, Ev (fun k => spec_RowOk.f k l) b ∧ (b = true ↔ zao l) := by
 have go : l.length ≤ 60 → ∀ (d i : Nat), i + d = l.length → ∃ b, Ev (fun k => spec_RowOk.l0 k l (l.length : Int) (i : Int)) b ∧ (b = true ↔ ∀ j, i ≤ j → j < l.length → zav l j) := by
  intro hl d
  induction d with
  | zero =>
   intro i h
   refine ⟨true, zad ?_, by simp; omega⟩
   simp only [spec_RowOk.l0]
   exact zab (by omega) (Ev.now _)
  | succ d ih =>
   intro i h
   obtain ⟨b, e, hb⟩ := ih (i + 1) (by omega)
   have w1 : ∀ _ : Unit, wrap64 ((i : Int) + 1) = ((i + 1 : Nat) : Int) := fun _ => by rw [w64 (by omega) (by omega)]; omega
   have step : zav l i → (b = true ↔ ∀ j, i ≤ j → j < l.length → zav l j) := by
    intro c
    rw [hb]
    constructor
    ·intro q j h1 h2
     by_cases e : j = i
     ·rw [e]; exact c
     ·exact q j (by omega) h2
    ·intro q j h1 h2; exact q j (by omega) h2
   have bad : ¬ zav l i → (false = true ↔ ∀ j, i ≤ j → j < l.length → zav l j) := by
    intro c
    constructor
    ·intro x; cases x
    ·intro q; exact absurd (q i (Nat.le_refl _) (by omega)) c
   suffices hh : (zav l i ∧ Ev (fun k => spec_RowOk.l0 k l (l.length : Int) (i : Int)) b) ∨ (¬ zav l i ∧ Ev (fun k => spec_RowOk.l0 k l (l.length : Int) (i : Int)) false) by
    rcases hh with ⟨c, e⟩ | ⟨c, e⟩
    ·exact ⟨b, e, step c⟩
    ·exact ⟨false, e, bad c⟩
   have fold : ∀ {r : Bool}, Ev (fun k => spec_RowOk.l0 (k + 1) l (l.length : Int) (i : Int)) r → Ev (fun k => spec_RowOk.l0 k l (l.length : Int) (i : Int)) r := fun h => zad h
   have g0 : rd_T98 l (i : Int) = zac l i := rfl
   have g1 : rd_T98 l ((i + 1 : Nat) : Int) = zac l (i + 1) := rfl
   by_cases q1 : sokv (zac l i).f1.f0 (zac l i).f1.f1 = true
   case neg =>
    refine .inr ⟨fun c => q1 c.1, fold ?_⟩
    simp only [spec_RowOk.l0, g0, zae, Option.bind_some]
    exact zaa (by omega) (zaa (by omega) (zaa (by omega) (zab q1 (Ev.now _))))
   by_cases p0 : (zac l i).f2 = 0
   ·by_cases q2 : wid (zac l i).f0 = 1
    ·refine .inl ⟨⟨q1, .inl ⟨p0, q2⟩⟩, fold ?_⟩
     simp only [spec_RowOk.l0, g0, zae, Option.bind_some, w1 ()]
     exact zaa (by omega) (zaa (by omega) (zaa (by omega) (zaa q1 (zaa p0 (Ev.bind (zal _) (zaa q2 e))))))
    ·refine .inr ⟨fun c => by rcases c.2 with x | x | x <;> omega, fold ?_⟩
     simp only [spec_RowOk.l0, g0, zae, Option.bind_some, w1 ()]
     exact zaa (by omega) (zaa (by omega) (zaa (by omega) (zaa q1 (zaa p0 (Ev.bind (zal _) (zab q2 (Ev.now _)))))))
   by_cases p1 : (zac l i).f2 = 1
   ·by_cases q2 : wid (zac l i).f0 = 2
    case neg =>
     refine .inr ⟨fun c => by rcases c.2 with x | x | x <;> omega, fold ?_⟩
     simp only [spec_RowOk.l0, g0, zae, Option.bind_some, w1 ()]
     exact zaa (by omega) (zaa (by omega) (zaa (by omega) (zaa q1 (zab p0 (zaa p1 (Ev.bind (zal _) (zab q2 (Ev.now _))))))))
    by_cases q3 : i + 1 = l.length
    ·refine .inr ⟨fun c => by rcases c.2 with x | x | x <;> omega, fold ?_⟩
     simp only [spec_RowOk.l0, g0, zae, Option.bind_some, w1 ()]
     exact zaa (by omega) (zaa (by omega) (zaa (by omega) (zaa q1 (zab p0 (zaa p1 (Ev.bind (zal _) (zaa q2 (zaa (by omega) (Ev.now _)))))))))
    by_cases q4 : (zac l (i + 1)).f2 = 2
    case neg =>
     refine .inr ⟨fun c => by rcases c.2 with x | x | x <;> omega, fold ?_⟩
     simp only [spec_RowOk.l0, g0, zae, Option.bind_some, w1 (), g1]
     exact zaa (by omega) (zaa (by omega) (zaa (by omega) (zaa q1 (zab p0 (zaa p1 (Ev.bind (zal _) (zaa q2 (zab (by omega) (zaa (by omega) (zaa (by omega) (zab q4 (Ev.now _))))))))))))
    by_cases q5 : (zac l (i + 1)).f1 = (zac l i).f1
    ·refine .inl ⟨⟨q1, .inr (.inl ⟨p1, q2, by omega, q4, q5⟩)⟩, fold ?_⟩
     simp only [spec_RowOk.l0, g0, zae, Option.bind_some, w1 (), g1]
     exact zaa (by omega) (zaa (by omega) (zaa (by omega) (zaa q1 (zab p0 (zaa p1 (Ev.bind (zal _) (zaa q2 (zab (by omega) (zaa (by omega) (zaa (by omega) (zaa q4 (zab (fun x => (zb3 _ _).mp x q5) e))))))))))))
    ·refine .inr ⟨fun c => ?_, fold ?_⟩
     ·rcases c.2 with x | x | x
      ·omega
      ·exact q5 x.2.2.2.2
      ·omega
     simp only [spec_RowOk.l0, g0, zae, Option.bind_some, w1 (), g1]
     exact zaa (by omega) (zaa (by omega) (zaa (by omega) (zaa q1 (zab p0 (zaa p1 (Ev.bind (zal _) (zaa q2 (zab (by omega) (zaa (by omega) (zaa (by omega) (zaa q4 (zaa ((zb3 _ _).mpr q5) (Ev.now _)))))))))))))
   by_cases p2 : (zac l i).f2 = 2
   case neg =>
    refine .inr ⟨fun c => by rcases c.2 with x | x | x <;> omega, fold ?_⟩
    simp only [spec_RowOk.l0, g0, zae, Option.bind_some, w1 ()]
    exact zaa (by omega) (zaa (by omega) (zaa (by omega) (zaa q1 (zab p0 (zab p1 (zab p2 (Ev.now _)))))))
   by_cases q2 : (zac l i).f0 = 0
   case neg =>
    refine .inr ⟨fun c => by rcases c.2 with x | x | x <;> omega, fold ?_⟩
    simp only [spec_RowOk.l0, g0, zae, Option.bind_some, w1 ()]
    exact zaa (by omega) (zaa (by omega) (zaa (by omega) (zaa q1 (zab p0 (zab p1 (zaa p2 (zab q2 (Ev.now _))))))))
   by_cases q3 : i = 0
   ·refine .inr ⟨fun c => by rcases c.2 with x | x | x <;> omega, fold ?_⟩
    simp only [spec_RowOk.l0, g0, zae, Option.bind_some, w1 ()]
    exact zaa (by omega) (zaa (by omega) (zaa (by omega) (zaa q1 (zab p0 (zab p1 (zaa p2 (zaa q2 (zaa (by omega) (Ev.now _)))))))))
   have w2 : ∀ _ : Unit, wrap64 ((i : Int) - 1) = ((i - 1 : Nat) : Int) := fun _ => by rw [w64 (by omega) (by omega)]; omega
   have g2 : rd_T98 l ((i - 1 : Nat) : Int) = zac l (i - 1) := rfl
   by_cases q4 : (zac l (i - 1)).f2 = 1
   ·refine .inl ⟨⟨q1, .inr (.inr ⟨p2, q2, by omega, q4⟩)⟩, fold ?_⟩
    simp only [spec_RowOk.l0, g0, zae, Option.bind_some, w1 (), w2 (), g2]
    exact zaa (by omega) (zaa (by omega) (zaa (by omega) (zaa q1 (zab p0 (zab p1 (zaa p2 (zaa q2 (zab (by omega) (zaa (by omega) (zaa (by omega) (zaa q4 e)))))))))))
   ·refine .inr ⟨fun c => by rcases c.2 with x | x | x <;> omega, fold ?_⟩
    simp only [spec_RowOk.l0, g0, zae, Option.bind_some, w1 (), w2 (), g2]
    exact zaa (by omega) (zaa (by omega) (zaa (by omega) (zaa q1 (zab p0 (zab p1 (zaa p2 (zaa q2 (zab (by omega) (zaa (by omega) (zaa (by omega) (zab q4 (Ev.now _))))))))))))
 have jt : Ev (fun k => spec_RowOk.j0 k l (l.length : Int) true) false := by
  refine zad ?_
  simp only [spec_RowOk.j0]
  exact zaa (by trivial) (Ev.now _)
 unfold spec_RowOk.f
 by_cases h1 : (l.length : Int) < 1
 ·exact ⟨false, zaa h1 jt, ⟨fun x => (by cases x), fun x => by have := x.1; omega⟩⟩
 by_cases h2 : (l.length : Int) > 60
 ·refine ⟨false, zab h1 ?_, ⟨fun x => (by cases x), fun x => by have := x.2.1; omega⟩⟩
  rw [decide_eq_true h2]; exact jt
 ·obtain ⟨b, e, hb⟩ := go (by omega) l.length 0 (by omega)
  refine ⟨b, zab h1 (zad ?_), ?_⟩
  ·simp only [spec_RowOk.j0]
   exact zab (by simp; omega) e
  ·rw [hb]
   exact ⟨fun q => ⟨by omega, by omega, fun i hi => q i (by omega) hi⟩, fun q j _ hj => q.2.2 j hj⟩
theorem zcj (x : S98) : Ev (fun k => impl_isCell.f k x.f0 x.f1.f0 x.f1.f1 x.f1.f2 x.f1.f3 x.f1.f4 x.f2)
  (if x.f2 = 0 then decide (wid x.f0 = 1) && sokv x.f1.f0 x.f1.f1 else if x.f2 = 1 then decide (wid x.f0 = 2) && sokv x.f1.f0 x.f1.f1 else if x.f2 = 2 then decide (x.f0 = 0) && sokv x.f1.f0 x.f1.f1 else false) := by
 unfold impl_isCell.f
 simp only [za4, Option.bind_some]
 by_cases p0 : x.f2 = 0
 ·rw [if_pos p0]
  refine zaa p0 (Ev.bind (zbe _) ?_)
  by_cases q : wid x.f0 = 1
  ·exact zaa q (zam (Ev.now _) (by rw [decide_eq_true q]; simp))
  ·exact zab q (zam (Ev.now _) (by rw [decide_eq_false q]; simp))
 rw [if_neg p0]
 refine zab p0 ?_
 by_cases p1 : x.f2 = 1
 ·rw [if_pos p1]
  refine zaa p1 (Ev.bind (zbe _) ?_)
  by_cases q : wid x.f0 = 2
  ·exact zaa q (zam (Ev.now _) (by rw [decide_eq_true q]; simp))
  ·exact zab q (zam (Ev.now _) (by rw [decide_eq_false q]; simp))
 rw [if_neg p1]
 refine zab p1 ?_
 by_cases p2 : x.f2 = 2
 ·refine zam (r := decide (x.f0 = 0) && sokv x.f1.f0 x.f1.f1) (zaa p2 ?_) (if_pos p2).symm
  by_cases q : x.f0 = 0
  ·exact zaa q (zam (Ev.now _) (by rw [decide_eq_true q]; simp))
  ·exact zab q (zam (Ev.now _) (by rw [decide_eq_false q]; simp))
 ·exact zam (zab p2 (Ev.now _)) (if_neg p2).symm
def zcs (x : S98) : Prop := sokv x.f1.f0 x.f1.f1 = true ∧ ((x.f2 = 0 ∧ wid x.f0 = 1) ∨ (x.f2 = 1 ∧ wid x.f0 = 2) ∨ (x.f2 = 2 ∧ x.f0 = 0))
theorem zb1 (x : S98) : ∃ b, Ev (fun k => impl_isCell.f k x.f0 x.f1.f0 x.f1.f1 x.f1.f2 x.f1.f3 x.f1.f4 x.f2) b ∧ (b = true ↔ zcs x) := by
 refine ⟨_, zcj x, ?_⟩
 unfold zcs
 by_cases p0 : x.f2 = 0
 ·rw [if_pos p0]; simp only [Bool.and_eq_true, decide_eq_true_eq]
  exact ⟨fun h => ⟨h.2, .inl ⟨p0, h.1⟩⟩, fun h => ⟨by rcases h.2 with q | q | q <;> omega, h.1⟩⟩
 rw [if_neg p0]
 by_cases p1 : x.f2 = 1
 ·rw [if_pos p1]; simp only [Bool.and_eq_true, decide_eq_true_eq]
  exact ⟨fun h => ⟨h.2, .inr (.inl ⟨p1, h.1⟩)⟩, fun h => ⟨by rcases h.2 with q | q | q <;> omega, h.1⟩⟩
 rw [if_neg p1]
 by_cases p2 : x.f2 = 2
 ·rw [if_pos p2]; simp only [Bool.and_eq_true, decide_eq_true_eq]
  exact ⟨fun h => ⟨h.2, .inr (.inr ⟨p2, h.1⟩)⟩, fun h => ⟨by rcases h.2 with q | q | q <;> omega, h.1⟩⟩
 rw [if_neg p2]
 exact ⟨fun h => (by cases h), fun h => by rcases h.2 with q | q | q <;> omega⟩
def CellI (l : List S98) (i : Nat) : Prop := zcs (zac l i) ∧ (0 < i → ((zac l (i - 1)).f2 = 1 ↔ (zac l i).f2 = 2) ∧ ((zac l (i - 1)).f2 = 1 → (zac l (i - 1)).f1 = (zac l i).f1)) ∧ (i = 0 → (zac l i).f2 ≠ 2)
theorem cell_iff (l : List S98) (n : Nat) (hn : l.length = n) (h1 : 1 ≤ n) : ((∀ i, i < n → CellI l i) ∧ (zac l (n - 1)).f2 ≠ 1) ↔ ∀ i, i < n → zav l i := by
 constructor
 ·rintro ⟨h, hl⟩ i hi
  obtain ⟨hs, ha, h0⟩ := h i hi
  refine ⟨hs.1, ?_⟩
  rcases hs.2 with q | q | q
  ·exact .inl q
  ·refine .inr (.inl ⟨q.1, q.2, ?_⟩)
   have hne : i ≠ n - 1 := fun e => hl (e ▸ q.1)
   obtain ⟨_, hb, _⟩ := h (i + 1) (by omega)
   have := hb (by omega)
   rw [show i + 1 - 1 = i by omega] at this
   exact ⟨by omega, this.1.mp q.1, (this.2 q.1).symm⟩
  ·refine .inr (.inr ⟨q.1, q.2, ?_⟩)
   have hp : 0 < i := by
    rcases Nat.eq_zero_or_pos i with e | e
    ·exact absurd q.1 (h0 e)
    ·exact e
   exact ⟨hp, (ha hp).1.mpr q.1⟩
 ·intro h
  have last : (zac l (n - 1)).f2 ≠ 1 := by
   intro e
   rcases (h (n - 1) (by omega)).2 with q | q | q <;> omega
  refine ⟨fun i hi => ?_, last⟩
  obtain ⟨hs, hc⟩ := h i hi
  refine ⟨⟨hs, ?_⟩, ?_, ?_⟩
  ·rcases hc with q | q | q
   ·exact .inl q
   ·exact .inr (.inl ⟨q.1, q.2.1⟩)
   ·exact .inr (.inr ⟨q.1, q.2.1⟩)
  ·intro hp
   obtain ⟨_, hd⟩ := h (i - 1) (by omega)
   rw [show i - 1 + 1 = i by omega] at hd
   refine ⟨⟨fun e => ?_, fun e => ?_⟩, fun e => ?_⟩
   ·rcases hd with q | q | q
    ·omega
    ·exact q.2.2.2.1
    ·omega
   ·rcases hc with q | q | q
    ·omega
    ·omega
    ·exact q.2.2.2
   ·rcases hd with q | q | q
    ·omega
    ·exact q.2.2.2.2.symm
    ·omega
  ·intro e0 e
   rcases hc with q | q | q <;> omega
theorem zcd (l : List S98) (hl : l.length ≤ 1048576) : ∃ b, Ev (fun k => impl_RowOk.f k l) b ∧ (b = true ↔ zao l) := by
 have ends : ∃ b, Ev (fun k => impl_RowOk.l0 k l l (l.length : Int) (l.length : Int)) b ∧ (b = true ↔ (1 ≤ l.length ∧ l.length ≤ 60 ∧ (zac l (l.length - 1)).f2 ≠ 1)) := by
  by_cases h1 : 1 ≤ l.length ∧ l.length ≤ 60
  ·have w2 : ∀ _ : Unit, wrap64 ((l.length : Int) - 1) = ((l.length - 1 : Nat) : Int) := fun _ => by rw [w64 (by omega) (by omega)]; omega
   have g2 : rd_T98 l ((l.length - 1 : Nat) : Int) = zac l (l.length - 1) := rfl
   refine ⟨(zac l (l.length - 1)).f2 != 1, zad ?_, ?_⟩
   ·simp only [impl_RowOk.l0, zaf, Option.bind_some, w2 (), g2]
    exact zab (by omega) (zaa (by rw [decide_eq_true (p := (1 : Int) ≤ l.length) (by omega), decide_eq_true (p := (l.length : Int) ≤ 60) (by omega)]; rfl) (zaa (by omega) (zaa (by omega) (Ev.now _))))
   ·rw [bne_iff_ne]; exact ⟨fun x => ⟨h1.1, h1.2, x⟩, fun x => x.2.2⟩
  ·refine ⟨false, zad ?_, ⟨fun x => (by cases x), fun x => absurd ⟨x.1, x.2.1⟩ h1⟩⟩
   simp only [impl_RowOk.l0, zaf, Option.bind_some]
   refine zab (by omega) (zab ?_ (Ev.now _))
   simp only [Bool.and_eq_true, decide_eq_true_eq]; omega
 obtain ⟨b, eb, hb⟩ := ends
 have go : ∀ (d i : Nat), i + d = l.length → ∃ c, Ev (fun k => impl_RowOk.l0 k l l (l.length : Int) (i : Int)) c ∧ (c = true ↔ ((∀ j, i ≤ j → j < l.length → CellI l j) ∧ b = true)) := by
  intro d
  induction d with
  | zero =>
   intro i h
   obtain rfl : i = l.length := by omega
   exact ⟨b, eb, ⟨fun x => ⟨fun j h1 h2 => by omega, x⟩, fun x => x.2⟩⟩
  | succ d ih =>
   intro i h
   obtain ⟨c, e, hc⟩ := ih (i + 1) (by omega)
   have w1 : ∀ _ : Unit, wrap64 ((i : Int) + 1) = ((i + 1 : Nat) : Int) := fun _ => by rw [w64 (by omega) (by omega)]; omega
   have g0 : rd_T98 l (i : Int) = zac l i := rfl
   obtain ⟨s, es, hs⟩ := zb1 (zac l i)
   suffices hh : (CellI l i ∧ Ev (fun k => impl_RowOk.l0 k l l (l.length : Int) (i : Int)) c) ∨ (¬ CellI l i ∧ Ev (fun k => impl_RowOk.l0 k l l (l.length : Int) (i : Int)) false) by
    rcases hh with ⟨q, e⟩ | ⟨q, e⟩
    ·refine ⟨c, e, ?_⟩
     rw [hc]
     refine ⟨fun x => ⟨fun j h1 h2 => ?_, x.2⟩, fun x => ⟨fun j h1 h2 => x.1 j (by omega) h2, x.2⟩⟩
     by_cases e : j = i
     ·rw [e]; exact q
     ·exact x.1 j (by omega) h2
    ·exact ⟨false, e, ⟨fun x => (by cases x), fun x => absurd (x.1 i (Nat.le_refl _) (by omega)) q⟩⟩
   by_cases hp : i = 0
   ·subst hp
    cases s with
    | false =>
     refine .inr ⟨fun x => (by cases hs.mpr x.1), zad ?_⟩
     simp only [impl_RowOk.l0, g0]
     exact zaa (by omega) (zaa (by omega) (zaa (by omega) (zab (by omega) (Ev.bind es (zab (by simp) (Ev.now _))))))
    | true =>
     by_cases q : (zac l 0).f2 = 2
     ·refine .inr ⟨fun x => x.2.2 rfl q, zad ?_⟩
      simp only [impl_RowOk.l0, g0]
      exact zaa (by omega) (zaa (by omega) (zaa (by omega) (zab (by omega) (Ev.bind es (zaa rfl (zaa (by rw [beq_iff_eq.mpr q]; rfl) (Ev.now _)))))))
     ·refine .inl ⟨⟨hs.mp rfl, fun x => by omega, fun _ => q⟩, zad ?_⟩
      simp only [impl_RowOk.l0, g0, w1 ()]
      exact zaa (by omega) (zaa (by omega) (zaa (by omega) (zab (by omega) (Ev.bind es (zaa rfl (zab (by rw [beq_eq_false_iff_ne.mpr q]; simp) e))))))
   ·have w2 : ∀ _ : Unit, wrap64 ((i : Int) - 1) = ((i - 1 : Nat) : Int) := fun _ => by rw [w64 (by omega) (by omega)]; omega
    have g2 : rd_T98 l ((i - 1 : Nat) : Int) = zac l (i - 1) := rfl
    cases s with
    | false =>
     refine .inr ⟨fun x => (by cases hs.mpr x.1), zad ?_⟩
     simp only [impl_RowOk.l0, g0, w2 (), g2]
     exact zaa (by omega) (zaa (by omega) (zaa (by omega) (zaa (by omega) (zaa (by omega) (zaa (by omega) (Ev.bind es (zab (by simp) (Ev.now _))))))))
    | true =>
     have hpre : ∀ {r : Bool}, Ev (fun k => (if ((((zac l (i - 1)).f2) == 1) != (((zac l i).f2) == 2)) = true then (some false) else (if ((zac l (i - 1)).f2) = 1 then (if (!(((zac l (i - 1)).f1.f0) == ((zac l i).f1.f0)) || (!(((zac l (i - 1)).f1.f1) == ((zac l i).f1.f1)) || (!(((zac l (i - 1)).f1.f2) == ((zac l i).f1.f2)) || (!(((zac l (i - 1)).f1.f3) == ((zac l i).f1.f3)) || (!(((zac l (i - 1)).f1.f4) == ((zac l i).f1.f4))))))) = true then (some false) else (impl_RowOk.l0 k l l (l.length : Int) ((i + 1 : Nat) : Int))) else (impl_RowOk.l0 k l l (l.length : Int) ((i + 1 : Nat) : Int))))) r → Ev (fun k => impl_RowOk.l0 k l l (l.length : Int) (i : Int)) r := by
      intro r hr
      refine zad ?_
      simp only [impl_RowOk.l0, g0, w1 (), w2 (), g2]
      exact zaa (by omega) (zaa (by omega) (zaa (by omega) (zaa (by omega) (zaa (by omega) (zaa (by omega) (Ev.bind es (zaa rfl hr)))))))
     by_cases q1 : (zac l (i - 1)).f2 = 1
     ·by_cases q2 : (zac l i).f2 = 2
      ·by_cases q3 : (zac l (i - 1)).f1 = (zac l i).f1
       ·exact .inl ⟨⟨hs.mp rfl, fun _ => ⟨⟨fun _ => q2, fun _ => q1⟩, fun _ => q3⟩, fun x => absurd x hp⟩, hpre (zab (by rw [beq_iff_eq.mpr q1, beq_iff_eq.mpr q2]; simp) (zaa q1 (zab (fun x => (zb3 _ _).mp x q3) e)))⟩
       ·exact .inr ⟨fun x => q3 ((x.2.1 (by omega)).2 q1), hpre (zab (by rw [beq_iff_eq.mpr q1, beq_iff_eq.mpr q2]; simp) (zaa q1 (zaa ((zb3 _ _).mpr q3) (Ev.now _))))⟩
      ·exact .inr ⟨fun x => q2 ((x.2.1 (by omega)).1.mp q1), hpre (zaa (by rw [beq_iff_eq.mpr q1, beq_eq_false_iff_ne.mpr q2]; rfl) (Ev.now _))⟩
     ·by_cases q2 : (zac l i).f2 = 2
      ·exact .inr ⟨fun x => q1 ((x.2.1 (by omega)).1.mpr q2), hpre (zaa (by rw [beq_eq_false_iff_ne.mpr q1, beq_iff_eq.mpr q2]; rfl) (Ev.now _))⟩
      ·exact .inl ⟨⟨hs.mp rfl, fun _ => ⟨⟨fun x => absurd x q1, fun x => absurd x q2⟩, fun x => absurd x q1⟩, fun x => absurd x hp⟩, hpre (zab (by rw [beq_eq_false_iff_ne.mpr q1, beq_eq_false_iff_ne.mpr q2]; simp) (zab q1 e))⟩
 unfold impl_RowOk.f
 obtain ⟨c, e, hc⟩ := go l.length 0 (by omega)
 refine ⟨c, e, ?_⟩
 rw [hc, hb]
 constructor
 ·rintro ⟨h1, h2, h3, h4⟩
  exact ⟨h2, h3, (cell_iff l _ rfl h2).mp ⟨fun i hi => h1 i (by omega) hi, h4⟩⟩
 ·rintro ⟨h2, h3, h5⟩
  obtain ⟨h1, h4⟩ := (cell_iff l _ rfl h2).mpr h5
  exact ⟨fun j _ hj => h1 j hj, h2, h3, h4⟩

def blk (s : S96) : S98 := ⟨32, s, 0⟩

theorem zbf {l : List S98} {i : Nat} (h : i < l.length) : zac l i = l[i] := rdc h
theorem zbo (l : List S98) (j i : Nat) (v : S98) (hj : j < l.length) : zac (l.set j v) i = if i = j then v else zac l i := by
 unfold zac rd_T98
 rw [Int.toNat_natCast, List.getD_eq_getElem?_getD, List.getD_eq_getElem?_getD, List.getElem?_set]
 by_cases h : i = j
 ·rw [if_pos h, if_pos h.symm, if_pos (by omega)]; rfl
 ·rw [if_neg h, if_neg (fun e => h e.symm)]
theorem cells_ext {a b : List S98} (hl : a.length = b.length) (h : ∀ i, i < a.length → zac a i = zac b i) : a = b := by
 refine List.ext_getElem hl (fun i h1 h2 => ?_)
 have := h i h1
 rwa [zbf h1, zbf h2] at this
def bl (x : S98) : S98 := ⟨32, x.f1, 0⟩
def zbb (l : List S98) (a : Nat) : List S98 := if 1 ≤ a ∧ a < l.length ∧ (zac l a).f2 = 2 then (l.set (a - 1) (bl (zac l (a - 1)))).set a (bl (zac l a)) else l
theorem partv_length (l : List S98) (a : Nat) : (zbb l a).length = l.length := by
 unfold zbb
 by_cases h : 1 ≤ a ∧ a < l.length ∧ (zac l a).f2 = 2
 ·rw [if_pos h]; simp
 ·rw [if_neg h]
theorem cellAt_partv (l : List S98) (a i : Nat) : zac (zbb l a) i = if 1 ≤ a ∧ a < l.length ∧ (zac l a).f2 = 2 ∧ (i = a ∨ i + 1 = a) then bl (zac l i) else zac l i := by
 unfold zbb
 by_cases h : 1 ≤ a ∧ a < l.length ∧ (zac l a).f2 = 2
 ·rw [if_pos h, zbo _ _ _ _ (by rw [List.length_set]; omega), zbo _ _ _ _ (by omega)]
  by_cases h1 : i = a
  ·rw [if_pos h1, if_pos ⟨h.1, h.2.1, h.2.2, .inl h1⟩, h1]
  ·by_cases h2 : i = a - 1
   ·rw [if_neg h1, if_pos h2, if_pos ⟨h.1, h.2.1, h.2.2, .inr (by omega)⟩, h2]
   ·rw [if_neg h1, if_neg h2, if_neg (fun q => by omega)]
 ·rw [if_neg h, if_neg (fun q => h ⟨q.1, q.2.1, q.2.2.1⟩)]
theorem impl_part_ev (l : List S98) (a : Nat) (hl : l.length < 4611686018427387904) (ha : a ≤ l.length) : Ev (fun k => impl_part.f k l (a : Int)) (zbb l a) := by
 have w1 : ∀ _ : Unit, wrap64 ((l.length : Int) - 1) = (l.length : Int) - 1 := fun _ => w64 (by omega) (by omega)
 simp only [impl_part.f, zaf, Option.bind_some, w1 ()]
 have no : ∀ (q : ¬ (1 ≤ a ∧ a < l.length ∧ (zac l a).f2 = 2)), Ev (fun k => impl_part.j0 k l (a : Int) false) (zbb l a) := by
  intro q
  refine zad ?_
  simp only [impl_part.j0]
  refine zab (by simp) (zam (Ev.now _) ?_)
  unfold zbb; rw [if_neg q]
 by_cases h : 1 ≤ a ∧ a < l.length
 ·refine zaa (by simp; omega) (zaa (by omega) (zaa (by omega) ?_))
  show Ev (fun k => impl_part.j0 k l (a : Int) ((zac l a).f2 == 2)) (zbb l a)
  by_cases q : (zac l a).f2 = 2
  ·have wa : ∀ _ : Unit, wrap64 ((a : Int) - 1) = ((a - 1 : Nat) : Int) := fun _ => by rw [w64 (by omega) (by omega)]; omega
   refine zad ?_
   simp only [impl_part.j0, wa (), impl_blank.f, Option.bind_some, Int.toNat_natCast]
   refine zaa (by simp [q]) (zaa (by omega) (zaa (by omega) (zaa (by omega) (zaa (by omega) (zam (Ev.now _) ?_)))))
   unfold zbb; rw [if_pos ⟨h.1, h.2, q⟩]; rfl
  ·rw [show ((zac l a).f2 == 2) = false by simpa using q]
   exact no (fun x => q x.2.2)
 ·exact zab (by simp; omega) (no (fun x => h ⟨x.1, x.2.1⟩))
def zaw (m : List S98) (i : Nat) : Prop := ((zac m i).f2 = 1 ∧ (i + 1 = m.length ∨ (zac m (i + 1)).f2 ≠ 2)) ∨ ((zac m i).f2 = 2 ∧ (i = 0 ∨ (zac m (i - 1)).f2 ≠ 1))
instance (m : List S98) (i : Nat) : Decidable (zaw m i) := by unfold zaw; exact inferInstance
def zau (m : List S98) (i : Nat) : S98 := if zaw m i then bl (zac m i) else zac m i
def zar (m : List S98) : List S98 := (List.range m.length).map (zau m)
theorem zak (m : List S98) : (zar m).length = m.length := by simp [zar]
theorem zas (m : List S98) (i : Nat) (h : i < m.length) : zac (zar m) i = zau m i := by
 rw [zbf (by rw [zak]; exact h)]
 simp [zar]

theorem zbr (m : List S98) (hl : m.length < 1000000) : Ev (fun k => spec_l4Mended.f k m) (zar m) := by
 have go : ∀ (d i : Nat) (out : List S98), i + d = m.length → out.length = m.length → (∀ j, j < m.length → zac out j = if j < i then zau m j else zac m j) → Ev (fun k => spec_l4Mended.l0 k m out (i : Int)) (zar m) := by
  intro d
  induction d with
  | zero =>
   intro i out h hm hc
   refine zad ?_
   simp only [spec_l4Mended.l0]
   refine zab (by omega) (zam (Ev.now _) ?_)
   refine cells_ext (by rw [hm, zak]) (fun j hj => ?_)
   rw [hc j (by omega), if_pos (by omega), zas _ _ (by omega)]
  | succ d ih =>
   intro i out h hm hc
   have c0 : zac out i = zac m i := by rw [hc i (by omega), if_neg (by omega)]
   have blankStep : zaw m i → Ev (fun k => spec_l4Mended.l0 k m (out.set i (bl (zac m i))) ((i + 1 : Nat) : Int)) (zar m) := by
    intro ha
    refine ih (i + 1) _ (by omega) (by rw [List.length_set]; exact hm) (fun j hj => ?_)
    rw [zbo _ _ _ _ (by omega)]
    by_cases e : j = i
    ·rw [if_pos e, if_pos (by omega), e]; unfold zau; rw [if_pos ha]
    ·rw [if_neg e, hc j hj]
     by_cases q : j < i
     ·rw [if_pos q, if_pos (by omega)]
     ·rw [if_neg q, if_neg (by omega)]
   have keepStep : ¬ zaw m i → Ev (fun k => spec_l4Mended.l0 k m out ((i + 1 : Nat) : Int)) (zar m) := by
    intro ha
    refine ih (i + 1) _ (by omega) hm (fun j hj => ?_)
    rw [hc j hj]
    by_cases e : j = i
    ·rw [if_neg (by omega), if_pos (by omega), e]; unfold zau; rw [if_neg ha]
    ·by_cases q : j < i
     ·rw [if_pos q, if_pos (by omega)]
     ·rw [if_neg q, if_neg (by omega)]
   have wi : ∀ _ : Unit, wrap64 ((i : Int) + 1) = ((i + 1 : Nat) : Int) := fun _ => by rw [w64 (by omega) (by omega)]; omega
   have g0 : rd_T98 out (i : Int) = zac m i := c0
   have hlen : (out.length : Int) = (m.length : Int) := by rw [hm]
   refine zad ?_
   simp only [spec_l4Mended.l0, g0, wi (), spec_l4Blank.f, Option.bind_some, Int.toNat_natCast, hlen]
   refine zaa (by omega) (zaa (by omega) ?_)
   by_cases p1 : (zac m i).f2 = 1
   ·refine zaa p1 ?_
    by_cases e : i + 1 = m.length
    ·exact zaa (by omega) (blankStep (.inl ⟨p1, .inl e⟩))
    ·have g1 : rd_T98 out ((i + 1 : Nat) : Int) = zac m (i + 1) := by
      show zac out (i + 1) = _
      rw [hc (i + 1) (by omega), if_neg (by omega)]
     simp only [g1]
     refine zab (by omega) (zaa (by omega) (zaa (by omega) ?_))
     by_cases p2 : (zac m (i + 1)).f2 = 2
     ·refine zaa p2 (zab (by omega) (keepStep ?_))
      rintro (⟨_, q | q⟩ | ⟨q, _⟩)
      ·exact e q
      ·exact q p2
      ·omega
     ·exact zab p2 (blankStep (.inl ⟨p1, .inr p2⟩))
   ·refine zab p1 ?_
    by_cases p2 : (zac m i).f2 = 2
    ·refine zaa p2 ?_
     by_cases e : i = 0
     ·exact zaa (by omega) (blankStep (.inr ⟨p2, .inl e⟩))
     ·have wm : wrap64 ((i : Int) - 1) = ((i - 1 : Nat) : Int) := by rw [w64 (by omega) (by omega)]; omega
      have g1 : rd_T98 m ((i - 1 : Nat) : Int) = zac m (i - 1) := rfl
      simp only [wm, g1]
      refine zab (by omega) (zaa (by omega) (zaa (by omega) ?_))
      by_cases p3 : (zac m (i - 1)).f2 = 1
      ·refine zaa p3 (keepStep ?_)
       rintro (⟨q, _⟩ | ⟨_, q | q⟩)
       ·exact p1 q
       ·exact e q
       ·exact q p3
      ·exact zab p3 (blankStep (.inr ⟨p2, .inr p3⟩))
    ·refine zab p2 (keepStep ?_)
     rintro (⟨q, _⟩ | ⟨q, _⟩)
     ·exact p1 q
     ·exact p2 q
 simp only [spec_l4Mended.f, Option.bind_some, List.nil_append]
 exact zaa (by simp; omega) (go m.length 0 m (by omega) rfl (fun j _ => by rw [if_neg (by omega)]))

theorem wid_blank : wid 32 = 1 := by decide
def zai (l : List S98) : Prop := ∀ i, i < l.length → zav l i
theorem zb6 {l : List S98} (h : zao l) : zai l := h.2.2
theorem zap (l : List S98) (a i : Nat) (h : i < a) : zac (l.take a) i = zac l i := by
 unfold zac rd_T98
 rw [Int.toNat_natCast, List.getD_eq_getElem?_getD, List.getD_eq_getElem?_getD, List.getElem?_take, if_pos h]
theorem zbp (a b : List S98) (i : Nat) : zac (a ++ b) i = if i < a.length then zac a i else zac b (i - a.length) := by
 unfold zac rd_T98
 rw [Int.toNat_natCast, Int.toNat_natCast, List.getD_eq_getElem?_getD, List.getD_eq_getElem?_getD, List.getD_eq_getElem?_getD, List.getElem?_append]
 by_cases h : i < a.length
 ·rw [if_pos h, if_pos h]
 ·rw [if_neg h, if_neg h]
theorem cellAt_rep (n : Nat) (x : S98) (i : Nat) (h : i < n) : zac (List.replicate n x) i = x := by
 rw [zbf (by rw [List.length_replicate]; exact h), List.getElem_replicate]
theorem part_take {l : List S98} (hr : zai l) (a : Nat) (ha : a ≤ l.length) : (zbb l a).take a = zar (l.take a) := by
 have hl : (l.take a).length = a := by rw [List.length_take]; omega
 refine cells_ext (by rw [zak, List.length_take, partv_length, hl]; omega) (fun i hi => ?_)
 have hia : i < a := by rw [List.length_take] at hi; omega
 rw [zap _ _ _ hia, zas _ _ (by omega), cellAt_partv]
 have c := (hr i (by omega)).2
 have e0 := zap l a i hia
 unfold zau
 by_cases q : 1 ≤ a ∧ a < l.length ∧ (zac l a).f2 = 2 ∧ (i = a ∨ i + 1 = a)
 ·rw [if_pos q, e0]
  have ca := (hr a q.2.1).2
  have e1 : i + 1 = a := by omega
  have f1 : (zac l i).f2 = 1 := by
   rcases ca with z | z | z
   ·omega
   ·omega
   ·rw [show i = a - 1 by omega]; exact z.2.2.2
  rw [if_pos]
  unfold zaw
  rw [e0, hl]
  exact .inl ⟨f1, .inl e1⟩
 ·rw [if_neg q, e0, if_neg]
  unfold zaw
  rw [e0, hl]
  rintro (⟨z, w⟩ | ⟨z, w⟩)
  ·rcases c with y | y | y
   ·omega
   ·by_cases e1 : i + 1 = a
    ·exact q ⟨by omega, by omega, by rw [← e1]; exact y.2.2.2.1, .inr e1⟩
    ·rcases w with w | w
     ·omega
     ·rw [zap _ _ _ (by omega)] at w; exact w y.2.2.2.1
   ·omega
  ·rcases c with y | y | y
   ·omega
   ·omega
   ·rcases w with w | w
    ·omega
    ·rw [zap _ _ _ (by omega)] at w; exact w y.2.2.2
def CellSolo (x : S98) : Prop := sokv x.f1.f0 x.f1.f1 = true ∧ ((x.f2 = 0 ∧ wid x.f0 = 1) ∨ (x.f2 = 1 ∧ wid x.f0 = 2) ∨ (x.f2 = 2 ∧ x.f0 = 0))
theorem solo_of {l : List S98} {i : Nat} (h : zav l i) : CellSolo (zac l i) := by
 refine ⟨h.1, ?_⟩
 rcases h.2 with z | z | z
 ·exact .inl z
 ·exact .inr (.inl ⟨z.1, z.2.1⟩)
 ·exact .inr (.inr ⟨z.1, z.2.1⟩)
def Paired (m : List S98) : Prop := ∀ i, i + 1 < m.length → (zac m i).f2 = 1 → (zac m (i + 1)).f2 = 2 → (zac m (i + 1)).f1 = (zac m i).f1
theorem paired_of {l : List S98} (h : zai l) : Paired l := by
 intro i hi h1 h2
 rcases (h i (by omega)).2 with z | z | z
 ·omega
 ·exact z.2.2.2.2
 ·omega
theorem mended_cells {m : List S98} (h : ∀ i, i < m.length → CellSolo (zac m i)) (hp : Paired m) : zai (zar m) := by
 intro i hi
 rw [zak] at hi
 have hs := h i hi
 unfold zav
 rw [zak, zas _ _ hi]
 by_cases q : zaw m i
 ·have e : zau m i = bl (zac m i) := by unfold zau; rw [if_pos q]
  rw [e]
  exact ⟨hs.1, .inl ⟨rfl, wid_blank⟩⟩
 ·have e : zau m i = zac m i := by unfold zau; rw [if_neg q]
  rw [e]
  refine ⟨hs.1, ?_⟩
  have q' : ¬ (((zac m i).f2 = 1 ∧ (i + 1 = m.length ∨ (zac m (i + 1)).f2 ≠ 2)) ∨ ((zac m i).f2 = 2 ∧ (i = 0 ∨ (zac m (i - 1)).f2 ≠ 1))) := q
  rcases hs.2 with z | z | z
  ·exact .inl z
  ·have hn : ¬ (i + 1 = m.length) ∧ (zac m (i + 1)).f2 = 2 := ⟨fun c => q' (.inl ⟨z.1, .inl c⟩), Decidable.byContradiction fun c => q' (.inl ⟨z.1, .inr c⟩)⟩
   have na : ¬ zaw m (i + 1) := by
    intro a
    rcases a with a | a
    ·omega
    ·rcases a.2 with b | b
     ·omega
     ·exact b (by rw [show i + 1 - 1 = i by omega]; exact z.1)
   have e2 : zau m (i + 1) = zac m (i + 1) := by unfold zau; rw [if_neg na]
   rw [zas _ _ (by omega), e2]
   exact .inr (.inl ⟨z.1, z.2, by omega, hn.2, hp i (by omega) z.1 hn.2⟩)
  ·have h0 : ¬ (i = 0) := fun c => q' (.inr ⟨z.1, .inl c⟩)
   have hp1 : (zac m (i - 1)).f2 = 1 := Decidable.byContradiction fun c => q' (.inr ⟨z.1, .inr c⟩)
   have na : ¬ zaw m (i - 1) := by
    intro a
    rcases a with a | a
    ·rcases a.2 with b | b
     ·omega
     ·exact b (by rw [show i - 1 + 1 = i by omega]; exact z.1)
    ·omega
   have e2 : zau m (i - 1) = zac m (i - 1) := by unfold zau; rw [if_neg na]
   exact .inr (.inr ⟨z.1, z.2, by omega, by rw [zas _ _ (by omega), e2]; exact hp1⟩)
theorem mended_take {l : List S98} (h : zai l) (a : Nat) : zai (zar (l.take a)) := by
 refine mended_cells (fun i hi => ?_) (fun i hi h1 h2 => ?_)
 ·rw [List.length_take] at hi
  rw [zap _ _ _ (by omega)]; exact solo_of (h i (by omega))
 ·rw [List.length_take] at hi
  rw [zap _ _ _ (by omega)] at h1 h2 ⊢
  rw [zap _ _ _ (by omega)]
  exact paired_of h i (by omega) h1 h2
theorem cells_append {a b : List S98} (ha : zai a) (hb : zai b) : zai (a ++ b) := by
 intro i hi
 unfold zav
 rw [zbp, zbp, zbp, List.length_append]
 rw [List.length_append] at hi
 by_cases q : i < a.length
 ·rw [if_pos q]
  have c := ha i q
  refine ⟨c.1, ?_⟩
  rcases c.2 with z | z | z
  ·exact .inl z
  ·rw [if_pos z.2.2.1]
   exact .inr (.inl ⟨z.1, z.2.1, by omega, z.2.2.2⟩)
  ·rw [if_pos (show i - 1 < a.length by omega)]
   exact .inr (.inr z)
 ·rw [if_neg q]
  have c := hb (i - a.length) (by omega)
  refine ⟨c.1, ?_⟩
  rcases c.2 with z | z | z
  ·exact .inl z
  ·rw [if_neg (show ¬ (i + 1 < a.length) by omega), show i + 1 - a.length = i - a.length + 1 by omega]
   exact .inr (.inl ⟨z.1, z.2.1, by omega, z.2.2.2⟩)
  ·rw [if_neg (show ¬ (i - 1 < a.length) by omega), show i - 1 - a.length = i - a.length - 1 by omega]
   exact .inr (.inr ⟨z.1, z.2.1, by omega, z.2.2.2⟩)
theorem cells_rep (n : Nat) (s : S96) (hs : sokv s.f0 s.f1 = true) : zai (List.replicate n (blk s)) := by
 intro i hi
 rw [List.length_replicate] at hi
 unfold zav
 rw [cellAt_rep _ _ _ hi]
 exact ⟨hs, .inl ⟨rfl, wid_blank⟩⟩
theorem zce {l : List S98} (h : zai l) (h1 : 1 ≤ l.length) (h2 : l.length ≤ 60) : zao l := ⟨h1, h2, h⟩
theorem zb7 (l : List S98) (a : Nat) (h : a < l.length → (zac l a).f2 ≠ 2) : zbb l a = l := by
 unfold zbb
 rw [if_neg (fun q => h q.2.1 q.2.2)]
theorem take_self {l : List S98} (hr : zai l) (a : Nat) (ha : a ≤ l.length) (h : a < l.length → (zac l a).f2 ≠ 2) : zar (l.take a) = l.take a := by
 rw [← part_take hr a ha, zb7 l a h]
theorem zbz (x : S98) : laws_eqCell.f x.f0 x.f1.f0 x.f1.f1 x.f1.f2 x.f1.f3 x.f1.f4 x.f2 x.f0 x.f1.f0 x.f1.f1 x.f1.f2 x.f1.f3 x.f1.f4 x.f2 = some true := by
 simp [laws_eqCell.f, laws_eqStyle.f]
theorem za3 (l : List S98) (hl : l.length < 9223372036854775807) : Ev (fun k => laws_eqCellS.f k l l) true := by
 have go : ∀ (d i : Nat), i + d = l.length → Ev (fun k => laws_eqCellS.l0 k l l (i : Int)) true := by
  intro d
  induction d with
  | zero =>
   intro i h
   refine zad ?_
   simp only [laws_eqCellS.l0]
   exact zab (by omega) (Ev.now _)
  | succ d ih =>
   intro i h
   refine zad ?_
   simp only [laws_eqCellS.l0, w64 (x := (i : Int) + 1) (by omega) (by omega), zbz, Option.bind_some]
   exact zaa (by omega) (zaa (by omega) (zaa (by omega) (zaa (by first | rfl | trivial) (ih (i + 1) (by omega)))))
 unfold laws_eqCellS.f
 exact zaa rfl (go l.length 0 (by omega))

theorem rdlc {l : List S151} {i : Nat} (h : i < l.length) : rd_T151 l (i : Int) = l[i] := by
 unfold rd_T151; rw [Int.toNat_natCast, List.getD_eq_getElem?_getD, List.getElem?_eq_getElem h]; rfl
def zcm (x : S151) : S98 := ⟨x.f0, ⟨x.f1.f0, x.f1.f1, x.f1.f2, x.f1.f3, x.f1.f4⟩, x.f2⟩
theorem za2 (l : List S151) (hl : l.length ≤ 1048576) : Ev (fun k => laws_toCellS.f k l) (l.map zcm) := by
 have go : ∀ (d i : Nat) (m : List S98), i + d = l.length → m.length = l.length → Ev (fun k => laws_toCellS.l0 k l m (i : Int)) (m.take i ++ (l.drop i).map zcm) := by
  intro d
  induction d with
  | zero =>
   intro i m h hm
   refine zad ?_
   simp only [laws_toCellS.l0]
   refine zab (by omega) ?_
   rw [List.take_of_length_le (by omega), List.drop_of_length_le (by omega), List.map_nil, List.append_nil]
   exact Ev.now _
  | succ d ih =>
   intro i m h hm
   refine zad ?_
   simp only [laws_toCellS.l0, laws_toCell.f, laws_toStyle.f, Option.bind_some, w64 (x := (i : Int) + 1) (by omega) (by omega)]
   refine zaa (by omega) (zaa (by omega) (zaa (by omega) ?_))
   have := ih (i + 1) (m.set (i : Int).toNat (zcm (rd_T151 l (i : Int)))) (by omega) (by simpa using hm)
   refine zam this ?_
   rw [show (i : Int).toNat = i by omega, zaq _ _ _ (by omega), rdlc (by omega), List.append_assoc, List.singleton_append, ← List.map_cons, ← List.drop_eq_getElem_cons (by omega)]
 unfold laws_toCellS.f
 refine zaa (by omega) (zaa (by omega) ?_)
 have := go l.length 0 (List.replicate l.length z98) (by omega) (by simp)
 simpa using this
theorem rdLi (l : List (List S98)) (i : Nat) (h : i < l.length) : rd_L7 l (i : Int) = l[i] := by
 unfold rd_L7; rw [Int.toNat_natCast, List.getD_eq_getElem?_getD, List.getElem?_eq_getElem h]; rfl
theorem zb0 (l : List (List S98)) (hl : l.length < 9223372036854775807) (hw : ∀ x ∈ l, x.length < 9223372036854775807) : Ev (fun k => laws_eqCellSS.f k l l) true := by
 have go : ∀ (d i : Nat), i + d = l.length → Ev (fun k => laws_eqCellSS.l0 k l l (i : Int)) true := by
  intro d
  induction d with
  | zero =>
   intro i h
   refine zad ?_
   simp only [laws_eqCellSS.l0]
   exact zab (by omega) (Ev.now _)
  | succ d ih =>
   intro i h
   refine zad ?_
   simp only [laws_eqCellSS.l0, rdLi l i (by omega), w64 (x := (i : Int) + 1) (by omega) (by omega)]
   exact zaa (by omega) (zaa (by omega) (zaa (by omega) (Ev.bind (za3 _ (hw _ (List.getElem_mem _))) (zaa (by trivial) (ih (i + 1) (by omega))))))
 unfold laws_eqCellSS.f
 exact zaa (by trivial) (go l.length 0 (by omega))
theorem za6 (c : Int) (l : List (List S98)) (hl : l.length < 9223372036854775807) (hw : ∀ x ∈ l, x.length < 9223372036854775807) : Ev (fun k => laws_eqGrid.f k c l c l) true := by
 unfold laws_eqGrid.f
 exact zaa (by trivial) (Ev.bind (zb0 l hl hw) (zaa (by trivial) (Ev.now _)))

theorem rdLl (l : List (List S151)) (i : Nat) (h : i < l.length) : rd_L4 l (i : Int) = l[i] := by
 unfold rd_L4; rw [Int.toNat_natCast, List.getD_eq_getElem?_getD, List.getElem?_eq_getElem h]; rfl
theorem zax (l : List S151) (a : Int) (h0 : 0 ≤ a) (ha : a ≤ 1048576) (hl : l.length ≤ maxLen) : ∃ r, laws_szCellS.f l a = some r ∧ (r < 0 ∨ (0 ≤ r ∧ r ≤ a ∧ (l.length : Int) ≤ a)) := by
 rw [zb8] at hl
 unfold laws_szCellS.f
 rw [w64 (x := a - (l.length : Int)) (by omega) (by omega)]
 by_cases h1 : a - (l.length : Int) < 0
 ·rw [if_pos h1]; exact ⟨_, rfl, .inl (by omega)⟩
 ·rw [if_neg h1]; exact ⟨_, rfl, .inr (by omega)⟩
theorem zbx (l : List (List S151)) (a : Int) (h0 : 0 ≤ a) (ha : a ≤ 1048576) (hl : l.length ≤ maxLen) (hw : ∀ x ∈ l, x.length ≤ maxLen) :
  ∃ r, Ev (fun k => laws_szCellSS.f k l a) r ∧ (r < 0 ∨ (0 ≤ r ∧ r ≤ a ∧ (l.length : Int) ≤ a ∧ ∀ x ∈ l, (x.length : Int) ≤ a)) := by
 rw [zb8] at hl
 have go : ∀ (d i : Nat) (x : Int), i + d = l.length → 0 ≤ x → x ≤ a → ∃ r, Ev (fun k => laws_szCellSS.l0 k l x (i : Int)) r ∧ (r < 0 ∨ (0 ≤ r ∧ r ≤ x ∧ ∀ j (h : j < l.length), i ≤ j → (l[j].length : Int) ≤ a)) := by
  intro d
  induction d with
  | zero =>
   intro i x h hx0 hx1
   refine ⟨x, zad ?_, .inr ⟨hx0, Int.le_refl _, fun j hj hi => absurd hj (by omega)⟩⟩
   simp only [laws_szCellSS.l0]
   exact zab (by omega) (Ev.now _)
  | succ d ih =>
   intro i x h hx0 hx1
   obtain ⟨r1, e1, hr1⟩ := zax l[i] x hx0 (by omega) (hw _ (List.getElem_mem _))
   have w2 : ∀ _ : Unit, wrap64 ((i : Int) + 1) = ((i + 1 : Nat) : Int) := fun _ => by rw [w64 (by omega) (by omega)]; omega
   by_cases c : r1 < 0
   ·refine ⟨-1, zad ?_, .inl (by omega)⟩
    simp only [laws_szCellSS.l0, rdLl l i (by omega), e1, Option.bind_some]
    exact zaa (by omega) (zaa (by omega) (zaa c (Ev.now _)))
   ·obtain ⟨r, e, hr⟩ := ih (i + 1) r1 (by omega) (by omega) (by omega)
    refine ⟨r, zad ?_, ?_⟩
    ·simp only [laws_szCellSS.l0, rdLl l i (by omega), e1, Option.bind_some, w2 ()]
     exact zaa (by omega) (zaa (by omega) (zab c e))
    ·rcases hr with hr | ⟨q0, q1, q2⟩
     ·exact .inl hr
     ·refine .inr ⟨q0, by omega, fun j hj hi => ?_⟩
      by_cases e : j = i
      ·subst e; omega
      ·exact q2 j hj (by omega)
 unfold laws_szCellSS.f
 rw [w64 (by omega) (by omega)]
 by_cases c : a - (l.length : Int) < 0
 ·exact ⟨-1, zaa c (Ev.now _), .inl (by omega)⟩
 ·obtain ⟨r, e, hr⟩ := go l.length 0 (a - (l.length : Int)) (by omega) (by omega) (by omega)
  refine ⟨r, zab c e, ?_⟩
  rcases hr with hr | ⟨q0, q1, q2⟩
  ·exact .inl hr
  ·refine .inr ⟨q0, by omega, by omega, fun x hx => ?_⟩
   obtain ⟨j, hj, rfl⟩ := List.mem_iff_getElem.mp hx
   exact q2 j hj (by omega)
theorem zci (c : Int) (l : List (List S151)) (a : Int) (h0 : 0 ≤ a) (ha : a ≤ 1048576) (hl : l.length ≤ maxLen) (hw : ∀ x ∈ l, x.length ≤ maxLen) :
  ∃ r, Ev (fun k => laws_szGrid.f k c l a) r ∧ (r < 0 ∨ (0 ≤ r ∧ r ≤ a ∧ (l.length : Int) ≤ a ∧ ∀ x ∈ l, (x.length : Int) ≤ a)) := by
 obtain ⟨r, e, hr⟩ := zbx l a h0 ha hl hw
 unfold laws_szGrid.f
 by_cases q : r < 0
 ·exact ⟨-1, Ev.bind e (zaa q (Ev.now _)), .inl (by omega)⟩
 ·exact ⟨r, Ev.bind e (zab q (Ev.now _)), hr⟩
def zbg (l : List S151) : List S98 := l.map zcm
theorem torow_length (l : List S151) : (zbg l).length = l.length := List.length_map _
theorem zbw (l : List (List S151)) (hl : l.length ≤ 1048576) (hw : ∀ x ∈ l, x.length ≤ 1048576) : Ev (fun k => laws_toCellSS.f k l) (l.map zbg) := by
 have go : ∀ (d i : Nat) (m : List (List S98)), i + d = l.length → m.length = l.length → Ev (fun k => laws_toCellSS.l0 k l m (i : Int)) (m.take i ++ (l.drop i).map zbg) := by
  intro d
  induction d with
  | zero =>
   intro i m h hm
   refine zad ?_
   simp only [laws_toCellSS.l0]
   refine zab (by omega) ?_
   rw [List.take_of_length_le (by omega), List.drop_of_length_le (by omega), List.map_nil, List.append_nil]
   exact Ev.now _
  | succ d ih =>
   intro i m h hm
   refine zad ?_
   simp only [laws_toCellSS.l0, rdLl l i (by omega), w64 (x := (i : Int) + 1) (by omega) (by omega)]
   refine zaa (by omega) (zaa (by omega) (Ev.bind (za2 _ (hw _ (List.getElem_mem _))) (zaa (by omega) ?_)))
   have := ih (i + 1) (m.set (i : Int).toNat (zbg l[i])) (by omega) (by simpa using hm)
   refine zam this ?_
   rw [show (i : Int).toNat = i by omega, zaq _ _ _ (by omega), List.append_assoc, List.singleton_append, ← List.map_cons, ← List.drop_eq_getElem_cons (by omega)]
 unfold laws_toCellSS.f
 refine zaa (by omega) (zaa (by omega) ?_)
 have := go l.length 0 (List.replicate l.length []) (by omega) (by simp)
 simpa using this
theorem zch (c : Int) (l : List (List S151)) (hl : l.length ≤ 1048576) (hw : ∀ x ∈ l, x.length ≤ 1048576) : Ev (fun k => laws_toGrid.f k c l) (c, l.map zbg) := by
 unfold laws_toGrid.f
 exact Ev.bind (zbw l hl hw) (Ev.now _)

def za5 (c : Int) (l : List (List S98)) : Prop := 1 ≤ c ∧ c ≤ 60 ∧ 1 ≤ l.length ∧ l.length ≤ 30 ∧ ∀ x ∈ l, (x.length : Int) = c ∧ zao x
theorem zat (c : Int) (l : List (List S98)) : ∃ b, Ev (fun k => spec_GridOk.f k c l) b ∧ (b = true ↔ za5 c l) := by
 have go : l.length ≤ 30 → ∀ (d i : Nat), i + d = l.length → ∃ b, Ev (fun k => spec_GridOk.l0 k (i : Int) c l) b ∧ (b = true ↔ ∀ x ∈ l.drop i, (x.length : Int) = c ∧ zao x) := by
  intro hl d
  induction d with
  | zero =>
   intro i h
   refine ⟨true, zad ?_, by rw [List.drop_of_length_le (by omega)]; simp⟩
   simp only [spec_GridOk.l0]
   exact zab (by omega) (Ev.now _)
  | succ d ih =>
   intro i h
   obtain ⟨b, e, hb⟩ := ih (i + 1) (by omega)
   have w2 : ∀ _ : Unit, wrap64 ((i : Int) + 1) = ((i + 1 : Nat) : Int) := fun _ => by rw [w64 (by omega) (by omega)]; omega
   obtain ⟨b1, e1, hb1⟩ := zb4 l[i]
   rw [List.drop_eq_getElem_cons (by omega)]
   by_cases q : (l[i].length : Int) = c
   ·by_cases q1 : b1 = true
    ·refine ⟨b, zad ?_, ?_⟩
     ·simp only [spec_GridOk.l0, rdLi l i (by omega), w2 ()]
      exact zaa (by omega) (zaa (by omega) (zaa q (Ev.bind e1 (zaa q1 e))))
     ·rw [hb]
      constructor
      ·intro z x hx
       rcases List.mem_cons.mp hx with rfl | hx
       ·exact ⟨q, hb1.mp q1⟩
       ·exact z x hx
      ·intro z x hx; exact z x (List.mem_cons_of_mem _ hx)
    ·refine ⟨false, zad ?_, ⟨fun z => (by cases z), fun z => absurd (hb1.mpr (z _ List.mem_cons_self).2) q1⟩⟩
     simp only [spec_GridOk.l0, rdLi l i (by omega), w2 ()]
     exact zaa (by omega) (zaa (by omega) (zaa q (Ev.bind e1 (zab q1 (Ev.now _)))))
   ·refine ⟨false, zad ?_, ⟨fun z => (by cases z), fun z => absurd (z _ List.mem_cons_self).1 q⟩⟩
    simp only [spec_GridOk.l0, rdLi l i (by omega), w2 ()]
    exact zaa (by omega) (zaa (by omega) (zab q (Ev.now _)))
 have jt : Ev (fun k => spec_GridOk.j0 k true c l) false := by
  refine zad ?_
  simp only [spec_GridOk.j0]
  exact zaa (by trivial) (Ev.now _)
 unfold spec_GridOk.f
 by_cases h1 : 1 ≤ c ∧ c ≤ 60
 case neg =>
  refine ⟨false, zan (zag _ _ _) (zab ?_ jt), ⟨fun z => (by cases z), fun z => absurd ⟨z.1, z.2.1⟩ h1⟩⟩
  simp; omega
 have i1 : (decide (1 ≤ c) && decide (c ≤ 60)) = true := by simp; omega
 by_cases h2 : (l.length : Int) < 1
 ·exact ⟨false, zan (zag _ _ _) (zaa i1 (zaa h2 jt)), ⟨fun z => (by cases z), fun z => absurd z.2.2.1 (by omega)⟩⟩
 by_cases h3 : l.length ≤ 30
 ·obtain ⟨b, e, hb⟩ := go h3 l.length 0 (by omega)
  refine ⟨b, zan (zag _ _ _) (zaa i1 (zab h2 (zad ?_))), ?_⟩
  ·rw [decide_eq_false (by omega)]
   simp only [spec_GridOk.j0]
   exact zab (by simp) e
  ·rw [hb, List.drop_zero]
   exact ⟨fun z => ⟨h1.1, h1.2, by omega, h3, z⟩, fun z => z.2.2.2.2⟩
 ·refine ⟨false, zan (zag _ _ _) (zaa i1 (zab h2 ?_)), ⟨fun z => (by cases z), fun z => absurd z.2.2.2.1 h3⟩⟩
  rw [decide_eq_true (by omega)]
  exact jt
theorem za1 (c : Int) (l : List (List S98)) (hw : ∀ x ∈ l, x.length ≤ 1048576) : ∃ b, Ev (fun k => impl_GridOk.f k c l) b ∧ (b = true ↔ za5 c l) := by
 have go : ∀ m : List (List S98), (∀ x ∈ m, x.length ≤ 1048576) → ∃ b, Ev (fun k => impl_GridOk.l0 k c m) b ∧ (b = false ↔ ∀ x ∈ m, (x.length : Int) = c ∧ zao x) := by
  intro m
  induction m with
  | nil =>
   intro _
   exact ⟨false, Ev.now _, by simp⟩
  | cons y m ih =>
   intro hm
   obtain ⟨b, e, hb⟩ := ih (fun x hx => hm x (List.mem_cons_of_mem _ hx))
   obtain ⟨b1, e1, hb1⟩ := zcd y (hm y List.mem_cons_self)
   by_cases q : (y.length : Int) = c
   ·by_cases q1 : b1 = true
    ·refine ⟨b, ?_, ?_⟩
     ·simp only [impl_GridOk.l0]
      exact zaa q (Ev.bind e1 (zaa q1 e))
     ·rw [hb]
      constructor
      ·intro z x hx
       rcases List.mem_cons.mp hx with rfl | hx
       ·exact ⟨q, hb1.mp q1⟩
       ·exact z x hx
      ·intro z x hx; exact z x (List.mem_cons_of_mem _ hx)
    ·refine ⟨true, ?_, ⟨fun z => (by cases z), fun z => absurd (hb1.mpr (z _ List.mem_cons_self).2) q1⟩⟩
     simp only [impl_GridOk.l0]
     exact zaa q (Ev.bind e1 (zab q1 (Ev.now _)))
   ·refine ⟨true, ?_, ⟨fun z => (by cases z), fun z => absurd (z _ List.mem_cons_self).1 q⟩⟩
    simp only [impl_GridOk.l0]
    exact zab q (Ev.now _)
 unfold impl_GridOk.f
 by_cases h1 : 1 ≤ c ∧ c ≤ 60
 case neg =>
  refine ⟨false, zan (zaf _ _ _) (zab ?_ (Ev.now _)), ⟨fun z => (by cases z), fun z => absurd ⟨z.1, z.2.1⟩ h1⟩⟩
  simp; omega
 have i1 : (decide (1 ≤ c) && decide (c ≤ 60)) = true := by simp; omega
 by_cases h2 : 1 ≤ l.length ∧ l.length ≤ 30
 case neg =>
  refine ⟨false, zan (zaf _ _ _) (zaa i1 (zan (zaf _ _ _) (zab ?_ (Ev.now _)))), ⟨fun z => (by cases z), fun z => absurd ⟨z.2.2.1, z.2.2.2.1⟩ h2⟩⟩
  simp; omega
 have i2 : (decide (1 ≤ (l.length : Int)) && decide ((l.length : Int) ≤ 30)) = true := by simp; omega
 obtain ⟨b, e, hb⟩ := go l hw
 refine ⟨!b, zan (zaf _ _ _) (zaa i1 (zan (zaf _ _ _) (zaa i2 (Ev.bind e (Ev.now _))))), ?_⟩
 rw [Bool.not_eq_true', hb]
 exact ⟨fun z => ⟨h1.1, h1.2, h2.1, h2.2, z⟩, fun z => z.2.2.2.2⟩

def zcf (n : Int) (s : S96) : List S98 := if (decide (1 ≤ n) && decide (n ≤ 60)) = true ∧ sokv s.f0 s.f1 = true then List.replicate n.toNat (blk s) else []
theorem zcr (n : Int) (a b : Int) (c d e : Bool) : Ev (fun k => impl_Blank.f k n a b c d e) (zcf n ⟨a, b, c, d, e⟩) := by
 simp only [impl_Blank.f, zaf, za4, Option.bind_some]
 by_cases h : (decide (1 ≤ n) && decide (n ≤ 60)) = true
 ·refine zaa h (zad ?_)
  simp only [impl_Blank.j0, impl_blank.f, Option.bind_some]
  by_cases q : sokv a b = true
  ·refine zab (by rw [q]; simp) ?_
   have h2 := h
   simp only [Bool.and_eq_true, decide_eq_true_eq] at h2
   have e1 : ∀ x : S98, impl_Cell_137.f [x] n = some (List.replicate n.toNat x) := by
    intro x
    unfold impl_Cell_137.f
    rw [if_pos ⟨rfl, by omega, by omega⟩]
    rfl
   rw [e1]
   refine zam (Ev.now _) ?_
   unfold zcf; rw [if_pos ⟨h, q⟩]; rfl
  ·refine zaa (by simp [q]) (zam (Ev.now _) ?_)
   unfold zcf; rw [if_neg (fun x => q x.2)]
 ·refine zab h (zad ?_)
  simp only [impl_Blank.j0]
  refine zaa (by trivial) (zam (Ev.now _) ?_)
  unfold zcf; rw [if_neg (fun x => h x.1)]

theorem za9 (n : Nat) (a b : Int) (c d e : Bool) (hn : n ≤ 1000000) : Ev (fun k => spec_l4Row.f k (n : Int) a b c d e) (List.replicate n (blk ⟨a, b, c, d, e⟩)) := by
 have go : ∀ (q i : Nat), i + q = n → Ev (fun k => spec_l4Row.l0 k (n : Int) (List.replicate i (blk ⟨a, b, c, d, e⟩)) (i : Int) a b c d e) (List.replicate n (blk ⟨a, b, c, d, e⟩)) := by
  intro q
  induction q with
  | zero =>
   intro i h
   obtain rfl : i = n := by omega
   refine zad ?_
   simp only [spec_l4Row.l0]
   exact zab (by omega) (Ev.now _)
  | succ q ih =>
   intro i h
   have := ih (i + 1) (by omega)
   have wi : ∀ _ : Unit, wrap64 ((i : Int) + 1) = ((i + 1 : Nat) : Int) := fun _ => by rw [w64 (by omega) (by omega)]; omega
   refine zad ?_
   simp only [spec_l4Row.l0, spec_l4Blank.f, Option.bind_some, wi ()]
   refine zaa (by omega) (zaa (by rw [List.length_replicate]; omega) ?_)
   rw [List.replicate_succ'] at this
   exact this
 unfold spec_l4Row.f
 exact go n 0 (by omega)

theorem zcq (l : List S98) (a : Nat) (hl : l.length < 1000000) (ha : a < 1000000) : Ev (fun k => impl_part.f k l (a : Int)) (zbb l a) := by
 by_cases h : a ≤ l.length
 ·exact impl_part_ev l a (by omega) h
 ·have w1 : ∀ _ : Unit, wrap64 ((l.length : Int) - 1) = (l.length : Int) - 1 := fun _ => w64 (by omega) (by omega)
  simp only [impl_part.f, zaf, Option.bind_some, w1 ()]
  refine zab (by simp; omega) (zad ?_)
  simp only [impl_part.j0]
  refine zab (by simp) (zam (Ev.now _) ?_)
  rw [zb7 l a (fun q => absurd q (by omega))]
def b0 : S98 := blk ⟨0, 0, false, false, false⟩
def rowv (x : List S98) (c : Nat) : List S98 := zar (x.take c) ++ List.replicate (c - min c x.length) b0
theorem za7 (x : List S98) (c : Nat) : (rowv x c).length = c := by unfold rowv; rw [List.length_append, zak, List.length_take, List.length_replicate]; omega
theorem rowv_right {x : List S98} (hx : zao x) (c : Nat) (h1 : 1 ≤ c) (h2 : c ≤ 60) : zao (rowv x c) :=
 zce (cells_append (mended_take (zb6 hx) c) (cells_rep _ ⟨0, 0, false, false, false⟩ (by decide))) (by rw [za7]; exact h1) (by rw [za7]; exact h2)
theorem blank0_right (c : Nat) (h1 : 1 ≤ c) (h2 : c ≤ 60) : zao (List.replicate c b0) :=
 zce (cells_rep c ⟨0, 0, false, false, false⟩ (by decide)) (by rw [List.length_replicate]; exact h1) (by rw [List.length_replicate]; exact h2)
theorem row_eq {x : List S98} (hx : zai x) (c : Nat) : (zbb x c).take (min c x.length) = zar (x.take c) := by
 by_cases h : c ≤ x.length
 ·rw [Nat.min_eq_left h, part_take hx c h]
 ·have e := take_self hx x.length (Nat.le_refl _) (fun q => absurd q (by omega))
  rw [Nat.min_eq_right (by omega), zb7 x c (fun q => absurd q (by omega)), List.take_of_length_le (Nat.le_refl x.length), List.take_of_length_le (show x.length ≤ c by omega)]
  rw [List.take_of_length_le (Nat.le_refl x.length)] at e
  exact e.symm
def zah (l : List (List S98)) (c n : Nat) : List (List S98) := (l.drop (l.length - n)).map (fun x => rowv x c) ++ List.replicate (n - min n l.length) (List.replicate c b0)
theorem zaj (l : List (List S98)) (c n : Nat) : (zah l c n).length = n := by unfold zah; rw [List.length_append, List.length_map, List.length_drop, List.length_replicate]; omega
theorem resizedv_get (l : List (List S98)) (c n j : Nat) (hj : j < n) : (zah l c n)[j]'(by rw [zaj]; exact hj) = if h : l.length - n + j < l.length then rowv l[l.length - n + j] c else List.replicate c b0 := by
 unfold zah
 by_cases h : l.length - n + j < l.length
 ·rw [dif_pos h, List.getElem_append_left (by rw [List.length_map, List.length_drop]; omega), List.getElem_map, List.getElem_drop]
 ·rw [dif_neg h, List.getElem_append_right (by rw [List.length_map, List.length_drop]; omega), List.getElem_replicate]
theorem zba (l : List (List S98)) (c n j : Nat) (hj : j < n) : (zah l c n).take (j + 1) = (zah l c n).take j ++ [if h : l.length - n + j < l.length then rowv l[l.length - n + j] c else List.replicate c b0] := by
 rw [List.take_succ_eq_append_getElem (by rw [zaj]; exact hj), resizedv_get l c n j hj]
theorem zco {l : List (List S98)} (h : ∀ x ∈ l, zao x) (c n : Nat) (h1 : 1 ≤ c) (h2 : c ≤ 60) : ∀ x ∈ zah l c n, x.length = c ∧ zao x := by
 intro x hx
 unfold zah at hx
 rw [List.mem_append] at hx
 rcases hx with hx | hx
 ·obtain ⟨y, hy, rfl⟩ := List.mem_map.mp hx
  exact ⟨za7 _ _, rowv_right (h y (List.mem_of_mem_drop hy)) c h1 h2⟩
 ·obtain ⟨_, rfl⟩ := List.mem_replicate.mp hx
  exact ⟨List.length_replicate, blank0_right c h1 h2⟩
theorem zbh (w : Nat) (l : List (List S98)) (c n : Nat) (hl : l.length ≤ 30) (hw : ∀ x ∈ l, x.length = w) (h60 : w ≤ 60) (hc : c ≤ 60) (hn : n ≤ 30) :
  Ev (fun k => spec_l5Resized.f k (w : Int) l (c : Int) (n : Int)) ((c : Int), zah l c n) := by
 have go : ∀ (d j : Nat), j + d = n → Ev (fun k => spec_l5Resized.l0 k (c : Int) (n : Int) ((l.length - n : Nat) : Int) ((l.length - n + j : Nat) : Int) (w : Int) l (c : Int) ((zah l c n).take j)) ((c : Int), zah l c n) := by
  intro d
  induction d with
  | zero =>
   intro j h
   have wf : ∀ _ : Unit, wrap64 (((l.length - n : Nat) : Int) + (n : Int)) = ((l.length - n + n : Nat) : Int) := fun _ => by rw [w64 (by omega) (by omega)]; omega
   refine zad ?_
   simp only [spec_l5Resized.l0, wf ()]
   refine zab (by omega) (zam (Ev.now _) ?_)
   rw [List.take_of_length_le (by rw [zaj]; omega)]
  | succ d ih =>
   intro j h
   have e := ih (j + 1) (by omega)
   rw [zba l c n j (by omega)] at e
   have wf : ∀ _ : Unit, wrap64 (((l.length - n : Nat) : Int) + (n : Int)) = ((l.length - n + n : Nat) : Int) := fun _ => by rw [w64 (by omega) (by omega)]; omega
   have wi : ∀ _ : Unit, wrap64 (((l.length - n + j : Nat) : Int) + 1) = ((l.length - n + (j + 1) : Nat) : Int) := fun _ => by rw [w64 (by omega) (by omega)]; omega
   have lt : ((zah l c n).take j).length = j := by rw [List.length_take, zaj]; omega
   refine zad ?_
   simp only [spec_l5Resized.l0, wf (), wi (), Option.bind_some]
   refine zaa (by omega) ?_
   by_cases q : l.length - n + j < l.length
   ·rw [dif_pos q] at e
    have hx := hw _ (List.getElem_mem q)
    have rd : ∀ _ : Unit, rd_L7 l ((l.length - n + j : Nat) : Int) = l[l.length - n + j] := fun _ => rdLi l (l.length - n + j) q
    have hmin : ∀ _ : Unit, spec_l1Min.f (c : Int) (w : Int) = some ((min c w : Nat) : Int) := fun _ => by
     unfold spec_l1Min.f
     by_cases z : (c : Int) < (w : Int)
     ·rw [if_pos z, show min c w = c by omega]
     ·rw [if_neg z, show min c w = w by omega]
    simp only [rd (), hmin (), Option.bind_some, Int.toNat_natCast]
    have ml : (zar (l[l.length - n + j].take (min c w))).length = min c w := by rw [zak, List.length_take, hx]; omega
    have wr : ∀ _ : Unit, wrap64 ((c : Int) - ((zar (l[l.length - n + j].take (min c w))).length : Int)) = ((c - min c w : Nat) : Int) := fun _ => by rw [ml, w64 (by omega) (by omega)]; omega
    refine zaa (by omega) (zaa (by omega) (zaa (by omega) (zaa (by rw [hx]; omega) (Ev.bind (zbr _ (by rw [List.length_take, hx]; omega)) ?_))))
    simp only [wr ()]
    refine Ev.bind (za9 (c - min c w) 0 0 false false false (by omega)) (zaa (by rw [ml, List.length_replicate]; omega) (zaa (by rw [lt]; omega) ?_))
    have hr : zar (l[l.length - n + j].take (min c w)) ++ List.replicate (c - min c w) (blk ⟨0, 0, false, false, false⟩) = rowv l[l.length - n + j] c := by
     unfold rowv b0
     rw [hx]
     congr 2
     by_cases z : c ≤ w
     ·rw [Nat.min_eq_left z]
     ·rw [Nat.min_eq_right (by omega), List.take_of_length_le (by omega), List.take_of_length_le (by omega)]
    rw [hr]
    exact e
   ·rw [dif_neg q] at e
    have wr : ∀ _ : Unit, wrap64 ((c : Int) - (([] : List S98).length : Int)) = (c : Int) := fun _ => by rw [List.length_nil, w64 (by omega) (by omega)]; omega
    refine zab (by omega) ?_
    simp only [wr ()]
    refine Ev.bind (za9 c 0 0 false false false (by omega)) (zaa (by rw [List.length_nil, List.length_replicate]; omega) (zaa (by rw [lt]; omega) ?_))
    rw [List.nil_append]
    exact e
 have hmax : spec_l1Max.f 0 (wrap64 ((l.length : Int) - (n : Int))) = some ((l.length - n : Nat) : Int) := by
  unfold spec_l1Max.f
  have w1 : wrap64 ((l.length : Int) - (n : Int)) = (l.length : Int) - (n : Int) := w64 (by omega) (by omega)
  rw [w1]
  by_cases z : (0 : Int) > (l.length : Int) - (n : Int)
  ·rw [if_pos z]; congr 1; omega
  ·rw [if_neg z]; congr 1; omega
 unfold spec_l5Resized.f
 refine zan hmax ?_
 have := go n 0 (by omega)
 simpa using this
theorem zck (c n : Nat) (l : List (List S98)) (h1 : 1 ≤ c) (hc : c ≤ 60) (hn : n ≤ 30) : Ev (fun k => impl_Grid_blanks.f k (c : Int) l (n : Int) 0 0 false false false) (List.replicate n (List.replicate c b0)) := by
 have eb : Ev (fun k => impl_Blank.f k (c : Int) 0 0 false false false) (List.replicate c b0) := by
  refine zam (zcr (c : Int) 0 0 false false false) ?_
  unfold zcf
  rw [if_pos ⟨by simp; omega, by decide⟩, Int.toNat_natCast]; rfl
 have go : ∀ (q i : Nat), i + q = n → Ev (fun k => impl_Grid_blanks.l0 k (List.replicate i (List.replicate c b0)) (n : Int) (i : Int) (c : Int) l 0 0 false false false) (List.replicate n (List.replicate c b0)) := by
  intro q
  induction q with
  | zero =>
   intro i h
   obtain rfl : i = n := by omega
   refine zad ?_
   simp only [impl_Grid_blanks.l0]
   exact zab (by omega) (Ev.now _)
  | succ q ih =>
   intro i h
   have e := ih (i + 1) (by omega)
   have wi : ∀ _ : Unit, wrap64 ((i : Int) + 1) = ((i + 1 : Nat) : Int) := fun _ => by rw [w64 (by omega) (by omega)]; omega
   refine zad ?_
   simp only [impl_Grid_blanks.l0, wi ()]
   refine zaa (by omega) (Ev.bind eb (zaa (by rw [List.length_replicate]; omega) ?_))
   rw [List.replicate_succ'] at e
   exact e
 unfold impl_Grid_blanks.f
 exact go n 0 (by omega)
theorem zcc (w : Nat) (l : List (List S98)) (c n : Nat) (hl : l.length ≤ 30) (hw : ∀ x ∈ l, x.length = w) (hr : ∀ x ∈ l, zao x) (h60 : w ≤ 60) (h1 : 1 ≤ c) (hc : c ≤ 60) (hn : n ≤ 30) :
  Ev (fun k => impl_Grid_resized.f k (w : Int) l (c : Int) (n : Int)) ((c : Int), zah l c n) := by
 have hmx : ∀ _ : Unit, mx 0 (wrap64 ((l.length : Int) - (n : Int))) = ((l.length - n : Nat) : Int) := fun _ => by
  have w1 : wrap64 ((l.length : Int) - (n : Int)) = (l.length : Int) - (n : Int) := w64 (by omega) (by omega)
  rw [w1]; unfold mx; split <;> omega
 have hmn : ∀ _ : Unit, mn (c : Int) (w : Int) = ((min c w : Nat) : Int) := fun _ => by unfold mn; split <;> omega
 have dl : (l.drop (l.length - n)).length = min n l.length := by rw [List.length_drop]; omega
 have fill : ∀ (d : Nat) (x : List S98) (y : List (List S98)) (i : Int) (out : List (List S98)) (r : Int × List (List S98)), x.length + d = c → out.length < 100 →
   Ev (fun k => impl_Grid_resized.l0 k (c : Int) (n : Int) y ((min n l.length : Nat) : Int) (wrap64 (i + 1)) (w : Int) l (c : Int) (out ++ [x ++ List.replicate d b0])) r →
   Ev (fun k => impl_Grid_resized.l1 k (c : Int) (n : Int) x y ((min n l.length : Nat) : Int) i (w : Int) l (c : Int) out) r := by
  intro d
  induction d with
  | zero =>
   intro x y i out r hx ho he
   rw [List.replicate_zero, List.append_nil] at he
   refine zad ?_
   simp only [impl_Grid_resized.l1]
   exact zab (by omega) (zaa (by omega) he)
  | succ d ih =>
   intro x y i out r hx ho he
   have e := ih (x ++ [b0]) y i out r (by rw [List.length_append, List.length_singleton]; omega) ho (by rw [List.append_assoc, List.singleton_append, ← List.replicate_succ]; exact he)
   refine zad ?_
   simp only [impl_Grid_resized.l1, impl_blank.f, Option.bind_some]
   exact zaa (by omega) (zaa (by omega) e)
 have go : ∀ (d j : Nat), j + d = min n l.length → Ev (fun k => impl_Grid_resized.l0 k (c : Int) (n : Int) (l.drop (l.length - n)) ((min n l.length : Nat) : Int) (j : Int) (w : Int) l (c : Int) ((zah l c n).take j)) ((c : Int), zah l c n) := by
  intro d
  induction d with
  | zero =>
   intro j h
   have lt : ((zah l c n).take j).length = j := by rw [List.length_take, zaj]; omega
   have wr : ∀ _ : Unit, wrap64 ((n : Int) - (((zah l c n).take j).length : Int)) = ((n - min n l.length : Nat) : Int) := fun _ => by rw [lt, w64 (by omega) (by omega)]; omega
   refine zad ?_
   simp only [impl_Grid_resized.l0, wr ()]
   refine zab (by omega) (Ev.bind (zck c (n - min n l.length) _ h1 hc (by omega)) (zaa (by rw [lt, List.length_replicate]; omega) (zam (Ev.now _) ?_)))
   rw [Prod.mk.injEq]
   refine ⟨rfl, ?_⟩
   unfold zah
   rw [List.take_left' (by rw [List.length_map, dl]; omega)]
  | succ d ih =>
   intro j h
   have e := ih (j + 1) (by omega)
   have q : l.length - n + j < l.length := by omega
   rw [zba l c n j (by omega), dif_pos q] at e
   have lt : ((zah l c n).take j).length = j := by rw [List.length_take, zaj]; omega
   have hx := hw _ (List.getElem_mem q)
   have hxr := hr _ (List.getElem_mem q)
   have rd : ∀ _ : Unit, rd_L7 (l.drop (l.length - n)) (j : Int) = l[l.length - n + j] := fun _ => by rw [rdLi _ _ (by rw [dl]; omega), List.getElem_drop]
   have wi : ∀ _ : Unit, wrap64 ((j : Int) + 1) = ((j + 1 : Nat) : Int) := fun _ => by rw [w64 (by omega) (by omega)]; omega
   have cl : ∀ _ : Unit, impl_Cell_102.f l[l.length - n + j] = some l[l.length - n + j] := fun _ => by
    simp only [impl_Cell_102.f, Option.bind_some, List.nil_append]
    rw [if_pos (by simp [hx]; omega)]
   have re := row_eq (zb6 hxr) c
   rw [hx] at re
   refine zad ?_
   simp only [impl_Grid_resized.l0, rd (), cl (), hmn (), Option.bind_some, Int.toNat_natCast]
   refine zaa (by omega) (zaa (by omega) (zaa (by rw [dl]; omega) (Ev.bind (zcq _ c (by omega) (by omega)) (zaa (by omega) (zaa (by rw [hx]; omega) ?_)))))
   rw [re]
   have ml : (zar (l[l.length - n + j].take c)).length = min c w := by rw [zak, List.length_take, hx]
   refine fill (c - min c w) _ _ _ _ _ (by rw [ml]; omega) (by rw [lt]; omega) ?_
   rw [wi ()]
   have hrv : zar (l[l.length - n + j].take c) ++ List.replicate (c - min c w) b0 = rowv l[l.length - n + j] c := by unfold rowv; rw [hx]
   rw [hrv]
   exact e
 simp only [impl_Grid_resized.f, hmx (), Option.bind_some, Int.toNat_natCast]
 refine zaa (by omega) (zaa (by omega) ?_)
 have := go (min n l.length) 0 (by omega)
 rw [dl]
 simpa using this

def tm3 (x : Int) : Bool := (Int.tmod x 3 == 0)
def mkC (a : Int) : S98 := ⟨a, ⟨a + 1, a + 2, tm3 (a + 3), tm3 (a + 4), tm3 (a + 5)⟩, a + 6⟩
def zbv : Nat → Int → List S98
 | 0, _ => []
 | n + 1, a => mkC a :: zbv n (a + 7)
theorem zaz : ∀ (n : Nat) (a : Int), (zbv n a).length = n
 | 0, _ => rfl
 | n + 1, a => by simp [zbv, zaz n]
theorem mksC_get : ∀ (n : Nat) (a : Int) (i : Nat) (h : i < (zbv n a).length), (zbv n a)[i] = mkC (a + 7 * i)
 | n + 1, a, 0, _ => by simp [zbv]
 | n + 1, a, i + 1, h => by
  simp only [zbv, List.getElem_cons_succ]
  rw [mksC_get n (a + 7) i]
  have e : a + 7 + 7 * (i : Int) = a + 7 * ((i + 1 : Nat) : Int) := by omega
  rw [e]
theorem zay (l : List S98) (a0 : Int) (h0 : 0 ≤ a0) (hl : a0 + 7 * l.length < 9007199254740992) : Ev (fun k => laws_markCellS.f k l a0) (a0 + 7 * (l.length : Int), zbv l.length a0) := by
 have go : ∀ (d i : Nat) (m : List S98) (a : Int), 0 ≤ a → a + 7 * d < 9007199254740992 → i + d = l.length → m.length = l.length → l.length < 9007199254740992 → Ev (fun k => laws_markCellS.l0 k m a (i : Int)) (a + 7 * d, m.take i ++ zbv d a) := by
  intro d
  induction d with
  | zero =>
   intro i m a h0 h1 h hm hlm
   refine zad ?_
   simp only [laws_markCellS.l0]
   refine zab (by omega) (zam (Ev.now _) ?_)
   rw [List.take_of_length_le (by omega)]
   simp [zbv]
  | succ d ih =>
   intro i m a h0 h1 h hm hlm
   have w1 : ∀ _ : Unit, wrap64 (a + 1) = a + 1 := fun _ => w64 (by omega) (by omega)
   have w2 : ∀ _ : Unit, wrap64 (a + 1 + 1) = a + 2 := fun _ => by rw [w64 (by omega) (by omega)]; omega
   have w3 : ∀ _ : Unit, wrap64 (a + 2 + 1) = a + 3 := fun _ => by rw [w64 (by omega) (by omega)]; omega
   have w4 : ∀ _ : Unit, wrap64 (a + 3 + 1) = a + 4 := fun _ => by rw [w64 (by omega) (by omega)]; omega
   have w5 : ∀ _ : Unit, wrap64 (a + 4 + 1) = a + 5 := fun _ => by rw [w64 (by omega) (by omega)]; omega
   have w6 : ∀ _ : Unit, wrap64 (a + 5 + 1) = a + 6 := fun _ => by rw [w64 (by omega) (by omega)]; omega
   have w7 : ∀ _ : Unit, wrap64 (a + 6 + 1) = a + 7 := fun _ => by rw [w64 (by omega) (by omega)]; omega
   have wi : ∀ _ : Unit, wrap64 ((i : Int) + 1) = ((i + 1 : Nat) : Int) := fun _ => by rw [w64 (by omega) (by omega)]; omega
   have hr : ∀ v : S98, rd_T98 (m.set i v) (i : Int) = v := fun v => by rw [rdc (by rw [List.length_set]; omega), List.getElem_set_self]
   refine zad ?_
   simp only [laws_markCellS.l0, w1 (), w2 (), w3 (), w4 (), w5 (), w6 (), w7 (), wi (), Int.toNat_natCast, Option.bind_some, hr, List.set_set]
   refine zaa (by omega) (zaa (by omega) ?_)
   have := ih (i + 1) (m.set i (mkC a)) (a + 7) (by omega) (by omega) (by omega) (by simpa using hm) hlm
   refine zam this ?_
   rw [zaq _ _ _ (by omega), List.append_assoc, List.singleton_append]
   have e : a + 7 + 7 * (d : Int) = a + 7 * ((d + 1 : Nat) : Int) := by omega
   rw [e]; rfl
 unfold laws_markCellS.f
 have := go l.length 0 l a0 (by omega) (by omega) (by omega) rfl (by omega)
 simpa using this
theorem zbl (n : Nat) (a0 : Int) (h0 : 0 ≤ a0) (hn : a0 + 7 * n < 9007199254740992) : Ev (fun k => laws_heldCellS.f k (zbv n a0) a0) (a0 + 7 * (n : Int)) := by
 have go : ∀ (d i : Nat), i + d = n → Ev (fun k => laws_heldCellS.l0 k (zbv n a0) (a0 + 7 * (i : Int)) (i : Int)) (a0 + 7 * (n : Int)) := by
  intro d
  induction d with
  | zero =>
   intro i h
   obtain rfl : i = n := by omega
   refine zad ?_
   simp only [laws_heldCellS.l0]
   exact zab (by rw [zaz]; omega) (Ev.now _)
  | succ d ih =>
   intro i h
   have hr : rd_T98 (zbv n a0) (i : Int) = mkC (a0 + 7 * i) := by rw [rdc (by rw [zaz]; omega), mksC_get]
   obtain ⟨a, ha⟩ : ∃ a, a = a0 + 7 * (i : Int) := ⟨_, rfl⟩
   have hb : 0 ≤ a ∧ a + 7 < 9007199254740992 := by omega
   have hn2 : ((i + 1 : Nat) : Int) < 9007199254740992 := by omega
   have hnext : a + 7 = a0 + 7 * ((i + 1 : Nat) : Int) := by omega
   rw [← ha] at hr ⊢
   have := ih (i + 1) (by omega)
   rw [← hnext] at this
   have w1 : ∀ _ : Unit, wrap64 (a + 1) = a + 1 := fun _ => w64 (by omega) (by omega)
   have w2 : ∀ _ : Unit, wrap64 (a + 1 + 1) = a + 2 := fun _ => by rw [w64 (by omega) (by omega)]; omega
   have w3 : ∀ _ : Unit, wrap64 (a + 2 + 1) = a + 3 := fun _ => by rw [w64 (by omega) (by omega)]; omega
   have w4 : ∀ _ : Unit, wrap64 (a + 3 + 1) = a + 4 := fun _ => by rw [w64 (by omega) (by omega)]; omega
   have w5 : ∀ _ : Unit, wrap64 (a + 4 + 1) = a + 5 := fun _ => by rw [w64 (by omega) (by omega)]; omega
   have w6 : ∀ _ : Unit, wrap64 (a + 5 + 1) = a + 6 := fun _ => by rw [w64 (by omega) (by omega)]; omega
   have w7 : ∀ _ : Unit, wrap64 (a + 6 + 1) = a + 7 := fun _ => by rw [w64 (by omega) (by omega)]; omega
   have wi : ∀ _ : Unit, wrap64 ((i : Int) + 1) = ((i + 1 : Nat) : Int) := fun _ => by rw [w64 (by omega) (by omega)]; omega
   refine zad ?_
   simp only [laws_heldCellS.l0, hr, mkC, tm3, w1 (), w2 (), w3 (), w4 (), w5 (), w6 (), w7 (), wi (), bne_self_eq_false]
   exact zaa (by rw [zaz]; omega) (zaa (by omega) (zaa (by trivial) (zaa (by trivial) (zaa (by trivial) (zab (by simp) (zab (by simp) (zab (by simp) (zaa (by trivial) this))))))))
 unfold laws_heldCellS.f
 have := go n 0 (by omega)
 simpa using this

theorem rdch (l : List S101) (i : Nat) (h : i < l.length) : rd_T101 l (i : Int) = l[i] := by
 unfold rd_T101; rw [Int.toNat_natCast, List.getD_eq_getElem?_getD, List.getElem?_eq_getElem h]; rfl
theorem zbm (l : List S101) (hl : l.length < 4611686018427387904) (hw : ∀ x ∈ l, x.f2.length < 4611686018427387904) : Ev (fun k => laws_eqChangeS.f k l l) true := by
 have go : ∀ (d i : Nat), i + d = l.length → Ev (fun k => laws_eqChangeS.l0 k l l (i : Int)) true := by
  intro d
  induction d with
  | zero =>
   intro i h
   refine zad ?_
   simp only [laws_eqChangeS.l0]
   exact zab (by omega) (Ev.now _)
  | succ d ih =>
   intro i h
   refine zad ?_
   have wi : ∀ _ : Unit, wrap64 ((i : Int) + 1) = ((i + 1 : Nat) : Int) := fun _ => by rw [w64 (by omega) (by omega)]; omega
   simp only [laws_eqChangeS.l0, rdch l i (by omega), wi (), laws_eqChange.f]
   refine zaa (by omega) (zaa (by omega) (zaa (by omega) (Ev.bind (a := true) ?_ (zaa (by trivial) (ih (i + 1) (by omega))))))
   exact zaa (by trivial) (zaa (by trivial) (Ev.bind (za3 _ (by have := hw _ (List.getElem_mem (l := l) (n := i) (by omega)); omega)) (zaa (by trivial) (Ev.now _))))
 unfold laws_eqChangeS.f
 exact zaa (by trivial) (go l.length 0 (by omega))
theorem zcb (c n : Int) (l : List S101) (hl : l.length < 4611686018427387904) (hw : ∀ x ∈ l, x.f2.length < 4611686018427387904) : Ev (fun k => laws_eqPatch.f k c n l c n l) true := by
 unfold laws_eqPatch.f
 exact zaa (by trivial) (zaa (by trivial) (Ev.bind (zbm l hl hw) (zaa (by trivial) (Ev.now _))))
def mksP : List Nat → Int → List S101
 | [], _ => []
 | n :: ns, a => ⟨a, a + 1, zbv n (a + 2)⟩ :: mksP ns (a + 2 + 7 * (n : Int))
def sumP : List Nat → Nat
 | [] => 0
 | n :: ns => 2 + 7 * n + sumP ns
theorem sumP_le (ns : List Nat) (b : Nat) (h : ∀ n ∈ ns, n ≤ b) : sumP ns ≤ (2 + 7 * b) * ns.length := by
 induction ns with
 | nil => simp [sumP]
 | cons x r ih =>
  have h1 := h x (by simp)
  have h2 := ih (fun n hn => h n (by simp [hn]))
  simp only [sumP, List.length_cons, Nat.mul_succ]
  omega
theorem za8 (l : List S101) (a0 : Int) (h0 : 0 ≤ a0) (hl : l.length < 4611686018427387904) (hs : a0 + (sumP (l.map fun x => x.f2.length) : Int) < 9007199254740992) :
  Ev (fun k => laws_markChangeS.f k l a0) (a0 + (sumP (l.map fun x => x.f2.length) : Int), mksP (l.map fun x => x.f2.length) a0) := by
 have go : ∀ (r : List S101) (p : List S101) (a : Int), 0 ≤ a → p.length + r.length < 4611686018427387904 → a + (sumP (r.map fun x => x.f2.length) : Int) < 9007199254740992 →
   Ev (fun k => laws_markChangeS.l0 k (p ++ r) a (p.length : Int)) (a + (sumP (r.map fun x => x.f2.length) : Int), p ++ mksP (r.map fun x => x.f2.length) a) := by
  intro r
  induction r with
  | nil =>
   intro p a _ _ _
   refine zad ?_
   simp only [laws_markChangeS.l0, List.append_nil]
   refine zab (by omega) (zam (Ev.now _) ?_)
   simp [sumP, mksP]
  | cons x r ih =>
   intro p a ha hn hb
   simp only [List.map_cons, sumP, List.length_cons] at hb hn
   have e := ih (p ++ [⟨a, a + 1, zbv x.f2.length (a + 2)⟩]) (a + 2 + 7 * (x.f2.length : Int)) (by omega) (by simp; omega) (by omega)
   have wi : ∀ _ : Unit, wrap64 ((p.length : Int) + 1) = ((p.length + 1 : Nat) : Int) := fun _ => by rw [w64 (by omega) (by omega)]; omega
   have w1 : ∀ _ : Unit, wrap64 (a + 1) = a + 1 := fun _ => w64 (by omega) (by omega)
   have w2 : ∀ _ : Unit, wrap64 (a + 1 + 1) = a + 2 := fun _ => by rw [w64 (by omega) (by omega)]; omega
   have gd : ∀ z : S101, (p ++ x :: r).getD p.length z = x := fun z => by simp
   have sd : ∀ y : S101, (p ++ x :: r).set p.length y = p ++ [y] ++ r := fun y => by simp
   refine zad ?_
   simp only [laws_markChangeS.l0, wi (), w1 (), w2 (), Int.toNat_natCast, gd]
   refine zaa (by simp; omega) (zaa (by omega) (Ev.bind (zay x.f2 (a + 2) (by omega) (by omega)) ?_))
   simp only [sd]
   rw [show (p ++ [(⟨a, a + 1, zbv x.f2.length (a + 2)⟩ : S101)]).length = p.length + 1 by simp] at e
   refine zam e ?_
   simp only [List.map_cons, sumP, mksP, List.append_assoc, List.singleton_append, Prod.mk.injEq, and_true]
   omega
 have := go l [] a0 h0 (by simpa using hl) hs
 unfold laws_markChangeS.f
 simpa using this
theorem zbk (c n : Int) (l : List S101) (a0 : Int) (h0 : 0 ≤ a0) (hl : l.length < 4611686018427387904) (hs : a0 + (sumP (l.map fun x => x.f2.length) : Int) < 9007199254740992) :
  Ev (fun k => laws_markPatch.f k c n l a0) (a0 + (sumP (l.map fun x => x.f2.length) : Int), mksP (l.map fun x => x.f2.length) a0) := by
 unfold laws_markPatch.f
 exact Ev.bind (za8 l a0 h0 hl hs) (Ev.now _)
theorem zbs (c : Int) (l : List (List S98)) (a b : Nat) (hg : za5 c l) (h1 : 1 ≤ a) (h2 : a ≤ 60) (h3 : 1 ≤ b) (h4 : b ≤ 30) : Ev (fun k => spec_Resized.f k c l (a : Int) (b : Int)) ((a : Int), zah l a b) := by
 obtain ⟨g1, g2, g3, g4, g5⟩ := id hg
 obtain ⟨w, rfl⟩ := Int.eq_ofNat_of_zero_le (show 0 ≤ c by omega)
 have hw : ∀ x ∈ l, x.length = w := fun x hx => by have := (g5 x hx).1; omega
 obtain ⟨b1, e1, hb1⟩ := zat (w : Int) l
 have c2 : (decide (1 ≤ (a : Int)) && decide ((a : Int) ≤ 60)) = true := by simp; omega
 have c3 : (decide (1 ≤ (b : Int)) && decide ((b : Int) ≤ 30)) = true := by simp; omega
 refine Ev.bind e1 (zaa (hb1.mpr hg) ?_)
 simp only [zag, Option.bind_some]
 exact zaa c2 (zaa c3 (Ev.bind (zbh w l a b g4 hw (by omega) h2 h4) (Ev.now _)))
def ovl (y : List S98) (i : Nat) (c : List S98) : List S98 := y.take i ++ c ++ y.drop (i + c.length)
theorem ovl_length (y : List S98) (i : Nat) (c : List S98) (h : i + c.length ≤ y.length) : (ovl y i c).length = y.length := by
 unfold ovl
 rw [List.length_append, List.length_append, List.length_take, List.length_drop]; omega
theorem cpv_ovl (y : List S98) (i : Nat) (c : List S98) (h : i + c.length ≤ y.length) : cpv y i c = ovl y i c := by
 unfold cpv ovl
 rw [List.take_of_length_le (show c.length ≤ y.length - i by omega), Nat.min_eq_left (by omega)]
theorem ovl_step (y : List S98) (i : Nat) (c : List S98) (j : Nat) (hj : j < c.length) (h : i + c.length ≤ y.length) :
  ovl (y.set (i + j) c[j]) (i + (j + 1)) (c.drop (j + 1)) = ovl y (i + j) (c.drop j) := by
 unfold ovl
 rw [show i + (j + 1) = i + j + 1 by omega, zaq _ _ _ (by omega), List.drop_eq_getElem_cons hj, List.length_cons, List.length_drop, List.drop_set_of_lt (by omega)]
 rw [show i + j + 1 + (c.length - (j + 1)) = i + j + (c.length - (j + 1) + 1) by omega]
 simp
def zcn (c n : Int) (x : S101) : Prop := 1 ≤ x.f2.length ∧ (0 ≤ x.f0 ∧ x.f0 ≤ n - 1) ∧ (0 ≤ x.f1 ∧ x.f1 ≤ c - (x.f2.length : Int))
def zcp (R : List (List S98)) (x : S101) : List (List S98) := R.set x.f0.toNat (ovl (R.getD x.f0.toNat []) x.f1.toNat x.f2)
section
variable (c n : Nat) (hc : c ≤ 60) (hn1 : 1 ≤ n) (hn : n ≤ 30) (ch : List S101) (hch : ch.length ≤ 1048576) (hcw : ∀ x ∈ ch, x.f2.length ≤ 1048576)
include hc hn1 hn hch hcw
set_option linter.unusedSectionVars false
theorem layCh_wide (R : List (List S98)) (hR : R.length = n) (hw : ∀ x ∈ R, x.length = c) (x : S101) (hf : zcn c n x) : (zcp R x).length = n ∧ ∀ y ∈ zcp R x, y.length = c := by
 obtain ⟨f1, ⟨f2, f3⟩, f4, f5⟩ := hf
 have hx : x.f0.toNat < R.length := by omega
 have hgd : R.getD x.f0.toNat [] = R[x.f0.toNat] := by rw [List.getD_eq_getElem?_getD, List.getElem?_eq_getElem hx]; rfl
 have hlen := hw _ (List.getElem_mem hx)
 refine ⟨by unfold zcp; rw [List.length_set, hR], fun y hy => ?_⟩
 unfold zcp at hy
 rcases List.mem_or_eq_of_mem_set hy with hy | rfl
 ·exact hw y hy
 ·rw [hgd, ovl_length _ _ _ (by omega), hlen]
theorem zb5 (i : Nat) (r : Int × List (List S98) × Bool) (q : Int) (a b : Int) (cs : List S98) (W : Nat) (hW : W = c) : ∀ (d m : Nat) (R : List (List S98)), m + d = cs.length → R.length = n → (0 ≤ a ∧ a ≤ (n : Int) - 1) → (0 ≤ b ∧ b ≤ (c : Int) - (cs.length : Int)) →
  (R.getD a.toNat []).length = W → Ev (fun k => spec_Patched.l0 k ((i + 1 : Nat) : Int) (c : Int) (n : Int) ch q (R.set a.toNat (ovl (R.getD a.toNat []) (b.toNat + m) (cs.drop m)))) r → (i : Int) < 4611686018427387904 →
  Ev (fun k => spec_Patched.l1 k (i : Int) (cs.length : Int) (m : Int) (c : Int) (n : Int) ch q R a b cs) r := by
 intro d
 induction d with
 | zero =>
  intro m R hm hR ha hb hy he hi
  have wi : ∀ _ : Unit, wrap64 ((i : Int) + 1) = ((i + 1 : Nat) : Int) := fun _ => by rw [w64 (by omega) (by omega)]; omega
  refine zad ?_
  simp only [spec_Patched.l1, wi ()]
  refine zab (by omega) ?_
  have hx : a.toNat < R.length := by omega
  rw [List.drop_of_length_le (show cs.length ≤ m by omega)] at he
  have e1 : ovl (R.getD a.toNat []) (b.toNat + m) [] = R.getD a.toNat [] := by simp [ovl]
  have e2 : R.set a.toNat (R.getD a.toNat []) = R := by
   rw [List.getD_eq_getElem?_getD, List.getElem?_eq_getElem hx]
   simp
  rw [e1, e2] at he
  exact he
 | succ d ih =>
  intro m R hm hR ha hb hy he hi
  obtain ⟨an, rfl⟩ := Int.eq_ofNat_of_zero_le ha.1
  obtain ⟨bn, rfl⟩ := Int.eq_ofNat_of_zero_le hb.1
  simp only [Int.toNat_natCast] at he hy
  have hx : an < R.length := by omega
  have hgd : R.getD an [] = R[an] := by rw [List.getD_eq_getElem?_getD, List.getElem?_eq_getElem hx]; rfl
  rw [hgd] at hy he
  have wm : ∀ _ : Unit, wrap64 ((m : Int) + 1) = ((m + 1 : Nat) : Int) := fun _ => by rw [w64 (by omega) (by omega)]; omega
  have wb : ∀ _ : Unit, wrap64 ((bn : Int) + (m : Int)) = ((bn + m : Nat) : Int) := fun _ => by rw [w64 (by omega) (by omega)]; omega
  have rl : ∀ _ : Unit, rd_L7 R (an : Int) = R[an] := fun _ => rdLi R an hx
  have rc : ∀ _ : Unit, rd_T98 cs (m : Int) = cs[m] := fun _ => rdc (by omega)
  refine zad ?_
  simp only [spec_Patched.l1, wm (), wb (), rl (), rc (), Int.toNat_natCast]
  refine zaa (by omega) (zaa (by omega) (zaa (by omega) (zaa (by omega) (zaa (by omega) (zaa (by omega) (zaa (by omega) ?_))))))
  have e := ih (m + 1) (R.set an (R[an].set (bn + m) cs[m])) (by omega) (by rw [List.length_set, hR]) ha hb
  simp only [Int.toNat_natCast] at e
  have hg2 : (R.set an (R[an].set (bn + m) cs[m])).getD an [] = R[an].set (bn + m) cs[m] := by
   rw [List.getD_eq_getElem?_getD, List.getElem?_set_self hx]; rfl
  rw [hg2, List.set_set, List.length_set, ovl_step _ _ _ _ (by omega) (by omega)] at e
  exact e hy he hi
theorem zbi (i : Nat) (hi : i < ch.length) (R : List (List S98)) (hR : R.length = n) (hw : ∀ x ∈ R, x.length = c) (hf : zcn c n ch[i]) (q : Int) (r : Int × List (List S98) × Bool)
  (he : Ev (fun k => spec_Patched.l0 k ((i + 1 : Nat) : Int) (c : Int) (n : Int) ch q (zcp R ch[i])) r) : Ev (fun k => spec_Patched.l0 k (i : Int) (c : Int) (n : Int) ch q R) r := by
 obtain ⟨f1, f2, f4⟩ := id hf
 have hcl := hcw _ (List.getElem_mem hi)
 have w1 : ∀ _ : Unit, wrap64 ((n : Int) - 1) = (n : Int) - 1 := fun _ => w64 (by omega) (by omega)
 have w2 : ∀ _ : Unit, wrap64 ((c : Int) - (ch[i].f2.length : Int)) = (c : Int) - (ch[i].f2.length : Int) := fun _ => w64 (by omega) (by omega)
 have c1 : (decide (0 ≤ ch[i].f0) && decide (ch[i].f0 ≤ (n : Int) - 1)) = true := by simp; exact f2
 have c2 : (decide (0 ≤ ch[i].f1) && decide (ch[i].f1 ≤ (c : Int) - (ch[i].f2.length : Int))) = true := by simp; omega
 have hx : ch[i].f0.toNat < R.length := by omega
 have hgd : R.getD ch[i].f0.toNat [] = R[ch[i].f0.toNat] := by rw [List.getD_eq_getElem?_getD, List.getElem?_eq_getElem hx]; rfl
 refine zad ?_
 simp only [spec_Patched.l0, rdch ch i hi, w1 (), w2 (), zag, Option.bind_some]
 refine zaa (by omega) (zaa (by omega) (zab (by omega) (zaa c1 ?_)))
 rw [c2]
 refine zad ?_
 simp only [spec_Patched.j2]
 refine zab (by decide) ?_
 have := zb5 c n hc hn1 hn ch hch hcw i r q ch[i].f0 ch[i].f1 ch[i].f2 c rfl ch[i].f2.length 0 R (by omega) hR f2 f4 (by rw [hgd]; exact hw _ (List.getElem_mem hx)) (by simpa [zcp] using he) (by omega)
 exact this
theorem zbt (i : Nat) (hi : i < ch.length) (R : List (List S98)) (hf : ¬ zcn c n ch[i]) (q : Int) : Ev (fun k => spec_Patched.l0 k (i : Int) (c : Int) (n : Int) ch q R) (0, [], false) := by
 have hcl := hcw _ (List.getElem_mem hi)
 have w1 : ∀ _ : Unit, wrap64 ((n : Int) - 1) = (n : Int) - 1 := fun _ => w64 (by omega) (by omega)
 have w2 : ∀ _ : Unit, wrap64 ((c : Int) - (ch[i].f2.length : Int)) = (c : Int) - (ch[i].f2.length : Int) := fun _ => w64 (by omega) (by omega)
 have jt : ∀ (u v : Int) (a b : Int) (e : List S98), Ev (fun k => spec_Patched.j2 k u v true (c : Int) (n : Int) ch q R a b e) (0, [], false) := by
  intro u v a b e
  refine zad ?_
  simp only [spec_Patched.j2]
  exact zaa (by trivial) (Ev.now _)
 refine zad ?_
 simp only [spec_Patched.l0, rdch ch i hi, w1 (), w2 (), zag, Option.bind_some]
 refine zaa (by omega) (zaa (by omega) ?_)
 by_cases z : (ch[i].f2.length : Int) < 1
 ·exact zaa z (jt _ _ _ _ _)
 refine zab z ?_
 by_cases c1 : (decide (0 ≤ ch[i].f0) && decide (ch[i].f0 ≤ (n : Int) - 1)) = true
 ·refine zaa c1 ?_
  have c2 : (decide (0 ≤ ch[i].f1) && decide (ch[i].f1 ≤ (c : Int) - (ch[i].f2.length : Int))) = false := by
   rw [Bool.eq_false_iff]
   intro c2
   simp only [Bool.and_eq_true, decide_eq_true_eq] at c1 c2
   exact hf ⟨by omega, c1, c2⟩
  rw [c2]
  exact jt _ _ _ _ _
 ·exact zab c1 (jt _ _ _ _ _)
theorem zbn (i : Nat) (hi : i < ch.length) (R : List (List S98)) (hR : R.length = n) (hw : ∀ x ∈ R, x.length = c) (hf : zcn c n ch[i]) (q : Int) (r : Int × List (List S98) × Bool)
  (he : Ev (fun k => impl_Patched.l0 k ch (ch.length : Int) ((i + 1 : Nat) : Int) (c : Int) (n : Int) ch q (zcp R ch[i])) r) : Ev (fun k => impl_Patched.l0 k ch (ch.length : Int) (i : Int) (c : Int) (n : Int) ch q R) r := by
 obtain ⟨f1, f2, f4⟩ := id hf
 have hcl := hcw _ (List.getElem_mem hi)
 have w0 : ∀ _ : Unit, wrap64 ((i : Int) + 1) = ((i + 1 : Nat) : Int) := fun _ => by rw [w64 (by omega) (by omega)]; omega
 have w1 : ∀ _ : Unit, wrap64 ((n : Int) - 1) = (n : Int) - 1 := fun _ => w64 (by omega) (by omega)
 have w2 : ∀ _ : Unit, wrap64 ((c : Int) - (ch[i].f2.length : Int)) = (c : Int) - (ch[i].f2.length : Int) := fun _ => w64 (by omega) (by omega)
 have c1 : (decide (0 ≤ ch[i].f0) && decide (ch[i].f0 ≤ (n : Int) - 1)) = true := by simp; exact f2
 have c3 : (decide (1 ≤ (ch[i].f2.length : Int)) && decide ((ch[i].f2.length : Int) ≤ (c : Int))) = true := by simp; omega
 have c2 : (decide (0 ≤ ch[i].f1) && decide (ch[i].f1 ≤ (c : Int) - (ch[i].f2.length : Int))) = true := by simp; omega
 have hx : ch[i].f0.toNat < R.length := by omega
 have hgd : R.getD ch[i].f0.toNat [] = R[ch[i].f0.toNat] := by rw [List.getD_eq_getElem?_getD, List.getElem?_eq_getElem hx]; rfl
 have hlen := hw _ (List.getElem_mem hx)
 have rl : ∀ _ : Unit, rd_L7 R ch[i].f0 = R[ch[i].f0.toNat] := fun _ => by
  have := rdLi R ch[i].f0.toNat hx
  rwa [Int.toNat_of_nonneg f2.1] at this
 refine zad ?_
 simp only [impl_Patched.l0, rdch ch i hi, w0 (), w1 (), w2 (), zaf, Option.bind_some, rl ()]
 refine zaa (by omega) (zaa (by omega) (zaa (by omega) (zaa c1 (zaa c3 (zaa c2 (zaa f2.1 (zaa (by omega) (zaa f4.1 (zaa (by omega) (zaa (by omega) ?_))))))))))
 rw [cpv_ovl _ _ _ (by omega)]
 unfold zcp at he
 rw [hgd] at he
 exact he
theorem zb2 (i : Nat) (hi : i < ch.length) (R : List (List S98)) (hf : ¬ zcn c n ch[i]) (q : Int) : Ev (fun k => impl_Patched.l0 k ch (ch.length : Int) (i : Int) (c : Int) (n : Int) ch q R) (0, [], false) := by
 have hcl := hcw _ (List.getElem_mem hi)
 have w1 : ∀ _ : Unit, wrap64 ((n : Int) - 1) = (n : Int) - 1 := fun _ => w64 (by omega) (by omega)
 have w2 : ∀ _ : Unit, wrap64 ((c : Int) - (ch[i].f2.length : Int)) = (c : Int) - (ch[i].f2.length : Int) := fun _ => w64 (by omega) (by omega)
 refine zad ?_
 simp only [impl_Patched.l0, rdch ch i hi, w1 (), w2 (), zaf, Option.bind_some]
 refine zaa (by omega) (zaa (by omega) (zaa (by omega) ?_))
 by_cases c1 : (decide (0 ≤ ch[i].f0) && decide (ch[i].f0 ≤ (n : Int) - 1)) = true
 case neg => exact zab c1 (Ev.now _)
 refine zaa c1 ?_
 by_cases c3 : (decide (1 ≤ (ch[i].f2.length : Int)) && decide ((ch[i].f2.length : Int) ≤ (c : Int))) = true
 case neg => exact zab c3 (Ev.now _)
 refine zaa c3 (zab (fun c2 => ?_) (Ev.now _))
 simp only [Bool.and_eq_true, decide_eq_true_eq] at c1 c2 c3
 exact hf ⟨by omega, c1, c2⟩
theorem Patched_both : ∀ (d i : Nat) (R : List (List S98)), i + d = ch.length → R.length = n → (∀ x ∈ R, x.length = c) →
  ∃ (u : Int) (m : List (List S98)) (g : Bool), m.length ≤ 30 ∧ (∀ x ∈ m, x.length ≤ 60) ∧ (g = true → u = (c : Int) ∧ m.length = n ∧ za5 u m) ∧ Ev (fun k => spec_Patched.l0 k (i : Int) (c : Int) (n : Int) ch (c : Int) R) (u, m, g) ∧ Ev (fun k => impl_Patched.l0 k ch (ch.length : Int) (i : Int) (c : Int) (n : Int) ch (c : Int) R) (u, m, g) := by
 intro d
 induction d with
 | zero =>
  intro i R h hR hw
  obtain ⟨b1, e1, hb1⟩ := zat (c : Int) R
  obtain ⟨b2, e2, hb2⟩ := za1 (c : Int) R (fun x hx => by rw [hw x hx]; omega)
  obtain rfl : b1 = b2 := Bool.eq_iff_iff.mpr (hb1.trans hb2.symm)
  by_cases q : b1 = true
  ·refine ⟨(c : Int), R, true, by omega, fun x hx => by rw [hw x hx]; exact hc, fun _ => ⟨rfl, hR, hb1.mp q⟩, zad ?_, zad ?_⟩
   ·simp only [spec_Patched.l0]
    exact zab (by omega) (Ev.bind e1 (zaa q (Ev.now _)))
   ·simp only [impl_Patched.l0]
    exact zab (by omega) (Ev.bind e2 (zaa q (Ev.now _)))
  ·refine ⟨0, [], false, by simp, by simp, by simp, zad ?_, zad ?_⟩
   ·simp only [spec_Patched.l0]
    exact zab (by omega) (Ev.bind e1 (zab q (Ev.now _)))
   ·simp only [impl_Patched.l0]
    exact zab (by omega) (Ev.bind e2 (zab q (Ev.now _)))
 | succ d ih =>
  intro i R h hR hw
  have hi : i < ch.length := by omega
  by_cases hf : zcn c n ch[i]
  ·obtain ⟨h1, h2⟩ := layCh_wide c n hc hn1 hn ch hch hcw R hR hw ch[i] hf
   obtain ⟨u, m, g, p1, p2, p3, e1, e2⟩ := ih (i + 1) (zcp R ch[i]) (by omega) h1 h2
   exact ⟨u, m, g, p1, p2, p3, zbi c n hc hn1 hn ch hch hcw i hi R hR hw hf _ _ e1, zbn c n hc hn1 hn ch hch hcw i hi R hR hw hf _ _ e2⟩
  ·exact ⟨0, [], false, by simp, by simp, by simp, zbt c n hc hn1 hn ch hch hcw i hi R hf _, zb2 c n hc hn1 hn ch hch hcw i hi R hf _⟩
end
theorem Patched_some (c : Int) (l : List (List S98)) (a b : Int) (ch : List S101) (hl : l.length ≤ 1048576) (hw : ∀ x ∈ l, x.length ≤ 1048576) (hch : ch.length ≤ 1048576) (hcw : ∀ x ∈ ch, x.f2.length ≤ 1048576) :
  ∃ (u : Int) (m : List (List S98)) (g : Bool), m.length ≤ 30 ∧ (∀ x ∈ m, x.length ≤ 60) ∧ (g = true → za5 u m) ∧ Ev (fun k => spec_Patched.f k c l a b ch) (u, m, g) ∧ Ev (fun k => impl_Patched.f k c l a b ch) (u, m, g) := by
 obtain ⟨b1, e1, hb1⟩ := zat c l
 obtain ⟨b2, e2, hb2⟩ := za1 c l hw
 obtain rfl : b1 = b2 := Bool.eq_iff_iff.mpr (hb1.trans hb2.symm)
 have st : ∀ (x y : Int) (R : List (List S98)), Ev (fun k => spec_Patched.j0 k true a b ch x R) (0, [], false) := by
  intro x y R
  refine zad ?_
  simp only [spec_Patched.j0]
  exact zaa (by trivial) (Ev.now _)
 have it : Ev (fun k => impl_Patched.j0 k true c l a b ch) (0, [], false) := by
  refine zad ?_
  simp only [impl_Patched.j0]
  exact zaa (by trivial) (Ev.now _)
 have no : Ev (fun k => spec_Resized.f k c l a b) (0, []) → Ev (fun k => spec_Patched.f k c l a b ch) (0, [], false) := by
  intro e
  unfold spec_Patched.f
  exact Ev.bind e (zaa (by simp) (st _ 0 _))
 by_cases c1 : b1 = true
 case neg =>
  refine ⟨0, [], false, by simp, by simp, by simp, no (Ev.bind e1 (zab c1 (Ev.now _))), ?_⟩
  unfold impl_Patched.f
  exact Ev.bind e2 (zab c1 it)
 have hg := hb1.mp c1
 by_cases c2 : (decide (1 ≤ a) && decide (a ≤ 60)) = true
 case neg =>
  refine ⟨0, [], false, by simp, by simp, by simp, no (Ev.bind e1 (zaa c1 ?_)), ?_⟩
  ·simp only [zag, Option.bind_some]; exact zab c2 (Ev.now _)
  ·unfold impl_Patched.f
   refine Ev.bind e2 (zaa c1 ?_)
   simp only [zaf, Option.bind_some]; exact zab c2 it
 by_cases c3 : (decide (1 ≤ b) && decide (b ≤ 30)) = true
 case neg =>
  refine ⟨0, [], false, by simp, by simp, by simp, no (Ev.bind e1 (zaa c1 ?_)), ?_⟩
  ·simp only [zag, Option.bind_some]; exact zaa c2 (zab c3 (Ev.now _))
  ·unfold impl_Patched.f
   refine Ev.bind e2 (zaa c1 ?_)
   simp only [zaf, Option.bind_some]; exact zaa c2 (zab c3 it)
 have c2' := c2
 have c3' := c3
 simp only [Bool.and_eq_true, decide_eq_true_eq] at c2 c3
 obtain ⟨x, rfl⟩ := Int.eq_ofNat_of_zero_le (show 0 ≤ a by omega)
 obtain ⟨y, rfl⟩ := Int.eq_ofNat_of_zero_le (show 0 ≤ b by omega)
 have u1 := zbs c l x y hg (by omega) (by omega) (by omega) (by omega)
 obtain ⟨g1, g2, g3, g4, g5⟩ := id hg
 obtain ⟨w, rfl⟩ := Int.eq_ofNat_of_zero_le (show 0 ≤ c by omega)
 have hw2 : ∀ x ∈ l, x.length = w := fun x hx => by have := (g5 x hx).1; omega
 have u2 := zcc w l x y g4 hw2 (fun x hx => (g5 x hx).2) (by omega) (by omega) (by omega) (by omega)
 have hrl := zaj l x y
 by_cases c4 : (ch.length : Int) > 400
 ·refine ⟨0, [], false, by simp, by simp, by simp, ?_, ?_⟩
  ·unfold spec_Patched.f
   refine Ev.bind u1 (zab (by show ¬ (((zah l x y).length : Int) = 0); omega) ?_)
   rw [decide_eq_true c4]
   exact st _ 0 _
  ·unfold impl_Patched.f
   refine Ev.bind e2 (zaa c1 ?_)
   simp only [zaf, Option.bind_some]
   refine zaa c2' (zaa c3' ?_)
   rw [decide_eq_true c4]
   exact it
 ·obtain ⟨u, m, g, p1, p2, p3, q1, q2⟩ := Patched_both x y (by omega) (by omega) (by omega) ch hch hcw ch.length 0 (zah l x y) (by omega) hrl (fun z hz => (zco (fun q hq => (g5 q hq).2) x y (by omega) (by omega) z hz).1)
  refine ⟨u, m, g, p1, p2, fun z => (p3 z).2.2, ?_, ?_⟩
  ·unfold spec_Patched.f
   refine Ev.bind u1 (zab (by show ¬ (((zah l x y).length : Int) = 0); omega) ?_)
   rw [decide_eq_false c4]
   refine zad ?_
   simp only [spec_Patched.j0]
   exact zab (by decide) q1
  ·unfold impl_Patched.f
   refine Ev.bind e2 (zaa c1 ?_)
   simp only [zaf, Option.bind_some]
   refine zaa c2' (zaa c3' ?_)
   rw [decide_eq_false c4]
   refine zad ?_
   simp only [impl_Patched.j0]
   exact zab (by decide) (Ev.bind u2 q2)

theorem rdlch (l : List S137) (i : Nat) (h : i < l.length) : rd_T137 l (i : Int) = l[i] := by
 unfold rd_T137; rw [Int.toNat_natCast, List.getD_eq_getElem?_getD, List.getElem?_eq_getElem h]; rfl
theorem zbj (l : List S137) (a : Int) (h0 : 0 ≤ a) (ha : a ≤ 1048576) (hl : l.length ≤ maxLen) (hw : ∀ x ∈ l, x.f2.length ≤ maxLen) :
  ∃ r, Ev (fun k => laws_szChangeS.f k l a) r ∧ (r < 0 ∨ (0 ≤ r ∧ r ≤ a ∧ (l.length : Int) ≤ a ∧ ∀ x ∈ l, (x.f2.length : Int) ≤ a)) := by
 rw [zb8] at hl
 have go : ∀ (d i : Nat) (x : Int), i + d = l.length → 0 ≤ x → x ≤ a → ∃ r, Ev (fun k => laws_szChangeS.l0 k l x (i : Int)) r ∧ (r < 0 ∨ (0 ≤ r ∧ r ≤ x ∧ ∀ j (h : j < l.length), i ≤ j → (l[j].f2.length : Int) ≤ a)) := by
  intro d
  induction d with
  | zero =>
   intro i x h hx0 hx1
   refine ⟨x, zad ?_, .inr ⟨hx0, Int.le_refl _, fun j hj hi => absurd hj (by omega)⟩⟩
   simp only [laws_szChangeS.l0]
   exact zab (by omega) (Ev.now _)
  | succ d ih =>
   intro i x h hx0 hx1
   obtain ⟨r1, e1, hr1⟩ := zax l[i].f2 x hx0 (by omega) (hw _ (List.getElem_mem _))
   have w2 : ∀ _ : Unit, wrap64 ((i : Int) + 1) = ((i + 1 : Nat) : Int) := fun _ => by rw [w64 (by omega) (by omega)]; omega
   by_cases c : r1 < 0
   ·refine ⟨-1, zad ?_, .inl (by omega)⟩
    simp only [laws_szChangeS.l0, laws_szChange.f, rdlch l i (by omega), e1, Option.bind_some, if_pos c]
    exact zaa (by omega) (zaa (by omega) (zaa (by decide) (Ev.now _)))
   ·obtain ⟨r, e, hr⟩ := ih (i + 1) r1 (by omega) (by omega) (by omega)
    refine ⟨r, zad ?_, ?_⟩
    ·simp only [laws_szChangeS.l0, laws_szChange.f, rdlch l i (by omega), e1, Option.bind_some, if_neg c, w2 ()]
     exact zaa (by omega) (zaa (by omega) e)
    ·rcases hr with hr | ⟨q0, q1, q2⟩
     ·exact .inl hr
     ·refine .inr ⟨q0, by omega, fun j hj hi => ?_⟩
      by_cases e : j = i
      ·subst e; omega
      ·exact q2 j hj (by omega)
 unfold laws_szChangeS.f
 rw [w64 (by omega) (by omega)]
 by_cases c : a - (l.length : Int) < 0
 ·exact ⟨-1, zaa c (Ev.now _), .inl (by omega)⟩
 ·obtain ⟨r, e, hr⟩ := go l.length 0 (a - (l.length : Int)) (by omega) (by omega) (by omega)
  refine ⟨r, zab c e, ?_⟩
  rcases hr with hr | ⟨q0, q1, q2⟩
  ·exact .inl hr
  ·refine .inr ⟨q0, by omega, by omega, fun x hx => ?_⟩
   obtain ⟨j, hj, rfl⟩ := List.mem_iff_getElem.mp hx
   exact q2 j hj (by omega)
theorem zca (c n : Int) (l : List S137) (a : Int) (h0 : 0 ≤ a) (ha : a ≤ 1048576) (hl : l.length ≤ maxLen) (hw : ∀ x ∈ l, x.f2.length ≤ maxLen) :
  ∃ r, Ev (fun k => laws_szPatch.f k c n l a) r ∧ (r < 0 ∨ (0 ≤ r ∧ r ≤ a ∧ (l.length : Int) ≤ a ∧ ∀ x ∈ l, (x.f2.length : Int) ≤ a)) := by
 obtain ⟨r, e, hr⟩ := zbj l a h0 ha hl hw
 unfold laws_szPatch.f
 by_cases q : r < 0
 ·exact ⟨-1, Ev.bind e (zaa q (Ev.now _)), .inl (by omega)⟩
 ·exact ⟨r, Ev.bind e (zab q (Ev.now _)), hr⟩
def toch (x : S137) : S101 := ⟨x.f0, x.f1, x.f2.map zcm⟩
theorem zb9 (c n : Int) (l : List S137) (hl : l.length ≤ 1048576) (hw : ∀ x ∈ l, x.f2.length ≤ 1048576) : Ev (fun k => laws_toPatch.f k c n l) (c, n, l.map toch) := by
 have go : ∀ (d i : Nat) (m : List S101), i + d = l.length → m.length = l.length → Ev (fun k => laws_toChangeS.l0 k l m (i : Int)) (m.take i ++ (l.drop i).map toch) := by
  intro d
  induction d with
  | zero =>
   intro i m h hm
   refine zad ?_
   simp only [laws_toChangeS.l0]
   refine zab (by omega) ?_
   rw [List.take_of_length_le (by omega), List.drop_of_length_le (by omega), List.map_nil, List.append_nil]
   exact Ev.now _
  | succ d ih =>
   intro i m h hm
   refine zad ?_
   simp only [laws_toChangeS.l0, laws_toChange.f, rdlch l i (by omega), w64 (x := (i : Int) + 1) (by omega) (by omega)]
   refine zaa (by omega) (zaa (by omega) (Ev.bind (Ev.bind (za2 _ (hw _ (List.getElem_mem _))) (Ev.now _)) (zaa (by omega) ?_)))
   have := ih (i + 1) (m.set (i : Int).toNat (toch l[i])) (by omega) (by simpa using hm)
   refine zam this ?_
   rw [show (i : Int).toNat = i by omega, zaq _ _ _ (by omega), List.append_assoc, List.singleton_append, ← List.map_cons, ← List.drop_eq_getElem_cons (by omega)]
 unfold laws_toPatch.f
 refine Ev.bind ?_ (Ev.now _)
 unfold laws_toChangeS.f
 refine zaa (by omega) (zaa (by omega) ?_)
 have := go l.length 0 (List.replicate l.length z101) (by omega) (by simp)
 simpa using this

def zbu : List Nat → Int → List (List S98)
 | [], _ => []
 | n :: ns, a => zbv n a :: zbu ns (a + 7 * (n : Int))
def zbq : List Nat → Nat
 | [] => 0
 | n :: ns => n + zbq ns
theorem zbc (l : List (List S98)) (a0 : Int) (h0 : 0 ≤ a0) (hl : l.length < 4611686018427387904) (hs : a0 + 7 * (zbq (l.map List.length) : Int) < 9007199254740992) :
  Ev (fun k => laws_markCellSS.f k l a0) (a0 + 7 * (zbq (l.map List.length) : Int), zbu (l.map List.length) a0) := by
 have go : ∀ (r : List (List S98)) (p : List (List S98)) (a : Int), 0 ≤ a → p.length + r.length < 4611686018427387904 → a + 7 * (zbq (r.map List.length) : Int) < 9007199254740992 →
   Ev (fun k => laws_markCellSS.l0 k (p ++ r) a (p.length : Int)) (a + 7 * (zbq (r.map List.length) : Int), p ++ zbu (r.map List.length) a) := by
  intro r
  induction r with
  | nil =>
   intro p a _ _ _
   refine zad ?_
   simp only [laws_markCellSS.l0, List.append_nil]
   refine zab (by omega) (zam (Ev.now _) ?_)
   simp [zbq, zbu]
  | cons x r ih =>
   intro p a ha hn hb
   simp only [List.map_cons, zbq, List.length_cons] at hb hn
   have e := ih (p ++ [zbv x.length a]) (a + 7 * (x.length : Int)) (by omega) (by simp; omega) (by omega)
   have wi : ∀ _ : Unit, wrap64 ((p.length : Int) + 1) = ((p.length + 1 : Nat) : Int) := fun _ => by rw [w64 (by omega) (by omega)]; omega
   have gd : (p ++ x :: r).getD p.length [] = x := by simp
   have sd : (p ++ x :: r).set p.length (zbv x.length a) = p ++ [zbv x.length a] ++ r := by simp
   refine zad ?_
   simp only [laws_markCellSS.l0, wi (), Int.toNat_natCast, gd]
   refine zaa (by simp; omega) (zaa (by omega) (Ev.bind (zay x a ha (by omega)) ?_))
   simp only [sd]
   rw [show (p ++ [zbv x.length a]).length = p.length + 1 by simp] at e
   refine zam e ?_
   simp only [List.map_cons, zbq, zbu, List.append_assoc, List.singleton_append, Prod.mk.injEq, and_true]
   omega
 have := go l [] a0 h0 (by simpa using hl) hs
 unfold laws_markCellSS.f
 simpa using this
theorem za0 (c : Int) (l : List (List S98)) (a0 : Int) (h0 : 0 ≤ a0) (hl : l.length < 4611686018427387904) (hs : a0 + 7 * (zbq (l.map List.length) : Int) < 9007199254740992) :
  Ev (fun k => laws_markGrid.f k c l a0) (a0 + 7 * (zbq (l.map List.length) : Int), zbu (l.map List.length) a0) := by
 unfold laws_markGrid.f
 exact Ev.bind (zbc l a0 h0 hl hs) (Ev.now _)
theorem sumN_le (ns : List Nat) (b : Nat) (h : ∀ n ∈ ns, n ≤ b) : zbq ns ≤ b * ns.length := by
 induction ns with
 | nil => simp [zbq]
 | cons x r ih =>
  have h1 := h x (by simp)
  have h2 := ih (fun n hn => h n (by simp [hn]))
  simp only [zbq, List.length_cons, Nat.mul_succ]
  omega

theorem zbd (ns : List Nat) (a0 : Int) (h0 : 0 ≤ a0) (hl : ns.length < 4611686018427387904) (hs : a0 + 7 * (zbq ns : Int) < 9007199254740992) : Ev (fun k => laws_heldCellSS.f k (zbu ns a0) a0) (a0 + 7 * (zbq ns : Int)) := by
 have go : ∀ (r : List Nat) (p : List (List S98)) (a : Int), 0 ≤ a → p.length + r.length < 4611686018427387904 → a + 7 * (zbq r : Int) < 9007199254740992 →
   Ev (fun k => laws_heldCellSS.l0 k (p ++ zbu r a) a (p.length : Int)) (a + 7 * (zbq r : Int)) := by
  intro r
  induction r with
  | nil =>
   intro p a _ _ _
   refine zad ?_
   simp only [laws_heldCellSS.l0, zbu, List.append_nil]
   refine zab (by omega) (zam (Ev.now _) ?_)
   simp [zbq]
  | cons x r ih =>
   intro p a ha hn hb
   simp only [zbq, List.length_cons] at hb hn
   have e := ih (p ++ [zbv x a]) (a + 7 * (x : Int)) (by omega) (by simp; omega) (by omega)
   have wi : ∀ _ : Unit, wrap64 ((p.length : Int) + 1) = ((p.length + 1 : Nat) : Int) := fun _ => by rw [w64 (by omega) (by omega)]; omega
   have gd : rd_L7 (p ++ zbv x a :: zbu r (a + 7 * (x : Int))) (p.length : Int) = zbv x a := by rw [rdLi _ _ (by simp)]; simp
   refine zad ?_
   simp only [laws_heldCellSS.l0, wi (), zbu, gd]
   refine zaa (by simp; omega) (zaa (by omega) (Ev.bind (zbl x a ha (by omega)) (zab (by omega) ?_)))
   rw [show (p ++ [zbv x a]).length = p.length + 1 by simp, List.append_assoc, List.singleton_append] at e
   refine zam e ?_
   simp only [zbq]
   omega
 have := go ns [] a0 h0 (by simpa using hl) hs
 unfold laws_heldCellSS.f
 simpa using this
theorem zby (c : Int) (ns : List Nat) (a0 : Int) (h0 : 0 ≤ a0) (hl : ns.length < 4611686018427387904) (hs : a0 + 7 * (zbq ns : Int) < 9007199254740992) : Ev (fun k => laws_heldGrid.f k c (zbu ns a0) a0) (a0 + 7 * (zbq ns : Int)) := by
 unfold laws_heldGrid.f
 exact Ev.bind (zbd ns a0 h0 hl hs) (zab (by omega) (Ev.now _))

theorem FnExactPatched : laws_FnExactPatched.Aim := by
 intro c l a b ch _ hl _ _ hch
 refine Ev.rounds ?_
 unfold laws_FnExactPatched.f
 obtain ⟨r, er, hr⟩ := zci c l 1048576 (by omega) (by omega) hl.1 (fun x hx => (hl.2 x hx).1)
 refine Ev.bind er ?_
 by_cases h : r < 0
 ·exact zaa h (Ev.now _)
 refine zab h ?_
 have h1 : l.length ≤ 1048576 ∧ (∀ x ∈ l, x.length ≤ 1048576) ∧ r ≤ 1048576 := by
  rcases hr with hr | ⟨_, q1, q2, q3⟩
  ·exact absurd hr h
  ·exact ⟨by omega, fun x hx => by have := q3 x hx; omega, q1⟩
 obtain ⟨r2, er2, hr2⟩ := zca a b ch r (by omega) h1.2.2 hch.1 (fun x hx => (hch.2 x hx).2.2.1)
 refine Ev.bind er2 ?_
 by_cases h' : r2 < 0
 ·exact zaa h' (Ev.now _)
 refine zab h' ?_
 have h2 : ch.length ≤ 1048576 ∧ ∀ x ∈ ch, x.f2.length ≤ 1048576 := by
  rcases hr2 with hr2 | ⟨_, q1, q2, q3⟩
  ·exact absurd hr2 h'
  ·exact ⟨by omega, fun x hx => by have := q3 x hx; omega⟩
 have ta := zch c l h1.1 h1.2.1
 have tp := zb9 a b ch h2.1 h2.2
 have ka : ∀ x ∈ l.map zbg, x.length ≤ 1048576 := by
  intro x hx
  obtain ⟨y, hy, rfl⟩ := List.mem_map.mp hx
  rw [torow_length]; exact h1.2.1 y hy
 have kp : ∀ x ∈ ch.map toch, x.f2.length ≤ 1048576 := by
  intro x hx
  obtain ⟨y, hy, rfl⟩ := List.mem_map.mp hx
  show (y.f2.map zcm).length ≤ _
  rw [List.length_map]; exact h2.2 y hy
 have lA : (l.map zbg).length ≤ 1048576 := by rw [List.length_map]; exact h1.1
 have lP : (ch.map toch).length ≤ 1048576 := by rw [List.length_map]; exact h2.1
 obtain ⟨u, m, g, hm, hw, _, e1, e2⟩ := Patched_some c (l.map zbg) a b (ch.map toch) lA ka lP kp
 have eq := za6 u m (by omega) (fun x hx => by have := hw x hx; omega)
 have eqa := za6 c (l.map zbg) (by omega) (fun x hx => by have := ka x hx; omega)
 have eqp := zcb a b (ch.map toch) (by omega) (fun x hx => by have := kp x hx; omega)
 have hs : zbq (m.map List.length) ≤ 60 * (m.map List.length).length := sumN_le _ 60 (fun n hn => by obtain ⟨x, hx, rfl⟩ := List.mem_map.mp hn; exact hw x hx)
 have hsa : zbq ((l.map zbg).map List.length) ≤ 1048576 * ((l.map zbg).map List.length).length := sumN_le _ 1048576 (fun n hn => by obtain ⟨x, hx, rfl⟩ := List.mem_map.mp hn; exact ka x hx)
 have hsp : sumP ((ch.map toch).map fun x => x.f2.length) ≤ (2 + 7 * 1048576) * ((ch.map toch).map fun x => x.f2.length).length := sumP_le _ 1048576 (fun n hn => by obtain ⟨x, hx, rfl⟩ := List.mem_map.mp hn; exact kp x hx)
 rw [List.length_map] at hs hsa hsp
 have ma := za0 c (l.map zbg) 1 (by omega) (by omega) (by omega)
 have mp := zbk a b (ch.map toch) (1 + 7 * (zbq ((l.map zbg).map List.length) : Int)) (by omega) (by omega) (by omega)
 have mk := za0 u m 1 (by omega) (by omega) (by omega)
 have hh := zby u (m.map List.length) 1 (by omega) (by rw [List.length_map]; omega) (by omega)
 refine Ev.bind ta (Ev.bind tp (Ev.bind e1 (Ev.bind ta (Ev.bind tp (Ev.bind e2 (Ev.bind eq (zaa rfl (zab (by simp) (Ev.bind ta (Ev.bind eqa (zaa rfl (Ev.bind tp (Ev.bind eqp (zaa rfl (Ev.bind ma (Ev.bind mp (zab (by show ¬ ((1 : Int) + _ + _ < 0); omega) (Ev.bind eq (zaa rfl ?_)))))))))))))))))))
 refine Ev.bind mk (Ev.bind hh (zab (by omega) (zaa rfl (Ev.bind ta (Ev.bind tp (Ev.bind e2 (Ev.bind eq (zaa rfl (zab (by simp) (Ev.bind hh (zab (by omega) (zaa rfl (Ev.now _)))))))))))))

end Go.Proofs.Ytalopdcephohgaa.Pure
