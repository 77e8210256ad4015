/- The law FnExactDiff answers true at every two grids. -/
import Derived.Test.YtalopdcephohgaaRBx31
import Derived.Test.YtalopdcephohgaaAimFnExactDiff
namespace Go.Proofs.Ytalopdcephohgaa.Pure
open Go.RowKit Go.Proofs.Ytalopdcephohgaa.RB Go.Proofs.YtalopdcephohgaaW.PrintWords Go.Proofs.YtalopdcephohgaaW.PrintLast
set_option linter.unusedVariables false
set_option linter.unusedSimpArgs false

theorem w64 {x : Int} (h0 : -9223372036854775808 ≤ x) (h1 : x ≤ 9223372036854775807) : wrap64 x = x := by unfold wrap64; omega
theorem zad {α : Type} {g : Nat → Option α} {r : α} (h : Ev (fun k => g (k + 1)) r) : Ev g r := by
 obtain ⟨K, h⟩ := h
 refine ⟨K + 1, fun k hk => ?_⟩
 obtain ⟨m, rfl⟩ : ∃ m, k = m + 1 := ⟨k - 1, by omega⟩
 exact h m (by omega)
theorem ev_fixed {α : Type} {x : Option α} {r : α} (h : x = some r) : Ev (fun _ => x) r := ⟨0, fun _ _ => h⟩
theorem zan {α : Type} {g : Nat → Option α} {r s : α} (h : Ev g r) (e : r = s) : Ev g s := e ▸ h
theorem zaa {α : Type} {c : Prop} [Decidable c] {a b : Nat → Option α} {r : α} (hc : c) (h : Ev a r) : Ev (fun k => if c then a k else b k) r := by
 obtain ⟨K, h⟩ := h
 exact ⟨K, fun k hk => by show (if c then a k else b k) = some r; rw [if_pos hc]; exact h k hk⟩
theorem zac {α : Type} {c : Prop} [Decidable c] {a b : Nat → Option α} {r : α} (hc : ¬ c) (h : Ev b r) : Ev (fun k => if c then a k else b k) r := by
 obtain ⟨K, h⟩ := h
 exact ⟨K, fun k hk => by show (if c then a k else b k) = some r; rw [if_neg hc]; exact h k hk⟩
theorem zao {α β : Type} {x : Option α} {a : α} {f : Nat → α → Option β} {r : β} (hx : x = some a) (h : Ev (fun k => f k a) r) : Ev (fun k => x.bind (f k)) r := by
 subst hx; exact h

theorem za2 {α : Type} (l : List α) (i : Nat) (a : α) (h : i < l.length) : (l.set i a).take (i + 1) = l.take i ++ [a] := by
 rw [List.take_succ_eq_append_getElem (by simpa using h), List.take_set, List.set_eq_of_length_le (by rw [List.length_take]; omega)]
 simp

theorem maxLen_eq : maxLen = 9223372036854775807 := rfl

theorem rdc {l : List S98} {i : Nat} (h : i < l.length) : rd_T98 l (i : Int) = l[i] := by
 unfold rd_T98; rw [Int.toNat_natCast, List.getD_eq_getElem?_getD, List.getElem?_eq_getElem h]; rfl
theorem zb4 (a b : S96) : ((!(a.f0 == b.f0) || (!(a.f1 == b.f1) || (!(a.f2 == b.f2) || (!(a.f3 == b.f3) || (!(a.f4 == b.f4)))))) = true) ↔ a ≠ b := by
 obtain ⟨a0, a1, a2, a3, a4⟩ := a
 obtain ⟨b0, b1, b2, b3, b4⟩ := b
 constructor
 ·intro h e
  injection e with e0 e1 e2 e3 e4
  subst e0; subst e1; subst e2; subst e3; subst e4
  simp at h
 ·intro h
  by_cases q0 : a0 = b0
  ·by_cases q1 : a1 = b1
   ·by_cases q2 : a2 = b2
    ·by_cases q3 : a3 = b3
     ·by_cases q4 : a4 = b4
      ·subst q0; subst q1; subst q2; subst q3; subst q4; exact absurd rfl h
      ·simp [q4]
     ·simp [q3]
    ·simp [q2]
   ·simp [q1]
  ·simp [q0]

theorem zak (a b c : Int) : spec_l1In.f a b c = some (decide (b ≤ a) && decide (a ≤ c)) := by
 unfold spec_l1In.f
 by_cases h : a ≥ b
 ·rw [if_pos h]; simp [h]
 ·rw [if_neg h]; simp [show ¬ b ≤ a from h]

theorem zag (a b c : Int) : impl_in.f a b c = some (decide (b ≤ a) && decide (a ≤ c)) := by
 unfold impl_in.f
 by_cases h : b ≤ a
 ·rw [if_pos h]; simp [h]
 ·rw [if_neg h]; simp [h]

def sokv (a b : Int) : Bool := (decide (0 ≤ a) && decide (a ≤ 8)) && (decide (0 ≤ b) && decide (b ≤ 8))
theorem za9 (a b : Int) (c d e : Bool) : impl_StyleOk.f a b c d e = some (sokv a b) := by
 simp only [impl_StyleOk.f, zag, Option.bind_some, sokv]
 by_cases h : (decide (0 ≤ a) && decide (a ≤ 8)) = true
 ·simp [h]
 ·simp [h]

theorem zae (a b : Int) (c d e : Bool) : spec_StyleOk.f a b c d e = some (sokv a b) := by
 simp only [spec_StyleOk.f, zak, Option.bind_some, sokv]
 by_cases h : (decide (0 ≤ a) && decide (a ≤ 8)) = true
 ·simp [h]
 ·simp [h]

def rok (r : Int) : Bool := decide (0 ≤ r) && decide (r ≤ 1114111) && !(decide (55296 ≤ r) && decide (r ≤ 57343))
def wid (r : Int) : Int :=
 if rok r = false ∨ r < 32 ∨ (127 ≤ r ∧ r ≤ 159) ∨ (768 ≤ r ∧ r ≤ 879) then 0
 else if (4352 ≤ r ∧ r ≤ 4447) ∨ (12288 ≤ r ∧ r ≤ 55295) ∨ (127744 ≤ r ∧ r ≤ 131071) then 2 else 1
theorem zcg (r : Int) : spec_RuneOk.f r = some (rok r) := by
 simp only [spec_RuneOk.f, zak, Option.bind_some, rok]
 by_cases h : (decide (0 ≤ r) && decide (r ≤ 1114111)) = true
 ·rw [if_pos h, h, Bool.true_and]
 ·rw [if_neg h, Bool.eq_false_iff.mpr h, Bool.false_and]

theorem zal (r : Int) : Ev (fun k => spec_Width.f k r) (wid r) := by
 have j1 : Ev (fun k => spec_Width.j0 k r true) 0 := by
  refine zad ?_
  simp only [spec_Width.j0, if_true]
  exact Ev.now _
 have j0 : Ev (fun k => spec_Width.j0 k r false) (if (4352 ≤ r ∧ r ≤ 4447) ∨ (12288 ≤ r ∧ r ≤ 55295) ∨ (127744 ≤ r ∧ r ≤ 131071) then 2 else 1) := by
  refine zad ?_
  simp only [spec_Width.j0, zak, Option.bind_some, Bool.false_eq_true, if_false]
  refine ev_fixed ?_
  simp only [Bool.and_eq_true, decide_eq_true_eq]
  repeat' split
  all_goals first | rfl | omega
 simp only [spec_Width.f, zcg, zak, Option.bind_some]
 cases hk : rok r with
 | false => simp only [Bool.false_eq_true, if_false]; refine zan j1 ?_; unfold wid; rw [if_pos (.inl hk)]
 | true =>
  simp only [if_true]
  by_cases h1 : r < 32
  ·simp only [if_pos h1]; refine zan j1 ?_; unfold wid; rw [if_pos (.inr (.inl h1))]
  ·simp only [if_neg h1]
   by_cases h2 : 127 ≤ r ∧ r ≤ 159
   ·simp only [h2.1, h2.2, decide_true, Bool.and_self, if_true]; refine zan j1 ?_; unfold wid; rw [if_pos (.inr (.inr (.inl h2)))]
   ·have e2 : (decide (127 ≤ r) && decide (r ≤ 159)) = false := by simpa using h2
    simp only [e2, Bool.false_eq_true, if_false]
    by_cases h3 : 768 ≤ r ∧ r ≤ 879
    ·simp only [h3.1, h3.2, decide_true, Bool.and_self]; refine zan j1 ?_; unfold wid; rw [if_pos (.inr (.inr (.inr h3)))]
    ·have e3 : (decide (768 ≤ r) && decide (r ≤ 879)) = false := by simpa using h3
     simp only [e3]; refine zan j0 ?_; unfold wid
     refine (if_neg ?_).symm
     rintro (h | h | h | h)
     ·rw [hk] at h; cases h
     all_goals omega

theorem zcj (r : Int) : impl_RuneOk.f r = some (rok r) := by
 simp only [impl_RuneOk.f, zag, Option.bind_some, rok]
 by_cases h : (decide (0 ≤ r) && decide (r ≤ 1114111)) = true
 ·rw [if_pos h, h, Bool.true_and]
 ·rw [if_neg h, Bool.eq_false_iff.mpr h, Bool.false_and]

theorem zbl (r : Int) : Ev (fun k => impl_Width.f k r) (wid r) := by
 have j1 : Ev (fun k => impl_Width.j0 k r true) 0 := by
  refine zad ?_
  simp only [impl_Width.j0, if_true]
  exact Ev.now _
 have j0 : Ev (fun k => impl_Width.j0 k r false) (if (4352 ≤ r ∧ r ≤ 4447) ∨ (12288 ≤ r ∧ r ≤ 55295) ∨ (127744 ≤ r ∧ r ≤ 131071) then 2 else 1) := by
  refine zad ?_
  simp only [impl_Width.j0, zag, Option.bind_some, Bool.false_eq_true, if_false]
  refine ev_fixed ?_
  simp only [Bool.and_eq_true, decide_eq_true_eq]
  repeat' split
  all_goals first | rfl | omega
 simp only [impl_Width.f, zcj, zag, Option.bind_some]
 cases hk : rok r with
 | false => simp only [Bool.false_eq_true, if_false]; refine zan j1 ?_; unfold wid; rw [if_pos (.inl hk)]
 | true =>
  simp only [if_true]
  by_cases h1 : r < 32
  ·simp only [if_pos h1]; refine zan j1 ?_; unfold wid; rw [if_pos (.inr (.inl h1))]
  ·simp only [if_neg h1]
   by_cases h2 : 127 ≤ r ∧ r ≤ 159
   ·simp only [h2.1, h2.2, decide_true, Bool.and_self, if_true]; refine zan j1 ?_; unfold wid; rw [if_pos (.inr (.inr (.inl h2)))]
   ·have e2 : (decide (127 ≤ r) && decide (r ≤ 159)) = false := by simpa using h2
    simp only [e2, Bool.false_eq_true, if_false]
    by_cases h3 : 768 ≤ r ∧ r ≤ 879
    ·simp only [h3.1, h3.2, decide_true, Bool.and_self]; refine zan j1 ?_; unfold wid; rw [if_pos (.inr (.inr (.inr h3)))]
    ·have e3 : (decide (768 ≤ r) && decide (r ≤ 879)) = false := by simpa using h3
     simp only [e3]; refine zan j0 ?_; unfold wid
     refine (if_neg ?_).symm
     rintro (h | h | h | h)
     ·rw [hk] at h; cases h
     all_goals omega

def zab (l : List S98) (i : Nat) : S98 := rd_T98 l (i : Int)
def zax (l : List S98) (i : Nat) : Prop :=
 sokv (zab l i).f1.f0 (zab l i).f1.f1 = true ∧
 (((zab l i).f2 = 0 ∧ wid (zab l i).f0 = 1) ∨
 ((zab l i).f2 = 1 ∧ wid (zab l i).f0 = 2 ∧ i + 1 < l.length ∧ (zab l (i + 1)).f2 = 2 ∧ (zab l (i + 1)).f1 = (zab l i).f1) ∨
 ((zab l i).f2 = 2 ∧ (zab l i).f0 = 0 ∧ 0 < i ∧ (zab l (i - 1)).f2 = 1))
def zap (l : List S98) : Prop := 1 ≤ l.length ∧ l.length ≤ 60 ∧ ∀ i, i < l.length → zax l i
theorem zb6 (l : List S98) : ∃ b, Ev (fun k => spec_RowOk.f k l) b ∧ (b = true ↔ zap l) := by
 have go : l.length ≤ 60 → ∀ (d i : Nat), i + d = l.length → ∃ b, Ev (fun k => spec_RowOk.l0 k l (l.length : Int) (i : Int)) b ∧ (b = true ↔ ∀ j, i ≤ j → j < l.length → zax l j) := by
  intro hl d
  induction d with
  | zero =>
   intro i h
   refine ⟨true, zad ?_, by simp; omega⟩
   simp only [spec_RowOk.l0]
   exact zac (by omega) (Ev.now _)
  | succ d ih =>
   intro i h
   obtain ⟨b, e, hb⟩ := ih (i + 1) (by omega)
   have w1 : ∀ _ : Unit, wrap64 ((i : Int) + 1) = ((i + 1 : Nat) : Int) := fun _ => by rw [w64 (by omega) (by omega)]; omega
   have step : zax l i → (b = true ↔ ∀ j, i ≤ j → j < l.length → zax l j) := by
    intro c
    rw [hb]
    constructor
    ·intro q j h1 h2
     by_cases e : j = i
     ·rw [e]; exact c
     ·exact q j (by omega) h2
    ·intro q j h1 h2; exact q j (by omega) h2
   have bad : ¬ zax l i → (false = true ↔ ∀ j, i ≤ j → j < l.length → zax l j) := by
    intro c
    constructor
    ·intro x; cases x
    ·intro q; exact absurd (q i (Nat.le_refl _) (by omega)) c
   suffices hh : (zax l i ∧ Ev (fun k => spec_RowOk.l0 k l (l.length : Int) (i : Int)) b) ∨ (¬ zax l i ∧ Ev (fun k => spec_RowOk.l0 k l (l.length : Int) (i : Int)) false) by
    rcases hh with ⟨c, e⟩ | ⟨c, e⟩
    ·exact ⟨b, e, step c⟩
    ·exact ⟨false, e, bad c⟩
   have fold : ∀ {r : Bool}, Ev (fun k => spec_RowOk.l0 (k + 1) l (l.length : Int) (i : Int)) r → Ev (fun k => spec_RowOk.l0 k l (l.length : Int) (i : Int)) r := fun h => zad h
   have g0 : rd_T98 l (i : Int) = zab l i := rfl
   have g1 : rd_T98 l ((i + 1 : Nat) : Int) = zab l (i + 1) := rfl
   by_cases q1 : sokv (zab l i).f1.f0 (zab l i).f1.f1 = true
   case neg =>
    refine .inr ⟨fun c => q1 c.1, fold ?_⟩
    simp only [spec_RowOk.l0, g0, zae, Option.bind_some]
    exact zaa (by omega) (zaa (by omega) (zaa (by omega) (zac q1 (Ev.now _))))
   by_cases p0 : (zab l i).f2 = 0
   ·by_cases q2 : wid (zab l i).f0 = 1
    ·refine .inl ⟨⟨q1, .inl ⟨p0, q2⟩⟩, fold ?_⟩
     simp only [spec_RowOk.l0, g0, zae, Option.bind_some, w1 ()]
     exact zaa (by omega) (zaa (by omega) (zaa (by omega) (zaa q1 (zaa p0 (Ev.bind (zal _) (zaa q2 e))))))
    ·refine .inr ⟨fun c => by rcases c.2 with x | x | x <;> omega, fold ?_⟩
     simp only [spec_RowOk.l0, g0, zae, Option.bind_some, w1 ()]
     exact zaa (by omega) (zaa (by omega) (zaa (by omega) (zaa q1 (zaa p0 (Ev.bind (zal _) (zac q2 (Ev.now _)))))))
   by_cases p1 : (zab l i).f2 = 1
   ·by_cases q2 : wid (zab l i).f0 = 2
    case neg =>
     refine .inr ⟨fun c => by rcases c.2 with x | x | x <;> omega, fold ?_⟩
     simp only [spec_RowOk.l0, g0, zae, Option.bind_some, w1 ()]
     exact zaa (by omega) (zaa (by omega) (zaa (by omega) (zaa q1 (zac p0 (zaa p1 (Ev.bind (zal _) (zac q2 (Ev.now _))))))))
    by_cases q3 : i + 1 = l.length
    ·refine .inr ⟨fun c => by rcases c.2 with x | x | x <;> omega, fold ?_⟩
     simp only [spec_RowOk.l0, g0, zae, Option.bind_some, w1 ()]
     exact zaa (by omega) (zaa (by omega) (zaa (by omega) (zaa q1 (zac p0 (zaa p1 (Ev.bind (zal _) (zaa q2 (zaa (by omega) (Ev.now _)))))))))
    by_cases q4 : (zab l (i + 1)).f2 = 2
    case neg =>
     refine .inr ⟨fun c => by rcases c.2 with x | x | x <;> omega, fold ?_⟩
     simp only [spec_RowOk.l0, g0, zae, Option.bind_some, w1 (), g1]
     exact zaa (by omega) (zaa (by omega) (zaa (by omega) (zaa q1 (zac p0 (zaa p1 (Ev.bind (zal _) (zaa q2 (zac (by omega) (zaa (by omega) (zaa (by omega) (zac q4 (Ev.now _))))))))))))
    by_cases q5 : (zab l (i + 1)).f1 = (zab l i).f1
    ·refine .inl ⟨⟨q1, .inr (.inl ⟨p1, q2, by omega, q4, q5⟩)⟩, fold ?_⟩
     simp only [spec_RowOk.l0, g0, zae, Option.bind_some, w1 (), g1]
     exact zaa (by omega) (zaa (by omega) (zaa (by omega) (zaa q1 (zac p0 (zaa p1 (Ev.bind (zal _) (zaa q2 (zac (by omega) (zaa (by omega) (zaa (by omega) (zaa q4 (zac (fun x => (zb4 _ _).mp x q5) e))))))))))))
    ·refine .inr ⟨fun c => ?_, fold ?_⟩
     ·rcases c.2 with x | x | x
      ·omega
      ·exact q5 x.2.2.2.2
      ·omega
     simp only [spec_RowOk.l0, g0, zae, Option.bind_some, w1 (), g1]
     exact zaa (by omega) (zaa (by omega) (zaa (by omega) (zaa q1 (zac p0 (zaa p1 (Ev.bind (zal _) (zaa q2 (zac (by omega) (zaa (by omega) (zaa (by omega) (zaa q4 (zaa ((zb4 _ _).mpr q5) (Ev.now _)))))))))))))
   by_cases p2 : (zab l i).f2 = 2
   case neg =>
    refine .inr ⟨fun c => by rcases c.2 with x | x | x <;> omega, fold ?_⟩
    simp only [spec_RowOk.l0, g0, zae, Option.bind_some, w1 ()]
    exact zaa (by omega) (zaa (by omega) (zaa (by omega) (zaa q1 (zac p0 (zac p1 (zac p2 (Ev.now _)))))))
   by_cases q2 : (zab l i).f0 = 0
   case neg =>
    refine .inr ⟨fun c => by rcases c.2 with x | x | x <;> omega, fold ?_⟩
    simp only [spec_RowOk.l0, g0, zae, Option.bind_some, w1 ()]
    exact zaa (by omega) (zaa (by omega) (zaa (by omega) (zaa q1 (zac p0 (zac p1 (zaa p2 (zac q2 (Ev.now _))))))))
   by_cases q3 : i = 0
   ·refine .inr ⟨fun c => by rcases c.2 with x | x | x <;> omega, fold ?_⟩
    simp only [spec_RowOk.l0, g0, zae, Option.bind_some, w1 ()]
    exact zaa (by omega) (zaa (by omega) (zaa (by omega) (zaa q1 (zac p0 (zac p1 (zaa p2 (zaa q2 (zaa (by omega) (Ev.now _)))))))))
   have w2 : ∀ _ : Unit, wrap64 ((i : Int) - 1) = ((i - 1 : Nat) : Int) := fun _ => by rw [w64 (by omega) (by omega)]; omega
   have g2 : rd_T98 l ((i - 1 : Nat) : Int) = zab l (i - 1) := rfl
   by_cases q4 : (zab l (i - 1)).f2 = 1
   ·refine .inl ⟨⟨q1, .inr (.inr ⟨p2, q2, by omega, q4⟩)⟩, fold ?_⟩
    simp only [spec_RowOk.l0, g0, zae, Option.bind_some, w1 (), w2 (), g2]
    exact zaa (by omega) (zaa (by omega) (zaa (by omega) (zaa q1 (zac p0 (zac p1 (zaa p2 (zaa q2 (zac (by omega) (zaa (by omega) (zaa (by omega) (zaa q4 e)))))))))))
   ·refine .inr ⟨fun c => by rcases c.2 with x | x | x <;> omega, fold ?_⟩
    simp only [spec_RowOk.l0, g0, zae, Option.bind_some, w1 (), w2 (), g2]
    exact zaa (by omega) (zaa (by omega) (zaa (by omega) (zaa q1 (zac p0 (zac p1 (zaa p2 (zaa q2 (zac (by omega) (zaa (by omega) (zaa (by omega) (zac q4 (Ev.now _))))))))))))
 have jt : Ev (fun k => spec_RowOk.j0 k l (l.length : Int) true) false := by
  refine zad ?_
  simp only [spec_RowOk.j0]
  exact zaa (by trivial) (Ev.now _)
 unfold spec_RowOk.f
 by_cases h1 : (l.length : Int) < 1
 ·exact ⟨false, zaa h1 jt, ⟨fun x => (by cases x), fun x => by have := x.1; omega⟩⟩
 by_cases h2 : (l.length : Int) > 60
 ·refine ⟨false, zac h1 ?_, ⟨fun x => (by cases x), fun x => by have := x.2.1; omega⟩⟩
  rw [decide_eq_true h2]; exact jt
 ·obtain ⟨b, e, hb⟩ := go (by omega) l.length 0 (by omega)
  refine ⟨b, zac h1 (zad ?_), ?_⟩
  ·simp only [spec_RowOk.j0]
   exact zac (by simp; omega) e
  ·rw [hb]
   exact ⟨fun q => ⟨by omega, by omega, fun i hi => q i (by omega) hi⟩, fun q j _ hj => q.2.2 j hj⟩
theorem zch (x : S98) : Ev (fun k => impl_isCell.f k x.f0 x.f1.f0 x.f1.f1 x.f1.f2 x.f1.f3 x.f1.f4 x.f2)
  (if x.f2 = 0 then decide (wid x.f0 = 1) && sokv x.f1.f0 x.f1.f1 else if x.f2 = 1 then decide (wid x.f0 = 2) && sokv x.f1.f0 x.f1.f1 else if x.f2 = 2 then decide (x.f0 = 0) && sokv x.f1.f0 x.f1.f1 else false) := by
 unfold impl_isCell.f
 simp only [za9, Option.bind_some]
 by_cases p0 : x.f2 = 0
 ·rw [if_pos p0]
  refine zaa p0 (Ev.bind (zbl _) ?_)
  by_cases q : wid x.f0 = 1
  ·exact zaa q (zan (Ev.now _) (by rw [decide_eq_true q]; simp))
  ·exact zac q (zan (Ev.now _) (by rw [decide_eq_false q]; simp))
 rw [if_neg p0]
 refine zac p0 ?_
 by_cases p1 : x.f2 = 1
 ·rw [if_pos p1]
  refine zaa p1 (Ev.bind (zbl _) ?_)
  by_cases q : wid x.f0 = 2
  ·exact zaa q (zan (Ev.now _) (by rw [decide_eq_true q]; simp))
  ·exact zac q (zan (Ev.now _) (by rw [decide_eq_false q]; simp))
 rw [if_neg p1]
 refine zac p1 ?_
 by_cases p2 : x.f2 = 2
 ·refine zan (r := decide (x.f0 = 0) && sokv x.f1.f0 x.f1.f1) (zaa p2 ?_) (if_pos p2).symm
  by_cases q : x.f0 = 0
  ·exact zaa q (zan (Ev.now _) (by rw [decide_eq_true q]; simp))
  ·exact zac q (zan (Ev.now _) (by rw [decide_eq_false q]; simp))
 ·exact zan (zac p2 (Ev.now _)) (if_neg p2).symm
def zco (x : S98) : Prop := sokv x.f1.f0 x.f1.f1 = true ∧ ((x.f2 = 0 ∧ wid x.f0 = 1) ∨ (x.f2 = 1 ∧ wid x.f0 = 2) ∨ (x.f2 = 2 ∧ x.f0 = 0))
theorem zb3 (x : S98) : ∃ b, Ev (fun k => impl_isCell.f k x.f0 x.f1.f0 x.f1.f1 x.f1.f2 x.f1.f3 x.f1.f4 x.f2) b ∧ (b = true ↔ zco x) := by
 refine ⟨_, zch x, ?_⟩
 unfold zco
 by_cases p0 : x.f2 = 0
 ·rw [if_pos p0]; simp only [Bool.and_eq_true, decide_eq_true_eq]
  exact ⟨fun h => ⟨h.2, .inl ⟨p0, h.1⟩⟩, fun h => ⟨by rcases h.2 with q | q | q <;> omega, h.1⟩⟩
 rw [if_neg p0]
 by_cases p1 : x.f2 = 1
 ·rw [if_pos p1]; simp only [Bool.and_eq_true, decide_eq_true_eq]
  exact ⟨fun h => ⟨h.2, .inr (.inl ⟨p1, h.1⟩)⟩, fun h => ⟨by rcases h.2 with q | q | q <;> omega, h.1⟩⟩
 rw [if_neg p1]
 by_cases p2 : x.f2 = 2
 ·rw [if_pos p2]; simp only [Bool.and_eq_true, decide_eq_true_eq]
  exact ⟨fun h => ⟨h.2, .inr (.inr ⟨p2, h.1⟩)⟩, fun h => ⟨by rcases h.2 with q | q | q <;> omega, h.1⟩⟩
 rw [if_neg p2]
 exact ⟨fun h => (by cases h), fun h => by rcases h.2 with q | q | q <;> omega⟩
def CellI (l : List S98) (i : Nat) : Prop := zco (zab l i) ∧ (0 < i → ((zab l (i - 1)).f2 = 1 ↔ (zab l i).f2 = 2) ∧ ((zab l (i - 1)).f2 = 1 → (zab l (i - 1)).f1 = (zab l i).f1)) ∧ (i = 0 → (zab l i).f2 ≠ 2)
theorem cell_iff (l : List S98) (n : Nat) (hn : l.length = n) (h1 : 1 ≤ n) : ((∀ i, i < n → CellI l i) ∧ (zab l (n - 1)).f2 ≠ 1) ↔ ∀ i, i < n → zax l i := by
 constructor
 ·rintro ⟨h, hl⟩ i hi
  obtain ⟨hs, ha, h0⟩ := h i hi
  refine ⟨hs.1, ?_⟩
  rcases hs.2 with q | q | q
  ·exact .inl q
  ·refine .inr (.inl ⟨q.1, q.2, ?_⟩)
   have hne : i ≠ n - 1 := fun e => hl (e ▸ q.1)
   obtain ⟨_, hb, _⟩ := h (i + 1) (by omega)
   have := hb (by omega)
   rw [show i + 1 - 1 = i by omega] at this
   exact ⟨by omega, this.1.mp q.1, (this.2 q.1).symm⟩
  ·refine .inr (.inr ⟨q.1, q.2, ?_⟩)
   have hp : 0 < i := by
    rcases Nat.eq_zero_or_pos i with e | e
    ·exact absurd q.1 (h0 e)
    ·exact e
   exact ⟨hp, (ha hp).1.mpr q.1⟩
 ·intro h
  have last : (zab l (n - 1)).f2 ≠ 1 := by
   intro e
   rcases (h (n - 1) (by omega)).2 with q | q | q <;> omega
  refine ⟨fun i hi => ?_, last⟩
  obtain ⟨hs, hc⟩ := h i hi
  refine ⟨⟨hs, ?_⟩, ?_, ?_⟩
  ·rcases hc with q | q | q
   ·exact .inl q
   ·exact .inr (.inl ⟨q.1, q.2.1⟩)
   ·exact .inr (.inr ⟨q.1, q.2.1⟩)
  ·intro hp
   obtain ⟨_, hd⟩ := h (i - 1) (by omega)
   rw [show i - 1 + 1 = i by omega] at hd
   refine ⟨⟨fun e => ?_, fun e => ?_⟩, fun e => ?_⟩
   ·rcases hd with q | q | q
    ·omega
    ·exact q.2.2.2.1
    ·omega
   ·rcases hc with q | q | q
    ·omega
    ·omega
    ·exact q.2.2.2
   ·rcases hd with q | q | q
    ·omega
    ·exact q.2.2.2.2.symm
    ·omega
  ·intro e0 e
   rcases hc with q | q | q <;> omega
theorem zcd (l : List S98) (hl : l.length ≤ 1048576) : ∃ b, Ev (fun k => impl_RowOk.f k l) b ∧ (b = true ↔ zap l) := by
 have ends : ∃ b, Ev (fun k => impl_RowOk.l0 k l l (l.length : Int) (l.length : Int)) b ∧ (b = true ↔ (1 ≤ l.length ∧ l.length ≤ 60 ∧ (zab l (l.length - 1)).f2 ≠ 1)) := by
  by_cases h1 : 1 ≤ l.length ∧ l.length ≤ 60
  ·have w2 : ∀ _ : Unit, wrap64 ((l.length : Int) - 1) = ((l.length - 1 : Nat) : Int) := fun _ => by rw [w64 (by omega) (by omega)]; omega
   have g2 : rd_T98 l ((l.length - 1 : Nat) : Int) = zab l (l.length - 1) := rfl
   refine ⟨(zab l (l.length - 1)).f2 != 1, zad ?_, ?_⟩
   ·simp only [impl_RowOk.l0, zag, Option.bind_some, w2 (), g2]
    exact zac (by omega) (zaa (by rw [decide_eq_true (p := (1 : Int) ≤ l.length) (by omega), decide_eq_true (p := (l.length : Int) ≤ 60) (by omega)]; rfl) (zaa (by omega) (zaa (by omega) (Ev.now _))))
   ·rw [bne_iff_ne]; exact ⟨fun x => ⟨h1.1, h1.2, x⟩, fun x => x.2.2⟩
  ·refine ⟨false, zad ?_, ⟨fun x => (by cases x), fun x => absurd ⟨x.1, x.2.1⟩ h1⟩⟩
   simp only [impl_RowOk.l0, zag, Option.bind_some]
   refine zac (by omega) (zac ?_ (Ev.now _))
   simp only [Bool.and_eq_true, decide_eq_true_eq]; omega
 obtain ⟨b, eb, hb⟩ := ends
 have go : ∀ (d i : Nat), i + d = l.length → ∃ c, Ev (fun k => impl_RowOk.l0 k l l (l.length : Int) (i : Int)) c ∧ (c = true ↔ ((∀ j, i ≤ j → j < l.length → CellI l j) ∧ b = true)) := by
  intro d
  induction d with
  | zero =>
   intro i h
   obtain rfl : i = l.length := by omega
   exact ⟨b, eb, ⟨fun x => ⟨fun j h1 h2 => by omega, x⟩, fun x => x.2⟩⟩
  | succ d ih =>
   intro i h
   obtain ⟨c, e, hc⟩ := ih (i + 1) (by omega)
   have w1 : ∀ _ : Unit, wrap64 ((i : Int) + 1) = ((i + 1 : Nat) : Int) := fun _ => by rw [w64 (by omega) (by omega)]; omega
   have g0 : rd_T98 l (i : Int) = zab l i := rfl
   obtain ⟨s, es, hs⟩ := zb3 (zab l i)
   suffices hh : (CellI l i ∧ Ev (fun k => impl_RowOk.l0 k l l (l.length : Int) (i : Int)) c) ∨ (¬ CellI l i ∧ Ev (fun k => impl_RowOk.l0 k l l (l.length : Int) (i : Int)) false) by
    rcases hh with ⟨q, e⟩ | ⟨q, e⟩
    ·refine ⟨c, e, ?_⟩
     rw [hc]
     refine ⟨fun x => ⟨fun j h1 h2 => ?_, x.2⟩, fun x => ⟨fun j h1 h2 => x.1 j (by omega) h2, x.2⟩⟩
     by_cases e : j = i
     ·rw [e]; exact q
     ·exact x.1 j (by omega) h2
    ·exact ⟨false, e, ⟨fun x => (by cases x), fun x => absurd (x.1 i (Nat.le_refl _) (by omega)) q⟩⟩
   by_cases hp : i = 0
   ·subst hp
    cases s with
    | false =>
     refine .inr ⟨fun x => (by cases hs.mpr x.1), zad ?_⟩
     simp only [impl_RowOk.l0, g0]
     exact zaa (by omega) (zaa (by omega) (zaa (by omega) (zac (by omega) (Ev.bind es (zac (by simp) (Ev.now _))))))
    | true =>
     by_cases q : (zab l 0).f2 = 2
     ·refine .inr ⟨fun x => x.2.2 rfl q, zad ?_⟩
      simp only [impl_RowOk.l0, g0]
      exact zaa (by omega) (zaa (by omega) (zaa (by omega) (zac (by omega) (Ev.bind es (zaa rfl (zaa (by rw [beq_iff_eq.mpr q]; rfl) (Ev.now _)))))))
     ·refine .inl ⟨⟨hs.mp rfl, fun x => by omega, fun _ => q⟩, zad ?_⟩
      simp only [impl_RowOk.l0, g0, w1 ()]
      exact zaa (by omega) (zaa (by omega) (zaa (by omega) (zac (by omega) (Ev.bind es (zaa rfl (zac (by rw [beq_eq_false_iff_ne.mpr q]; simp) e))))))
   ·have w2 : ∀ _ : Unit, wrap64 ((i : Int) - 1) = ((i - 1 : Nat) : Int) := fun _ => by rw [w64 (by omega) (by omega)]; omega
    have g2 : rd_T98 l ((i - 1 : Nat) : Int) = zab l (i - 1) := rfl
    cases s with
    | false =>
     refine .inr ⟨fun x => (by cases hs.mpr x.1), zad ?_⟩
     simp only [impl_RowOk.l0, g0, w2 (), g2]
     exact zaa (by omega) (zaa (by omega) (zaa (by omega) (zaa (by omega) (zaa (by omega) (zaa (by omega) (Ev.bind es (zac (by simp) (Ev.now _))))))))
    | true =>
     have hpre : ∀ {r : Bool}, Ev (fun k => (if ((((zab l (i - 1)).f2) == 1) != (((zab l i).f2) == 2)) = true then (some false) else (if ((zab l (i - 1)).f2) = 1 then (if (!(((zab l (i - 1)).f1.f0) == ((zab l i).f1.f0)) || (!(((zab l (i - 1)).f1.f1) == ((zab l i).f1.f1)) || (!(((zab l (i - 1)).f1.f2) == ((zab l i).f1.f2)) || (!(((zab l (i - 1)).f1.f3) == ((zab l i).f1.f3)) || (!(((zab l (i - 1)).f1.f4) == ((zab l i).f1.f4))))))) = true then (some false) else (impl_RowOk.l0 k l l (l.length : Int) ((i + 1 : Nat) : Int))) else (impl_RowOk.l0 k l l (l.length : Int) ((i + 1 : Nat) : Int))))) r → Ev (fun k => impl_RowOk.l0 k l l (l.length : Int) (i : Int)) r := by
      intro r hr
      refine zad ?_
      simp only [impl_RowOk.l0, g0, w1 (), w2 (), g2]
      exact zaa (by omega) (zaa (by omega) (zaa (by omega) (zaa (by omega) (zaa (by omega) (zaa (by omega) (Ev.bind es (zaa rfl hr)))))))
     by_cases q1 : (zab l (i - 1)).f2 = 1
     ·by_cases q2 : (zab l i).f2 = 2
      ·by_cases q3 : (zab l (i - 1)).f1 = (zab l i).f1
       ·exact .inl ⟨⟨hs.mp rfl, fun _ => ⟨⟨fun _ => q2, fun _ => q1⟩, fun _ => q3⟩, fun x => absurd x hp⟩, hpre (zac (by rw [beq_iff_eq.mpr q1, beq_iff_eq.mpr q2]; simp) (zaa q1 (zac (fun x => (zb4 _ _).mp x q3) e)))⟩
       ·exact .inr ⟨fun x => q3 ((x.2.1 (by omega)).2 q1), hpre (zac (by rw [beq_iff_eq.mpr q1, beq_iff_eq.mpr q2]; simp) (zaa q1 (zaa ((zb4 _ _).mpr q3) (Ev.now _))))⟩
      ·exact .inr ⟨fun x => q2 ((x.2.1 (by omega)).1.mp q1), hpre (zaa (by rw [beq_iff_eq.mpr q1, beq_eq_false_iff_ne.mpr q2]; rfl) (Ev.now _))⟩
     ·by_cases q2 : (zab l i).f2 = 2
      ·exact .inr ⟨fun x => q1 ((x.2.1 (by omega)).1.mpr q2), hpre (zaa (by rw [beq_eq_false_iff_ne.mpr q1, beq_iff_eq.mpr q2]; rfl) (Ev.now _))⟩
      ·exact .inl ⟨⟨hs.mp rfl, fun _ => ⟨⟨fun x => absurd x q1, fun x => absurd x q2⟩, fun x => absurd x q1⟩, fun x => absurd x hp⟩, hpre (zac (by rw [beq_eq_false_iff_ne.mpr q1, beq_eq_false_iff_ne.mpr q2]; simp) (zac q1 e))⟩
 unfold impl_RowOk.f
 obtain ⟨c, e, hc⟩ := go l.length 0 (by omega)
 refine ⟨c, e, ?_⟩
 rw [hc, hb]
 constructor
 ·rintro ⟨h1, h2, h3, h4⟩
  exact ⟨h2, h3, (cell_iff l _ rfl h2).mp ⟨fun i hi => h1 i (by omega) hi, h4⟩⟩
 ·rintro ⟨h2, h3, h5⟩
  obtain ⟨h1, h4⟩ := (cell_iff l _ rfl h2).mpr h5
  exact ⟨fun j _ hj => h1 j hj, h2, h3, h4⟩

def blk (s : S96) : S98 := ⟨32, s, 0⟩

theorem zbm {l : List S98} {i : Nat} (h : i < l.length) : zab l i = l[i] := rdc h
theorem zbt (l : List S98) (j i : Nat) (v : S98) (hj : j < l.length) : zab (l.set j v) i = if i = j then v else zab l i := by
 unfold zab rd_T98
 rw [Int.toNat_natCast, List.getD_eq_getElem?_getD, List.getD_eq_getElem?_getD, List.getElem?_set]
 by_cases h : i = j
 ·rw [if_pos h, if_pos h.symm, if_pos (by omega)]; rfl
 ·rw [if_neg h, if_neg (fun e => h e.symm)]
theorem cells_ext {a b : List S98} (hl : a.length = b.length) (h : ∀ i, i < a.length → zab a i = zab b i) : a = b := by
 refine List.ext_getElem hl (fun i h1 h2 => ?_)
 have := h i h1
 rwa [zbm h1, zbm h2] at this
def bl (x : S98) : S98 := ⟨32, x.f1, 0⟩
def zbj (l : List S98) (a : Nat) : List S98 := if 1 ≤ a ∧ a < l.length ∧ (zab l a).f2 = 2 then (l.set (a - 1) (bl (zab l (a - 1)))).set a (bl (zab l a)) else l
theorem partv_length (l : List S98) (a : Nat) : (zbj l a).length = l.length := by
 unfold zbj
 by_cases h : 1 ≤ a ∧ a < l.length ∧ (zab l a).f2 = 2
 ·rw [if_pos h]; simp
 ·rw [if_neg h]
theorem cellAt_partv (l : List S98) (a i : Nat) : zab (zbj l a) i = if 1 ≤ a ∧ a < l.length ∧ (zab l a).f2 = 2 ∧ (i = a ∨ i + 1 = a) then bl (zab l i) else zab l i := by
 unfold zbj
 by_cases h : 1 ≤ a ∧ a < l.length ∧ (zab l a).f2 = 2
 ·rw [if_pos h, zbt _ _ _ _ (by rw [List.length_set]; omega), zbt _ _ _ _ (by omega)]
  by_cases h1 : i = a
  ·rw [if_pos h1, if_pos ⟨h.1, h.2.1, h.2.2, .inl h1⟩, h1]
  ·by_cases h2 : i = a - 1
   ·rw [if_neg h1, if_pos h2, if_pos ⟨h.1, h.2.1, h.2.2, .inr (by omega)⟩, h2]
   ·rw [if_neg h1, if_neg h2, if_neg (fun q => by omega)]
 ·rw [if_neg h, if_neg (fun q => h ⟨q.1, q.2.1, q.2.2.1⟩)]
theorem impl_part_ev (l : List S98) (a : Nat) (hl : l.length < 4611686018427387904) (ha : a ≤ l.length) : Ev (fun k => impl_part.f k l (a : Int)) (zbj l a) := by
 have w1 : ∀ _ : Unit, wrap64 ((l.length : Int) - 1) = (l.length : Int) - 1 := fun _ => w64 (by omega) (by omega)
 simp only [impl_part.f, zag, Option.bind_some, w1 ()]
 have no : ∀ (q : ¬ (1 ≤ a ∧ a < l.length ∧ (zab l a).f2 = 2)), Ev (fun k => impl_part.j0 k l (a : Int) false) (zbj l a) := by
  intro q
  refine zad ?_
  simp only [impl_part.j0]
  refine zac (by simp) (zan (Ev.now _) ?_)
  unfold zbj; rw [if_neg q]
 by_cases h : 1 ≤ a ∧ a < l.length
 ·refine zaa (by simp; omega) (zaa (by omega) (zaa (by omega) ?_))
  show Ev (fun k => impl_part.j0 k l (a : Int) ((zab l a).f2 == 2)) (zbj l a)
  by_cases q : (zab l a).f2 = 2
  ·have wa : ∀ _ : Unit, wrap64 ((a : Int) - 1) = ((a - 1 : Nat) : Int) := fun _ => by rw [w64 (by omega) (by omega)]; omega
   refine zad ?_
   simp only [impl_part.j0, wa (), impl_blank.f, Option.bind_some, Int.toNat_natCast]
   refine zaa (by simp [q]) (zaa (by omega) (zaa (by omega) (zaa (by omega) (zaa (by omega) (zan (Ev.now _) ?_)))))
   unfold zbj; rw [if_pos ⟨h.1, h.2, q⟩]; rfl
  ·rw [show ((zab l a).f2 == 2) = false by simpa using q]
   exact no (fun x => q x.2.2)
 ·exact zac (by simp; omega) (no (fun x => h ⟨x.1, x.2.1⟩))
def zaz (m : List S98) (i : Nat) : Prop := ((zab m i).f2 = 1 ∧ (i + 1 = m.length ∨ (zab m (i + 1)).f2 ≠ 2)) ∨ ((zab m i).f2 = 2 ∧ (i = 0 ∨ (zab m (i - 1)).f2 ≠ 1))
instance (m : List S98) (i : Nat) : Decidable (zaz m i) := by unfold zaz; exact inferInstance
def zaw (m : List S98) (i : Nat) : S98 := if zaz m i then bl (zab m i) else zab m i
def zau (m : List S98) : List S98 := (List.range m.length).map (zaw m)
theorem zaj (m : List S98) : (zau m).length = m.length := by simp [zau]
theorem zav (m : List S98) (i : Nat) (h : i < m.length) : zab (zau m) i = zaw m i := by
 rw [zbm (by rw [zaj]; exact h)]
 simp [zau]

theorem zbw (m : List S98) (hl : m.length < 1000000) : Ev (fun k => spec_l4Mended.f k m) (zau m) := by
 have go : ∀ (d i : Nat) (out : List S98), i + d = m.length → out.length = m.length → (∀ j, j < m.length → zab out j = if j < i then zaw m j else zab m j) → Ev (fun k => spec_l4Mended.l0 k m out (i : Int)) (zau m) := by
  intro d
  induction d with
  | zero =>
   intro i out h hm hc
   refine zad ?_
   simp only [spec_l4Mended.l0]
   refine zac (by omega) (zan (Ev.now _) ?_)
   refine cells_ext (by rw [hm, zaj]) (fun j hj => ?_)
   rw [hc j (by omega), if_pos (by omega), zav _ _ (by omega)]
  | succ d ih =>
   intro i out h hm hc
   have c0 : zab out i = zab m i := by rw [hc i (by omega), if_neg (by omega)]
   have blankStep : zaz m i → Ev (fun k => spec_l4Mended.l0 k m (out.set i (bl (zab m i))) ((i + 1 : Nat) : Int)) (zau m) := by
    intro ha
    refine ih (i + 1) _ (by omega) (by rw [List.length_set]; exact hm) (fun j hj => ?_)
    rw [zbt _ _ _ _ (by omega)]
    by_cases e : j = i
    ·rw [if_pos e, if_pos (by omega), e]; unfold zaw; rw [if_pos ha]
    ·rw [if_neg e, hc j hj]
     by_cases q : j < i
     ·rw [if_pos q, if_pos (by omega)]
     ·rw [if_neg q, if_neg (by omega)]
   have keepStep : ¬ zaz m i → Ev (fun k => spec_l4Mended.l0 k m out ((i + 1 : Nat) : Int)) (zau m) := by
    intro ha
    refine ih (i + 1) _ (by omega) hm (fun j hj => ?_)
    rw [hc j hj]
    by_cases e : j = i
    ·rw [if_neg (by omega), if_pos (by omega), e]; unfold zaw; rw [if_neg ha]
    ·by_cases q : j < i
     ·rw [if_pos q, if_pos (by omega)]
     ·rw [if_neg q, if_neg (by omega)]
   have wi : ∀ _ : Unit, wrap64 ((i : Int) + 1) = ((i + 1 : Nat) : Int) := fun _ => by rw [w64 (by omega) (by omega)]; omega
   have g0 : rd_T98 out (i : Int) = zab m i := c0
   have hlen : (out.length : Int) = (m.length : Int) := by rw [hm]
   refine zad ?_
   simp only [spec_l4Mended.l0, g0, wi (), spec_l4Blank.f, Option.bind_some, Int.toNat_natCast, hlen]
   refine zaa (by omega) (zaa (by omega) ?_)
   by_cases p1 : (zab m i).f2 = 1
   ·refine zaa p1 ?_
    by_cases e : i + 1 = m.length
    ·exact zaa (by omega) (blankStep (.inl ⟨p1, .inl e⟩))
    ·have g1 : rd_T98 out ((i + 1 : Nat) : Int) = zab m (i + 1) := by
      show zab out (i + 1) = _
      rw [hc (i + 1) (by omega), if_neg (by omega)]
     simp only [g1]
     refine zac (by omega) (zaa (by omega) (zaa (by omega) ?_))
     by_cases p2 : (zab m (i + 1)).f2 = 2
     ·refine zaa p2 (zac (by omega) (keepStep ?_))
      rintro (⟨_, q | q⟩ | ⟨q, _⟩)
      ·exact e q
      ·exact q p2
      ·omega
     ·exact zac p2 (blankStep (.inl ⟨p1, .inr p2⟩))
   ·refine zac p1 ?_
    by_cases p2 : (zab m i).f2 = 2
    ·refine zaa p2 ?_
     by_cases e : i = 0
     ·exact zaa (by omega) (blankStep (.inr ⟨p2, .inl e⟩))
     ·have wm : wrap64 ((i : Int) - 1) = ((i - 1 : Nat) : Int) := by rw [w64 (by omega) (by omega)]; omega
      have g1 : rd_T98 m ((i - 1 : Nat) : Int) = zab m (i - 1) := rfl
      simp only [wm, g1]
      refine zac (by omega) (zaa (by omega) (zaa (by omega) ?_))
      by_cases p3 : (zab m (i - 1)).f2 = 1
      ·refine zaa p3 (keepStep ?_)
       rintro (⟨q, _⟩ | ⟨_, q | q⟩)
       ·exact p1 q
       ·exact e q
       ·exact q p3
      ·exact zac p3 (blankStep (.inr ⟨p2, .inr p3⟩))
    ·refine zac p2 (keepStep ?_)
     rintro (⟨q, _⟩ | ⟨q, _⟩)
     ·exact p1 q
     ·exact p2 q
 simp only [spec_l4Mended.f, Option.bind_some, List.nil_append]
 exact zaa (by simp; omega) (go m.length 0 m (by omega) rfl (fun j _ => by rw [if_neg (by omega)]))

theorem wid_blank : wid 32 = 1 := by decide
def zah (l : List S98) : Prop := ∀ i, i < l.length → zax l i
theorem zb8 {l : List S98} (h : zap l) : zah l := h.2.2
theorem zat (l : List S98) (a i : Nat) (h : i < a) : zab (l.take a) i = zab l i := by
 unfold zab rd_T98
 rw [Int.toNat_natCast, List.getD_eq_getElem?_getD, List.getD_eq_getElem?_getD, List.getElem?_take, if_pos h]
theorem zbu (a b : List S98) (i : Nat) : zab (a ++ b) i = if i < a.length then zab a i else zab b (i - a.length) := by
 unfold zab rd_T98
 rw [Int.toNat_natCast, Int.toNat_natCast, List.getD_eq_getElem?_getD, List.getD_eq_getElem?_getD, List.getD_eq_getElem?_getD, List.getElem?_append]
 by_cases h : i < a.length
 ·rw [if_pos h, if_pos h]
 ·rw [if_neg h, if_neg h]
theorem cellAt_rep (n : Nat) (x : S98) (i : Nat) (h : i < n) : zab (List.replicate n x) i = x := by
 rw [zbm (by rw [List.length_replicate]; exact h), List.getElem_replicate]
theorem part_take {l : List S98} (hr : zah l) (a : Nat) (ha : a ≤ l.length) : (zbj l a).take a = zau (l.take a) := by
 have hl : (l.take a).length = a := by rw [List.length_take]; omega
 refine cells_ext (by rw [zaj, List.length_take, partv_length, hl]; omega) (fun i hi => ?_)
 have hia : i < a := by rw [List.length_take] at hi; omega
 rw [zat _ _ _ hia, zav _ _ (by omega), cellAt_partv]
 have c := (hr i (by omega)).2
 have e0 := zat l a i hia
 unfold zaw
 by_cases q : 1 ≤ a ∧ a < l.length ∧ (zab l a).f2 = 2 ∧ (i = a ∨ i + 1 = a)
 ·rw [if_pos q, e0]
  have ca := (hr a q.2.1).2
  have e1 : i + 1 = a := by omega
  have f1 : (zab l i).f2 = 1 := by
   rcases ca with z | z | z
   ·omega
   ·omega
   ·rw [show i = a - 1 by omega]; exact z.2.2.2
  rw [if_pos]
  unfold zaz
  rw [e0, hl]
  exact .inl ⟨f1, .inl e1⟩
 ·rw [if_neg q, e0, if_neg]
  unfold zaz
  rw [e0, hl]
  rintro (⟨z, w⟩ | ⟨z, w⟩)
  ·rcases c with y | y | y
   ·omega
   ·by_cases e1 : i + 1 = a
    ·exact q ⟨by omega, by omega, by rw [← e1]; exact y.2.2.2.1, .inr e1⟩
    ·rcases w with w | w
     ·omega
     ·rw [zat _ _ _ (by omega)] at w; exact w y.2.2.2.1
   ·omega
  ·rcases c with y | y | y
   ·omega
   ·omega
   ·rcases w with w | w
    ·omega
    ·rw [zat _ _ _ (by omega)] at w; exact w y.2.2.2
def CellSolo (x : S98) : Prop := sokv x.f1.f0 x.f1.f1 = true ∧ ((x.f2 = 0 ∧ wid x.f0 = 1) ∨ (x.f2 = 1 ∧ wid x.f0 = 2) ∨ (x.f2 = 2 ∧ x.f0 = 0))
theorem solo_of {l : List S98} {i : Nat} (h : zax l i) : CellSolo (zab l i) := by
 refine ⟨h.1, ?_⟩
 rcases h.2 with z | z | z
 ·exact .inl z
 ·exact .inr (.inl ⟨z.1, z.2.1⟩)
 ·exact .inr (.inr ⟨z.1, z.2.1⟩)
def Paired (m : List S98) : Prop := ∀ i, i + 1 < m.length → (zab m i).f2 = 1 → (zab m (i + 1)).f2 = 2 → (zab m (i + 1)).f1 = (zab m i).f1
theorem paired_of {l : List S98} (h : zah l) : Paired l := by
 intro i hi h1 h2
 rcases (h i (by omega)).2 with z | z | z
 ·omega
 ·exact z.2.2.2.2
 ·omega
theorem mended_cells {m : List S98} (h : ∀ i, i < m.length → CellSolo (zab m i)) (hp : Paired m) : zah (zau m) := by
 intro i hi
 rw [zaj] at hi
 have hs := h i hi
 unfold zax
 rw [zaj, zav _ _ hi]
 by_cases q : zaz m i
 ·have e : zaw m i = bl (zab m i) := by unfold zaw; rw [if_pos q]
  rw [e]
  exact ⟨hs.1, .inl ⟨rfl, wid_blank⟩⟩
 ·have e : zaw m i = zab m i := by unfold zaw; rw [if_neg q]
  rw [e]
  refine ⟨hs.1, ?_⟩
  have q' : ¬ (((zab m i).f2 = 1 ∧ (i + 1 = m.length ∨ (zab m (i + 1)).f2 ≠ 2)) ∨ ((zab m i).f2 = 2 ∧ (i = 0 ∨ (zab m (i - 1)).f2 ≠ 1))) := q
  rcases hs.2 with z | z | z
  ·exact .inl z
  ·have hn : ¬ (i + 1 = m.length) ∧ (zab m (i + 1)).f2 = 2 := ⟨fun c => q' (.inl ⟨z.1, .inl c⟩), Decidable.byContradiction fun c => q' (.inl ⟨z.1, .inr c⟩)⟩
   have na : ¬ zaz m (i + 1) := by
    intro a
    rcases a with a | a
    ·omega
    ·rcases a.2 with b | b
     ·omega
     ·exact b (by rw [show i + 1 - 1 = i by omega]; exact z.1)
   have e2 : zaw m (i + 1) = zab m (i + 1) := by unfold zaw; rw [if_neg na]
   rw [zav _ _ (by omega), e2]
   exact .inr (.inl ⟨z.1, z.2, by omega, hn.2, hp i (by omega) z.1 hn.2⟩)
  ·have h0 : ¬ (i = 0) := fun c => q' (.inr ⟨z.1, .inl c⟩)
   have hp1 : (zab m (i - 1)).f2 = 1 := Decidable.byContradiction fun c => q' (.inr ⟨z.1, .inr c⟩)
   have na : ¬ zaz m (i - 1) := by
    intro a
    rcases a with a | a
    ·rcases a.2 with b | b
     ·omega
     ·exact b (by rw [show i - 1 + 1 = i by omega]; exact z.1)
    ·omega
   have e2 : zaw m (i - 1) = zab m (i - 1) := by unfold zaw; rw [if_neg na]
   exact .inr (.inr ⟨z.1, z.2, by omega, by rw [zav _ _ (by omega), e2]; exact hp1⟩)
theorem mended_take {l : List S98} (h : zah l) (a : Nat) : zah (zau (l.take a)) := by
 refine mended_cells (fun i hi => ?_) (fun i hi h1 h2 => ?_)
 ·rw [List.length_take] at hi
  rw [zat _ _ _ (by omega)]; exact solo_of (h i (by omega))
 ·rw [List.length_take] at hi
  rw [zat _ _ _ (by omega)] at h1 h2 ⊢
  rw [zat _ _ _ (by omega)]
  exact paired_of h i (by omega) h1 h2
theorem cells_append {a b : List S98} (ha : zah a) (hb : zah b) : zah (a ++ b) := by
 intro i hi
 unfold zax
 rw [zbu, zbu, zbu, List.length_append]
 rw [List.length_append] at hi
 by_cases q : i < a.length
 ·rw [if_pos q]
  have c := ha i q
  refine ⟨c.1, ?_⟩
  rcases c.2 with z | z | z
  ·exact .inl z
  ·rw [if_pos z.2.2.1]
   exact .inr (.inl ⟨z.1, z.2.1, by omega, z.2.2.2⟩)
  ·rw [if_pos (show i - 1 < a.length by omega)]
   exact .inr (.inr z)
 ·rw [if_neg q]
  have c := hb (i - a.length) (by omega)
  refine ⟨c.1, ?_⟩
  rcases c.2 with z | z | z
  ·exact .inl z
  ·rw [if_neg (show ¬ (i + 1 < a.length) by omega), show i + 1 - a.length = i - a.length + 1 by omega]
   exact .inr (.inl ⟨z.1, z.2.1, by omega, z.2.2.2⟩)
  ·rw [if_neg (show ¬ (i - 1 < a.length) by omega), show i - 1 - a.length = i - a.length - 1 by omega]
   exact .inr (.inr ⟨z.1, z.2.1, by omega, z.2.2.2⟩)
theorem cells_rep (n : Nat) (s : S96) (hs : sokv s.f0 s.f1 = true) : zah (List.replicate n (blk s)) := by
 intro i hi
 rw [List.length_replicate] at hi
 unfold zax
 rw [cellAt_rep _ _ _ hi]
 exact ⟨hs, .inl ⟨rfl, wid_blank⟩⟩
theorem zce {l : List S98} (h : zah l) (h1 : 1 ≤ l.length) (h2 : l.length ≤ 60) : zap l := ⟨h1, h2, h⟩
theorem zb9 (l : List S98) (a : Nat) (h : a < l.length → (zab l a).f2 ≠ 2) : zbj l a = l := by
 unfold zbj
 rw [if_neg (fun q => h q.2.1 q.2.2)]
theorem take_self {l : List S98} (hr : zah l) (a : Nat) (ha : a ≤ l.length) (h : a < l.length → (zab l a).f2 ≠ 2) : zau (l.take a) = l.take a := by
 rw [← part_take hr a ha, zb9 l a h]
theorem zb1 (x : S98) : laws_eqCell.f x.f0 x.f1.f0 x.f1.f1 x.f1.f2 x.f1.f3 x.f1.f4 x.f2 x.f0 x.f1.f0 x.f1.f1 x.f1.f2 x.f1.f3 x.f1.f4 x.f2 = some true := by
 simp [laws_eqCell.f, laws_eqStyle.f]
theorem za8 (l : List S98) (hl : l.length < 9223372036854775807) : Ev (fun k => laws_eqCellS.f k l l) true := by
 have go : ∀ (d i : Nat), i + d = l.length → Ev (fun k => laws_eqCellS.l0 k l l (i : Int)) true := by
  intro d
  induction d with
  | zero =>
   intro i h
   refine zad ?_
   simp only [laws_eqCellS.l0]
   exact zac (by omega) (Ev.now _)
  | succ d ih =>
   intro i h
   refine zad ?_
   simp only [laws_eqCellS.l0, w64 (x := (i : Int) + 1) (by omega) (by omega), zb1, Option.bind_some]
   exact zaa (by omega) (zaa (by omega) (zaa (by omega) (zaa (by first | rfl | trivial) (ih (i + 1) (by omega)))))
 unfold laws_eqCellS.f
 exact zaa rfl (go l.length 0 (by omega))

theorem rdlc {l : List S151} {i : Nat} (h : i < l.length) : rd_T151 l (i : Int) = l[i] := by
 unfold rd_T151; rw [Int.toNat_natCast, List.getD_eq_getElem?_getD, List.getElem?_eq_getElem h]; rfl
def tocell (x : S151) : S98 := ⟨x.f0, ⟨x.f1.f0, x.f1.f1, x.f1.f2, x.f1.f3, x.f1.f4⟩, x.f2⟩
theorem zca (l : List S151) (hl : l.length ≤ 1048576) : Ev (fun k => laws_toCellS.f k l) (l.map tocell) := by
 have go : ∀ (d i : Nat) (m : List S98), i + d = l.length → m.length = l.length → Ev (fun k => laws_toCellS.l0 k l m (i : Int)) (m.take i ++ (l.drop i).map tocell) := by
  intro d
  induction d with
  | zero =>
   intro i m h hm
   refine zad ?_
   simp only [laws_toCellS.l0]
   refine zac (by omega) ?_
   rw [List.take_of_length_le (by omega), List.drop_of_length_le (by omega), List.map_nil, List.append_nil]
   exact Ev.now _
  | succ d ih =>
   intro i m h hm
   refine zad ?_
   simp only [laws_toCellS.l0, laws_toCell.f, laws_toStyle.f, Option.bind_some, w64 (x := (i : Int) + 1) (by omega) (by omega)]
   refine zaa (by omega) (zaa (by omega) (zaa (by omega) ?_))
   have := ih (i + 1) (m.set (i : Int).toNat (tocell (rd_T151 l (i : Int)))) (by omega) (by simpa using hm)
   refine zan this ?_
   rw [show (i : Int).toNat = i by omega, za2 _ _ _ (by omega), rdlc (by omega), List.append_assoc, List.singleton_append, ← List.map_cons, ← List.drop_eq_getElem_cons (by omega)]
 unfold laws_toCellS.f
 refine zaa (by omega) (zaa (by omega) ?_)
 have := go l.length 0 (List.replicate l.length z98) (by omega) (by simp)
 simpa using this
theorem rdLi (l : List (List S98)) (i : Nat) (h : i < l.length) : rd_L7 l (i : Int) = l[i] := by
 unfold rd_L7; rw [Int.toNat_natCast, List.getD_eq_getElem?_getD, List.getElem?_eq_getElem h]; rfl
theorem zb2 (l : List (List S98)) (hl : l.length < 9223372036854775807) (hw : ∀ x ∈ l, x.length < 9223372036854775807) : Ev (fun k => laws_eqCellSS.f k l l) true := by
 have go : ∀ (d i : Nat), i + d = l.length → Ev (fun k => laws_eqCellSS.l0 k l l (i : Int)) true := by
  intro d
  induction d with
  | zero =>
   intro i h
   refine zad ?_
   simp only [laws_eqCellSS.l0]
   exact zac (by omega) (Ev.now _)
  | succ d ih =>
   intro i h
   refine zad ?_
   simp only [laws_eqCellSS.l0, rdLi l i (by omega), w64 (x := (i : Int) + 1) (by omega) (by omega)]
   exact zaa (by omega) (zaa (by omega) (zaa (by omega) (Ev.bind (za8 _ (hw _ (List.getElem_mem _))) (zaa (by trivial) (ih (i + 1) (by omega))))))
 unfold laws_eqCellSS.f
 exact zaa (by trivial) (go l.length 0 (by omega))
theorem zbc (c : Int) (l : List (List S98)) (hl : l.length < 9223372036854775807) (hw : ∀ x ∈ l, x.length < 9223372036854775807) : Ev (fun k => laws_eqGrid.f k c l c l) true := by
 unfold laws_eqGrid.f
 exact zaa (by trivial) (Ev.bind (zb2 l hl hw) (zaa (by trivial) (Ev.now _)))

theorem rdLl (l : List (List S151)) (i : Nat) (h : i < l.length) : rd_L4 l (i : Int) = l[i] := by
 unfold rd_L4; rw [Int.toNat_natCast, List.getD_eq_getElem?_getD, List.getElem?_eq_getElem h]; rfl
theorem zbo (l : List S151) (a : Int) (h0 : 0 ≤ a) (ha : a ≤ 1048576) (hl : l.length ≤ maxLen) : ∃ r, laws_szCellS.f l a = some r ∧ (r < 0 ∨ (0 ≤ r ∧ r ≤ a ∧ (l.length : Int) ≤ a)) := by
 rw [maxLen_eq] at hl
 unfold laws_szCellS.f
 rw [w64 (x := a - (l.length : Int)) (by omega) (by omega)]
 by_cases h1 : a - (l.length : Int) < 0
 ·rw [if_pos h1]; exact ⟨_, rfl, .inl (by omega)⟩
 ·rw [if_neg h1]; exact ⟨_, rfl, .inr (by omega)⟩
theorem zb0 (l : List (List S151)) (a : Int) (h0 : 0 ≤ a) (ha : a ≤ 1048576) (hl : l.length ≤ maxLen) (hw : ∀ x ∈ l, x.length ≤ maxLen) :
  ∃ r, Ev (fun k => laws_szCellSS.f k l a) r ∧ (r < 0 ∨ (0 ≤ r ∧ r ≤ a ∧ (l.length : Int) ≤ a ∧ ∀ x ∈ l, (x.length : Int) ≤ a)) := by
 rw [maxLen_eq] at hl
 have go : ∀ (d i : Nat) (x : Int), i + d = l.length → 0 ≤ x → x ≤ a → ∃ r, Ev (fun k => laws_szCellSS.l0 k l x (i : Int)) r ∧ (r < 0 ∨ (0 ≤ r ∧ r ≤ x ∧ ∀ j (h : j < l.length), i ≤ j → (l[j].length : Int) ≤ a)) := by
  intro d
  induction d with
  | zero =>
   intro i x h hx0 hx1
   refine ⟨x, zad ?_, .inr ⟨hx0, Int.le_refl _, fun j hj hi => absurd hj (by omega)⟩⟩
   simp only [laws_szCellSS.l0]
   exact zac (by omega) (Ev.now _)
  | succ d ih =>
   intro i x h hx0 hx1
   obtain ⟨r1, e1, hr1⟩ := zbo l[i] x hx0 (by omega) (hw _ (List.getElem_mem _))
   have w2 : ∀ _ : Unit, wrap64 ((i : Int) + 1) = ((i + 1 : Nat) : Int) := fun _ => by rw [w64 (by omega) (by omega)]; omega
   by_cases c : r1 < 0
   ·refine ⟨-1, zad ?_, .inl (by omega)⟩
    simp only [laws_szCellSS.l0, rdLl l i (by omega), e1, Option.bind_some]
    exact zaa (by omega) (zaa (by omega) (zaa c (Ev.now _)))
   ·obtain ⟨r, e, hr⟩ := ih (i + 1) r1 (by omega) (by omega) (by omega)
    refine ⟨r, zad ?_, ?_⟩
    ·simp only [laws_szCellSS.l0, rdLl l i (by omega), e1, Option.bind_some, w2 ()]
     exact zaa (by omega) (zaa (by omega) (zac c e))
    ·rcases hr with hr | ⟨q0, q1, q2⟩
     ·exact .inl hr
     ·refine .inr ⟨q0, by omega, fun j hj hi => ?_⟩
      by_cases e : j = i
      ·subst e; omega
      ·exact q2 j hj (by omega)
 unfold laws_szCellSS.f
 rw [w64 (by omega) (by omega)]
 by_cases c : a - (l.length : Int) < 0
 ·exact ⟨-1, zaa c (Ev.now _), .inl (by omega)⟩
 ·obtain ⟨r, e, hr⟩ := go l.length 0 (a - (l.length : Int)) (by omega) (by omega) (by omega)
  refine ⟨r, zac c e, ?_⟩
  rcases hr with hr | ⟨q0, q1, q2⟩
  ·exact .inl hr
  ·refine .inr ⟨q0, by omega, by omega, fun x hx => ?_⟩
   obtain ⟨j, hj, rfl⟩ := List.mem_iff_getElem.mp hx
   exact q2 j hj (by omega)
theorem zbb (c : Int) (l : List (List S151)) (a : Int) (h0 : 0 ≤ a) (ha : a ≤ 1048576) (hl : l.length ≤ maxLen) (hw : ∀ x ∈ l, x.length ≤ maxLen) :
  ∃ r, Ev (fun k => laws_szGrid.f k c l a) r ∧ (r < 0 ∨ (0 ≤ r ∧ r ≤ a ∧ (l.length : Int) ≤ a ∧ ∀ x ∈ l, (x.length : Int) ≤ a)) := by
 obtain ⟨r, e, hr⟩ := zb0 l a h0 ha hl hw
 unfold laws_szGrid.f
 by_cases q : r < 0
 ·exact ⟨-1, Ev.bind e (zaa q (Ev.now _)), .inl (by omega)⟩
 ·exact ⟨r, Ev.bind e (zac q (Ev.now _)), hr⟩
def za0 (l : List S151) : List S98 := l.map tocell
theorem zbv (l : List S151) : (za0 l).length = l.length := List.length_map _
theorem zbz (l : List (List S151)) (hl : l.length ≤ 1048576) (hw : ∀ x ∈ l, x.length ≤ 1048576) : Ev (fun k => laws_toCellSS.f k l) (l.map za0) := by
 have go : ∀ (d i : Nat) (m : List (List S98)), i + d = l.length → m.length = l.length → Ev (fun k => laws_toCellSS.l0 k l m (i : Int)) (m.take i ++ (l.drop i).map za0) := by
  intro d
  induction d with
  | zero =>
   intro i m h hm
   refine zad ?_
   simp only [laws_toCellSS.l0]
   refine zac (by omega) ?_
   rw [List.take_of_length_le (by omega), List.drop_of_length_le (by omega), List.map_nil, List.append_nil]
   exact Ev.now _
  | succ d ih =>
   intro i m h hm
   refine zad ?_
   simp only [laws_toCellSS.l0, rdLl l i (by omega), w64 (x := (i : Int) + 1) (by omega) (by omega)]
   refine zaa (by omega) (zaa (by omega) (Ev.bind (zca _ (hw _ (List.getElem_mem _))) (zaa (by omega) ?_)))
   have := ih (i + 1) (m.set (i : Int).toNat (za0 l[i])) (by omega) (by simpa using hm)
   refine zan this ?_
   rw [show (i : Int).toNat = i by omega, za2 _ _ _ (by omega), List.append_assoc, List.singleton_append, ← List.map_cons, ← List.drop_eq_getElem_cons (by omega)]
 unfold laws_toCellSS.f
 refine zaa (by omega) (zaa (by omega) ?_)
 have := go l.length 0 (List.replicate l.length []) (by omega) (by simp)
 simpa using this
theorem zba (c : Int) (l : List (List S151)) (hl : l.length ≤ 1048576) (hw : ∀ x ∈ l, x.length ≤ 1048576) : Ev (fun k => laws_toGrid.f k c l) (c, l.map za0) := by
 unfold laws_toGrid.f
 exact Ev.bind (zbz l hl hw) (Ev.now _)

def zaq (c : Int) (l : List (List S98)) : Prop := 1 ≤ c ∧ c ≤ 60 ∧ 1 ≤ l.length ∧ l.length ≤ 30 ∧ ∀ x ∈ l, (x.length : Int) = c ∧ zap x
theorem zar (c : Int) (l : List (List S98)) : ∃ b, Ev (fun k => spec_GridOk.f k c l) b ∧ (b = true ↔ zaq c l) := by
 have go : l.length ≤ 30 → ∀ (d i : Nat), i + d = l.length → ∃ b, Ev (fun k => spec_GridOk.l0 k (i : Int) c l) b ∧ (b = true ↔ ∀ x ∈ l.drop i, (x.length : Int) = c ∧ zap x) := by
  intro hl d
  induction d with
  | zero =>
   intro i h
   refine ⟨true, zad ?_, by rw [List.drop_of_length_le (by omega)]; simp⟩
   simp only [spec_GridOk.l0]
   exact zac (by omega) (Ev.now _)
  | succ d ih =>
   intro i h
   obtain ⟨b, e, hb⟩ := ih (i + 1) (by omega)
   have w2 : ∀ _ : Unit, wrap64 ((i : Int) + 1) = ((i + 1 : Nat) : Int) := fun _ => by rw [w64 (by omega) (by omega)]; omega
   obtain ⟨b1, e1, hb1⟩ := zb6 l[i]
   rw [List.drop_eq_getElem_cons (by omega)]
   by_cases q : (l[i].length : Int) = c
   ·by_cases q1 : b1 = true
    ·refine ⟨b, zad ?_, ?_⟩
     ·simp only [spec_GridOk.l0, rdLi l i (by omega), w2 ()]
      exact zaa (by omega) (zaa (by omega) (zaa q (Ev.bind e1 (zaa q1 e))))
     ·rw [hb]
      constructor
      ·intro z x hx
       rcases List.mem_cons.mp hx with rfl | hx
       ·exact ⟨q, hb1.mp q1⟩
       ·exact z x hx
      ·intro z x hx; exact z x (List.mem_cons_of_mem _ hx)
    ·refine ⟨false, zad ?_, ⟨fun z => (by cases z), fun z => absurd (hb1.mpr (z _ List.mem_cons_self).2) q1⟩⟩
     simp only [spec_GridOk.l0, rdLi l i (by omega), w2 ()]
     exact zaa (by omega) (zaa (by omega) (zaa q (Ev.bind e1 (zac q1 (Ev.now _)))))
   ·refine ⟨false, zad ?_, ⟨fun z => (by cases z), fun z => absurd (z _ List.mem_cons_self).1 q⟩⟩
    simp only [spec_GridOk.l0, rdLi l i (by omega), w2 ()]
    exact zaa (by omega) (zaa (by omega) (zac q (Ev.now _)))
 have jt : Ev (fun k => spec_GridOk.j0 k true c l) false := by
  refine zad ?_
  simp only [spec_GridOk.j0]
  exact zaa (by trivial) (Ev.now _)
 unfold spec_GridOk.f
 by_cases h1 : 1 ≤ c ∧ c ≤ 60
 case neg =>
  refine ⟨false, zao (zak _ _ _) (zac ?_ jt), ⟨fun z => (by cases z), fun z => absurd ⟨z.1, z.2.1⟩ h1⟩⟩
  simp; omega
 have i1 : (decide (1 ≤ c) && decide (c ≤ 60)) = true := by simp; omega
 by_cases h2 : (l.length : Int) < 1
 ·exact ⟨false, zao (zak _ _ _) (zaa i1 (zaa h2 jt)), ⟨fun z => (by cases z), fun z => absurd z.2.2.1 (by omega)⟩⟩
 by_cases h3 : l.length ≤ 30
 ·obtain ⟨b, e, hb⟩ := go h3 l.length 0 (by omega)
  refine ⟨b, zao (zak _ _ _) (zaa i1 (zac h2 (zad ?_))), ?_⟩
  ·rw [decide_eq_false (by omega)]
   simp only [spec_GridOk.j0]
   exact zac (by simp) e
  ·rw [hb, List.drop_zero]
   exact ⟨fun z => ⟨h1.1, h1.2, by omega, h3, z⟩, fun z => z.2.2.2.2⟩
 ·refine ⟨false, zao (zak _ _ _) (zaa i1 (zac h2 ?_)), ⟨fun z => (by cases z), fun z => absurd z.2.2.2.1 h3⟩⟩
  rw [decide_eq_true (by omega)]
  exact jt
theorem zas (c : Int) (l : List (List S98)) (hw : ∀ x ∈ l, x.length ≤ 1048576) : ∃ b, Ev (fun k => impl_GridOk.f k c l) b ∧ (b = true ↔ zaq c l) := by
 have go : ∀ m : List (List S98), (∀ x ∈ m, x.length ≤ 1048576) → ∃ b, Ev (fun k => impl_GridOk.l0 k c m) b ∧ (b = false ↔ ∀ x ∈ m, (x.length : Int) = c ∧ zap x) := by
  intro m
  induction m with
  | nil =>
   intro _
   exact ⟨false, Ev.now _, by simp⟩
  | cons y m ih =>
   intro hm
   obtain ⟨b, e, hb⟩ := ih (fun x hx => hm x (List.mem_cons_of_mem _ hx))
   obtain ⟨b1, e1, hb1⟩ := zcd y (hm y List.mem_cons_self)
   by_cases q : (y.length : Int) = c
   ·by_cases q1 : b1 = true
    ·refine ⟨b, ?_, ?_⟩
     ·simp only [impl_GridOk.l0]
      exact zaa q (Ev.bind e1 (zaa q1 e))
     ·rw [hb]
      constructor
      ·intro z x hx
       rcases List.mem_cons.mp hx with rfl | hx
       ·exact ⟨q, hb1.mp q1⟩
       ·exact z x hx
      ·intro z x hx; exact z x (List.mem_cons_of_mem _ hx)
    ·refine ⟨true, ?_, ⟨fun z => (by cases z), fun z => absurd (hb1.mpr (z _ List.mem_cons_self).2) q1⟩⟩
     simp only [impl_GridOk.l0]
     exact zaa q (Ev.bind e1 (zac q1 (Ev.now _)))
   ·refine ⟨true, ?_, ⟨fun z => (by cases z), fun z => absurd (z _ List.mem_cons_self).1 q⟩⟩
    simp only [impl_GridOk.l0]
    exact zac q (Ev.now _)
 unfold impl_GridOk.f
 by_cases h1 : 1 ≤ c ∧ c ≤ 60
 case neg =>
  refine ⟨false, zao (zag _ _ _) (zac ?_ (Ev.now _)), ⟨fun z => (by cases z), fun z => absurd ⟨z.1, z.2.1⟩ h1⟩⟩
  simp; omega
 have i1 : (decide (1 ≤ c) && decide (c ≤ 60)) = true := by simp; omega
 by_cases h2 : 1 ≤ l.length ∧ l.length ≤ 30
 case neg =>
  refine ⟨false, zao (zag _ _ _) (zaa i1 (zao (zag _ _ _) (zac ?_ (Ev.now _)))), ⟨fun z => (by cases z), fun z => absurd ⟨z.2.2.1, z.2.2.2.1⟩ h2⟩⟩
  simp; omega
 have i2 : (decide (1 ≤ (l.length : Int)) && decide ((l.length : Int) ≤ 30)) = true := by simp; omega
 obtain ⟨b, e, hb⟩ := go l hw
 refine ⟨!b, zao (zag _ _ _) (zaa i1 (zao (zag _ _ _) (zaa i2 (Ev.bind e (Ev.now _))))), ?_⟩
 rw [Bool.not_eq_true', hb]
 exact ⟨fun z => ⟨h1.1, h1.2, h2.1, h2.2, z⟩, fun z => z.2.2.2.2⟩

def zcf (n : Int) (s : S96) : List S98 := if (decide (1 ≤ n) && decide (n ≤ 60)) = true ∧ sokv s.f0 s.f1 = true then List.replicate n.toNat (blk s) else []
theorem zcm (n : Int) (a b : Int) (c d e : Bool) : Ev (fun k => impl_Blank.f k n a b c d e) (zcf n ⟨a, b, c, d, e⟩) := by
 simp only [impl_Blank.f, zag, za9, Option.bind_some]
 by_cases h : (decide (1 ≤ n) && decide (n ≤ 60)) = true
 ·refine zaa h (zad ?_)
  simp only [impl_Blank.j0, impl_blank.f, Option.bind_some]
  by_cases q : sokv a b = true
  ·refine zac (by rw [q]; simp) ?_
   have h2 := h
   simp only [Bool.and_eq_true, decide_eq_true_eq] at h2
   have e1 : ∀ x : S98, impl_Cell_137.f [x] n = some (List.replicate n.toNat x) := by
    intro x
    unfold impl_Cell_137.f
    rw [if_pos ⟨rfl, by omega, by omega⟩]
    rfl
   rw [e1]
   refine zan (Ev.now _) ?_
   unfold zcf; rw [if_pos ⟨h, q⟩]; rfl
  ·refine zaa (by simp [q]) (zan (Ev.now _) ?_)
   unfold zcf; rw [if_neg (fun x => q x.2)]
 ·refine zac h (zad ?_)
  simp only [impl_Blank.j0]
  refine zaa (by trivial) (zan (Ev.now _) ?_)
  unfold zcf; rw [if_neg (fun x => h x.1)]

theorem zbh (n : Nat) (a b : Int) (c d e : Bool) (hn : n ≤ 1000000) : Ev (fun k => spec_l4Row.f k (n : Int) a b c d e) (List.replicate n (blk ⟨a, b, c, d, e⟩)) := by
 have go : ∀ (q i : Nat), i + q = n → Ev (fun k => spec_l4Row.l0 k (n : Int) (List.replicate i (blk ⟨a, b, c, d, e⟩)) (i : Int) a b c d e) (List.replicate n (blk ⟨a, b, c, d, e⟩)) := by
  intro q
  induction q with
  | zero =>
   intro i h
   obtain rfl : i = n := by omega
   refine zad ?_
   simp only [spec_l4Row.l0]
   exact zac (by omega) (Ev.now _)
  | succ q ih =>
   intro i h
   have := ih (i + 1) (by omega)
   have wi : ∀ _ : Unit, wrap64 ((i : Int) + 1) = ((i + 1 : Nat) : Int) := fun _ => by rw [w64 (by omega) (by omega)]; omega
   refine zad ?_
   simp only [spec_l4Row.l0, spec_l4Blank.f, Option.bind_some, wi ()]
   refine zaa (by omega) (zaa (by rw [List.length_replicate]; omega) ?_)
   rw [List.replicate_succ'] at this
   exact this
 unfold spec_l4Row.f
 exact go n 0 (by omega)

theorem zcl (l : List S98) (a : Nat) (hl : l.length < 1000000) (ha : a < 1000000) : Ev (fun k => impl_part.f k l (a : Int)) (zbj l a) := by
 by_cases h : a ≤ l.length
 ·exact impl_part_ev l a (by omega) h
 ·have w1 : ∀ _ : Unit, wrap64 ((l.length : Int) - 1) = (l.length : Int) - 1 := fun _ => w64 (by omega) (by omega)
  simp only [impl_part.f, zag, Option.bind_some, w1 ()]
  refine zac (by simp; omega) (zad ?_)
  simp only [impl_part.j0]
  refine zac (by simp) (zan (Ev.now _) ?_)
  rw [zb9 l a (fun q => absurd q (by omega))]
def b0 : S98 := blk ⟨0, 0, false, false, false⟩
def rowv (x : List S98) (c : Nat) : List S98 := zau (x.take c) ++ List.replicate (c - min c x.length) b0
theorem zbe (x : List S98) (c : Nat) : (rowv x c).length = c := by unfold rowv; rw [List.length_append, zaj, List.length_take, List.length_replicate]; omega
theorem rowv_right {x : List S98} (hx : zap x) (c : Nat) (h1 : 1 ≤ c) (h2 : c ≤ 60) : zap (rowv x c) :=
 zce (cells_append (mended_take (zb8 hx) c) (cells_rep _ ⟨0, 0, false, false, false⟩ (by decide))) (by rw [zbe]; exact h1) (by rw [zbe]; exact h2)
theorem blank0_right (c : Nat) (h1 : 1 ≤ c) (h2 : c ≤ 60) : zap (List.replicate c b0) :=
 zce (cells_rep c ⟨0, 0, false, false, false⟩ (by decide)) (by rw [List.length_replicate]; exact h1) (by rw [List.length_replicate]; exact h2)
theorem row_eq {x : List S98} (hx : zah x) (c : Nat) : (zbj x c).take (min c x.length) = zau (x.take c) := by
 by_cases h : c ≤ x.length
 ·rw [Nat.min_eq_left h, part_take hx c h]
 ·have e := take_self hx x.length (Nat.le_refl _) (fun q => absurd q (by omega))
  rw [Nat.min_eq_right (by omega), zb9 x c (fun q => absurd q (by omega)), List.take_of_length_le (Nat.le_refl x.length), List.take_of_length_le (show x.length ≤ c by omega)]
  rw [List.take_of_length_le (Nat.le_refl x.length)] at e
  exact e.symm
def zaf (l : List (List S98)) (c n : Nat) : List (List S98) := (l.drop (l.length - n)).map (fun x => rowv x c) ++ List.replicate (n - min n l.length) (List.replicate c b0)
theorem zai (l : List (List S98)) (c n : Nat) : (zaf l c n).length = n := by unfold zaf; rw [List.length_append, List.length_map, List.length_drop, List.length_replicate]; omega
theorem resizedv_get (l : List (List S98)) (c n j : Nat) (hj : j < n) : (zaf l c n)[j]'(by rw [zai]; exact hj) = if h : l.length - n + j < l.length then rowv l[l.length - n + j] c else List.replicate c b0 := by
 unfold zaf
 by_cases h : l.length - n + j < l.length
 ·rw [dif_pos h, List.getElem_append_left (by rw [List.length_map, List.length_drop]; omega), List.getElem_map, List.getElem_drop]
 ·rw [dif_neg h, List.getElem_append_right (by rw [List.length_map, List.length_drop]; omega), List.getElem_replicate]
theorem zbi (l : List (List S98)) (c n j : Nat) (hj : j < n) : (zaf l c n).take (j + 1) = (zaf l c n).take j ++ [if h : l.length - n + j < l.length then rowv l[l.length - n + j] c else List.replicate c b0] := by
 rw [List.take_succ_eq_append_getElem (by rw [zai]; exact hj), resizedv_get l c n j hj]
theorem zck {l : List (List S98)} (h : ∀ x ∈ l, zap x) (c n : Nat) (h1 : 1 ≤ c) (h2 : c ≤ 60) : ∀ x ∈ zaf l c n, x.length = c ∧ zap x := by
 intro x hx
 unfold zaf at hx
 rw [List.mem_append] at hx
 rcases hx with hx | hx
 ·obtain ⟨y, hy, rfl⟩ := List.mem_map.mp hx
  exact ⟨zbe _ _, rowv_right (h y (List.mem_of_mem_drop hy)) c h1 h2⟩
 ·obtain ⟨_, rfl⟩ := List.mem_replicate.mp hx
  exact ⟨List.length_replicate, blank0_right c h1 h2⟩
theorem zbn (w : Nat) (l : List (List S98)) (c n : Nat) (hl : l.length ≤ 30) (hw : ∀ x ∈ l, x.length = w) (h60 : w ≤ 60) (hc : c ≤ 60) (hn : n ≤ 30) :
  Ev (fun k => spec_l5Resized.f k (w : Int) l (c : Int) (n : Int)) ((c : Int), zaf l c n) := by
 have go : ∀ (d j : Nat), j + d = n → Ev (fun k => spec_l5Resized.l0 k (c : Int) (n : Int) ((l.length - n : Nat) : Int) ((l.length - n + j : Nat) : Int) (w : Int) l (c : Int) ((zaf l c n).take j)) ((c : Int), zaf l c n) := by
  intro d
  induction d with
  | zero =>
   intro j h
   have wf : ∀ _ : Unit, wrap64 (((l.length - n : Nat) : Int) + (n : Int)) = ((l.length - n + n : Nat) : Int) := fun _ => by rw [w64 (by omega) (by omega)]; omega
   refine zad ?_
   simp only [spec_l5Resized.l0, wf ()]
   refine zac (by omega) (zan (Ev.now _) ?_)
   rw [List.take_of_length_le (by rw [zai]; omega)]
  | succ d ih =>
   intro j h
   have e := ih (j + 1) (by omega)
   rw [zbi l c n j (by omega)] at e
   have wf : ∀ _ : Unit, wrap64 (((l.length - n : Nat) : Int) + (n : Int)) = ((l.length - n + n : Nat) : Int) := fun _ => by rw [w64 (by omega) (by omega)]; omega
   have wi : ∀ _ : Unit, wrap64 (((l.length - n + j : Nat) : Int) + 1) = ((l.length - n + (j + 1) : Nat) : Int) := fun _ => by rw [w64 (by omega) (by omega)]; omega
   have lt : ((zaf l c n).take j).length = j := by rw [List.length_take, zai]; omega
   refine zad ?_
   simp only [spec_l5Resized.l0, wf (), wi (), Option.bind_some]
   refine zaa (by omega) ?_
   by_cases q : l.length - n + j < l.length
   ·rw [dif_pos q] at e
    have hx := hw _ (List.getElem_mem q)
    have rd : ∀ _ : Unit, rd_L7 l ((l.length - n + j : Nat) : Int) = l[l.length - n + j] := fun _ => rdLi l (l.length - n + j) q
    have hmin : ∀ _ : Unit, spec_l1Min.f (c : Int) (w : Int) = some ((min c w : Nat) : Int) := fun _ => by
     unfold spec_l1Min.f
     by_cases z : (c : Int) < (w : Int)
     ·rw [if_pos z, show min c w = c by omega]
     ·rw [if_neg z, show min c w = w by omega]
    simp only [rd (), hmin (), Option.bind_some, Int.toNat_natCast]
    have ml : (zau (l[l.length - n + j].take (min c w))).length = min c w := by rw [zaj, List.length_take, hx]; omega
    have wr : ∀ _ : Unit, wrap64 ((c : Int) - ((zau (l[l.length - n + j].take (min c w))).length : Int)) = ((c - min c w : Nat) : Int) := fun _ => by rw [ml, w64 (by omega) (by omega)]; omega
    refine zaa (by omega) (zaa (by omega) (zaa (by omega) (zaa (by rw [hx]; omega) (Ev.bind (zbw _ (by rw [List.length_take, hx]; omega)) ?_))))
    simp only [wr ()]
    refine Ev.bind (zbh (c - min c w) 0 0 false false false (by omega)) (zaa (by rw [ml, List.length_replicate]; omega) (zaa (by rw [lt]; omega) ?_))
    have hr : zau (l[l.length - n + j].take (min c w)) ++ List.replicate (c - min c w) (blk ⟨0, 0, false, false, false⟩) = rowv l[l.length - n + j] c := by
     unfold rowv b0
     rw [hx]
     congr 2
     by_cases z : c ≤ w
     ·rw [Nat.min_eq_left z]
     ·rw [Nat.min_eq_right (by omega), List.take_of_length_le (by omega), List.take_of_length_le (by omega)]
    rw [hr]
    exact e
   ·rw [dif_neg q] at e
    have wr : ∀ _ : Unit, wrap64 ((c : Int) - (([] : List S98).length : Int)) = (c : Int) := fun _ => by rw [List.length_nil, w64 (by omega) (by omega)]; omega
    refine zac (by omega) ?_
    simp only [wr ()]
    refine Ev.bind (zbh c 0 0 false false false (by omega)) (zaa (by rw [List.length_nil, List.length_replicate]; omega) (zaa (by rw [lt]; omega) ?_))
    rw [List.nil_append]
    exact e
 have hmax : spec_l1Max.f 0 (wrap64 ((l.length : Int) - (n : Int))) = some ((l.length - n : Nat) : Int) := by
  unfold spec_l1Max.f
  have w1 : wrap64 ((l.length : Int) - (n : Int)) = (l.length : Int) - (n : Int) := w64 (by omega) (by omega)
  rw [w1]
  by_cases z : (0 : Int) > (l.length : Int) - (n : Int)
  ·rw [if_pos z]; congr 1; omega
  ·rw [if_neg z]; congr 1; omega
 unfold spec_l5Resized.f
 refine zao hmax ?_
 have := go n 0 (by omega)
 simpa using this
theorem zci (c n : Nat) (l : List (List S98)) (h1 : 1 ≤ c) (hc : c ≤ 60) (hn : n ≤ 30) : Ev (fun k => impl_Grid_blanks.f k (c : Int) l (n : Int) 0 0 false false false) (List.replicate n (List.replicate c b0)) := by
 have eb : Ev (fun k => impl_Blank.f k (c : Int) 0 0 false false false) (List.replicate c b0) := by
  refine zan (zcm (c : Int) 0 0 false false false) ?_
  unfold zcf
  rw [if_pos ⟨by simp; omega, by decide⟩, Int.toNat_natCast]; rfl
 have go : ∀ (q i : Nat), i + q = n → Ev (fun k => impl_Grid_blanks.l0 k (List.replicate i (List.replicate c b0)) (n : Int) (i : Int) (c : Int) l 0 0 false false false) (List.replicate n (List.replicate c b0)) := by
  intro q
  induction q with
  | zero =>
   intro i h
   obtain rfl : i = n := by omega
   refine zad ?_
   simp only [impl_Grid_blanks.l0]
   exact zac (by omega) (Ev.now _)
  | succ q ih =>
   intro i h
   have e := ih (i + 1) (by omega)
   have wi : ∀ _ : Unit, wrap64 ((i : Int) + 1) = ((i + 1 : Nat) : Int) := fun _ => by rw [w64 (by omega) (by omega)]; omega
   refine zad ?_
   simp only [impl_Grid_blanks.l0, wi ()]
   refine zaa (by omega) (Ev.bind eb (zaa (by rw [List.length_replicate]; omega) ?_))
   rw [List.replicate_succ'] at e
   exact e
 unfold impl_Grid_blanks.f
 exact go n 0 (by omega)
theorem zcc (w : Nat) (l : List (List S98)) (c n : Nat) (hl : l.length ≤ 30) (hw : ∀ x ∈ l, x.length = w) (hr : ∀ x ∈ l, zap x) (h60 : w ≤ 60) (h1 : 1 ≤ c) (hc : c ≤ 60) (hn : n ≤ 30) :
  Ev (fun k => impl_Grid_resized.f k (w : Int) l (c : Int) (n : Int)) ((c : Int), zaf l c n) := by
 have hmx : ∀ _ : Unit, mx 0 (wrap64 ((l.length : Int) - (n : Int))) = ((l.length - n : Nat) : Int) := fun _ => by
  have w1 : wrap64 ((l.length : Int) - (n : Int)) = (l.length : Int) - (n : Int) := w64 (by omega) (by omega)
  rw [w1]; unfold mx; split <;> omega
 have hmn : ∀ _ : Unit, mn (c : Int) (w : Int) = ((min c w : Nat) : Int) := fun _ => by unfold mn; split <;> omega
 have dl : (l.drop (l.length - n)).length = min n l.length := by rw [List.length_drop]; omega
 have fill : ∀ (d : Nat) (x : List S98) (y : List (List S98)) (i : Int) (out : List (List S98)) (r : Int × List (List S98)), x.length + d = c → out.length < 100 →
   Ev (fun k => impl_Grid_resized.l0 k (c : Int) (n : Int) y ((min n l.length : Nat) : Int) (wrap64 (i + 1)) (w : Int) l (c : Int) (out ++ [x ++ List.replicate d b0])) r →
   Ev (fun k => impl_Grid_resized.l1 k (c : Int) (n : Int) x y ((min n l.length : Nat) : Int) i (w : Int) l (c : Int) out) r := by
  intro d
  induction d with
  | zero =>
   intro x y i out r hx ho he
   rw [List.replicate_zero, List.append_nil] at he
   refine zad ?_
   simp only [impl_Grid_resized.l1]
   exact zac (by omega) (zaa (by omega) he)
  | succ d ih =>
   intro x y i out r hx ho he
   have e := ih (x ++ [b0]) y i out r (by rw [List.length_append, List.length_singleton]; omega) ho (by rw [List.append_assoc, List.singleton_append, ← List.replicate_succ]; exact he)
   refine zad ?_
   simp only [impl_Grid_resized.l1, impl_blank.f, Option.bind_some]
   exact zaa (by omega) (zaa (by omega) e)
 have go : ∀ (d j : Nat), j + d = min n l.length → Ev (fun k => impl_Grid_resized.l0 k (c : Int) (n : Int) (l.drop (l.length - n)) ((min n l.length : Nat) : Int) (j : Int) (w : Int) l (c : Int) ((zaf l c n).take j)) ((c : Int), zaf l c n) := by
  intro d
  induction d with
  | zero =>
   intro j h
   have lt : ((zaf l c n).take j).length = j := by rw [List.length_take, zai]; omega
   have wr : ∀ _ : Unit, wrap64 ((n : Int) - (((zaf l c n).take j).length : Int)) = ((n - min n l.length : Nat) : Int) := fun _ => by rw [lt, w64 (by omega) (by omega)]; omega
   refine zad ?_
   simp only [impl_Grid_resized.l0, wr ()]
   refine zac (by omega) (Ev.bind (zci c (n - min n l.length) _ h1 hc (by omega)) (zaa (by rw [lt, List.length_replicate]; omega) (zan (Ev.now _) ?_)))
   rw [Prod.mk.injEq]
   refine ⟨rfl, ?_⟩
   unfold zaf
   rw [List.take_left' (by rw [List.length_map, dl]; omega)]
  | succ d ih =>
   intro j h
   have e := ih (j + 1) (by omega)
   have q : l.length - n + j < l.length := by omega
   rw [zbi l c n j (by omega), dif_pos q] at e
   have lt : ((zaf l c n).take j).length = j := by rw [List.length_take, zai]; omega
   have hx := hw _ (List.getElem_mem q)
   have hxr := hr _ (List.getElem_mem q)
   have rd : ∀ _ : Unit, rd_L7 (l.drop (l.length - n)) (j : Int) = l[l.length - n + j] := fun _ => by rw [rdLi _ _ (by rw [dl]; omega), List.getElem_drop]
   have wi : ∀ _ : Unit, wrap64 ((j : Int) + 1) = ((j + 1 : Nat) : Int) := fun _ => by rw [w64 (by omega) (by omega)]; omega
   have cl : ∀ _ : Unit, impl_Cell_102.f l[l.length - n + j] = some l[l.length - n + j] := fun _ => by
    simp only [impl_Cell_102.f, Option.bind_some, List.nil_append]
    rw [if_pos (by simp [hx]; omega)]
   have re := row_eq (zb8 hxr) c
   rw [hx] at re
   refine zad ?_
   simp only [impl_Grid_resized.l0, rd (), cl (), hmn (), Option.bind_some, Int.toNat_natCast]
   refine zaa (by omega) (zaa (by omega) (zaa (by rw [dl]; omega) (Ev.bind (zcl _ c (by omega) (by omega)) (zaa (by omega) (zaa (by rw [hx]; omega) ?_)))))
   rw [re]
   have ml : (zau (l[l.length - n + j].take c)).length = min c w := by rw [zaj, List.length_take, hx]
   refine fill (c - min c w) _ _ _ _ _ (by rw [ml]; omega) (by rw [lt]; omega) ?_
   rw [wi ()]
   have hrv : zau (l[l.length - n + j].take c) ++ List.replicate (c - min c w) b0 = rowv l[l.length - n + j] c := by unfold rowv; rw [hx]
   rw [hrv]
   exact e
 simp only [impl_Grid_resized.f, hmx (), Option.bind_some, Int.toNat_natCast]
 refine zaa (by omega) (zaa (by omega) ?_)
 have := go (min n l.length) 0 (by omega)
 rw [dl]
 simpa using this

def cne (x y : S98) : Bool := (!(x.f0 == y.f0) || ((!(x.f1.f0 == y.f1.f0) || (!(x.f1.f1 == y.f1.f1) || (!(x.f1.f2 == y.f1.f2) || (!(x.f1.f3 == y.f1.f3) || (!(x.f1.f4 == y.f1.f4)))))) || (!(x.f2 == y.f2))))
def zay (a b : List S98) : Nat → Nat → Nat
 | 0, k => k
 | d + 1, k => if cne (zab a k) (zab b k) = true then zay a b d (k + 1) else k
theorem zcn (a b : List S98) : ∀ d k, k ≤ zay a b d k ∧ zay a b d k ≤ k + d
 | 0, k => by simp [zay]
 | d + 1, k => by
  have := zcn a b d (k + 1)
  unfold zay
  by_cases h : cne (zab a k) (zab b k) = true
  ·rw [if_pos h]; omega
  ·rw [if_neg h]; omega
def zbx (u : Int) (b : List S98) (k n : Nat) : List S101 := if k < n then [⟨u, (k : Int), (b.take n).drop k⟩] else []
theorem za7 (u : Int) (b : List S98) (k n : Nat) : (zbx u b k n).length ≤ 1 := by
 unfold zbx
 by_cases h : k < n
 ·rw [if_pos h]; simp
 ·rw [if_neg h]; simp
def za3 (u : Int) (a b : List S98) : Nat → Nat → List S101
 | 0, _ => []
 | d + 1, k => if k < b.length then zbx u b k (zay a b (b.length - k) k) ++ za3 u a b d (zay a b (b.length - k) k + 1) else []
theorem za6 (u : Int) (a b : List S98) : ∀ d k, (za3 u a b d k).length ≤ d
 | 0, _ => by simp [za3]
 | d + 1, k => by
  unfold za3
  by_cases h : k < b.length
  ·rw [if_pos h, List.length_append]
   have := za7 u b k (zay a b (b.length - k) k)
   have := za6 u a b d (zay a b (b.length - k) k + 1)
   omega
  ·rw [if_neg h]; simp
def zam (A B : List (List S98)) : Nat → Nat → List S101
 | 0, _ => []
 | d + 1, i => za3 (i : Int) (A.getD i []) (B.getD i []) 61 0 ++ zam A B d (i + 1)
def finv (c n : Int) (ch : List S101) : Int × Int × List S101 × Bool := if (ch.length : Int) > 400 then (0, 0, [], false) else (c, n, ch, true)
section
variable (A B : List (List S98)) (c n : Nat) (hA : A.length = n) (hB : B.length = n) (ha : ∀ x ∈ A, x.length = c) (hb : ∀ x ∈ B, x.length = c) (hc : c ≤ 60) (hn : n ≤ 30) (p : Int)
include hA hB ha hb hc hn
set_option linter.unusedSectionVars false
theorem spec_Diff_l2 (i : Nat) (hi : i < n) (ch : List S101) (hch : ch.length < 100000) (k : Nat) (r : Int × Int × List S101 × Bool) : ∀ (d m : Nat), m + d = c → k ≤ m →
  Ev (fun q => spec_Diff.l1 q (i : Int) ((zay (A[i]'(by omega)) (B[i]'(by omega)) d m + 1 : Nat) : Int) (c : Int) B (c : Int) (n : Int) (ch ++ zbx (i : Int) (B[i]'(by omega)) k (zay (A[i]'(by omega)) (B[i]'(by omega)) d m)) p A) r →
  Ev (fun q => spec_Diff.l2 q (i : Int) (k : Int) (m : Int) (c : Int) B (c : Int) (n : Int) ch p A) r := by
 have la : (A[i]'(by omega)).length = c := ha _ (List.getElem_mem _)
 have lb : (B[i]'(by omega)).length = c := hb _ (List.getElem_mem _)
 have ra : ∀ _ : Unit, rd_L7 A (i : Int) = A[i]'(by omega) := fun _ => rdLi A i (by omega)
 have rb : ∀ _ : Unit, rd_L7 B (i : Int) = B[i]'(by omega) := fun _ => rdLi B i (by omega)
 obtain ⟨a, hae⟩ : ∃ a, a = A[i]'(by omega) := ⟨_, rfl⟩
 obtain ⟨b, hbe⟩ : ∃ b, b = B[i]'(by omega) := ⟨_, rfl⟩
 simp only [← hae] at la ra ⊢
 simp only [← hbe] at lb rb ⊢
 intro d
 induction d with
 | zero =>
  intro m hm hk he
  have wi : ∀ _ : Unit, wrap64 ((m : Int) + 1) = ((m + 1 : Nat) : Int) := fun _ => by rw [w64 (by omega) (by omega)]; omega
  refine zad ?_
  simp only [spec_Diff.l2, rb (), wi (), Option.bind_some, List.nil_append, Int.toNat_natCast]
  simp only [zay] at he
  unfold zbx at he
  refine zac (by omega) ?_
  by_cases q : k < m
  ·rw [if_pos q] at he
   refine zaa (by omega) (zaa (by omega) (zaa (by omega) (zaa (by omega) (zaa (by omega) (zaa (by omega) (zaa ?_ (zaa (by omega) he)))))))
   rw [List.length_nil, List.length_drop, List.length_take]; omega
  ·rw [if_neg q, List.append_nil] at he
   exact zac (by omega) he
 | succ d ih =>
  intro m hm hk he
  have wi : ∀ _ : Unit, wrap64 ((m : Int) + 1) = ((m + 1 : Nat) : Int) := fun _ => by rw [w64 (by omega) (by omega)]; omega
  refine zad ?_
  simp only [spec_Diff.l2, ra (), rb (), wi (), Option.bind_some, List.nil_append, Int.toNat_natCast]
  simp only [zay] at he
  refine zaa (by omega) (zaa (by omega) (zaa (by omega) (zaa (by omega) (zaa (by omega) (zaa (by omega) (zaa (by omega) ?_))))))
  by_cases q : cne (zab a m) (zab b m) = true
  ·rw [if_pos q] at he
   exact zaa q (ih (m + 1) (by omega) (by omega) he)
  ·rw [if_neg q] at he
   refine zac q ?_
   unfold zbx at he
   by_cases q2 : k < m
   ·rw [if_pos q2] at he
    refine zaa (by omega) (zaa (by omega) (zaa (by omega) (zaa (by omega) (zaa ?_ (zaa (by omega) he)))))
    rw [List.length_nil, List.length_drop, List.length_take]; omega
   ·rw [if_neg q2, List.append_nil] at he
    exact zac (by omega) he
theorem spec_Diff_l1 (i : Nat) (hi : i < n) (r : Int × Int × List S101 × Bool) : ∀ (d k : Nat) (ch : List S101), c ≤ k + d → ch.length + d < 100000 →
  Ev (fun q => spec_Diff.l0 q ((i + 1 : Nat) : Int) (c : Int) B (c : Int) (n : Int) (ch ++ za3 (i : Int) (A[i]'(by omega)) (B[i]'(by omega)) d k) p A) r →
  Ev (fun q => spec_Diff.l1 q (i : Int) (k : Int) (c : Int) B (c : Int) (n : Int) ch p A) r := by
 have lb : (B[i]'(by omega)).length = c := hb _ (List.getElem_mem _)
 have wi : ∀ _ : Unit, wrap64 ((i : Int) + 1) = ((i + 1 : Nat) : Int) := fun _ => by rw [w64 (by omega) (by omega)]; omega
 intro d
 induction d with
 | zero =>
  intro k ch h1 h2 he
  refine zad ?_
  simp only [spec_Diff.l1, wi ()]
  simp only [za3, List.append_nil] at he
  exact zac (by omega) he
 | succ d ih =>
  intro k ch h1 h2 he
  refine zad ?_
  simp only [spec_Diff.l1, wi ()]
  unfold za3 at he
  rw [lb] at he
  by_cases q : k < c
  ·rw [if_pos q] at he
   have el := zcn (A[i]'(by omega)) (B[i]'(by omega)) (c - k) k
   have rl := za7 (i : Int) (B[i]'(by omega)) k (zay (A[i]'(by omega)) (B[i]'(by omega)) (c - k) k)
   refine zaa (by omega) (spec_Diff_l2 A B c n hA hB ha hb hc hn p i hi ch (by omega) k r (c - k) k (by omega) (Nat.le_refl _) ?_)
   refine ih _ _ (by omega) (by rw [List.length_append]; omega) ?_
   rw [List.append_assoc]
   exact he
  ·rw [if_neg q, List.append_nil] at he
   exact zac (by omega) he
theorem spec_Diff_l0 : ∀ (d i : Nat) (ch : List S101), i + d = n → ch.length + 61 * d < 90000 →
  Ev (fun q => spec_Diff.l0 q (i : Int) (c : Int) B (c : Int) (n : Int) ch p A) (finv (c : Int) (n : Int) (ch ++ zam A B d i)) := by
 intro d
 induction d with
 | zero =>
  intro i ch h1 h2
  refine zad ?_
  simp only [spec_Diff.l0, zam, List.append_nil]
  refine zac (by omega) ?_
  by_cases q : (ch.length : Int) > 400
  ·rw [show finv (c : Int) (n : Int) ch = (0, 0, [], false) from if_pos q]; exact zaa q (Ev.now _)
  ·rw [show finv (c : Int) (n : Int) ch = ((c : Int), (n : Int), ch, true) from if_neg q]; exact zac q (Ev.now _)
 | succ d ih =>
  intro i ch h1 h2
  have hi : i < n := by omega
  refine zad ?_
  simp only [spec_Diff.l0]
  refine zaa (by omega) ?_
  have rl := za6 (i : Int) (A[i]'(by omega)) (B[i]'(by omega)) 61 0
  have e := ih (i + 1) (ch ++ za3 (i : Int) (A[i]'(by omega)) (B[i]'(by omega)) 61 0) (by omega) (by rw [List.length_append]; omega)
  have eq : ch ++ za3 (i : Int) (A[i]'(by omega)) (B[i]'(by omega)) 61 0 ++ zam A B d (i + 1) = ch ++ zam A B (d + 1) i := by
   conv => rhs; unfold zam
   rw [List.append_assoc, List.getD_eq_getElem?_getD, List.getElem?_eq_getElem (by omega), List.getD_eq_getElem?_getD, List.getElem?_eq_getElem (by omega)]
   rfl
  rw [eq] at e
  exact spec_Diff_l1 A B c n hA hB ha hb hc hn p i hi _ 61 0 ch (by omega) (by omega) e
omit hA hB ha hb hn in
theorem impl_runs_l1 (u : Int) (a b : List S98) (la : a.length = c) (lb : b.length = c) (ch : List S101) (hch : ch.length < 100000) (k : Nat) (r : List S101) : ∀ (d m : Nat), m + d = c → k ≤ m →
  Ev (fun q => impl_runs.l0 q u a b (ch ++ zbx u b k (zay a b d m)) ((zay a b d m + 1 : Nat) : Int)) r → Ev (fun q => impl_runs.l1 q u a b ch (m : Int) (k : Int)) r := by
 have cl : ∀ _ : Unit, ∀ x : List S98, x.length ≤ 60 → impl_Cell_102.f x = some x := fun _ x hx => by
  simp only [impl_Cell_102.f, Option.bind_some, List.nil_append]
  rw [if_pos (by simp; omega)]
 have sl : ∀ m : Nat, m ≤ c → ((b.take m).drop k).length ≤ 60 := fun m hm => by rw [List.length_drop, List.length_take]; omega
 intro d
 induction d with
 | zero =>
  intro m hm hk he
  have wi : ∀ _ : Unit, wrap64 ((m : Int) + 1) = ((m + 1 : Nat) : Int) := fun _ => by rw [w64 (by omega) (by omega)]; omega
  refine zad ?_
  simp only [impl_runs.l1, wi (), Int.toNat_natCast, cl () _ (sl m (by omega)), Option.bind_some]
  simp only [zay] at he
  unfold zbx at he
  refine zac (by omega) ?_
  by_cases q : k < m
  ·rw [if_pos q] at he
   exact zaa (by omega) (zaa (by omega) (zaa (by omega) (zaa (by omega) (zaa (by omega) he))))
  ·rw [if_neg q, List.append_nil] at he
   exact zac (by omega) he
 | succ d ih =>
  intro m hm hk he
  have wi : ∀ _ : Unit, wrap64 ((m : Int) + 1) = ((m + 1 : Nat) : Int) := fun _ => by rw [w64 (by omega) (by omega)]; omega
  refine zad ?_
  simp only [impl_runs.l1, wi (), Int.toNat_natCast, cl () _ (sl m (by omega)), Option.bind_some]
  simp only [zay] at he
  refine zaa (by omega) (zaa (by omega) (zaa (by omega) ?_))
  by_cases q : cne (zab a m) (zab b m) = true
  ·rw [if_pos q] at he
   exact zaa q (ih (m + 1) (by omega) (by omega) he)
  ·rw [if_neg q] at he
   refine zac q ?_
   unfold zbx at he
   by_cases q2 : k < m
   ·rw [if_pos q2] at he
    exact zaa (by omega) (zaa (by omega) (zaa (by omega) (zaa (by omega) (zaa (by omega) he))))
   ·rw [if_neg q2, List.append_nil] at he
    exact zac (by omega) he
omit hA hB ha hb hn in
theorem impl_runs_ev (u : Int) (a b : List S98) (la : a.length = c) (lb : b.length = c) : Ev (fun q => impl_runs.f q u a b) (za3 u a b 61 0) := by
 have go : ∀ (d k : Nat) (ch : List S101), c < k + d → ch.length + d < 100000 → Ev (fun q => impl_runs.l0 q u a b ch (k : Int)) (ch ++ za3 u a b d k) := by
  intro d
  induction d with
  | zero =>
   intro k ch h1 h2
   refine zad ?_
   simp only [impl_runs.l0, za3, List.append_nil]
   exact zac (by omega) (Ev.now _)
  | succ d ih =>
   intro k ch h1 h2
   refine zad ?_
   simp only [impl_runs.l0]
   unfold za3
   rw [lb]
   by_cases q : k < c
   ·rw [if_pos q]
    have el := zcn a b (c - k) k
    have rl := za7 u b k (zay a b (c - k) k)
    refine zaa (by omega) (impl_runs_l1 c hc u a b la lb ch (by omega) k _ (c - k) k (by omega) (Nat.le_refl _) ?_)
    have e := ih (zay a b (c - k) k + 1) (ch ++ zbx u b k (zay a b (c - k) k)) (by omega) (by rw [List.length_append]; omega)
    rw [List.append_assoc] at e
    exact e
   ·rw [if_neg q, List.append_nil]
    exact zac (by omega) (Ev.now _)
 have := go 61 0 [] (by omega) (by simp)
 unfold impl_runs.f
 simpa using this
theorem impl_Diff_l0 : ∀ (d i : Nat) (ch : List S101), i + d = n → ch.length + 61 * d < 90000 →
  Ev (fun q => impl_Diff.l0 q B (n : Int) (i : Int) (c : Int) (n : Int) ch p A) (finv (c : Int) (n : Int) (ch ++ zam A B d i)) := by
 intro d
 induction d with
 | zero =>
  intro i ch h1 h2
  refine zad ?_
  simp only [impl_Diff.l0, zam, List.append_nil]
  refine zac (by omega) ?_
  by_cases q : (ch.length : Int) > 400
  ·rw [show finv (c : Int) (n : Int) ch = (0, 0, [], false) from if_pos q]; exact zaa q (Ev.now _)
  ·rw [show finv (c : Int) (n : Int) ch = ((c : Int), (n : Int), ch, true) from if_neg q]; exact zac q (Ev.now _)
 | succ d ih =>
  intro i ch h1 h2
  have hi : i < n := by omega
  have la : (A[i]'(by omega)).length = c := ha _ (List.getElem_mem _)
  have lb : (B[i]'(by omega)).length = c := hb _ (List.getElem_mem _)
  have ra : ∀ _ : Unit, rd_L7 A (i : Int) = A[i]'(by omega) := fun _ => rdLi A i (by omega)
  have rb : ∀ _ : Unit, rd_L7 B (i : Int) = B[i]'(by omega) := fun _ => rdLi B i (by omega)
  have wi : ∀ _ : Unit, wrap64 ((i : Int) + 1) = ((i + 1 : Nat) : Int) := fun _ => by rw [w64 (by omega) (by omega)]; omega
  have rl := za6 (i : Int) (A[i]'(by omega)) (B[i]'(by omega)) 61 0
  have e := ih (i + 1) (ch ++ za3 (i : Int) (A[i]'(by omega)) (B[i]'(by omega)) 61 0) (by omega) (by rw [List.length_append]; omega)
  have eq : ch ++ za3 (i : Int) (A[i]'(by omega)) (B[i]'(by omega)) 61 0 ++ zam A B d (i + 1) = ch ++ zam A B (d + 1) i := by
   conv => rhs; unfold zam
   rw [List.append_assoc, List.getD_eq_getElem?_getD, List.getElem?_eq_getElem (by omega), List.getD_eq_getElem?_getD, List.getElem?_eq_getElem (by omega)]
   rfl
  rw [eq] at e
  refine zad ?_
  simp only [impl_Diff.l0, ra (), rb (), wi ()]
  exact zaa (by omega) (zaa (by omega) (zaa (by omega) (zaa (by omega) (Ev.bind (impl_runs_ev c hc (i : Int) _ _ la lb) (zaa (by omega) e)))))
end
def diffv (la lb : List (List S98)) (c : Nat) : List S101 := zam (zaf la c lb.length) lb lb.length 0
theorem Diff_yes (ca cb : Int) (la lb : List (List S98)) (ha : zaq ca la) (hb : zaq cb lb) :
  Ev (fun k => spec_Diff.f k ca la cb lb) (finv cb (lb.length : Int) (diffv la lb cb.toNat)) ∧ Ev (fun k => impl_Diff.f k ca la cb lb) (finv cb (lb.length : Int) (diffv la lb cb.toNat)) := by
 obtain ⟨g1, g2, g3, g4, g5⟩ := id ha
 obtain ⟨f1, f2, f3, f4, f5⟩ := id hb
 obtain ⟨w, rfl⟩ := Int.eq_ofNat_of_zero_le (show 0 ≤ ca by omega)
 obtain ⟨c, rfl⟩ := Int.eq_ofNat_of_zero_le (show 0 ≤ cb by omega)
 rw [Int.toNat_natCast]
 have hw : ∀ x ∈ la, x.length = w := fun x hx => by have := (g5 x hx).1; omega
 have hx : ∀ x ∈ lb, x.length = c := fun x hx => by have := (f5 x hx).1; omega
 have hr := zck (fun q hq => (g5 q hq).2) c lb.length (by omega) (by omega)
 have rl := zai la c lb.length
 obtain ⟨b1, e1, hb1⟩ := zar (w : Int) la
 obtain ⟨b2, e2, hb2⟩ := zar (c : Int) lb
 obtain ⟨b3, e3, hb3⟩ := zas (w : Int) la (fun x hx => by rw [hw x hx]; omega)
 obtain ⟨b4, e4, hb4⟩ := zas (c : Int) lb (fun x h => by rw [hx x h]; omega)
 obtain rfl : b2 = true := hb2.mpr hb
 obtain rfl : b4 = true := hb4.mpr hb
 constructor
 ·refine Ev.bind e1 (zaa (hb1.mpr ha) (Ev.bind e2 (zad ?_)))
  simp only [spec_Diff.j0]
  refine zac (by simp) (Ev.bind (zbn w la c lb.length g4 hw (by omega) (by omega) (by omega)) ?_)
  have := spec_Diff_l0 (zaf la c lb.length) lb c lb.length rl rfl (fun x hx => (hr x hx).1) hx (by omega) (by omega) (c : Int) lb.length 0 [] (by omega) (by simp; omega)
  simpa [diffv] using this
 ·refine Ev.bind e3 (zaa (hb3.mpr ha) (Ev.bind e4 (zad ?_)))
  simp only [impl_Diff.j0]
  refine zac (by simp) (Ev.bind (zcc w la c lb.length g4 hw (fun x hx => (g5 x hx).2) (by omega) (by omega) (by omega) (by omega)) ?_)
  have := impl_Diff_l0 (zaf la c lb.length) lb c lb.length rl rfl (fun x hx => (hr x hx).1) hx (by omega) (by omega) (c : Int) lb.length 0 [] (by omega) (by simp; omega)
  simpa [diffv] using this
theorem Diff_no (ca cb : Int) (la lb : List (List S98)) (ha : ∀ x ∈ la, x.length ≤ 1048576) (hb : ∀ x ∈ lb, x.length ≤ 1048576) (h : ¬ (zaq ca la ∧ zaq cb lb)) :
  Ev (fun k => spec_Diff.f k ca la cb lb) (0, 0, [], false) ∧ Ev (fun k => impl_Diff.f k ca la cb lb) (0, 0, [], false) := by
 obtain ⟨b1, e1, hb1⟩ := zar ca la
 obtain ⟨b2, e2, hb2⟩ := zar cb lb
 obtain ⟨b3, e3, hb3⟩ := zas ca la ha
 obtain ⟨b4, e4, hb4⟩ := zas cb lb hb
 have s : Ev (fun k => spec_Diff.j0 k true ca la cb lb) (0, 0, [], false) := by
  refine zad ?_
  simp only [spec_Diff.j0]
  exact zaa (by trivial) (Ev.now _)
 have t : Ev (fun k => impl_Diff.j0 k true ca la cb lb) (0, 0, [], false) := by
  refine zad ?_
  simp only [impl_Diff.j0]
  exact zaa (by trivial) (Ev.now _)
 by_cases q : zaq ca la
 ·have z : ¬ zaq cb lb := fun z => h ⟨q, z⟩
  have z2 : b2 = false := by cases b2 with | false => rfl | true => exact absurd (hb2.mp rfl) z
  have z4 : b4 = false := by cases b4 with | false => rfl | true => exact absurd (hb4.mp rfl) z
  subst z2; subst z4
  exact ⟨Ev.bind e1 (zaa (hb1.mpr q) (Ev.bind e2 s)), Ev.bind e3 (zaa (hb3.mpr q) (Ev.bind e4 t))⟩
 ·exact ⟨Ev.bind e1 (zac (fun z => q (hb1.mp z)) s), Ev.bind e3 (zac (fun z => q (hb3.mp z)) t)⟩

def tm3 (x : Int) : Bool := (Int.tmod x 3 == 0)
def mkC (a : Int) : S98 := ⟨a, ⟨a + 1, a + 2, tm3 (a + 3), tm3 (a + 4), tm3 (a + 5)⟩, a + 6⟩
def zby : Nat → Int → List S98
 | 0, _ => []
 | n + 1, a => mkC a :: zby n (a + 7)
theorem za4 : ∀ (n : Nat) (a : Int), (zby n a).length = n
 | 0, _ => rfl
 | n + 1, a => by simp [zby, za4 n]
theorem mksC_get : ∀ (n : Nat) (a : Int) (i : Nat) (h : i < (zby n a).length), (zby n a)[i] = mkC (a + 7 * i)
 | n + 1, a, 0, _ => by simp [zby]
 | n + 1, a, i + 1, h => by
  simp only [zby, List.getElem_cons_succ]
  rw [mksC_get n (a + 7) i]
  have e : a + 7 + 7 * (i : Int) = a + 7 * ((i + 1 : Nat) : Int) := by omega
  rw [e]
theorem za1 (l : List S98) (a0 : Int) (h0 : 0 ≤ a0) (hl : a0 + 7 * l.length < 9007199254740992) : Ev (fun k => laws_markCellS.f k l a0) (a0 + 7 * (l.length : Int), zby l.length a0) := by
 have go : ∀ (d i : Nat) (m : List S98) (a : Int), 0 ≤ a → a + 7 * d < 9007199254740992 → i + d = l.length → m.length = l.length → l.length < 9007199254740992 → Ev (fun k => laws_markCellS.l0 k m a (i : Int)) (a + 7 * d, m.take i ++ zby d a) := by
  intro d
  induction d with
  | zero =>
   intro i m a h0 h1 h hm hlm
   refine zad ?_
   simp only [laws_markCellS.l0]
   refine zac (by omega) (zan (Ev.now _) ?_)
   rw [List.take_of_length_le (by omega)]
   simp [zby]
  | succ d ih =>
   intro i m a h0 h1 h hm hlm
   have w1 : ∀ _ : Unit, wrap64 (a + 1) = a + 1 := fun _ => w64 (by omega) (by omega)
   have w2 : ∀ _ : Unit, wrap64 (a + 1 + 1) = a + 2 := fun _ => by rw [w64 (by omega) (by omega)]; omega
   have w3 : ∀ _ : Unit, wrap64 (a + 2 + 1) = a + 3 := fun _ => by rw [w64 (by omega) (by omega)]; omega
   have w4 : ∀ _ : Unit, wrap64 (a + 3 + 1) = a + 4 := fun _ => by rw [w64 (by omega) (by omega)]; omega
   have w5 : ∀ _ : Unit, wrap64 (a + 4 + 1) = a + 5 := fun _ => by rw [w64 (by omega) (by omega)]; omega
   have w6 : ∀ _ : Unit, wrap64 (a + 5 + 1) = a + 6 := fun _ => by rw [w64 (by omega) (by omega)]; omega
   have w7 : ∀ _ : Unit, wrap64 (a + 6 + 1) = a + 7 := fun _ => by rw [w64 (by omega) (by omega)]; omega
   have wi : ∀ _ : Unit, wrap64 ((i : Int) + 1) = ((i + 1 : Nat) : Int) := fun _ => by rw [w64 (by omega) (by omega)]; omega
   have hr : ∀ v : S98, rd_T98 (m.set i v) (i : Int) = v := fun v => by rw [rdc (by rw [List.length_set]; omega), List.getElem_set_self]
   refine zad ?_
   simp only [laws_markCellS.l0, w1 (), w2 (), w3 (), w4 (), w5 (), w6 (), w7 (), wi (), Int.toNat_natCast, Option.bind_some, hr, List.set_set]
   refine zaa (by omega) (zaa (by omega) ?_)
   have := ih (i + 1) (m.set i (mkC a)) (a + 7) (by omega) (by omega) (by omega) (by simpa using hm) hlm
   refine zan this ?_
   rw [za2 _ _ _ (by omega), List.append_assoc, List.singleton_append]
   have e : a + 7 + 7 * (d : Int) = a + 7 * ((d + 1 : Nat) : Int) := by omega
   rw [e]; rfl
 unfold laws_markCellS.f
 have := go l.length 0 l a0 (by omega) (by omega) (by omega) rfl (by omega)
 simpa using this
theorem zbr (n : Nat) (a0 : Int) (h0 : 0 ≤ a0) (hn : a0 + 7 * n < 9007199254740992) : Ev (fun k => laws_heldCellS.f k (zby n a0) a0) (a0 + 7 * (n : Int)) := by
 have go : ∀ (d i : Nat), i + d = n → Ev (fun k => laws_heldCellS.l0 k (zby n a0) (a0 + 7 * (i : Int)) (i : Int)) (a0 + 7 * (n : Int)) := by
  intro d
  induction d with
  | zero =>
   intro i h
   obtain rfl : i = n := by omega
   refine zad ?_
   simp only [laws_heldCellS.l0]
   exact zac (by rw [za4]; omega) (Ev.now _)
  | succ d ih =>
   intro i h
   have hr : rd_T98 (zby n a0) (i : Int) = mkC (a0 + 7 * i) := by rw [rdc (by rw [za4]; omega), mksC_get]
   obtain ⟨a, ha⟩ : ∃ a, a = a0 + 7 * (i : Int) := ⟨_, rfl⟩
   have hb : 0 ≤ a ∧ a + 7 < 9007199254740992 := by omega
   have hn2 : ((i + 1 : Nat) : Int) < 9007199254740992 := by omega
   have hnext : a + 7 = a0 + 7 * ((i + 1 : Nat) : Int) := by omega
   rw [← ha] at hr ⊢
   have := ih (i + 1) (by omega)
   rw [← hnext] at this
   have w1 : ∀ _ : Unit, wrap64 (a + 1) = a + 1 := fun _ => w64 (by omega) (by omega)
   have w2 : ∀ _ : Unit, wrap64 (a + 1 + 1) = a + 2 := fun _ => by rw [w64 (by omega) (by omega)]; omega
   have w3 : ∀ _ : Unit, wrap64 (a + 2 + 1) = a + 3 := fun _ => by rw [w64 (by omega) (by omega)]; omega
   have w4 : ∀ _ : Unit, wrap64 (a + 3 + 1) = a + 4 := fun _ => by rw [w64 (by omega) (by omega)]; omega
   have w5 : ∀ _ : Unit, wrap64 (a + 4 + 1) = a + 5 := fun _ => by rw [w64 (by omega) (by omega)]; omega
   have w6 : ∀ _ : Unit, wrap64 (a + 5 + 1) = a + 6 := fun _ => by rw [w64 (by omega) (by omega)]; omega
   have w7 : ∀ _ : Unit, wrap64 (a + 6 + 1) = a + 7 := fun _ => by rw [w64 (by omega) (by omega)]; omega
   have wi : ∀ _ : Unit, wrap64 ((i : Int) + 1) = ((i + 1 : Nat) : Int) := fun _ => by rw [w64 (by omega) (by omega)]; omega
   refine zad ?_
   simp only [laws_heldCellS.l0, hr, mkC, tm3, w1 (), w2 (), w3 (), w4 (), w5 (), w6 (), w7 (), wi (), bne_self_eq_false]
   exact zaa (by rw [za4]; omega) (zaa (by omega) (zaa (by trivial) (zaa (by trivial) (zaa (by trivial) (zac (by simp) (zac (by simp) (zac (by simp) (zaa (by trivial) this))))))))
 unfold laws_heldCellS.f
 have := go n 0 (by omega)
 simpa using this

def mksCC : List Nat → Int → List (List S98)
 | [], _ => []
 | n :: ns, a => zby n a :: mksCC ns (a + 7 * (n : Int))
def sumN : List Nat → Nat
 | [] => 0
 | n :: ns => n + sumN ns
theorem zbk (l : List (List S98)) (a0 : Int) (h0 : 0 ≤ a0) (hl : l.length < 4611686018427387904) (hs : a0 + 7 * (sumN (l.map List.length) : Int) < 9007199254740992) :
  Ev (fun k => laws_markCellSS.f k l a0) (a0 + 7 * (sumN (l.map List.length) : Int), mksCC (l.map List.length) a0) := by
 have go : ∀ (r : List (List S98)) (p : List (List S98)) (a : Int), 0 ≤ a → p.length + r.length < 4611686018427387904 → a + 7 * (sumN (r.map List.length) : Int) < 9007199254740992 →
   Ev (fun k => laws_markCellSS.l0 k (p ++ r) a (p.length : Int)) (a + 7 * (sumN (r.map List.length) : Int), p ++ mksCC (r.map List.length) a) := by
  intro r
  induction r with
  | nil =>
   intro p a _ _ _
   refine zad ?_
   simp only [laws_markCellSS.l0, List.append_nil]
   refine zac (by omega) (zan (Ev.now _) ?_)
   simp [sumN, mksCC]
  | cons x r ih =>
   intro p a ha hn hb
   simp only [List.map_cons, sumN, List.length_cons] at hb hn
   have e := ih (p ++ [zby x.length a]) (a + 7 * (x.length : Int)) (by omega) (by simp; omega) (by omega)
   have wi : ∀ _ : Unit, wrap64 ((p.length : Int) + 1) = ((p.length + 1 : Nat) : Int) := fun _ => by rw [w64 (by omega) (by omega)]; omega
   have gd : (p ++ x :: r).getD p.length [] = x := by simp
   have sd : (p ++ x :: r).set p.length (zby x.length a) = p ++ [zby x.length a] ++ r := by simp
   refine zad ?_
   simp only [laws_markCellSS.l0, wi (), Int.toNat_natCast, gd]
   refine zaa (by simp; omega) (zaa (by omega) (Ev.bind (za1 x a ha (by omega)) ?_))
   simp only [sd]
   rw [show (p ++ [zby x.length a]).length = p.length + 1 by simp] at e
   refine zan e ?_
   simp only [List.map_cons, sumN, mksCC, List.append_assoc, List.singleton_append, Prod.mk.injEq, and_true]
   omega
 have := go l [] a0 h0 (by simpa using hl) hs
 unfold laws_markCellSS.f
 simpa using this
theorem za5 (c : Int) (l : List (List S98)) (a0 : Int) (h0 : 0 ≤ a0) (hl : l.length < 4611686018427387904) (hs : a0 + 7 * (sumN (l.map List.length) : Int) < 9007199254740992) :
  Ev (fun k => laws_markGrid.f k c l a0) (a0 + 7 * (sumN (l.map List.length) : Int), mksCC (l.map List.length) a0) := by
 unfold laws_markGrid.f
 exact Ev.bind (zbk l a0 h0 hl hs) (Ev.now _)
theorem sumN_le (ns : List Nat) (b : Nat) (h : ∀ n ∈ ns, n ≤ b) : sumN ns ≤ b * ns.length := by
 induction ns with
 | nil => simp [sumN]
 | cons x r ih =>
  have h1 := h x (by simp)
  have h2 := ih (fun n hn => h n (by simp [hn]))
  simp only [sumN, List.length_cons, Nat.mul_succ]
  omega

theorem rdch (l : List S101) (i : Nat) (h : i < l.length) : rd_T101 l (i : Int) = l[i] := by
 unfold rd_T101; rw [Int.toNat_natCast, List.getD_eq_getElem?_getD, List.getElem?_eq_getElem h]; rfl
theorem zbs (l : List S101) (hl : l.length < 4611686018427387904) (hw : ∀ x ∈ l, x.f2.length < 4611686018427387904) : Ev (fun k => laws_eqChangeS.f k l l) true := by
 have go : ∀ (d i : Nat), i + d = l.length → Ev (fun k => laws_eqChangeS.l0 k l l (i : Int)) true := by
  intro d
  induction d with
  | zero =>
   intro i h
   refine zad ?_
   simp only [laws_eqChangeS.l0]
   exact zac (by omega) (Ev.now _)
  | succ d ih =>
   intro i h
   refine zad ?_
   have wi : ∀ _ : Unit, wrap64 ((i : Int) + 1) = ((i + 1 : Nat) : Int) := fun _ => by rw [w64 (by omega) (by omega)]; omega
   simp only [laws_eqChangeS.l0, rdch l i (by omega), wi (), laws_eqChange.f]
   refine zaa (by omega) (zaa (by omega) (zaa (by omega) (Ev.bind (a := true) ?_ (zaa (by trivial) (ih (i + 1) (by omega))))))
   exact zaa (by trivial) (zaa (by trivial) (Ev.bind (za8 _ (by have := hw _ (List.getElem_mem (l := l) (n := i) (by omega)); omega)) (zaa (by trivial) (Ev.now _))))
 unfold laws_eqChangeS.f
 exact zaa (by trivial) (go l.length 0 (by omega))
theorem zcb (c n : Int) (l : List S101) (hl : l.length < 4611686018427387904) (hw : ∀ x ∈ l, x.f2.length < 4611686018427387904) : Ev (fun k => laws_eqPatch.f k c n l c n l) true := by
 unfold laws_eqPatch.f
 exact zaa (by trivial) (zaa (by trivial) (Ev.bind (zbs l hl hw) (zaa (by trivial) (Ev.now _))))
def mksP : List Nat → Int → List S101
 | [], _ => []
 | n :: ns, a => ⟨a, a + 1, zby n (a + 2)⟩ :: mksP ns (a + 2 + 7 * (n : Int))
def zb5 : List Nat → Nat
 | [] => 0
 | n :: ns => 2 + 7 * n + zb5 ns
theorem sumP_le (ns : List Nat) (b : Nat) (h : ∀ n ∈ ns, n ≤ b) : zb5 ns ≤ (2 + 7 * b) * ns.length := by
 induction ns with
 | nil => simp [zb5]
 | cons x r ih =>
  have h1 := h x (by simp)
  have h2 := ih (fun n hn => h n (by simp [hn]))
  simp only [zb5, List.length_cons, Nat.mul_succ]
  omega
theorem zbf (l : List S101) (a0 : Int) (h0 : 0 ≤ a0) (hl : l.length < 4611686018427387904) (hs : a0 + (zb5 (l.map fun x => x.f2.length) : Int) < 9007199254740992) :
  Ev (fun k => laws_markChangeS.f k l a0) (a0 + (zb5 (l.map fun x => x.f2.length) : Int), mksP (l.map fun x => x.f2.length) a0) := by
 have go : ∀ (r : List S101) (p : List S101) (a : Int), 0 ≤ a → p.length + r.length < 4611686018427387904 → a + (zb5 (r.map fun x => x.f2.length) : Int) < 9007199254740992 →
   Ev (fun k => laws_markChangeS.l0 k (p ++ r) a (p.length : Int)) (a + (zb5 (r.map fun x => x.f2.length) : Int), p ++ mksP (r.map fun x => x.f2.length) a) := by
  intro r
  induction r with
  | nil =>
   intro p a _ _ _
   refine zad ?_
   simp only [laws_markChangeS.l0, List.append_nil]
   refine zac (by omega) (zan (Ev.now _) ?_)
   simp [zb5, mksP]
  | cons x r ih =>
   intro p a ha hn hb
   simp only [List.map_cons, zb5, List.length_cons] at hb hn
   have e := ih (p ++ [⟨a, a + 1, zby x.f2.length (a + 2)⟩]) (a + 2 + 7 * (x.f2.length : Int)) (by omega) (by simp; omega) (by omega)
   have wi : ∀ _ : Unit, wrap64 ((p.length : Int) + 1) = ((p.length + 1 : Nat) : Int) := fun _ => by rw [w64 (by omega) (by omega)]; omega
   have w1 : ∀ _ : Unit, wrap64 (a + 1) = a + 1 := fun _ => w64 (by omega) (by omega)
   have w2 : ∀ _ : Unit, wrap64 (a + 1 + 1) = a + 2 := fun _ => by rw [w64 (by omega) (by omega)]; omega
   have gd : ∀ z : S101, (p ++ x :: r).getD p.length z = x := fun z => by simp
   have sd : ∀ y : S101, (p ++ x :: r).set p.length y = p ++ [y] ++ r := fun y => by simp
   refine zad ?_
   simp only [laws_markChangeS.l0, wi (), w1 (), w2 (), Int.toNat_natCast, gd]
   refine zaa (by simp; omega) (zaa (by omega) (Ev.bind (za1 x.f2 (a + 2) (by omega) (by omega)) ?_))
   simp only [sd]
   rw [show (p ++ [(⟨a, a + 1, zby x.f2.length (a + 2)⟩ : S101)]).length = p.length + 1 by simp] at e
   refine zan e ?_
   simp only [List.map_cons, zb5, mksP, List.append_assoc, List.singleton_append, Prod.mk.injEq, and_true]
   omega
 have := go l [] a0 h0 (by simpa using hl) hs
 unfold laws_markChangeS.f
 simpa using this
theorem zbg (ns : List Nat) (a0 : Int) (h0 : 0 ≤ a0) (hl : ns.length < 4611686018427387904) (hs : a0 + (zb5 ns : Int) < 9007199254740992) : Ev (fun k => laws_heldChangeS.f k (mksP ns a0) a0) (a0 + (zb5 ns : Int)) := by
 have go : ∀ (r : List Nat) (p : List S101) (a : Int), 0 ≤ a → p.length + r.length < 4611686018427387904 → a + (zb5 r : Int) < 9007199254740992 →
   Ev (fun k => laws_heldChangeS.l0 k (p ++ mksP r a) a (p.length : Int)) (a + (zb5 r : Int)) := by
  intro r
  induction r with
  | nil =>
   intro p a _ _ _
   refine zad ?_
   simp only [laws_heldChangeS.l0, mksP, List.append_nil]
   refine zac (by omega) (zan (Ev.now _) ?_)
   simp [zb5]
  | cons x r ih =>
   intro p a ha hn hb
   simp only [zb5, List.length_cons] at hb hn
   have e := ih (p ++ [⟨a, a + 1, zby x (a + 2)⟩]) (a + 2 + 7 * (x : Int)) (by omega) (by simp; omega) (by omega)
   have wi : ∀ _ : Unit, wrap64 ((p.length : Int) + 1) = ((p.length + 1 : Nat) : Int) := fun _ => by rw [w64 (by omega) (by omega)]; omega
   have w1 : ∀ _ : Unit, wrap64 (a + 1) = a + 1 := fun _ => w64 (by omega) (by omega)
   have w2 : ∀ _ : Unit, wrap64 (a + 1 + 1) = a + 2 := fun _ => by rw [w64 (by omega) (by omega)]; omega
   have gd : ∀ _ : Unit, rd_T101 (p ++ (⟨a, a + 1, zby x (a + 2)⟩ : S101) :: mksP r (a + 2 + 7 * (x : Int))) (p.length : Int) = ⟨a, a + 1, zby x (a + 2)⟩ := fun _ => by rw [rdch _ _ (by simp)]; simp
   refine zad ?_
   simp only [laws_heldChangeS.l0, wi (), mksP, gd (), w1 (), w2 ()]
   refine zaa (by simp; omega) (zaa (by omega) (zaa (by trivial) (zaa (by trivial) (Ev.bind (zbr x (a + 2) (by omega) (by omega)) (zac (by omega) ?_)))))
   rw [show (p ++ [(⟨a, a + 1, zby x (a + 2)⟩ : S101)]).length = p.length + 1 by simp, List.append_assoc, List.singleton_append] at e
   refine zan e ?_
   simp only [zb5]
   omega
 have := go ns [] a0 h0 (by simpa using hl) hs
 unfold laws_heldChangeS.f
 simpa using this
theorem zbp (c n : Int) (l : List S101) (a0 : Int) (h0 : 0 ≤ a0) (hl : l.length < 4611686018427387904) (hs : a0 + (zb5 (l.map fun x => x.f2.length) : Int) < 9007199254740992) :
  Ev (fun k => laws_markPatch.f k c n l a0) (a0 + (zb5 (l.map fun x => x.f2.length) : Int), mksP (l.map fun x => x.f2.length) a0) := by
 unfold laws_markPatch.f
 exact Ev.bind (zbf l a0 h0 hl hs) (Ev.now _)
theorem zbq (c n : Int) (ns : List Nat) (a0 : Int) (h0 : 0 ≤ a0) (hl : ns.length < 4611686018427387904) (hs : a0 + (zb5 ns : Int) < 9007199254740992) : Ev (fun k => laws_heldPatch.f k c n (mksP ns a0) a0) (a0 + (zb5 ns : Int)) := by
 unfold laws_heldPatch.f
 exact Ev.bind (zbg ns a0 h0 hl hs) (zac (by omega) (Ev.now _))

theorem runAt_cells (u : Int) (b : List S98) (k n : Nat) : ∀ x ∈ zbx u b k n, x.f2.length ≤ b.length := by
 intro x hx
 unfold zbx at hx
 by_cases h : k < n
 ·rw [if_pos h, List.mem_singleton] at hx
  rw [hx]
  show ((b.take n).drop k).length ≤ _
  rw [List.length_drop, List.length_take]; omega
 ·rw [if_neg h] at hx; cases hx
theorem zb7 (u : Int) (a b : List S98) : ∀ d k, ∀ x ∈ za3 u a b d k, x.f2.length ≤ b.length
 | 0, _ => fun x hx => by simp [za3] at hx
 | d + 1, k => fun x hx => by
  unfold za3 at hx
  by_cases h : k < b.length
  ·rw [if_pos h, List.mem_append] at hx
   rcases hx with hx | hx
   ·exact runAt_cells _ _ _ _ x hx
   ·exact zb7 u a b d _ x hx
  ·rw [if_neg h] at hx; cases hx
theorem zbd (A B : List (List S98)) (c : Nat) (hb : ∀ x ∈ B, x.length ≤ c) : ∀ d i, ∀ x ∈ zam A B d i, x.f2.length ≤ c
 | 0, _ => fun x hx => by simp [zam] at hx
 | d + 1, i => fun x hx => by
  unfold zam at hx
  rw [List.mem_append] at hx
  rcases hx with hx | hx
  ·have h1 := zb7 _ _ _ _ _ x hx
   have h2 : (B.getD i []).length ≤ c := by
    rw [List.getD_eq_getElem?_getD]
    rcases Nat.lt_or_ge i B.length with q | q
    ·rw [List.getElem?_eq_getElem q]; exact hb _ (List.getElem_mem _)
    ·rw [List.getElem?_eq_none q]; exact Nat.zero_le _
   omega
  ·exact zbd A B c hb d _ x hx
theorem Diff_some (ca cb : Int) (la lb : List (List S98)) (ha : ∀ x ∈ la, x.length ≤ 1048576) (hb : ∀ x ∈ lb, x.length ≤ 1048576) :
  ∃ (c n : Int) (ch : List S101) (g : Bool), ch.length ≤ 400 ∧ (∀ x ∈ ch, x.f2.length ≤ 60) ∧ Ev (fun k => spec_Diff.f k ca la cb lb) (c, n, ch, g) ∧ Ev (fun k => impl_Diff.f k ca la cb lb) (c, n, ch, g) := by
 by_cases h : zaq ca la ∧ zaq cb lb
 ·obtain ⟨e1, e2⟩ := Diff_yes ca cb la lb h.1 h.2
  unfold finv at e1 e2
  by_cases q : ((diffv la lb cb.toNat).length : Int) > 400
  ·rw [if_pos q] at e1 e2
   exact ⟨0, 0, [], false, by simp, by simp, e1, e2⟩
  ·rw [if_neg q] at e1 e2
   refine ⟨cb, _, diffv la lb cb.toNat, true, by omega, fun x hx => ?_, e1, e2⟩
   exact zbd _ lb 60 (fun y hy => (h.2.2.2.2.2 y hy).2.2.1) _ _ x hx
 ·obtain ⟨e1, e2⟩ := Diff_no ca cb la lb ha hb h
  exact ⟨0, 0, [], false, by simp, by simp, e1, e2⟩
theorem FnExactDiff : laws_FnExactDiff.Aim := by
 intro ca la cb lb _ hla _ hlb
 refine Ev.rounds ?_
 unfold laws_FnExactDiff.f
 obtain ⟨r, er, hr⟩ := zbb ca la 1048576 (by omega) (by omega) hla.1 (fun x hx => (hla.2 x hx).1)
 refine Ev.bind er ?_
 by_cases h : r < 0
 ·exact zaa h (Ev.now _)
 refine zac h ?_
 have h1 : la.length ≤ 1048576 ∧ (∀ x ∈ la, x.length ≤ 1048576) ∧ r ≤ 1048576 := by
  rcases hr with hr | ⟨_, q1, q2, q3⟩
  ·exact absurd hr h
  ·exact ⟨by omega, fun x hx => by have := q3 x hx; omega, q1⟩
 obtain ⟨r2, er2, hr2⟩ := zbb cb lb r (by omega) h1.2.2 hlb.1 (fun x hx => (hlb.2 x hx).1)
 refine Ev.bind er2 ?_
 by_cases h' : r2 < 0
 ·exact zaa h' (Ev.now _)
 refine zac h' ?_
 have h2 : lb.length ≤ 1048576 ∧ ∀ x ∈ lb, x.length ≤ 1048576 := by
  rcases hr2 with hr2 | ⟨_, q1, q2, q3⟩
  ·exact absurd hr2 h'
  ·exact ⟨by omega, fun x hx => by have := q3 x hx; omega⟩
 have ta := zba ca la h1.1 h1.2.1
 have tb := zba cb lb h2.1 h2.2
 have ka : ∀ x ∈ la.map za0, x.length ≤ 1048576 := by
  intro x hx
  obtain ⟨y, hy, rfl⟩ := List.mem_map.mp hx
  rw [zbv]; exact h1.2.1 y hy
 have kb : ∀ x ∈ lb.map za0, x.length ≤ 1048576 := by
  intro x hx
  obtain ⟨y, hy, rfl⟩ := List.mem_map.mp hx
  rw [zbv]; exact h2.2 y hy
 have lA : (la.map za0).length ≤ 1048576 := by rw [List.length_map]; exact h1.1
 have lB : (lb.map za0).length ≤ 1048576 := by rw [List.length_map]; exact h2.1
 obtain ⟨c, n, ch, g, hc, hw, e1, e2⟩ := Diff_some ca cb (la.map za0) (lb.map za0) ka kb
 have eq := zcb c n ch (by omega) (fun x hx => by have := hw x hx; omega)
 have eqa := zbc ca (la.map za0) (by omega) (fun x hx => by have := ka x hx; omega)
 have eqb := zbc cb (lb.map za0) (by omega) (fun x hx => by have := kb x hx; omega)
 have hsa : sumN ((la.map za0).map List.length) ≤ 1048576 * ((la.map za0).map List.length).length := sumN_le _ 1048576 (fun n hn => by obtain ⟨x, hx, rfl⟩ := List.mem_map.mp hn; exact ka x hx)
 have hsb : sumN ((lb.map za0).map List.length) ≤ 1048576 * ((lb.map za0).map List.length).length := sumN_le _ 1048576 (fun n hn => by obtain ⟨x, hx, rfl⟩ := List.mem_map.mp hn; exact kb x hx)
 have hsp : zb5 (ch.map fun x => x.f2.length) ≤ (2 + 7 * 60) * (ch.map fun x => x.f2.length).length := sumP_le _ 60 (fun n hn => by obtain ⟨x, hx, rfl⟩ := List.mem_map.mp hn; exact hw x hx)
 rw [List.length_map] at hsa hsb hsp
 have ma := za5 ca (la.map za0) 1 (by omega) (by omega) (by omega)
 have mb := za5 cb (lb.map za0) (1 + 7 * (sumN ((la.map za0).map List.length) : Int)) (by omega) (by omega) (by omega)
 have mp := zbp c n ch 1 (by omega) (by omega) (by omega)
 have hh := zbq c n (ch.map fun x => x.f2.length) 1 (by omega) (by rw [List.length_map]; omega) (by omega)
 refine Ev.bind ta (Ev.bind tb (Ev.bind e1 (Ev.bind ta (Ev.bind tb (Ev.bind e2 (Ev.bind eq (zaa rfl (zac (by simp) (Ev.bind ta (Ev.bind eqa (zaa rfl (Ev.bind tb (Ev.bind eqb (zaa rfl (Ev.bind ma (Ev.bind mb (zac (by show ¬ ((1 : Int) + _ + _ < 0); omega) (Ev.bind eq (zaa rfl (Ev.bind mp (Ev.bind hh (zac (by omega) (zaa rfl ?_)))))))))))))))))))))))
 exact Ev.bind ta (Ev.bind tb (Ev.bind e2 (Ev.bind eq (zaa rfl (zac (by simp) (Ev.bind hh (zac (by omega) (zaa rfl (Ev.now _)))))))))

end Go.Proofs.Ytalopdcephohgaa.Pure
