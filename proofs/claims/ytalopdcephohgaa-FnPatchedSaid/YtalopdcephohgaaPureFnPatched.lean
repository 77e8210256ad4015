/- The law FnPatched answers true at every code: a grid that is patched by the difference is the other grid, and that of a grid and itself changes nothing. -/
import Derived.Test.YtalopdcephohgaaRDx36
namespace Go.Proofs.Ytalopdcephohgaa.Pure
open Go.RowKit Go.Proofs.Ytalopdcephohgaa.RD Go.Proofs.YtalopdcephohgaaW.PrintWords Go.Proofs.YtalopdcephohgaaW.PrintLast
set_option linter.unusedVariables false
set_option linter.unusedSimpArgs false

theorem w64 {x : Int} (h0 : -9223372036854775808 ≤ x) (h1 : x ≤ 9223372036854775807) : wrap64 x = x := by unfold wrap64; omega
theorem zae {α : Type} {g : Nat → Option α} {r : α} (h : Ev (fun k => g (k + 1)) r) : Ev g r := by
 obtain ⟨K, h⟩ := h
 refine ⟨K + 1, fun k hk => ?_⟩
 obtain ⟨m, rfl⟩ : ∃ m, k = m + 1 := ⟨k - 1, by omega⟩
 exact h m (by omega)
theorem ev_fixed {α : Type} {x : Option α} {r : α} (h : x = some r) : Ev (fun _ => x) r := ⟨0, fun _ _ => h⟩
theorem za0 {α : Type} {g : Nat → Option α} {r s : α} (h : Ev g r) (e : r = s) : Ev g s := e ▸ h
theorem zaa {α : Type} {c : Prop} [Decidable c] {a b : Nat → Option α} {r : α} (hc : c) (h : Ev a r) : Ev (fun k => if c then a k else b k) r := by
 obtain ⟨K, h⟩ := h
 exact ⟨K, fun k hk => by show (if c then a k else b k) = some r; rw [if_pos hc]; exact h k hk⟩
theorem zab {α : Type} {c : Prop} [Decidable c] {a b : Nat → Option α} {r : α} (hc : ¬ c) (h : Ev b r) : Ev (fun k => if c then a k else b k) r := by
 obtain ⟨K, h⟩ := h
 exact ⟨K, fun k hk => by show (if c then a k else b k) = some r; rw [if_neg hc]; exact h k hk⟩
theorem zac {α β : Type} {x : Option α} {a : α} {f : Nat → α → Option β} {r : β} (hx : x = some a) (h : Ev (fun k => f k a) r) : Ev (fun k => x.bind (f k)) r := by
 subst hx; exact h

theorem zbu {α : Type} (l : List α) (i : Nat) (a : α) (h : i < l.length) : (l.set i a).take (i + 1) = l.take i ++ [a] := by
 rw [List.take_succ_eq_append_getElem (by simpa using h), List.take_set, List.set_eq_of_length_le (by rw [List.length_take]; omega)]
 simp

theorem and255 (x : Int) : 0 ≤ Go.bits .and .i64 x 255 ∧ Go.bits .and .i64 x 255 ≤ 255 := by
 have h : ((BitVec.ofInt 64 x &&& BitVec.ofInt 64 255).toNat : Int) ≤ 255 := by
  rw [BitVec.toNat_and]
  have : (BitVec.ofInt 64 x).toNat &&& (BitVec.ofInt 64 255).toNat ≤ (BitVec.ofInt 64 255).toNat := Nat.and_le_right
  have e : (BitVec.ofInt 64 255).toNat = 255 := by decide
  omega
 have w : Go.bits .and .i64 x 255 = IntKind.i64.wrap ((BitVec.ofInt 64 x &&& BitVec.ofInt 64 255).toNat : Int) := rfl
 rw [w, IntKind.wrap_i64]
 omega
theorem zat (b : List Int) (hb : b.length < 4611686018427387904) (i h : Int) (hi : 0 ≤ i) :
  ∃ v i' h', spec_l1Byte.f b i h = some (v, i', h') ∧ 0 ≤ v ∧ v ≤ 255 ∧ 0 ≤ i' := by
 unfold spec_l1Byte.f
 by_cases c : i < (b.length : Int)
 ·rw [if_pos c, if_pos hi]
  exact ⟨_, _, _, rfl, (and255 _).1, (and255 _).2, by rw [w64 (by omega) (by omega)]; omega⟩
 ·rw [if_neg c]
  exact ⟨_, _, _, rfl, (and255 _).1, (and255 _).2, hi⟩
theorem zaf (b : List Int) (hb : b.length < 4611686018427387904) (i h n : Int) (hi : 0 ≤ i) (hn : n < 4611686018427387904) :
  ∃ v i' h', spec_l1Below.f b i h n = some (v, i', h') ∧ 0 ≤ v ∧ (v < n ∨ (n ≤ 0 ∧ v = 0)) ∧ 0 ≤ i' := by
 unfold spec_l1Below.f
 by_cases c : n ≤ 0
 ·rw [if_pos c]; exact ⟨0, i, h, rfl, by omega, .inr ⟨c, rfl⟩, hi⟩
 ·rw [if_neg c]
  by_cases c2 : n ≤ 256
  ·rw [if_pos c2]
   obtain ⟨v, i', h', e, h0, h1, h2⟩ := zat b hb i h hi
   rw [e]
   simp only [Option.bind_some]
   rw [if_neg (by omega), Int.tmod_eq_emod_of_nonneg h0]
   exact ⟨_, _, _, rfl, Int.emod_nonneg _ (by omega), .inl (Int.emod_lt_of_pos _ (by omega)), h2⟩
  ·rw [if_neg c2]
   obtain ⟨x, i1, h1, e1, x0, x1, j1⟩ := zat b hb i h hi
   obtain ⟨y, i2, h2, e2, y0, y1, j2⟩ := zat b hb i1 h1 j1
   obtain ⟨z, i3, h3, e3, z0, z1, j3⟩ := zat b hb i2 h2 j2
   obtain ⟨u, i4, h4, e4, u0, u1, j4⟩ := zat b hb i3 h3 j3
   rw [e1]; simp only [Option.bind_some]
   rw [e2]; simp only [Option.bind_some]
   rw [e3]; simp only [Option.bind_some]
   rw [e4]; simp only [Option.bind_some]
   rw [if_neg (by omega), w64 (x := x * 16777216) (by omega) (by omega), w64 (x := y * 65536) (by omega) (by omega), w64 (x := z * 256) (by omega) (by omega), w64 (x := x * 16777216 + y * 65536) (by omega) (by omega),
    w64 (x := x * 16777216 + y * 65536 + z * 256) (by omega) (by omega), w64 (x := x * 16777216 + y * 65536 + z * 256 + u) (by omega) (by omega), Int.tmod_eq_emod_of_nonneg (by omega)]
   exact ⟨_, _, _, rfl, Int.emod_nonneg _ (by omega), .inl (Int.emod_lt_of_pos _ (by omega)), j4⟩

theorem zaj (b : List Int) (hb : b.length < 4611686018427387904) (i h n : Int) (hi : 0 ≤ i) (hn : n < 4611686018427387904) :
  ∃ v i' h', spec_l1Once.f b i h n = some (v, i', h') ∧ 0 ≤ i' := by
 unfold spec_l1Once.f
 obtain ⟨v, i', h', e, _, _, h2⟩ := zaf b hb i h n hi hn
 rw [e]
 exact ⟨_, _, _, rfl, h2⟩

theorem zci (l : List Int) (hl : l.length < 4611686018427387904) : ∃ h, Ev (fun k => spec_l1New.f k l) (l, 0, h) := by
 have go : ∀ (d i : Nat) (x : Int), i + d = l.length → ∃ h, Ev (fun k => spec_l1New.l0 k l x (i : Int)) (l, 0, h) := by
  intro d
  induction d with
  | zero =>
   intro i x h
   refine ⟨x, zae ?_⟩
   simp only [spec_l1New.l0]
   exact zab (by omega) (Ev.now _)
  | succ d ih =>
   intro i x h
   obtain ⟨h', e⟩ := ih (i + 1) (Go.bits .and .i64 (wrap64 ((wrap64 ((wrap64 (x * 137)) + (wrap64 (rd l (i : Int))))) + 11)) 1073741823) (by omega)
   refine ⟨h', zae ?_⟩
   simp only [spec_l1New.l0, w64 (x := (i : Int) + 1) (by omega) (by omega)]
   exact zaa (by omega) (zaa (by omega) e)
 exact go l.length 0 _ (by omega)

theorem zbf (b : List Int) (hb : b.length < 4611686018427387904) (i h : Int) (hi : 0 ≤ i) :
  ∃ a0 a1 a2 a3 a4 i' h', spec_l3Draw.f b i h = some (a0, a1, a2, a3, a4, i', h') ∧ 0 ≤ i' := by
 obtain ⟨v, i1, h1, e1, j1⟩ := zaj b hb i h 3 hi (by omega)
 unfold spec_l3Draw.f
 rw [e1]
 simp only [Option.bind_some]
 cases v with
 | true => rw [if_pos rfl]; exact ⟨_, _, _, _, _, _, _, rfl, j1⟩
 | false =>
  rw [if_neg (by simp)]
  obtain ⟨x, i2, h2, e2, _, _, j2⟩ := zaf b hb i1 h1 9 j1 (by omega)
  rw [e2]; simp only [Option.bind_some]
  obtain ⟨y, i3, h3, e3, _, _, j3⟩ := zaf b hb i2 h2 9 j2 (by omega)
  rw [e3]; simp only [Option.bind_some]
  obtain ⟨u, i4, h4, e4, j4⟩ := zaj b hb i3 h3 3 j3 (by omega)
  rw [e4]; simp only [Option.bind_some]
  obtain ⟨v, i5, h5, e5, j5⟩ := zaj b hb i4 h4 4 j4 (by omega)
  rw [e5]; simp only [Option.bind_some]
  obtain ⟨z, i6, h6, e6, j6⟩ := zaj b hb i5 h5 4 j5 (by omega)
  rw [e6]; simp only [Option.bind_some]
  exact ⟨_, _, _, _, _, _, _, rfl, j6⟩
theorem zbq (b : List Int) (hb : b.length < 4611686018427387904) (i h : Int) (hi : 0 ≤ i) :
  ∃ a0 a1 a2 a3 a4 i' h', spec_l3DrawAny.f b i h = some (a0, a1, a2, a3, a4, i', h') ∧ 0 ≤ i' := by
 obtain ⟨a0, a1, a2, a3, a4, i1, h1, e1, j1⟩ := zbf b hb i h hi
 obtain ⟨v, i2, h2, e2, j2⟩ := zaj b hb i1 h1 14 j1 (by omega)
 unfold spec_l3DrawAny.f
 rw [e1]; simp only [Option.bind_some]
 rw [e2]; simp only [Option.bind_some]
 cases v with
 | false => rw [if_neg (by simp)]; exact ⟨_, _, _, _, _, _, _, rfl, j2⟩
 | true =>
  rw [if_pos rfl]
  obtain ⟨x, i3, h3, e3, x0, x1, j3⟩ := zaf b hb i2 h2 4 j2 (by omega)
  rw [e3]; simp only [Option.bind_some]
  rw [if_pos (by omega), if_pos (by simp only [List.length_cons, List.length_nil]; omega)]
  exact ⟨_, _, _, _, _, _, _, rfl, j3⟩

theorem rdc {l : List S98} {i : Nat} (h : i < l.length) : rd_T98 l (i : Int) = l[i] := by
 unfold rd_T98; rw [Int.toNat_natCast, List.getD_eq_getElem?_getD, List.getElem?_eq_getElem h]; rfl
theorem zch (a b : S96) : ((!(a.f0 == b.f0) || (!(a.f1 == b.f1) || (!(a.f2 == b.f2) || (!(a.f3 == b.f3) || (!(a.f4 == b.f4)))))) = true) ↔ a ≠ b := by
 obtain ⟨a0, a1, a2, a3, a4⟩ := a
 obtain ⟨b0, b1, b2, b3, b4⟩ := b
 constructor
 ·intro h e
  injection e with e0 e1 e2 e3 e4
  subst e0; subst e1; subst e2; subst e3; subst e4
  simp at h
 ·intro h
  by_cases q0 : a0 = b0
  ·by_cases q1 : a1 = b1
   ·by_cases q2 : a2 = b2
    ·by_cases q3 : a3 = b3
     ·by_cases q4 : a4 = b4
      ·subst q0; subst q1; subst q2; subst q3; subst q4; exact absurd rfl h
      ·simp [q4]
     ·simp [q3]
    ·simp [q2]
   ·simp [q1]
  ·simp [q0]

theorem zam (a b c : Int) : spec_l1In.f a b c = some (decide (b ≤ a) && decide (a ≤ c)) := by
 unfold spec_l1In.f
 by_cases h : a ≥ b
 ·rw [if_pos h]; simp [h]
 ·rw [if_neg h]; simp [show ¬ b ≤ a from h]

theorem zai (a b c : Int) : impl_in.f a b c = some (decide (b ≤ a) && decide (a ≤ c)) := by
 unfold impl_in.f
 by_cases h : b ≤ a
 ·rw [if_pos h]; simp [h]
 ·rw [if_neg h]; simp [h]

def sokv (a b : Int) : Bool := (decide (0 ≤ a) && decide (a ≤ 8)) && (decide (0 ≤ b) && decide (b ≤ 8))
theorem zbm (a b : Int) (c d e : Bool) : impl_StyleOk.f a b c d e = some (sokv a b) := by
 simp only [impl_StyleOk.f, zai, Option.bind_some, sokv]
 by_cases h : (decide (0 ≤ a) && decide (a ≤ 8)) = true
 ·simp [h]
 ·simp [h]

theorem zag (a b : Int) (c d e : Bool) : spec_StyleOk.f a b c d e = some (sokv a b) := by
 simp only [spec_StyleOk.f, zam, Option.bind_some, sokv]
 by_cases h : (decide (0 ≤ a) && decide (a ≤ 8)) = true
 ·simp [h]
 ·simp [h]

def rok (r : Int) : Bool := decide (0 ≤ r) && decide (r ≤ 1114111) && !(decide (55296 ≤ r) && decide (r ≤ 57343))
def wid (r : Int) : Int :=
 if rok r = false ∨ r < 32 ∨ (127 ≤ r ∧ r ≤ 159) ∨ (768 ≤ r ∧ r ≤ 879) then 0
 else if (4352 ≤ r ∧ r ≤ 4447) ∨ (12288 ≤ r ∧ r ≤ 55295) ∨ (127744 ≤ r ∧ r ≤ 131071) then 2 else 1
theorem zcq (r : Int) : spec_RuneOk.f r = some (rok r) := by
 simp only [spec_RuneOk.f, zam, Option.bind_some, rok]
 by_cases h : (decide (0 ≤ r) && decide (r ≤ 1114111)) = true
 ·rw [if_pos h, h, Bool.true_and]
 ·rw [if_neg h, Bool.eq_false_iff.mpr h, Bool.false_and]

theorem zaq (r : Int) : Ev (fun k => spec_Width.f k r) (wid r) := by
 have j1 : Ev (fun k => spec_Width.j0 k r true) 0 := by
  refine zae ?_
  simp only [spec_Width.j0, if_true]
  exact Ev.now _
 have j0 : Ev (fun k => spec_Width.j0 k r false) (if (4352 ≤ r ∧ r ≤ 4447) ∨ (12288 ≤ r ∧ r ≤ 55295) ∨ (127744 ≤ r ∧ r ≤ 131071) then 2 else 1) := by
  refine zae ?_
  simp only [spec_Width.j0, zam, Option.bind_some, Bool.false_eq_true, if_false]
  refine ev_fixed ?_
  simp only [Bool.and_eq_true, decide_eq_true_eq]
  repeat' split
  all_goals first | rfl | omega
 simp only [spec_Width.f, zcq, zam, Option.bind_some]
 cases hk : rok r with
 | false => simp only [Bool.false_eq_true, if_false]; refine za0 j1 ?_; unfold wid; rw [if_pos (.inl hk)]
 | true =>
  simp only [if_true]
  by_cases h1 : r < 32
  ·simp only [if_pos h1]; refine za0 j1 ?_; unfold wid; rw [if_pos (.inr (.inl h1))]
  ·simp only [if_neg h1]
   by_cases h2 : 127 ≤ r ∧ r ≤ 159
   ·simp only [h2.1, h2.2, decide_true, Bool.and_self, if_true]; refine za0 j1 ?_; unfold wid; rw [if_pos (.inr (.inr (.inl h2)))]
   ·have e2 : (decide (127 ≤ r) && decide (r ≤ 159)) = false := by simpa using h2
    simp only [e2, Bool.false_eq_true, if_false]
    by_cases h3 : 768 ≤ r ∧ r ≤ 879
    ·simp only [h3.1, h3.2, decide_true, Bool.and_self]; refine za0 j1 ?_; unfold wid; rw [if_pos (.inr (.inr (.inr h3)))]
    ·have e3 : (decide (768 ≤ r) && decide (r ≤ 879)) = false := by simpa using h3
     simp only [e3]; refine za0 j0 ?_; unfold wid
     refine (if_neg ?_).symm
     rintro (h | h | h | h)
     ·rw [hk] at h; cases h
     all_goals omega

theorem zct (r : Int) : impl_RuneOk.f r = some (rok r) := by
 simp only [impl_RuneOk.f, zai, Option.bind_some, rok]
 by_cases h : (decide (0 ≤ r) && decide (r ≤ 1114111)) = true
 ·rw [if_pos h, h, Bool.true_and]
 ·rw [if_neg h, Bool.eq_false_iff.mpr h, Bool.false_and]

theorem zby (r : Int) : Ev (fun k => impl_Width.f k r) (wid r) := by
 have j1 : Ev (fun k => impl_Width.j0 k r true) 0 := by
  refine zae ?_
  simp only [impl_Width.j0, if_true]
  exact Ev.now _
 have j0 : Ev (fun k => impl_Width.j0 k r false) (if (4352 ≤ r ∧ r ≤ 4447) ∨ (12288 ≤ r ∧ r ≤ 55295) ∨ (127744 ≤ r ∧ r ≤ 131071) then 2 else 1) := by
  refine zae ?_
  simp only [impl_Width.j0, zai, Option.bind_some, Bool.false_eq_true, if_false]
  refine ev_fixed ?_
  simp only [Bool.and_eq_true, decide_eq_true_eq]
  repeat' split
  all_goals first | rfl | omega
 simp only [impl_Width.f, zct, zai, Option.bind_some]
 cases hk : rok r with
 | false => simp only [Bool.false_eq_true, if_false]; refine za0 j1 ?_; unfold wid; rw [if_pos (.inl hk)]
 | true =>
  simp only [if_true]
  by_cases h1 : r < 32
  ·simp only [if_pos h1]; refine za0 j1 ?_; unfold wid; rw [if_pos (.inr (.inl h1))]
  ·simp only [if_neg h1]
   by_cases h2 : 127 ≤ r ∧ r ≤ 159
   ·simp only [h2.1, h2.2, decide_true, Bool.and_self, if_true]; refine za0 j1 ?_; unfold wid; rw [if_pos (.inr (.inr (.inl h2)))]
   ·have e2 : (decide (127 ≤ r) && decide (r ≤ 159)) = false := by simpa using h2
    simp only [e2, Bool.false_eq_true, if_false]
    by_cases h3 : 768 ≤ r ∧ r ≤ 879
    ·simp only [h3.1, h3.2, decide_true, Bool.and_self]; refine za0 j1 ?_; unfold wid; rw [if_pos (.inr (.inr (.inr h3)))]
    ·have e3 : (decide (768 ≤ r) && decide (r ≤ 879)) = false := by simpa using h3
     simp only [e3]; refine za0 j0 ?_; unfold wid
     refine (if_neg ?_).symm
     rintro (h | h | h | h)
     ·rw [hk] at h; cases h
     all_goals omega

def zad (l : List S98) (i : Nat) : S98 := rd_T98 l (i : Int)
def za8 (l : List S98) (i : Nat) : Prop :=
 sokv (zad l i).f1.f0 (zad l i).f1.f1 = true ∧
 (((zad l i).f2 = 0 ∧ wid (zad l i).f0 = 1) ∨
 ((zad l i).f2 = 1 ∧ wid (zad l i).f0 = 2 ∧ i + 1 < l.length ∧ (zad l (i + 1)).f2 = 2 ∧ (zad l (i + 1)).f1 = (zad l i).f1) ∨
 ((zad l i).f2 = 2 ∧ (zad l i).f0 = 0 ∧ 0 < i ∧ (zad l (i - 1)).f2 = 1))
def zav (l : List S98) : Prop := 1 ≤ l.length ∧ l.length ≤ 60 ∧ ∀ i, i < l.length → za8 l i
theorem zcj (l : List S98) : ∃ b, Ev (fun k => spec_RowOk.f k l) b ∧ (b = true ↔ zav l) := by
 have go : l.length ≤ 60 → ∀ (d i : Nat), i + d = l.length → ∃ b, Ev (fun k => spec_RowOk.l0 k l (l.length : Int) (i : Int)) b ∧ (b = true ↔ ∀ j, i ≤ j → j < l.length → za8 l j) := by
  intro hl d
  induction d with
  | zero =>
   intro i h
   refine ⟨true, zae ?_, by simp; omega⟩
   simp only [spec_RowOk.l0]
   exact zab (by omega) (Ev.now _)
  | succ d ih =>
   intro i h
   obtain ⟨b, e, hb⟩ := ih (i + 1) (by omega)
   have w1 : ∀ _ : Unit, wrap64 ((i : Int) + 1) = ((i + 1 : Nat) : Int) := fun _ => by rw [w64 (by omega) (by omega)]; omega
   have step : za8 l i → (b = true ↔ ∀ j, i ≤ j → j < l.length → za8 l j) := by
    intro c
    rw [hb]
    constructor
    ·intro q j h1 h2
     by_cases e : j = i
     ·rw [e]; exact c
     ·exact q j (by omega) h2
    ·intro q j h1 h2; exact q j (by omega) h2
   have bad : ¬ za8 l i → (false = true ↔ ∀ j, i ≤ j → j < l.length → za8 l j) := by
    intro c
    constructor
    ·intro x; cases x
    ·intro q; exact absurd (q i (Nat.le_refl _) (by omega)) c
   suffices hh : (za8 l i ∧ Ev (fun k => spec_RowOk.l0 k l (l.length : Int) (i : Int)) b) ∨ (¬ za8 l i ∧ Ev (fun k => spec_RowOk.l0 k l (l.length : Int) (i : Int)) false) by
    rcases hh with ⟨c, e⟩ | ⟨c, e⟩
    ·exact ⟨b, e, step c⟩
    ·exact ⟨false, e, bad c⟩
   have fold : ∀ {r : Bool}, Ev (fun k => spec_RowOk.l0 (k + 1) l (l.length : Int) (i : Int)) r → Ev (fun k => spec_RowOk.l0 k l (l.length : Int) (i : Int)) r := fun h => zae h
   have g0 : rd_T98 l (i : Int) = zad l i := rfl
   have g1 : rd_T98 l ((i + 1 : Nat) : Int) = zad l (i + 1) := rfl
   by_cases q1 : sokv (zad l i).f1.f0 (zad l i).f1.f1 = true
   case neg =>
    refine .inr ⟨fun c => q1 c.1, fold ?_⟩
    simp only [spec_RowOk.l0, g0, zag, Option.bind_some]
    exact zaa (by omega) (zaa (by omega) (zaa (by omega) (zab q1 (Ev.now _))))
   by_cases p0 : (zad l i).f2 = 0
   ·by_cases q2 : wid (zad l i).f0 = 1
    ·refine .inl ⟨⟨q1, .inl ⟨p0, q2⟩⟩, fold ?_⟩
     simp only [spec_RowOk.l0, g0, zag, Option.bind_some, w1 ()]
     exact zaa (by omega) (zaa (by omega) (zaa (by omega) (zaa q1 (zaa p0 (Ev.bind (zaq _) (zaa q2 e))))))
    ·refine .inr ⟨fun c => by rcases c.2 with x | x | x <;> omega, fold ?_⟩
     simp only [spec_RowOk.l0, g0, zag, Option.bind_some, w1 ()]
     exact zaa (by omega) (zaa (by omega) (zaa (by omega) (zaa q1 (zaa p0 (Ev.bind (zaq _) (zab q2 (Ev.now _)))))))
   by_cases p1 : (zad l i).f2 = 1
   ·by_cases q2 : wid (zad l i).f0 = 2
    case neg =>
     refine .inr ⟨fun c => by rcases c.2 with x | x | x <;> omega, fold ?_⟩
     simp only [spec_RowOk.l0, g0, zag, Option.bind_some, w1 ()]
     exact zaa (by omega) (zaa (by omega) (zaa (by omega) (zaa q1 (zab p0 (zaa p1 (Ev.bind (zaq _) (zab q2 (Ev.now _))))))))
    by_cases q3 : i + 1 = l.length
    ·refine .inr ⟨fun c => by rcases c.2 with x | x | x <;> omega, fold ?_⟩
     simp only [spec_RowOk.l0, g0, zag, Option.bind_some, w1 ()]
     exact zaa (by omega) (zaa (by omega) (zaa (by omega) (zaa q1 (zab p0 (zaa p1 (Ev.bind (zaq _) (zaa q2 (zaa (by omega) (Ev.now _)))))))))
    by_cases q4 : (zad l (i + 1)).f2 = 2
    case neg =>
     refine .inr ⟨fun c => by rcases c.2 with x | x | x <;> omega, fold ?_⟩
     simp only [spec_RowOk.l0, g0, zag, Option.bind_some, w1 (), g1]
     exact zaa (by omega) (zaa (by omega) (zaa (by omega) (zaa q1 (zab p0 (zaa p1 (Ev.bind (zaq _) (zaa q2 (zab (by omega) (zaa (by omega) (zaa (by omega) (zab q4 (Ev.now _))))))))))))
    by_cases q5 : (zad l (i + 1)).f1 = (zad l i).f1
    ·refine .inl ⟨⟨q1, .inr (.inl ⟨p1, q2, by omega, q4, q5⟩)⟩, fold ?_⟩
     simp only [spec_RowOk.l0, g0, zag, Option.bind_some, w1 (), g1]
     exact zaa (by omega) (zaa (by omega) (zaa (by omega) (zaa q1 (zab p0 (zaa p1 (Ev.bind (zaq _) (zaa q2 (zab (by omega) (zaa (by omega) (zaa (by omega) (zaa q4 (zab (fun x => (zch _ _).mp x q5) e))))))))))))
    ·refine .inr ⟨fun c => ?_, fold ?_⟩
     ·rcases c.2 with x | x | x
      ·omega
      ·exact q5 x.2.2.2.2
      ·omega
     simp only [spec_RowOk.l0, g0, zag, Option.bind_some, w1 (), g1]
     exact zaa (by omega) (zaa (by omega) (zaa (by omega) (zaa q1 (zab p0 (zaa p1 (Ev.bind (zaq _) (zaa q2 (zab (by omega) (zaa (by omega) (zaa (by omega) (zaa q4 (zaa ((zch _ _).mpr q5) (Ev.now _)))))))))))))
   by_cases p2 : (zad l i).f2 = 2
   case neg =>
    refine .inr ⟨fun c => by rcases c.2 with x | x | x <;> omega, fold ?_⟩
    simp only [spec_RowOk.l0, g0, zag, Option.bind_some, w1 ()]
    exact zaa (by omega) (zaa (by omega) (zaa (by omega) (zaa q1 (zab p0 (zab p1 (zab p2 (Ev.now _)))))))
   by_cases q2 : (zad l i).f0 = 0
   case neg =>
    refine .inr ⟨fun c => by rcases c.2 with x | x | x <;> omega, fold ?_⟩
    simp only [spec_RowOk.l0, g0, zag, Option.bind_some, w1 ()]
    exact zaa (by omega) (zaa (by omega) (zaa (by omega) (zaa q1 (zab p0 (zab p1 (zaa p2 (zab q2 (Ev.now _))))))))
   by_cases q3 : i = 0
   ·refine .inr ⟨fun c => by rcases c.2 with x | x | x <;> omega, fold ?_⟩
    simp only [spec_RowOk.l0, g0, zag, Option.bind_some, w1 ()]
    exact zaa (by omega) (zaa (by omega) (zaa (by omega) (zaa q1 (zab p0 (zab p1 (zaa p2 (zaa q2 (zaa (by omega) (Ev.now _)))))))))
   have w2 : ∀ _ : Unit, wrap64 ((i : Int) - 1) = ((i - 1 : Nat) : Int) := fun _ => by rw [w64 (by omega) (by omega)]; omega
   have g2 : rd_T98 l ((i - 1 : Nat) : Int) = zad l (i - 1) := rfl
   by_cases q4 : (zad l (i - 1)).f2 = 1
   ·refine .inl ⟨⟨q1, .inr (.inr ⟨p2, q2, by omega, q4⟩)⟩, fold ?_⟩
    simp only [spec_RowOk.l0, g0, zag, Option.bind_some, w1 (), w2 (), g2]
    exact zaa (by omega) (zaa (by omega) (zaa (by omega) (zaa q1 (zab p0 (zab p1 (zaa p2 (zaa q2 (zab (by omega) (zaa (by omega) (zaa (by omega) (zaa q4 e)))))))))))
   ·refine .inr ⟨fun c => by rcases c.2 with x | x | x <;> omega, fold ?_⟩
    simp only [spec_RowOk.l0, g0, zag, Option.bind_some, w1 (), w2 (), g2]
    exact zaa (by omega) (zaa (by omega) (zaa (by omega) (zaa q1 (zab p0 (zab p1 (zaa p2 (zaa q2 (zab (by omega) (zaa (by omega) (zaa (by omega) (zab q4 (Ev.now _))))))))))))
 have jt : Ev (fun k => spec_RowOk.j0 k l (l.length : Int) true) false := by
  refine zae ?_
  simp only [spec_RowOk.j0]
  exact zaa (by trivial) (Ev.now _)
 unfold spec_RowOk.f
 by_cases h1 : (l.length : Int) < 1
 ·exact ⟨false, zaa h1 jt, ⟨fun x => (by cases x), fun x => by have := x.1; omega⟩⟩
 by_cases h2 : (l.length : Int) > 60
 ·refine ⟨false, zab h1 ?_, ⟨fun x => (by cases x), fun x => by have := x.2.1; omega⟩⟩
  rw [decide_eq_true h2]; exact jt
 ·obtain ⟨b, e, hb⟩ := go (by omega) l.length 0 (by omega)
  refine ⟨b, zab h1 (zae ?_), ?_⟩
  ·simp only [spec_RowOk.j0]
   exact zab (by simp; omega) e
  ·rw [hb]
   exact ⟨fun q => ⟨by omega, by omega, fun i hi => q i (by omega) hi⟩, fun q j _ hj => q.2.2 j hj⟩
theorem zcr (x : S98) : Ev (fun k => impl_isCell.f k x.f0 x.f1.f0 x.f1.f1 x.f1.f2 x.f1.f3 x.f1.f4 x.f2)
  (if x.f2 = 0 then decide (wid x.f0 = 1) && sokv x.f1.f0 x.f1.f1 else if x.f2 = 1 then decide (wid x.f0 = 2) && sokv x.f1.f0 x.f1.f1 else if x.f2 = 2 then decide (x.f0 = 0) && sokv x.f1.f0 x.f1.f1 else false) := by
 unfold impl_isCell.f
 simp only [zbm, Option.bind_some]
 by_cases p0 : x.f2 = 0
 ·rw [if_pos p0]
  refine zaa p0 (Ev.bind (zby _) ?_)
  by_cases q : wid x.f0 = 1
  ·exact zaa q (za0 (Ev.now _) (by rw [decide_eq_true q]; simp))
  ·exact zab q (za0 (Ev.now _) (by rw [decide_eq_false q]; simp))
 rw [if_neg p0]
 refine zab p0 ?_
 by_cases p1 : x.f2 = 1
 ·rw [if_pos p1]
  refine zaa p1 (Ev.bind (zby _) ?_)
  by_cases q : wid x.f0 = 2
  ·exact zaa q (za0 (Ev.now _) (by rw [decide_eq_true q]; simp))
  ·exact zab q (za0 (Ev.now _) (by rw [decide_eq_false q]; simp))
 rw [if_neg p1]
 refine zab p1 ?_
 by_cases p2 : x.f2 = 2
 ·refine za0 (r := decide (x.f0 = 0) && sokv x.f1.f0 x.f1.f1) (zaa p2 ?_) (if_pos p2).symm
  by_cases q : x.f0 = 0
  ·exact zaa q (za0 (Ev.now _) (by rw [decide_eq_true q]; simp))
  ·exact zab q (za0 (Ev.now _) (by rw [decide_eq_false q]; simp))
 ·exact za0 (zab p2 (Ev.now _)) (if_neg p2).symm
def zc3 (x : S98) : Prop := sokv x.f1.f0 x.f1.f1 = true ∧ ((x.f2 = 0 ∧ wid x.f0 = 1) ∨ (x.f2 = 1 ∧ wid x.f0 = 2) ∨ (x.f2 = 2 ∧ x.f0 = 0))
theorem zcf (x : S98) : ∃ b, Ev (fun k => impl_isCell.f k x.f0 x.f1.f0 x.f1.f1 x.f1.f2 x.f1.f3 x.f1.f4 x.f2) b ∧ (b = true ↔ zc3 x) := by
 refine ⟨_, zcr x, ?_⟩
 unfold zc3
 by_cases p0 : x.f2 = 0
 ·rw [if_pos p0]; simp only [Bool.and_eq_true, decide_eq_true_eq]
  exact ⟨fun h => ⟨h.2, .inl ⟨p0, h.1⟩⟩, fun h => ⟨by rcases h.2 with q | q | q <;> omega, h.1⟩⟩
 rw [if_neg p0]
 by_cases p1 : x.f2 = 1
 ·rw [if_pos p1]; simp only [Bool.and_eq_true, decide_eq_true_eq]
  exact ⟨fun h => ⟨h.2, .inr (.inl ⟨p1, h.1⟩)⟩, fun h => ⟨by rcases h.2 with q | q | q <;> omega, h.1⟩⟩
 rw [if_neg p1]
 by_cases p2 : x.f2 = 2
 ·rw [if_pos p2]; simp only [Bool.and_eq_true, decide_eq_true_eq]
  exact ⟨fun h => ⟨h.2, .inr (.inr ⟨p2, h.1⟩)⟩, fun h => ⟨by rcases h.2 with q | q | q <;> omega, h.1⟩⟩
 rw [if_neg p2]
 exact ⟨fun h => (by cases h), fun h => by rcases h.2 with q | q | q <;> omega⟩
def CellI (l : List S98) (i : Nat) : Prop := zc3 (zad l i) ∧ (0 < i → ((zad l (i - 1)).f2 = 1 ↔ (zad l i).f2 = 2) ∧ ((zad l (i - 1)).f2 = 1 → (zad l (i - 1)).f1 = (zad l i).f1)) ∧ (i = 0 → (zad l i).f2 ≠ 2)
theorem cell_iff (l : List S98) (n : Nat) (hn : l.length = n) (h1 : 1 ≤ n) : ((∀ i, i < n → CellI l i) ∧ (zad l (n - 1)).f2 ≠ 1) ↔ ∀ i, i < n → za8 l i := by
 constructor
 ·rintro ⟨h, hl⟩ i hi
  obtain ⟨hs, ha, h0⟩ := h i hi
  refine ⟨hs.1, ?_⟩
  rcases hs.2 with q | q | q
  ·exact .inl q
  ·refine .inr (.inl ⟨q.1, q.2, ?_⟩)
   have hne : i ≠ n - 1 := fun e => hl (e ▸ q.1)
   obtain ⟨_, hb, _⟩ := h (i + 1) (by omega)
   have := hb (by omega)
   rw [show i + 1 - 1 = i by omega] at this
   exact ⟨by omega, this.1.mp q.1, (this.2 q.1).symm⟩
  ·refine .inr (.inr ⟨q.1, q.2, ?_⟩)
   have hp : 0 < i := by
    rcases Nat.eq_zero_or_pos i with e | e
    ·exact absurd q.1 (h0 e)
    ·exact e
   exact ⟨hp, (ha hp).1.mpr q.1⟩
 ·intro h
  have last : (zad l (n - 1)).f2 ≠ 1 := by
   intro e
   rcases (h (n - 1) (by omega)).2 with q | q | q <;> omega
  refine ⟨fun i hi => ?_, last⟩
  obtain ⟨hs, hc⟩ := h i hi
  refine ⟨⟨hs, ?_⟩, ?_, ?_⟩
  ·rcases hc with q | q | q
   ·exact .inl q
   ·exact .inr (.inl ⟨q.1, q.2.1⟩)
   ·exact .inr (.inr ⟨q.1, q.2.1⟩)
  ·intro hp
   obtain ⟨_, hd⟩ := h (i - 1) (by omega)
   rw [show i - 1 + 1 = i by omega] at hd
   refine ⟨⟨fun e => ?_, fun e => ?_⟩, fun e => ?_⟩
   ·rcases hd with q | q | q
    ·omega
    ·exact q.2.2.2.1
    ·omega
   ·rcases hc with q | q | q
    ·omega
    ·omega
    ·exact q.2.2.2
   ·rcases hd with q | q | q
    ·omega
    ·exact q.2.2.2.2.symm
    ·omega
  ·intro e0 e
   rcases hc with q | q | q <;> omega
theorem zcm (l : List S98) (hl : l.length ≤ 1048576) : ∃ b, Ev (fun k => impl_RowOk.f k l) b ∧ (b = true ↔ zav l) := by
 have ends : ∃ b, Ev (fun k => impl_RowOk.l0 k l l (l.length : Int) (l.length : Int)) b ∧ (b = true ↔ (1 ≤ l.length ∧ l.length ≤ 60 ∧ (zad l (l.length - 1)).f2 ≠ 1)) := by
  by_cases h1 : 1 ≤ l.length ∧ l.length ≤ 60
  ·have w2 : ∀ _ : Unit, wrap64 ((l.length : Int) - 1) = ((l.length - 1 : Nat) : Int) := fun _ => by rw [w64 (by omega) (by omega)]; omega
   have g2 : rd_T98 l ((l.length - 1 : Nat) : Int) = zad l (l.length - 1) := rfl
   refine ⟨(zad l (l.length - 1)).f2 != 1, zae ?_, ?_⟩
   ·simp only [impl_RowOk.l0, zai, Option.bind_some, w2 (), g2]
    exact zab (by omega) (zaa (by rw [decide_eq_true (p := (1 : Int) ≤ l.length) (by omega), decide_eq_true (p := (l.length : Int) ≤ 60) (by omega)]; rfl) (zaa (by omega) (zaa (by omega) (Ev.now _))))
   ·rw [bne_iff_ne]; exact ⟨fun x => ⟨h1.1, h1.2, x⟩, fun x => x.2.2⟩
  ·refine ⟨false, zae ?_, ⟨fun x => (by cases x), fun x => absurd ⟨x.1, x.2.1⟩ h1⟩⟩
   simp only [impl_RowOk.l0, zai, Option.bind_some]
   refine zab (by omega) (zab ?_ (Ev.now _))
   simp only [Bool.and_eq_true, decide_eq_true_eq]; omega
 obtain ⟨b, eb, hb⟩ := ends
 have go : ∀ (d i : Nat), i + d = l.length → ∃ c, Ev (fun k => impl_RowOk.l0 k l l (l.length : Int) (i : Int)) c ∧ (c = true ↔ ((∀ j, i ≤ j → j < l.length → CellI l j) ∧ b = true)) := by
  intro d
  induction d with
  | zero =>
   intro i h
   obtain rfl : i = l.length := by omega
   exact ⟨b, eb, ⟨fun x => ⟨fun j h1 h2 => by omega, x⟩, fun x => x.2⟩⟩
  | succ d ih =>
   intro i h
   obtain ⟨c, e, hc⟩ := ih (i + 1) (by omega)
   have w1 : ∀ _ : Unit, wrap64 ((i : Int) + 1) = ((i + 1 : Nat) : Int) := fun _ => by rw [w64 (by omega) (by omega)]; omega
   have g0 : rd_T98 l (i : Int) = zad l i := rfl
   obtain ⟨s, es, hs⟩ := zcf (zad l i)
   suffices hh : (CellI l i ∧ Ev (fun k => impl_RowOk.l0 k l l (l.length : Int) (i : Int)) c) ∨ (¬ CellI l i ∧ Ev (fun k => impl_RowOk.l0 k l l (l.length : Int) (i : Int)) false) by
    rcases hh with ⟨q, e⟩ | ⟨q, e⟩
    ·refine ⟨c, e, ?_⟩
     rw [hc]
     refine ⟨fun x => ⟨fun j h1 h2 => ?_, x.2⟩, fun x => ⟨fun j h1 h2 => x.1 j (by omega) h2, x.2⟩⟩
     by_cases e : j = i
     ·rw [e]; exact q
     ·exact x.1 j (by omega) h2
    ·exact ⟨false, e, ⟨fun x => (by cases x), fun x => absurd (x.1 i (Nat.le_refl _) (by omega)) q⟩⟩
   by_cases hp : i = 0
   ·subst hp
    cases s with
    | false =>
     refine .inr ⟨fun x => (by cases hs.mpr x.1), zae ?_⟩
     simp only [impl_RowOk.l0, g0]
     exact zaa (by omega) (zaa (by omega) (zaa (by omega) (zab (by omega) (Ev.bind es (zab (by simp) (Ev.now _))))))
    | true =>
     by_cases q : (zad l 0).f2 = 2
     ·refine .inr ⟨fun x => x.2.2 rfl q, zae ?_⟩
      simp only [impl_RowOk.l0, g0]
      exact zaa (by omega) (zaa (by omega) (zaa (by omega) (zab (by omega) (Ev.bind es (zaa rfl (zaa (by rw [beq_iff_eq.mpr q]; rfl) (Ev.now _)))))))
     ·refine .inl ⟨⟨hs.mp rfl, fun x => by omega, fun _ => q⟩, zae ?_⟩
      simp only [impl_RowOk.l0, g0, w1 ()]
      exact zaa (by omega) (zaa (by omega) (zaa (by omega) (zab (by omega) (Ev.bind es (zaa rfl (zab (by rw [beq_eq_false_iff_ne.mpr q]; simp) e))))))
   ·have w2 : ∀ _ : Unit, wrap64 ((i : Int) - 1) = ((i - 1 : Nat) : Int) := fun _ => by rw [w64 (by omega) (by omega)]; omega
    have g2 : rd_T98 l ((i - 1 : Nat) : Int) = zad l (i - 1) := rfl
    cases s with
    | false =>
     refine .inr ⟨fun x => (by cases hs.mpr x.1), zae ?_⟩
     simp only [impl_RowOk.l0, g0, w2 (), g2]
     exact zaa (by omega) (zaa (by omega) (zaa (by omega) (zaa (by omega) (zaa (by omega) (zaa (by omega) (Ev.bind es (zab (by simp) (Ev.now _))))))))
    | true =>
     have hpre : ∀ {r : Bool}, Ev (fun k => (if ((((zad l (i - 1)).f2) == 1) != (((zad l i).f2) == 2)) = true then (some false) else (if ((zad l (i - 1)).f2) = 1 then (if (!(((zad l (i - 1)).f1.f0) == ((zad l i).f1.f0)) || (!(((zad l (i - 1)).f1.f1) == ((zad l i).f1.f1)) || (!(((zad l (i - 1)).f1.f2) == ((zad l i).f1.f2)) || (!(((zad l (i - 1)).f1.f3) == ((zad l i).f1.f3)) || (!(((zad l (i - 1)).f1.f4) == ((zad l i).f1.f4))))))) = true then (some false) else (impl_RowOk.l0 k l l (l.length : Int) ((i + 1 : Nat) : Int))) else (impl_RowOk.l0 k l l (l.length : Int) ((i + 1 : Nat) : Int))))) r → Ev (fun k => impl_RowOk.l0 k l l (l.length : Int) (i : Int)) r := by
      intro r hr
      refine zae ?_
      simp only [impl_RowOk.l0, g0, w1 (), w2 (), g2]
      exact zaa (by omega) (zaa (by omega) (zaa (by omega) (zaa (by omega) (zaa (by omega) (zaa (by omega) (Ev.bind es (zaa rfl hr)))))))
     by_cases q1 : (zad l (i - 1)).f2 = 1
     ·by_cases q2 : (zad l i).f2 = 2
      ·by_cases q3 : (zad l (i - 1)).f1 = (zad l i).f1
       ·exact .inl ⟨⟨hs.mp rfl, fun _ => ⟨⟨fun _ => q2, fun _ => q1⟩, fun _ => q3⟩, fun x => absurd x hp⟩, hpre (zab (by rw [beq_iff_eq.mpr q1, beq_iff_eq.mpr q2]; simp) (zaa q1 (zab (fun x => (zch _ _).mp x q3) e)))⟩
       ·exact .inr ⟨fun x => q3 ((x.2.1 (by omega)).2 q1), hpre (zab (by rw [beq_iff_eq.mpr q1, beq_iff_eq.mpr q2]; simp) (zaa q1 (zaa ((zch _ _).mpr q3) (Ev.now _))))⟩
      ·exact .inr ⟨fun x => q2 ((x.2.1 (by omega)).1.mp q1), hpre (zaa (by rw [beq_iff_eq.mpr q1, beq_eq_false_iff_ne.mpr q2]; rfl) (Ev.now _))⟩
     ·by_cases q2 : (zad l i).f2 = 2
      ·exact .inr ⟨fun x => q1 ((x.2.1 (by omega)).1.mpr q2), hpre (zaa (by rw [beq_eq_false_iff_ne.mpr q1, beq_iff_eq.mpr q2]; rfl) (Ev.now _))⟩
      ·exact .inl ⟨⟨hs.mp rfl, fun _ => ⟨⟨fun x => absurd x q1, fun x => absurd x q2⟩, fun x => absurd x q1⟩, fun x => absurd x hp⟩, hpre (zab (by rw [beq_eq_false_iff_ne.mpr q1, beq_eq_false_iff_ne.mpr q2]; simp) (zab q1 e))⟩
 unfold impl_RowOk.f
 obtain ⟨c, e, hc⟩ := go l.length 0 (by omega)
 refine ⟨c, e, ?_⟩
 rw [hc, hb]
 constructor
 ·rintro ⟨h1, h2, h3, h4⟩
  exact ⟨h2, h3, (cell_iff l _ rfl h2).mp ⟨fun i hi => h1 i (by omega) hi, h4⟩⟩
 ·rintro ⟨h2, h3, h5⟩
  obtain ⟨h1, h4⟩ := (cell_iff l _ rfl h2).mpr h5
  exact ⟨fun j _ hj => h1 j hj, h2, h3, h4⟩

def blk (s : S96) : S98 := ⟨32, s, 0⟩

theorem zb2 {l : List S98} {i : Nat} (h : i < l.length) : zad l i = l[i] := rdc h
theorem zb8 (l : List S98) (j i : Nat) (v : S98) (hj : j < l.length) : zad (l.set j v) i = if i = j then v else zad l i := by
 unfold zad rd_T98
 rw [Int.toNat_natCast, List.getD_eq_getElem?_getD, List.getD_eq_getElem?_getD, List.getElem?_set]
 by_cases h : i = j
 ·rw [if_pos h, if_pos h.symm, if_pos (by omega)]; rfl
 ·rw [if_neg h, if_neg (fun e => h e.symm)]
theorem cells_ext {a b : List S98} (hl : a.length = b.length) (h : ∀ i, i < a.length → zad a i = zad b i) : a = b := by
 refine List.ext_getElem hl (fun i h1 h2 => ?_)
 have := h i h1
 rwa [zb2 h1, zb2 h2] at this
def bl (x : S98) : S98 := ⟨32, x.f1, 0⟩
def zb7 (l : List S98) (a b : Nat) (c : S98) : List S98 := l.take a ++ List.replicate (b - a) c ++ l.drop b
theorem za7 (l : List S98) (a b : Nat) (c : S98) (h : a ≤ b) (hb : b ≤ l.length) : (zb7 l a b c).length = l.length := by
 simp [zb7]; omega
theorem fillv_self (l : List S98) (a : Nat) (c : S98) : zb7 l a a c = l := by simp [zb7]
theorem fillv_set (l : List S98) (a b : Nat) (c : S98) (h : a < b) (hb : b ≤ l.length) : zb7 (l.set a c) (a + 1) b c = zb7 l a b c := by
 unfold zb7
 rw [zbu _ _ _ (by omega), List.drop_set_of_lt (by omega)]
 rw [show b - a = (b - (a + 1)) + 1 by omega, List.replicate_succ]
 simp
def zbx (l : List S98) (a : Nat) : List S98 := if 1 ≤ a ∧ a < l.length ∧ (zad l a).f2 = 2 then (l.set (a - 1) (bl (zad l (a - 1)))).set a (bl (zad l a)) else l
theorem partv_length (l : List S98) (a : Nat) : (zbx l a).length = l.length := by
 unfold zbx
 by_cases h : 1 ≤ a ∧ a < l.length ∧ (zad l a).f2 = 2
 ·rw [if_pos h]; simp
 ·rw [if_neg h]
theorem cellAt_partv (l : List S98) (a i : Nat) : zad (zbx l a) i = if 1 ≤ a ∧ a < l.length ∧ (zad l a).f2 = 2 ∧ (i = a ∨ i + 1 = a) then bl (zad l i) else zad l i := by
 unfold zbx
 by_cases h : 1 ≤ a ∧ a < l.length ∧ (zad l a).f2 = 2
 ·rw [if_pos h, zb8 _ _ _ _ (by rw [List.length_set]; omega), zb8 _ _ _ _ (by omega)]
  by_cases h1 : i = a
  ·rw [if_pos h1, if_pos ⟨h.1, h.2.1, h.2.2, .inl h1⟩, h1]
  ·by_cases h2 : i = a - 1
   ·rw [if_neg h1, if_pos h2, if_pos ⟨h.1, h.2.1, h.2.2, .inr (by omega)⟩, h2]
   ·rw [if_neg h1, if_neg h2, if_neg (fun q => by omega)]
 ·rw [if_neg h, if_neg (fun q => h ⟨q.1, q.2.1, q.2.2.1⟩)]
theorem impl_part_ev (l : List S98) (a : Nat) (hl : l.length < 4611686018427387904) (ha : a ≤ l.length) : Ev (fun k => impl_part.f k l (a : Int)) (zbx l a) := by
 have w1 : ∀ _ : Unit, wrap64 ((l.length : Int) - 1) = (l.length : Int) - 1 := fun _ => w64 (by omega) (by omega)
 simp only [impl_part.f, zai, Option.bind_some, w1 ()]
 have no : ∀ (q : ¬ (1 ≤ a ∧ a < l.length ∧ (zad l a).f2 = 2)), Ev (fun k => impl_part.j0 k l (a : Int) false) (zbx l a) := by
  intro q
  refine zae ?_
  simp only [impl_part.j0]
  refine zab (by simp) (za0 (Ev.now _) ?_)
  unfold zbx; rw [if_neg q]
 by_cases h : 1 ≤ a ∧ a < l.length
 ·refine zaa (by simp; omega) (zaa (by omega) (zaa (by omega) ?_))
  show Ev (fun k => impl_part.j0 k l (a : Int) ((zad l a).f2 == 2)) (zbx l a)
  by_cases q : (zad l a).f2 = 2
  ·have wa : ∀ _ : Unit, wrap64 ((a : Int) - 1) = ((a - 1 : Nat) : Int) := fun _ => by rw [w64 (by omega) (by omega)]; omega
   refine zae ?_
   simp only [impl_part.j0, wa (), impl_blank.f, Option.bind_some, Int.toNat_natCast]
   refine zaa (by simp [q]) (zaa (by omega) (zaa (by omega) (zaa (by omega) (zaa (by omega) (za0 (Ev.now _) ?_)))))
   unfold zbx; rw [if_pos ⟨h.1, h.2, q⟩]; rfl
  ·rw [show ((zad l a).f2 == 2) = false by simpa using q]
   exact no (fun x => q x.2.2)
 ·exact zab (by simp; omega) (no (fun x => h ⟨x.1, x.2.1⟩))
def za9 (m : List S98) (i : Nat) : Prop := ((zad m i).f2 = 1 ∧ (i + 1 = m.length ∨ (zad m (i + 1)).f2 ≠ 2)) ∨ ((zad m i).f2 = 2 ∧ (i = 0 ∨ (zad m (i - 1)).f2 ≠ 1))
instance (m : List S98) (i : Nat) : Decidable (za9 m i) := by unfold za9; exact inferInstance
def za6 (m : List S98) (i : Nat) : S98 := if za9 m i then bl (zad m i) else zad m i
def zau (m : List S98) : List S98 := (List.range m.length).map (za6 m)
theorem zak (m : List S98) : (zau m).length = m.length := by simp [zau]
theorem za1 (m : List S98) (i : Nat) (h : i < m.length) : zad (zau m) i = za6 m i := by
 rw [zb2 (by rw [zak]; exact h)]
 simp [zau]

theorem zbe (m : List S98) (hl : m.length < 1000000) : Ev (fun k => spec_l4Mended.f k m) (zau m) := by
 have go : ∀ (d i : Nat) (out : List S98), i + d = m.length → out.length = m.length → (∀ j, j < m.length → zad out j = if j < i then za6 m j else zad m j) → Ev (fun k => spec_l4Mended.l0 k m out (i : Int)) (zau m) := by
  intro d
  induction d with
  | zero =>
   intro i out h hm hc
   refine zae ?_
   simp only [spec_l4Mended.l0]
   refine zab (by omega) (za0 (Ev.now _) ?_)
   refine cells_ext (by rw [hm, zak]) (fun j hj => ?_)
   rw [hc j (by omega), if_pos (by omega), za1 _ _ (by omega)]
  | succ d ih =>
   intro i out h hm hc
   have c0 : zad out i = zad m i := by rw [hc i (by omega), if_neg (by omega)]
   have blankStep : za9 m i → Ev (fun k => spec_l4Mended.l0 k m (out.set i (bl (zad m i))) ((i + 1 : Nat) : Int)) (zau m) := by
    intro ha
    refine ih (i + 1) _ (by omega) (by rw [List.length_set]; exact hm) (fun j hj => ?_)
    rw [zb8 _ _ _ _ (by omega)]
    by_cases e : j = i
    ·rw [if_pos e, if_pos (by omega), e]; unfold za6; rw [if_pos ha]
    ·rw [if_neg e, hc j hj]
     by_cases q : j < i
     ·rw [if_pos q, if_pos (by omega)]
     ·rw [if_neg q, if_neg (by omega)]
   have keepStep : ¬ za9 m i → Ev (fun k => spec_l4Mended.l0 k m out ((i + 1 : Nat) : Int)) (zau m) := by
    intro ha
    refine ih (i + 1) _ (by omega) hm (fun j hj => ?_)
    rw [hc j hj]
    by_cases e : j = i
    ·rw [if_neg (by omega), if_pos (by omega), e]; unfold za6; rw [if_neg ha]
    ·by_cases q : j < i
     ·rw [if_pos q, if_pos (by omega)]
     ·rw [if_neg q, if_neg (by omega)]
   have wi : ∀ _ : Unit, wrap64 ((i : Int) + 1) = ((i + 1 : Nat) : Int) := fun _ => by rw [w64 (by omega) (by omega)]; omega
   have g0 : rd_T98 out (i : Int) = zad m i := c0
   have hlen : (out.length : Int) = (m.length : Int) := by rw [hm]
   refine zae ?_
   simp only [spec_l4Mended.l0, g0, wi (), spec_l4Blank.f, Option.bind_some, Int.toNat_natCast, hlen]
   refine zaa (by omega) (zaa (by omega) ?_)
   by_cases p1 : (zad m i).f2 = 1
   ·refine zaa p1 ?_
    by_cases e : i + 1 = m.length
    ·exact zaa (by omega) (blankStep (.inl ⟨p1, .inl e⟩))
    ·have g1 : rd_T98 out ((i + 1 : Nat) : Int) = zad m (i + 1) := by
      show zad out (i + 1) = _
      rw [hc (i + 1) (by omega), if_neg (by omega)]
     simp only [g1]
     refine zab (by omega) (zaa (by omega) (zaa (by omega) ?_))
     by_cases p2 : (zad m (i + 1)).f2 = 2
     ·refine zaa p2 (zab (by omega) (keepStep ?_))
      rintro (⟨_, q | q⟩ | ⟨q, _⟩)
      ·exact e q
      ·exact q p2
      ·omega
     ·exact zab p2 (blankStep (.inl ⟨p1, .inr p2⟩))
   ·refine zab p1 ?_
    by_cases p2 : (zad m i).f2 = 2
    ·refine zaa p2 ?_
     by_cases e : i = 0
     ·exact zaa (by omega) (blankStep (.inr ⟨p2, .inl e⟩))
     ·have wm : wrap64 ((i : Int) - 1) = ((i - 1 : Nat) : Int) := by rw [w64 (by omega) (by omega)]; omega
      have g1 : rd_T98 m ((i - 1 : Nat) : Int) = zad m (i - 1) := rfl
      simp only [wm, g1]
      refine zab (by omega) (zaa (by omega) (zaa (by omega) ?_))
      by_cases p3 : (zad m (i - 1)).f2 = 1
      ·refine zaa p3 (keepStep ?_)
       rintro (⟨q, _⟩ | ⟨_, q | q⟩)
       ·exact p1 q
       ·exact e q
       ·exact q p3
      ·exact zab p3 (blankStep (.inr ⟨p2, .inr p3⟩))
    ·refine zab p2 (keepStep ?_)
     rintro (⟨q, _⟩ | ⟨q, _⟩)
     ·exact p1 q
     ·exact p2 q
 simp only [spec_l4Mended.f, Option.bind_some, List.nil_append]
 exact zaa (by simp; omega) (go m.length 0 m (by omega) rfl (fun j _ => by rw [if_neg (by omega)]))

theorem zbb (l : List S98) (a b : Nat) (s0 s1 : Int) (s2 s3 s4 : Bool) (hl : l.length < 1000000) (hab : a ≤ b) (hb : b ≤ l.length) :
  Ev (fun k => spec_l4Cleared.f k l (a : Int) (b : Int) s0 s1 s2 s3 s4) (zau (zb7 l a b (blk ⟨s0, s1, s2, s3, s4⟩))) := by
 have loop : ∀ (d i : Nat) (m : List S98), i + d = b → m.length = l.length → Ev (fun k => spec_l4Cleared.l0 k (b : Int) m (i : Int) s0 s1 s2 s3 s4) (zau (zb7 m i b (blk ⟨s0, s1, s2, s3, s4⟩))) := by
  intro d
  induction d with
  | zero =>
   intro i m h hm
   refine zae ?_
   simp only [spec_l4Cleared.l0]
   refine zab (by omega) ?_
   rw [show i = b by omega, fillv_self]
   exact Ev.bind (zbe m (by omega)) (Ev.now _)
  | succ d ih =>
   intro i m h hm
   have := ih (i + 1) (m.set i (blk ⟨s0, s1, s2, s3, s4⟩)) (by omega) (by simpa using hm)
   rw [fillv_set _ _ _ _ (by omega) (by omega)] at this
   have wi : ∀ _ : Unit, wrap64 ((i : Int) + 1) = ((i + 1 : Nat) : Int) := fun _ => by rw [w64 (by omega) (by omega)]; omega
   refine zae ?_
   simp only [spec_l4Cleared.l0, spec_l4Blank.f, Option.bind_some, wi (), Int.toNat_natCast]
   exact zaa (by omega) (zaa (by omega) (zaa (by omega) this))
 simp only [spec_l4Cleared.f, Option.bind_some, List.nil_append]
 exact zaa (by simp; omega) (loop (b - a) a l (by omega) rfl)

def zbi (l : List S98) (a : Nat) (r : Int) (s : S96) : List S98 :=
 if wid r = 2 then ((zau (zb7 l a (a + 2) (blk s))).set a ⟨r, s, 1⟩).set (a + 1) ⟨0, s, 2⟩ else (zau (zb7 l a (a + 1) (blk s))).set a ⟨r, s, 0⟩
theorem zcb (l : List S98) (a : Nat) (r : Int) (s : S96) (h : a + 1 ≤ l.length) (h2 : wid r = 2 → a + 2 ≤ l.length) : (zbi l a r s).length = l.length := by
 unfold zbi
 by_cases q : wid r = 2
 ·rw [if_pos q, List.length_set, List.length_set, zak, za7 _ _ _ _ (by omega) (h2 q)]
 ·rw [if_neg q, List.length_set, zak, za7 _ _ _ _ (by omega) h]
theorem zb3 (l : List S98) (a : Nat) (r : Int) (s0 s1 : Int) (s2 s3 s4 : Bool) (hl : l.length < 1000000) (h0 : wid r = 1 ∨ wid r = 2) (ha : (a : Int) + wid r ≤ (l.length : Int)) :
  Ev (fun k => spec_l4Written.f k l (a : Int) r s0 s1 s2 s3 s4) (zbi l a r ⟨s0, s1, s2, s3, s4⟩) := by
 unfold spec_l4Written.f zbi
 refine Ev.bind (zaq r) ?_
 rcases h0 with h0 | h0
 ·rw [if_neg (by omega)]
  have wa : wrap64 ((a : Int) + wid r) = ((a + 1 : Nat) : Int) := by rw [h0, w64 (by omega) (by omega)]; omega
  have wp : wrap64 (wid r - 1) = 0 := by rw [h0]; exact w64 (by omega) (by omega)
  simp only [wa, wp, Int.toNat_natCast, Option.bind_some]
  have e := zbb l a (a + 1) s0 s1 s2 s3 s4 hl (by omega) (by omega)
  have hlen : (zau (zb7 l a (a + 1) (blk ⟨s0, s1, s2, s3, s4⟩))).length = l.length := by rw [zak, za7 _ _ _ _ (by omega) (by omega)]
  refine Ev.bind e (zaa (by omega) (zaa (by rw [hlen]; omega) (zab (by omega) (Ev.now _))))
 ·rw [if_pos h0]
  have wa : wrap64 ((a : Int) + wid r) = ((a + 2 : Nat) : Int) := by rw [h0, w64 (by omega) (by omega)]; omega
  have wp : wrap64 (wid r - 1) = 1 := by rw [h0]; exact w64 (by omega) (by omega)
  have w1 : wrap64 ((a : Int) + 1) = ((a + 1 : Nat) : Int) := by rw [w64 (by omega) (by omega)]; omega
  simp only [wa, wp, w1, Int.toNat_natCast, Option.bind_some]
  have e := zbb l a (a + 2) s0 s1 s2 s3 s4 hl (by omega) (by omega)
  have hlen : (zau (zb7 l a (a + 2) (blk ⟨s0, s1, s2, s3, s4⟩))).length = l.length := by rw [zak, za7 _ _ _ _ (by omega) (by omega)]
  refine Ev.bind e (zaa (by omega) (zaa (by rw [hlen]; omega) (zaa h0 (zaa (by omega) (zaa (by rw [hlen]; omega) (Ev.now _))))))

theorem zaz (n : Nat) (a b : Int) (c d e : Bool) (hn : n ≤ 1000000) : Ev (fun k => spec_l4Row.f k (n : Int) a b c d e) (List.replicate n (blk ⟨a, b, c, d, e⟩)) := by
 have go : ∀ (q i : Nat), i + q = n → Ev (fun k => spec_l4Row.l0 k (n : Int) (List.replicate i (blk ⟨a, b, c, d, e⟩)) (i : Int) a b c d e) (List.replicate n (blk ⟨a, b, c, d, e⟩)) := by
  intro q
  induction q with
  | zero =>
   intro i h
   obtain rfl : i = n := by omega
   refine zae ?_
   simp only [spec_l4Row.l0]
   exact zab (by omega) (Ev.now _)
  | succ q ih =>
   intro i h
   have := ih (i + 1) (by omega)
   have wi : ∀ _ : Unit, wrap64 ((i : Int) + 1) = ((i + 1 : Nat) : Int) := fun _ => by rw [w64 (by omega) (by omega)]; omega
   refine zae ?_
   simp only [spec_l4Row.l0, spec_l4Blank.f, Option.bind_some, wi ()]
   refine zaa (by omega) (zaa (by rw [List.length_replicate]; omega) ?_)
   rw [List.replicate_succ'] at this
   exact this
 unfold spec_l4Row.f
 exact go n 0 (by omega)

theorem zbo (b : List Int) (hb : b.length < 4611686018427387904) (i h : Int) (hi : 0 ≤ i) : ∃ v i' h', spec_l4DrawRune.f b i h = some (v, i', h') ∧ (wid v = 1 ∨ wid v = 2) ∧ 0 ≤ i' := by
 unfold spec_l4DrawRune.f
 obtain ⟨v, i1, h1, e, v0, v1, j1⟩ := zaf b hb i h 8 hi (by omega)
 rw [Option.bind_some, e]
 simp only [Option.bind_some]
 rw [if_pos v0, if_pos (by simp; omega)]
 refine ⟨_, _, _, rfl, ?_, j1⟩
 have hv : v = 0 ∨ v = 1 ∨ v = 2 ∨ v = 3 ∨ v = 4 ∨ v = 5 ∨ v = 6 ∨ v = 7 := by omega
 rcases hv with rfl | rfl | rfl | rfl | rfl | rfl | rfl | rfl <;> decide
theorem za2 (b : List Int) (hb : b.length < 4611686018427387904) (i h : Int) (hi : 0 ≤ i) (n : Nat) (h1 : 1 ≤ n) (h9 : n ≤ 60) :
  ∃ l i' h', Ev (fun k => spec_l4Draw.f k b i h (n : Int)) (l, i', h') ∧ l.length = n ∧ 0 ≤ i' := by
 have go : ∀ (d : Nat) (l : List S98) (i h : Int), d ≤ 7 → l.length = n → 0 ≤ i → ∃ l' i' h', Ev (fun k => spec_l4Draw.l0 k (n : Int) l (d : Int) b i h) (l', i', h') ∧ l'.length = n ∧ 0 ≤ i' := by
  intro d
  induction d with
  | zero =>
   intro l i h _ hl hi
   refine ⟨l, i, h, zae ?_, hl, hi⟩
   simp only [spec_l4Draw.l0]
   exact zab (by omega) (Ev.now _)
  | succ d ih =>
   intro l i h hd hl hi
   have wd : ∀ _ : Unit, wrap64 (((d + 1 : Nat) : Int) - 1) = (d : Int) := fun _ => by rw [w64 (by omega) (by omega)]; omega
   obtain ⟨r, i1, h1', e1, hw, j1⟩ := zbo b hb i h hi
   obtain ⟨a, i2, h2, e2, a0, a1, j2⟩ := zaf b hb i1 h1' (n : Int) j1 (by omega)
   obtain ⟨x, rfl⟩ := Int.eq_ofNat_of_zero_le a0
   have wa : wrap64 ((x : Int) + wid r) = (x : Int) + wid r := w64 (by omega) (by omega)
   by_cases c : (x : Int) + wid r ≤ (n : Int)
   ·obtain ⟨s0, s1, s2, s3, s4, i3, h3, e3, j3⟩ := zbf b hb i2 h2 j2
    have ew := zb3 l x r s0 s1 s2 s3 s4 (by omega) hw (by omega)
    have lw := zcb l x r ⟨s0, s1, s2, s3, s4⟩ (by omega) (fun q => by omega)
    obtain ⟨l', i', h', e', hl', hi'⟩ := ih (zbi l x r ⟨s0, s1, s2, s3, s4⟩) i3 h3 (by omega) (by omega) j3
    refine ⟨l', i', h', zae ?_, hl', hi'⟩
    simp only [spec_l4Draw.l0, e1, e2, e3, Option.bind_some, wd ()]
    exact zaa (by omega) (Ev.bind (zaq r) (zaa (by rw [wa]; exact c) (Ev.bind ew e')))
   ·obtain ⟨l', i', h', e', hl', hi'⟩ := ih l i2 h2 (by omega) hl j2
    refine ⟨l', i', h', zae ?_, hl', hi'⟩
    simp only [spec_l4Draw.l0, e1, e2, Option.bind_some, wd ()]
    exact zaa (by omega) (Ev.bind (zaq r) (zab (by rw [wa]; exact c) e'))
 unfold spec_l4Draw.f
 obtain ⟨v, i1, h1', e1, v0, v1, j1⟩ := zaf b hb i h 7 hi (by omega)
 obtain ⟨d, rfl⟩ := Int.eq_ofNat_of_zero_le v0
 obtain ⟨l', i', h', e', hl', hi'⟩ := go d (List.replicate n (blk ⟨0, 0, false, false, false⟩)) i1 h1' (by omega) (by simp) j1
 exact ⟨l', i', h', Ev.bind (zaz n 0 0 false false false (by omega)) (zac e1 e'), hl', hi'⟩
theorem zbp (b : List Int) (hb : b.length < 4611686018427387904) (i h : Int) (hi : 0 ≤ i) :
  ∃ l i' h', Ev (fun k => spec_l4DrawAny.f k b i h) (l, i', h') ∧ l.length ≤ 61 ∧ 0 ≤ i' := by
 unfold spec_l4DrawAny.f
 obtain ⟨v, i1, h1, e1, v0, v1, j1⟩ := zaf b hb i h 9 hi (by omega)
 obtain ⟨d, rfl⟩ := Int.eq_ofNat_of_zero_le v0
 have w1 : ∀ _ : Unit, wrap64 (1 + (d : Int)) = ((1 + d : Nat) : Int) := fun _ => by rw [w64 (by omega) (by omega)]; omega
 obtain ⟨l, i2, h2, e2, hl, j2⟩ := za2 b hb i1 h1 j1 (1 + d) (by omega) (by omega)
 obtain ⟨o, i3, h3, e3, j3⟩ := zaj b hb i2 h2 12 j2 (by omega)
 cases o with
 | false =>
  refine ⟨l, i3, h3, zac e1 ?_, by omega, j3⟩
  simp only [w1 ()]
  exact Ev.bind e2 (zac e3 (zab (by simp) (Ev.now _)))
 | true =>
  obtain ⟨a, i4, h4, e4, a0, a1, j4⟩ := zaf b hb i3 h3 (l.length : Int) j3 (by omega)
  obtain ⟨c, i5, h5, e5, c0, c1, j5⟩ := zaf b hb i4 h4 4 j4 (by omega)
  by_cases q0 : c = 0
  ·obtain ⟨u, i6, h6, e6, u0, u1, j6⟩ := zaf b hb i5 h5 6 j5 (by omega)
   have ef : spec_l1From.f b i5 h5 (-1) 4 = some (wrap64 (-1 + u), i6, h6) := by
    unfold spec_l1From.f
    rw [w64 (x := 4 - (-1)) (by omega) (by omega), show (4 : Int) - (-1) + 1 = 6 by omega, w64 (x := 6) (by omega) (by omega), e6]
    rfl
   refine ⟨l.set a.toNat ⟨(rd_T98 l a).f0, ⟨(rd_T98 l a).f1.f0, (rd_T98 l a).f1.f1, (rd_T98 l a).f1.f2, (rd_T98 l a).f1.f3, (rd_T98 l a).f1.f4⟩, wrap64 (-1 + u)⟩, i6, h6, zac e1 ?_, by rw [List.length_set]; omega, j6⟩
   simp only [w1 ()]
   exact Ev.bind e2 (zac e3 (zaa rfl (zac e4 (zaa a0 (zaa (show a < (l.length : Int) by omega) (zac e5 (zaa q0 (zac ef (Ev.now _)))))))))
  by_cases q1 : c = 1
  ·obtain ⟨u, i6, h6, e6, u0, u1, j6⟩ := zaf b hb i5 h5 4 j5 (by omega)
   refine ⟨l.set a.toNat ⟨rd [0, 10, 19968, (-1)] u, ⟨(rd_T98 l a).f1.f0, (rd_T98 l a).f1.f1, (rd_T98 l a).f1.f2, (rd_T98 l a).f1.f3, (rd_T98 l a).f1.f4⟩, (rd_T98 l a).f2⟩, i6, h6, zac e1 ?_, by rw [List.length_set]; omega, j6⟩
   simp only [w1 (), Option.bind_some]
   exact Ev.bind e2 (zac e3 (zaa rfl (zac e4 (zaa a0 (zaa (show a < (l.length : Int) by omega) (zac e5 (zab q0 (zaa q1 (zac e6 (zaa u0 (zaa (by simp only [List.length_cons, List.length_nil]; omega) (Ev.now _))))))))))))
  by_cases q2 : c = 2
  ·obtain ⟨s0, s1, s2, s3, s4, i6, h6, e6, j6⟩ := zbq b hb i5 h5 j5
   refine ⟨l.set a.toNat ⟨(rd_T98 l a).f0, ⟨s0, s1, s2, s3, s4⟩, (rd_T98 l a).f2⟩, i6, h6, zac e1 ?_, by rw [List.length_set]; omega, j6⟩
   simp only [w1 ()]
   exact Ev.bind e2 (zac e3 (zaa rfl (zac e4 (zaa a0 (zaa (show a < (l.length : Int) by omega) (zac e5 (zab q0 (zab q1 (zaa q2 (zac e6 (Ev.now _)))))))))))
  ·obtain ⟨u, i6, h6, e6, u0, u1, j6⟩ := zaf b hb i5 h5 2 j5 (by omega)
   obtain ⟨m, rfl⟩ := Int.eq_ofNat_of_zero_le u0
   have w2 : ∀ _ : Unit, wrap64 (60 + (m : Int)) = ((60 + m : Nat) : Int) := fun _ => by rw [w64 (by omega) (by omega)]; omega
   have er := zaz (60 + m) 0 0 false false false (by omega)
   refine ⟨List.replicate (60 + m) (blk ⟨0, 0, false, false, false⟩), i6, h6, zac e1 ?_, by rw [List.length_replicate]; omega, j6⟩
   simp only [w1 ()]
   refine Ev.bind e2 (zac e3 (zaa rfl (zac e4 (zaa a0 (zaa (show a < (l.length : Int) by omega) (zac e5 (zab q0 (zab q1 (zab q2 (zaa (by omega) (zac e6 ?_)))))))))))
   simp only [w2 ()]
   exact Ev.bind er (Ev.now _)

theorem rdLi (l : List (List S98)) (i : Nat) (h : i < l.length) : rd_L5 l (i : Int) = l[i] := by
 unfold rd_L5; rw [Int.toNat_natCast, List.getD_eq_getElem?_getD, List.getElem?_eq_getElem h]; rfl

def zan (c : Int) (l : List (List S98)) : Prop := 1 ≤ c ∧ c ≤ 60 ∧ 1 ≤ l.length ∧ l.length ≤ 30 ∧ ∀ x ∈ l, (x.length : Int) = c ∧ zav x
theorem zap (c : Int) (l : List (List S98)) : ∃ b, Ev (fun k => spec_GridOk.f k c l) b ∧ (b = true ↔ zan c l) := by
 have go : l.length ≤ 30 → ∀ (d i : Nat), i + d = l.length → ∃ b, Ev (fun k => spec_GridOk.l0 k (i : Int) c l) b ∧ (b = true ↔ ∀ x ∈ l.drop i, (x.length : Int) = c ∧ zav x) := by
  intro hl d
  induction d with
  | zero =>
   intro i h
   refine ⟨true, zae ?_, by rw [List.drop_of_length_le (by omega)]; simp⟩
   simp only [spec_GridOk.l0]
   exact zab (by omega) (Ev.now _)
  | succ d ih =>
   intro i h
   obtain ⟨b, e, hb⟩ := ih (i + 1) (by omega)
   have w2 : ∀ _ : Unit, wrap64 ((i : Int) + 1) = ((i + 1 : Nat) : Int) := fun _ => by rw [w64 (by omega) (by omega)]; omega
   obtain ⟨b1, e1, hb1⟩ := zcj l[i]
   rw [List.drop_eq_getElem_cons (by omega)]
   by_cases q : (l[i].length : Int) = c
   ·by_cases q1 : b1 = true
    ·refine ⟨b, zae ?_, ?_⟩
     ·simp only [spec_GridOk.l0, rdLi l i (by omega), w2 ()]
      exact zaa (by omega) (zaa (by omega) (zaa q (Ev.bind e1 (zaa q1 e))))
     ·rw [hb]
      constructor
      ·intro z x hx
       rcases List.mem_cons.mp hx with rfl | hx
       ·exact ⟨q, hb1.mp q1⟩
       ·exact z x hx
      ·intro z x hx; exact z x (List.mem_cons_of_mem _ hx)
    ·refine ⟨false, zae ?_, ⟨fun z => (by cases z), fun z => absurd (hb1.mpr (z _ List.mem_cons_self).2) q1⟩⟩
     simp only [spec_GridOk.l0, rdLi l i (by omega), w2 ()]
     exact zaa (by omega) (zaa (by omega) (zaa q (Ev.bind e1 (zab q1 (Ev.now _)))))
   ·refine ⟨false, zae ?_, ⟨fun z => (by cases z), fun z => absurd (z _ List.mem_cons_self).1 q⟩⟩
    simp only [spec_GridOk.l0, rdLi l i (by omega), w2 ()]
    exact zaa (by omega) (zaa (by omega) (zab q (Ev.now _)))
 have jt : Ev (fun k => spec_GridOk.j0 k true c l) false := by
  refine zae ?_
  simp only [spec_GridOk.j0]
  exact zaa (by trivial) (Ev.now _)
 unfold spec_GridOk.f
 by_cases h1 : 1 ≤ c ∧ c ≤ 60
 case neg =>
  refine ⟨false, zac (zam _ _ _) (zab ?_ jt), ⟨fun z => (by cases z), fun z => absurd ⟨z.1, z.2.1⟩ h1⟩⟩
  simp; omega
 have i1 : (decide (1 ≤ c) && decide (c ≤ 60)) = true := by simp; omega
 by_cases h2 : (l.length : Int) < 1
 ·exact ⟨false, zac (zam _ _ _) (zaa i1 (zaa h2 jt)), ⟨fun z => (by cases z), fun z => absurd z.2.2.1 (by omega)⟩⟩
 by_cases h3 : l.length ≤ 30
 ·obtain ⟨b, e, hb⟩ := go h3 l.length 0 (by omega)
  refine ⟨b, zac (zam _ _ _) (zaa i1 (zab h2 (zae ?_))), ?_⟩
  ·rw [decide_eq_false (by omega)]
   simp only [spec_GridOk.j0]
   exact zab (by simp) e
  ·rw [hb, List.drop_zero]
   exact ⟨fun z => ⟨h1.1, h1.2, by omega, h3, z⟩, fun z => z.2.2.2.2⟩
 ·refine ⟨false, zac (zam _ _ _) (zaa i1 (zab h2 ?_)), ⟨fun z => (by cases z), fun z => absurd z.2.2.2.1 h3⟩⟩
  rw [decide_eq_true (by omega)]
  exact jt
theorem zal (c : Int) (l : List (List S98)) (hw : ∀ x ∈ l, x.length ≤ 1048576) : ∃ b, Ev (fun k => impl_GridOk.f k c l) b ∧ (b = true ↔ zan c l) := by
 have go : ∀ m : List (List S98), (∀ x ∈ m, x.length ≤ 1048576) → ∃ b, Ev (fun k => impl_GridOk.l0 k c m) b ∧ (b = false ↔ ∀ x ∈ m, (x.length : Int) = c ∧ zav x) := by
  intro m
  induction m with
  | nil =>
   intro _
   exact ⟨false, Ev.now _, by simp⟩
  | cons y m ih =>
   intro hm
   obtain ⟨b, e, hb⟩ := ih (fun x hx => hm x (List.mem_cons_of_mem _ hx))
   obtain ⟨b1, e1, hb1⟩ := zcm y (hm y List.mem_cons_self)
   by_cases q : (y.length : Int) = c
   ·by_cases q1 : b1 = true
    ·refine ⟨b, ?_, ?_⟩
     ·simp only [impl_GridOk.l0]
      exact zaa q (Ev.bind e1 (zaa q1 e))
     ·rw [hb]
      constructor
      ·intro z x hx
       rcases List.mem_cons.mp hx with rfl | hx
       ·exact ⟨q, hb1.mp q1⟩
       ·exact z x hx
      ·intro z x hx; exact z x (List.mem_cons_of_mem _ hx)
    ·refine ⟨true, ?_, ⟨fun z => (by cases z), fun z => absurd (hb1.mpr (z _ List.mem_cons_self).2) q1⟩⟩
     simp only [impl_GridOk.l0]
     exact zaa q (Ev.bind e1 (zab q1 (Ev.now _)))
   ·refine ⟨true, ?_, ⟨fun z => (by cases z), fun z => absurd (z _ List.mem_cons_self).1 q⟩⟩
    simp only [impl_GridOk.l0]
    exact zab q (Ev.now _)
 unfold impl_GridOk.f
 by_cases h1 : 1 ≤ c ∧ c ≤ 60
 case neg =>
  refine ⟨false, zac (zai _ _ _) (zab ?_ (Ev.now _)), ⟨fun z => (by cases z), fun z => absurd ⟨z.1, z.2.1⟩ h1⟩⟩
  simp; omega
 have i1 : (decide (1 ≤ c) && decide (c ≤ 60)) = true := by simp; omega
 by_cases h2 : 1 ≤ l.length ∧ l.length ≤ 30
 case neg =>
  refine ⟨false, zac (zai _ _ _) (zaa i1 (zac (zai _ _ _) (zab ?_ (Ev.now _)))), ⟨fun z => (by cases z), fun z => absurd ⟨z.2.2.1, z.2.2.2.1⟩ h2⟩⟩
  simp; omega
 have i2 : (decide (1 ≤ (l.length : Int)) && decide ((l.length : Int) ≤ 30)) = true := by simp; omega
 obtain ⟨b, e, hb⟩ := go l hw
 refine ⟨!b, zac (zai _ _ _) (zaa i1 (zac (zai _ _ _) (zaa i2 (Ev.bind e (Ev.now _))))), ?_⟩
 rw [Bool.not_eq_true', hb]
 exact ⟨fun z => ⟨h1.1, h1.2, h2.1, h2.2, z⟩, fun z => z.2.2.2.2⟩

theorem wid_blank : wid 32 = 1 := by decide
def zas (l : List S98) : Prop := ∀ i, i < l.length → za8 l i
theorem zbs {l : List S98} (h : zav l) : zas l := h.2.2
theorem zay (l : List S98) (a i : Nat) (h : i < a) : zad (l.take a) i = zad l i := by
 unfold zad rd_T98
 rw [Int.toNat_natCast, List.getD_eq_getElem?_getD, List.getD_eq_getElem?_getD, List.getElem?_take, if_pos h]
theorem zb9 (a b : List S98) (i : Nat) : zad (a ++ b) i = if i < a.length then zad a i else zad b (i - a.length) := by
 unfold zad rd_T98
 rw [Int.toNat_natCast, Int.toNat_natCast, List.getD_eq_getElem?_getD, List.getD_eq_getElem?_getD, List.getD_eq_getElem?_getD, List.getElem?_append]
 by_cases h : i < a.length
 ·rw [if_pos h, if_pos h]
 ·rw [if_neg h, if_neg h]
theorem cellAt_rep (n : Nat) (x : S98) (i : Nat) (h : i < n) : zad (List.replicate n x) i = x := by
 rw [zb2 (by rw [List.length_replicate]; exact h), List.getElem_replicate]
theorem part_take {l : List S98} (hr : zas l) (a : Nat) (ha : a ≤ l.length) : (zbx l a).take a = zau (l.take a) := by
 have hl : (l.take a).length = a := by rw [List.length_take]; omega
 refine cells_ext (by rw [zak, List.length_take, partv_length, hl]; omega) (fun i hi => ?_)
 have hia : i < a := by rw [List.length_take] at hi; omega
 rw [zay _ _ _ hia, za1 _ _ (by omega), cellAt_partv]
 have c := (hr i (by omega)).2
 have e0 := zay l a i hia
 unfold za6
 by_cases q : 1 ≤ a ∧ a < l.length ∧ (zad l a).f2 = 2 ∧ (i = a ∨ i + 1 = a)
 ·rw [if_pos q, e0]
  have ca := (hr a q.2.1).2
  have e1 : i + 1 = a := by omega
  have f1 : (zad l i).f2 = 1 := by
   rcases ca with z | z | z
   ·omega
   ·omega
   ·rw [show i = a - 1 by omega]; exact z.2.2.2
  rw [if_pos]
  unfold za9
  rw [e0, hl]
  exact .inl ⟨f1, .inl e1⟩
 ·rw [if_neg q, e0, if_neg]
  unfold za9
  rw [e0, hl]
  rintro (⟨z, w⟩ | ⟨z, w⟩)
  ·rcases c with y | y | y
   ·omega
   ·by_cases e1 : i + 1 = a
    ·exact q ⟨by omega, by omega, by rw [← e1]; exact y.2.2.2.1, .inr e1⟩
    ·rcases w with w | w
     ·omega
     ·rw [zay _ _ _ (by omega)] at w; exact w y.2.2.2.1
   ·omega
  ·rcases c with y | y | y
   ·omega
   ·omega
   ·rcases w with w | w
    ·omega
    ·rw [zay _ _ _ (by omega)] at w; exact w y.2.2.2
def CellSolo (x : S98) : Prop := sokv x.f1.f0 x.f1.f1 = true ∧ ((x.f2 = 0 ∧ wid x.f0 = 1) ∨ (x.f2 = 1 ∧ wid x.f0 = 2) ∨ (x.f2 = 2 ∧ x.f0 = 0))
theorem solo_of {l : List S98} {i : Nat} (h : za8 l i) : CellSolo (zad l i) := by
 refine ⟨h.1, ?_⟩
 rcases h.2 with z | z | z
 ·exact .inl z
 ·exact .inr (.inl ⟨z.1, z.2.1⟩)
 ·exact .inr (.inr ⟨z.1, z.2.1⟩)
def Paired (m : List S98) : Prop := ∀ i, i + 1 < m.length → (zad m i).f2 = 1 → (zad m (i + 1)).f2 = 2 → (zad m (i + 1)).f1 = (zad m i).f1
theorem paired_of {l : List S98} (h : zas l) : Paired l := by
 intro i hi h1 h2
 rcases (h i (by omega)).2 with z | z | z
 ·omega
 ·exact z.2.2.2.2
 ·omega
theorem mended_cells {m : List S98} (h : ∀ i, i < m.length → CellSolo (zad m i)) (hp : Paired m) : zas (zau m) := by
 intro i hi
 rw [zak] at hi
 have hs := h i hi
 unfold za8
 rw [zak, za1 _ _ hi]
 by_cases q : za9 m i
 ·have e : za6 m i = bl (zad m i) := by unfold za6; rw [if_pos q]
  rw [e]
  exact ⟨hs.1, .inl ⟨rfl, wid_blank⟩⟩
 ·have e : za6 m i = zad m i := by unfold za6; rw [if_neg q]
  rw [e]
  refine ⟨hs.1, ?_⟩
  have q' : ¬ (((zad m i).f2 = 1 ∧ (i + 1 = m.length ∨ (zad m (i + 1)).f2 ≠ 2)) ∨ ((zad m i).f2 = 2 ∧ (i = 0 ∨ (zad m (i - 1)).f2 ≠ 1))) := q
  rcases hs.2 with z | z | z
  ·exact .inl z
  ·have hn : ¬ (i + 1 = m.length) ∧ (zad m (i + 1)).f2 = 2 := ⟨fun c => q' (.inl ⟨z.1, .inl c⟩), Decidable.byContradiction fun c => q' (.inl ⟨z.1, .inr c⟩)⟩
   have na : ¬ za9 m (i + 1) := by
    intro a
    rcases a with a | a
    ·omega
    ·rcases a.2 with b | b
     ·omega
     ·exact b (by rw [show i + 1 - 1 = i by omega]; exact z.1)
   have e2 : za6 m (i + 1) = zad m (i + 1) := by unfold za6; rw [if_neg na]
   rw [za1 _ _ (by omega), e2]
   exact .inr (.inl ⟨z.1, z.2, by omega, hn.2, hp i (by omega) z.1 hn.2⟩)
  ·have h0 : ¬ (i = 0) := fun c => q' (.inr ⟨z.1, .inl c⟩)
   have hp1 : (zad m (i - 1)).f2 = 1 := Decidable.byContradiction fun c => q' (.inr ⟨z.1, .inr c⟩)
   have na : ¬ za9 m (i - 1) := by
    intro a
    rcases a with a | a
    ·rcases a.2 with b | b
     ·omega
     ·exact b (by rw [show i - 1 + 1 = i by omega]; exact z.1)
    ·omega
   have e2 : za6 m (i - 1) = zad m (i - 1) := by unfold za6; rw [if_neg na]
   exact .inr (.inr ⟨z.1, z.2, by omega, by rw [za1 _ _ (by omega), e2]; exact hp1⟩)
theorem mended_take {l : List S98} (h : zas l) (a : Nat) : zas (zau (l.take a)) := by
 refine mended_cells (fun i hi => ?_) (fun i hi h1 h2 => ?_)
 ·rw [List.length_take] at hi
  rw [zay _ _ _ (by omega)]; exact solo_of (h i (by omega))
 ·rw [List.length_take] at hi
  rw [zay _ _ _ (by omega)] at h1 h2 ⊢
  rw [zay _ _ _ (by omega)]
  exact paired_of h i (by omega) h1 h2
theorem cells_append {a b : List S98} (ha : zas a) (hb : zas b) : zas (a ++ b) := by
 intro i hi
 unfold za8
 rw [zb9, zb9, zb9, List.length_append]
 rw [List.length_append] at hi
 by_cases q : i < a.length
 ·rw [if_pos q]
  have c := ha i q
  refine ⟨c.1, ?_⟩
  rcases c.2 with z | z | z
  ·exact .inl z
  ·rw [if_pos z.2.2.1]
   exact .inr (.inl ⟨z.1, z.2.1, by omega, z.2.2.2⟩)
  ·rw [if_pos (show i - 1 < a.length by omega)]
   exact .inr (.inr z)
 ·rw [if_neg q]
  have c := hb (i - a.length) (by omega)
  refine ⟨c.1, ?_⟩
  rcases c.2 with z | z | z
  ·exact .inl z
  ·rw [if_neg (show ¬ (i + 1 < a.length) by omega), show i + 1 - a.length = i - a.length + 1 by omega]
   exact .inr (.inl ⟨z.1, z.2.1, by omega, z.2.2.2⟩)
  ·rw [if_neg (show ¬ (i - 1 < a.length) by omega), show i - 1 - a.length = i - a.length - 1 by omega]
   exact .inr (.inr ⟨z.1, z.2.1, by omega, z.2.2.2⟩)
theorem cells_rep (n : Nat) (s : S96) (hs : sokv s.f0 s.f1 = true) : zas (List.replicate n (blk s)) := by
 intro i hi
 rw [List.length_replicate] at hi
 unfold za8
 rw [cellAt_rep _ _ _ hi]
 exact ⟨hs, .inl ⟨rfl, wid_blank⟩⟩
theorem zcn {l : List S98} (h : zas l) (h1 : 1 ≤ l.length) (h2 : l.length ≤ 60) : zav l := ⟨h1, h2, h⟩
theorem zcl (l : List S98) (a : Nat) (h : a < l.length → (zad l a).f2 ≠ 2) : zbx l a = l := by
 unfold zbx
 rw [if_neg (fun q => h q.2.1 q.2.2)]
theorem take_self {l : List S98} (hr : zas l) (a : Nat) (ha : a ≤ l.length) (h : a < l.length → (zad l a).f2 ≠ 2) : zau (l.take a) = l.take a := by
 rw [← part_take hr a ha, zcl l a h]
def zco (n : Int) (s : S96) : List S98 := if (decide (1 ≤ n) && decide (n ≤ 60)) = true ∧ sokv s.f0 s.f1 = true then List.replicate n.toNat (blk s) else []
theorem zc1 (n : Int) (a b : Int) (c d e : Bool) : Ev (fun k => impl_Blank.f k n a b c d e) (zco n ⟨a, b, c, d, e⟩) := by
 simp only [impl_Blank.f, zai, zbm, Option.bind_some]
 by_cases h : (decide (1 ≤ n) && decide (n ≤ 60)) = true
 ·refine zaa h (zae ?_)
  simp only [impl_Blank.j0, impl_blank.f, Option.bind_some]
  by_cases q : sokv a b = true
  ·refine zab (by rw [q]; simp) ?_
   have h2 := h
   simp only [Bool.and_eq_true, decide_eq_true_eq] at h2
   have e1 : ∀ x : S98, impl_Cell_137.f [x] n = some (List.replicate n.toNat x) := by
    intro x
    unfold impl_Cell_137.f
    rw [if_pos ⟨rfl, by omega, by omega⟩]
    rfl
   rw [e1]
   refine za0 (Ev.now _) ?_
   unfold zco; rw [if_pos ⟨h, q⟩]; rfl
  ·refine zaa (by simp [q]) (za0 (Ev.now _) ?_)
   unfold zco; rw [if_neg (fun x => q x.2)]
 ·refine zab h (zae ?_)
  simp only [impl_Blank.j0]
  refine zaa (by trivial) (za0 (Ev.now _) ?_)
  unfold zco; rw [if_neg (fun x => h x.1)]

theorem zc0 (l : List S98) (a : Nat) (hl : l.length < 1000000) (ha : a < 1000000) : Ev (fun k => impl_part.f k l (a : Int)) (zbx l a) := by
 by_cases h : a ≤ l.length
 ·exact impl_part_ev l a (by omega) h
 ·have w1 : ∀ _ : Unit, wrap64 ((l.length : Int) - 1) = (l.length : Int) - 1 := fun _ => w64 (by omega) (by omega)
  simp only [impl_part.f, zai, Option.bind_some, w1 ()]
  refine zab (by simp; omega) (zae ?_)
  simp only [impl_part.j0]
  refine zab (by simp) (za0 (Ev.now _) ?_)
  rw [zcl l a (fun q => absurd q (by omega))]
def b0 : S98 := blk ⟨0, 0, false, false, false⟩
def rowv (x : List S98) (c : Nat) : List S98 := zau (x.take c) ++ List.replicate (c - min c x.length) b0
theorem zbr (x : List S98) (c : Nat) : (rowv x c).length = c := by unfold rowv; rw [List.length_append, zak, List.length_take, List.length_replicate]; omega
theorem rowv_right {x : List S98} (hx : zav x) (c : Nat) (h1 : 1 ≤ c) (h2 : c ≤ 60) : zav (rowv x c) :=
 zcn (cells_append (mended_take (zbs hx) c) (cells_rep _ ⟨0, 0, false, false, false⟩ (by decide))) (by rw [zbr]; exact h1) (by rw [zbr]; exact h2)
theorem blank0_right (c : Nat) (h1 : 1 ≤ c) (h2 : c ≤ 60) : zav (List.replicate c b0) :=
 zcn (cells_rep c ⟨0, 0, false, false, false⟩ (by decide)) (by rw [List.length_replicate]; exact h1) (by rw [List.length_replicate]; exact h2)
theorem row_eq {x : List S98} (hx : zas x) (c : Nat) : (zbx x c).take (min c x.length) = zau (x.take c) := by
 by_cases h : c ≤ x.length
 ·rw [Nat.min_eq_left h, part_take hx c h]
 ·have e := take_self hx x.length (Nat.le_refl _) (fun q => absurd q (by omega))
  rw [Nat.min_eq_right (by omega), zcl x c (fun q => absurd q (by omega)), List.take_of_length_le (Nat.le_refl x.length), List.take_of_length_le (show x.length ≤ c by omega)]
  rw [List.take_of_length_le (Nat.le_refl x.length)] at e
  exact e.symm
def zah (l : List (List S98)) (c n : Nat) : List (List S98) := (l.drop (l.length - n)).map (fun x => rowv x c) ++ List.replicate (n - min n l.length) (List.replicate c b0)
theorem zao (l : List (List S98)) (c n : Nat) : (zah l c n).length = n := by unfold zah; rw [List.length_append, List.length_map, List.length_drop, List.length_replicate]; omega
theorem resizedv_get (l : List (List S98)) (c n j : Nat) (hj : j < n) : (zah l c n)[j]'(by rw [zao]; exact hj) = if h : l.length - n + j < l.length then rowv l[l.length - n + j] c else List.replicate c b0 := by
 unfold zah
 by_cases h : l.length - n + j < l.length
 ·rw [dif_pos h, List.getElem_append_left (by rw [List.length_map, List.length_drop]; omega), List.getElem_map, List.getElem_drop]
 ·rw [dif_neg h, List.getElem_append_right (by rw [List.length_map, List.length_drop]; omega), List.getElem_replicate]
theorem zbw (l : List (List S98)) (c n j : Nat) (hj : j < n) : (zah l c n).take (j + 1) = (zah l c n).take j ++ [if h : l.length - n + j < l.length then rowv l[l.length - n + j] c else List.replicate c b0] := by
 rw [List.take_succ_eq_append_getElem (by rw [zao]; exact hj), resizedv_get l c n j hj]
theorem zbd {l : List (List S98)} (h : ∀ x ∈ l, zav x) (c n : Nat) (h1 : 1 ≤ c) (h2 : c ≤ 60) : ∀ x ∈ zah l c n, x.length = c ∧ zav x := by
 intro x hx
 unfold zah at hx
 rw [List.mem_append] at hx
 rcases hx with hx | hx
 ·obtain ⟨y, hy, rfl⟩ := List.mem_map.mp hx
  exact ⟨zbr _ _, rowv_right (h y (List.mem_of_mem_drop hy)) c h1 h2⟩
 ·obtain ⟨_, rfl⟩ := List.mem_replicate.mp hx
  exact ⟨List.length_replicate, blank0_right c h1 h2⟩
theorem zba (w : Nat) (l : List (List S98)) (c n : Nat) (hl : l.length ≤ 30) (hw : ∀ x ∈ l, x.length = w) (h60 : w ≤ 60) (hc : c ≤ 60) (hn : n ≤ 30) :
  Ev (fun k => spec_l5Resized.f k (w : Int) l (c : Int) (n : Int)) ((c : Int), zah l c n) := by
 have go : ∀ (d j : Nat), j + d = n → Ev (fun k => spec_l5Resized.l0 k (c : Int) (n : Int) ((l.length - n : Nat) : Int) ((l.length - n + j : Nat) : Int) (w : Int) l (c : Int) ((zah l c n).take j)) ((c : Int), zah l c n) := by
  intro d
  induction d with
  | zero =>
   intro j h
   have wf : ∀ _ : Unit, wrap64 (((l.length - n : Nat) : Int) + (n : Int)) = ((l.length - n + n : Nat) : Int) := fun _ => by rw [w64 (by omega) (by omega)]; omega
   refine zae ?_
   simp only [spec_l5Resized.l0, wf ()]
   refine zab (by omega) (za0 (Ev.now _) ?_)
   rw [List.take_of_length_le (by rw [zao]; omega)]
  | succ d ih =>
   intro j h
   have e := ih (j + 1) (by omega)
   rw [zbw l c n j (by omega)] at e
   have wf : ∀ _ : Unit, wrap64 (((l.length - n : Nat) : Int) + (n : Int)) = ((l.length - n + n : Nat) : Int) := fun _ => by rw [w64 (by omega) (by omega)]; omega
   have wi : ∀ _ : Unit, wrap64 (((l.length - n + j : Nat) : Int) + 1) = ((l.length - n + (j + 1) : Nat) : Int) := fun _ => by rw [w64 (by omega) (by omega)]; omega
   have lt : ((zah l c n).take j).length = j := by rw [List.length_take, zao]; omega
   refine zae ?_
   simp only [spec_l5Resized.l0, wf (), wi (), Option.bind_some]
   refine zaa (by omega) ?_
   by_cases q : l.length - n + j < l.length
   ·rw [dif_pos q] at e
    have hx := hw _ (List.getElem_mem q)
    have rd : ∀ _ : Unit, rd_L5 l ((l.length - n + j : Nat) : Int) = l[l.length - n + j] := fun _ => rdLi l (l.length - n + j) q
    have hmin : ∀ _ : Unit, spec_l1Min.f (c : Int) (w : Int) = some ((min c w : Nat) : Int) := fun _ => by
     unfold spec_l1Min.f
     by_cases z : (c : Int) < (w : Int)
     ·rw [if_pos z, show min c w = c by omega]
     ·rw [if_neg z, show min c w = w by omega]
    simp only [rd (), hmin (), Option.bind_some, Int.toNat_natCast]
    have ml : (zau (l[l.length - n + j].take (min c w))).length = min c w := by rw [zak, List.length_take, hx]; omega
    have wr : ∀ _ : Unit, wrap64 ((c : Int) - ((zau (l[l.length - n + j].take (min c w))).length : Int)) = ((c - min c w : Nat) : Int) := fun _ => by rw [ml, w64 (by omega) (by omega)]; omega
    refine zaa (by omega) (zaa (by omega) (zaa (by omega) (zaa (by rw [hx]; omega) (Ev.bind (zbe _ (by rw [List.length_take, hx]; omega)) ?_))))
    simp only [wr ()]
    refine Ev.bind (zaz (c - min c w) 0 0 false false false (by omega)) (zaa (by rw [ml, List.length_replicate]; omega) (zaa (by rw [lt]; omega) ?_))
    have hr : zau (l[l.length - n + j].take (min c w)) ++ List.replicate (c - min c w) (blk ⟨0, 0, false, false, false⟩) = rowv l[l.length - n + j] c := by
     unfold rowv b0
     rw [hx]
     congr 2
     by_cases z : c ≤ w
     ·rw [Nat.min_eq_left z]
     ·rw [Nat.min_eq_right (by omega), List.take_of_length_le (by omega), List.take_of_length_le (by omega)]
    rw [hr]
    exact e
   ·rw [dif_neg q] at e
    have wr : ∀ _ : Unit, wrap64 ((c : Int) - (([] : List S98).length : Int)) = (c : Int) := fun _ => by rw [List.length_nil, w64 (by omega) (by omega)]; omega
    refine zab (by omega) ?_
    simp only [wr ()]
    refine Ev.bind (zaz c 0 0 false false false (by omega)) (zaa (by rw [List.length_nil, List.length_replicate]; omega) (zaa (by rw [lt]; omega) ?_))
    rw [List.nil_append]
    exact e
 have hmax : spec_l1Max.f 0 (wrap64 ((l.length : Int) - (n : Int))) = some ((l.length - n : Nat) : Int) := by
  unfold spec_l1Max.f
  have w1 : wrap64 ((l.length : Int) - (n : Int)) = (l.length : Int) - (n : Int) := w64 (by omega) (by omega)
  rw [w1]
  by_cases z : (0 : Int) > (l.length : Int) - (n : Int)
  ·rw [if_pos z]; congr 1; omega
  ·rw [if_neg z]; congr 1; omega
 unfold spec_l5Resized.f
 refine zac hmax ?_
 have := go n 0 (by omega)
 simpa using this
theorem zcs (c n : Nat) (l : List (List S98)) (h1 : 1 ≤ c) (hc : c ≤ 60) (hn : n ≤ 30) : Ev (fun k => impl_Grid_blanks.f k (c : Int) l (n : Int) 0 0 false false false) (List.replicate n (List.replicate c b0)) := by
 have eb : Ev (fun k => impl_Blank.f k (c : Int) 0 0 false false false) (List.replicate c b0) := by
  refine za0 (zc1 (c : Int) 0 0 false false false) ?_
  unfold zco
  rw [if_pos ⟨by simp; omega, by decide⟩, Int.toNat_natCast]; rfl
 have go : ∀ (q i : Nat), i + q = n → Ev (fun k => impl_Grid_blanks.l0 k (List.replicate i (List.replicate c b0)) (n : Int) (i : Int) (c : Int) l 0 0 false false false) (List.replicate n (List.replicate c b0)) := by
  intro q
  induction q with
  | zero =>
   intro i h
   obtain rfl : i = n := by omega
   refine zae ?_
   simp only [impl_Grid_blanks.l0]
   exact zab (by omega) (Ev.now _)
  | succ q ih =>
   intro i h
   have e := ih (i + 1) (by omega)
   have wi : ∀ _ : Unit, wrap64 ((i : Int) + 1) = ((i + 1 : Nat) : Int) := fun _ => by rw [w64 (by omega) (by omega)]; omega
   refine zae ?_
   simp only [impl_Grid_blanks.l0, wi ()]
   refine zaa (by omega) (Ev.bind eb (zaa (by rw [List.length_replicate]; omega) ?_))
   rw [List.replicate_succ'] at e
   exact e
 unfold impl_Grid_blanks.f
 exact go n 0 (by omega)
theorem za5 (w : Nat) (l : List (List S98)) (c n : Nat) (hl : l.length ≤ 30) (hw : ∀ x ∈ l, x.length = w) (hr : ∀ x ∈ l, zav x) (h60 : w ≤ 60) (h1 : 1 ≤ c) (hc : c ≤ 60) (hn : n ≤ 30) :
  Ev (fun k => impl_Grid_resized.f k (w : Int) l (c : Int) (n : Int)) ((c : Int), zah l c n) := by
 have hmx : ∀ _ : Unit, mx 0 (wrap64 ((l.length : Int) - (n : Int))) = ((l.length - n : Nat) : Int) := fun _ => by
  have w1 : wrap64 ((l.length : Int) - (n : Int)) = (l.length : Int) - (n : Int) := w64 (by omega) (by omega)
  rw [w1]; unfold mx; split <;> omega
 have hmn : ∀ _ : Unit, mn (c : Int) (w : Int) = ((min c w : Nat) : Int) := fun _ => by unfold mn; split <;> omega
 have dl : (l.drop (l.length - n)).length = min n l.length := by rw [List.length_drop]; omega
 have fill : ∀ (d : Nat) (x : List S98) (y : List (List S98)) (i : Int) (out : List (List S98)) (r : Int × List (List S98)), x.length + d = c → out.length < 100 →
   Ev (fun k => impl_Grid_resized.l0 k (c : Int) (n : Int) y ((min n l.length : Nat) : Int) (wrap64 (i + 1)) (w : Int) l (c : Int) (out ++ [x ++ List.replicate d b0])) r →
   Ev (fun k => impl_Grid_resized.l1 k (c : Int) (n : Int) x y ((min n l.length : Nat) : Int) i (w : Int) l (c : Int) out) r := by
  intro d
  induction d with
  | zero =>
   intro x y i out r hx ho he
   rw [List.replicate_zero, List.append_nil] at he
   refine zae ?_
   simp only [impl_Grid_resized.l1]
   exact zab (by omega) (zaa (by omega) he)
  | succ d ih =>
   intro x y i out r hx ho he
   have e := ih (x ++ [b0]) y i out r (by rw [List.length_append, List.length_singleton]; omega) ho (by rw [List.append_assoc, List.singleton_append, ← List.replicate_succ]; exact he)
   refine zae ?_
   simp only [impl_Grid_resized.l1, impl_blank.f, Option.bind_some]
   exact zaa (by omega) (zaa (by omega) e)
 have go : ∀ (d j : Nat), j + d = min n l.length → Ev (fun k => impl_Grid_resized.l0 k (c : Int) (n : Int) (l.drop (l.length - n)) ((min n l.length : Nat) : Int) (j : Int) (w : Int) l (c : Int) ((zah l c n).take j)) ((c : Int), zah l c n) := by
  intro d
  induction d with
  | zero =>
   intro j h
   have lt : ((zah l c n).take j).length = j := by rw [List.length_take, zao]; omega
   have wr : ∀ _ : Unit, wrap64 ((n : Int) - (((zah l c n).take j).length : Int)) = ((n - min n l.length : Nat) : Int) := fun _ => by rw [lt, w64 (by omega) (by omega)]; omega
   refine zae ?_
   simp only [impl_Grid_resized.l0, wr ()]
   refine zab (by omega) (Ev.bind (zcs c (n - min n l.length) _ h1 hc (by omega)) (zaa (by rw [lt, List.length_replicate]; omega) (za0 (Ev.now _) ?_)))
   rw [Prod.mk.injEq]
   refine ⟨rfl, ?_⟩
   unfold zah
   rw [List.take_left' (by rw [List.length_map, dl]; omega)]
  | succ d ih =>
   intro j h
   have e := ih (j + 1) (by omega)
   have q : l.length - n + j < l.length := by omega
   rw [zbw l c n j (by omega), dif_pos q] at e
   have lt : ((zah l c n).take j).length = j := by rw [List.length_take, zao]; omega
   have hx := hw _ (List.getElem_mem q)
   have hxr := hr _ (List.getElem_mem q)
   have rd : ∀ _ : Unit, rd_L5 (l.drop (l.length - n)) (j : Int) = l[l.length - n + j] := fun _ => by rw [rdLi _ _ (by rw [dl]; omega), List.getElem_drop]
   have wi : ∀ _ : Unit, wrap64 ((j : Int) + 1) = ((j + 1 : Nat) : Int) := fun _ => by rw [w64 (by omega) (by omega)]; omega
   have cl : ∀ _ : Unit, impl_Cell_102.f l[l.length - n + j] = some l[l.length - n + j] := fun _ => by
    simp only [impl_Cell_102.f, Option.bind_some, List.nil_append]
    rw [if_pos (by simp [hx]; omega)]
   have re := row_eq (zbs hxr) c
   rw [hx] at re
   refine zae ?_
   simp only [impl_Grid_resized.l0, rd (), cl (), hmn (), Option.bind_some, Int.toNat_natCast]
   refine zaa (by omega) (zaa (by omega) (zaa (by rw [dl]; omega) (Ev.bind (zc0 _ c (by omega) (by omega)) (zaa (by omega) (zaa (by rw [hx]; omega) ?_)))))
   rw [re]
   have ml : (zau (l[l.length - n + j].take c)).length = min c w := by rw [zak, List.length_take, hx]
   refine fill (c - min c w) _ _ _ _ _ (by rw [ml]; omega) (by rw [lt]; omega) ?_
   rw [wi ()]
   have hrv : zau (l[l.length - n + j].take c) ++ List.replicate (c - min c w) b0 = rowv l[l.length - n + j] c := by unfold rowv; rw [hx]
   rw [hrv]
   exact e
 simp only [impl_Grid_resized.f, hmx (), Option.bind_some, Int.toNat_natCast]
 refine zaa (by omega) (zaa (by omega) ?_)
 have := go (min n l.length) 0 (by omega)
 rw [dl]
 simpa using this

def cne (x y : S98) : Bool := (!(x.f0 == y.f0) || ((!(x.f1.f0 == y.f1.f0) || (!(x.f1.f1 == y.f1.f1) || (!(x.f1.f2 == y.f1.f2) || (!(x.f1.f3 == y.f1.f3) || (!(x.f1.f4 == y.f1.f4)))))) || (!(x.f2 == y.f2))))
def zax (a b : List S98) : Nat → Nat → Nat
 | 0, k => k
 | d + 1, k => if cne (zad a k) (zad b k) = true then zax a b d (k + 1) else k
theorem zb0 (a b : List S98) : ∀ d k, k ≤ zax a b d k ∧ zax a b d k ≤ k + d
 | 0, k => by simp [zax]
 | d + 1, k => by
  have := zb0 a b d (k + 1)
  unfold zax
  by_cases h : cne (zad a k) (zad b k) = true
  ·rw [if_pos h]; omega
  ·rw [if_neg h]; omega
def zbv (u : Int) (b : List S98) (k n : Nat) : List S101 := if k < n then [⟨u, (k : Int), (b.take n).drop k⟩] else []
theorem zbk (u : Int) (b : List S98) (k n : Nat) : (zbv u b k n).length ≤ 1 := by
 unfold zbv
 by_cases h : k < n
 ·rw [if_pos h]; simp
 ·rw [if_neg h]; simp
def za4 (u : Int) (a b : List S98) : Nat → Nat → List S101
 | 0, _ => []
 | d + 1, k => if k < b.length then zbv u b k (zax a b (b.length - k) k) ++ za4 u a b d (zax a b (b.length - k) k + 1) else []
theorem zbj (u : Int) (a b : List S98) : ∀ d k, (za4 u a b d k).length ≤ d
 | 0, _ => by simp [za4]
 | d + 1, k => by
  unfold za4
  by_cases h : k < b.length
  ·rw [if_pos h, List.length_append]
   have := zbk u b k (zax a b (b.length - k) k)
   have := zbj u a b d (zax a b (b.length - k) k + 1)
   omega
  ·rw [if_neg h]; simp
def zar (A B : List (List S98)) : Nat → Nat → List S101
 | 0, _ => []
 | d + 1, i => za4 (i : Int) (A.getD i []) (B.getD i []) 61 0 ++ zar A B d (i + 1)
def finv (c n : Int) (ch : List S101) : Int × Int × List S101 × Bool := if (ch.length : Int) > 400 then (0, 0, [], false) else (c, n, ch, true)
section
variable (A B : List (List S98)) (c n : Nat) (hA : A.length = n) (hB : B.length = n) (ha : ∀ x ∈ A, x.length = c) (hb : ∀ x ∈ B, x.length = c) (hc : c ≤ 60) (hn : n ≤ 30) (p : Int)
include hA hB ha hb hc hn
set_option linter.unusedSectionVars false
theorem spec_Diff_l2 (i : Nat) (hi : i < n) (ch : List S101) (hch : ch.length < 100000) (k : Nat) (r : Int × Int × List S101 × Bool) : ∀ (d m : Nat), m + d = c → k ≤ m →
  Ev (fun q => spec_Diff.l1 q (i : Int) ((zax (A[i]'(by omega)) (B[i]'(by omega)) d m + 1 : Nat) : Int) (c : Int) B (c : Int) (n : Int) (ch ++ zbv (i : Int) (B[i]'(by omega)) k (zax (A[i]'(by omega)) (B[i]'(by omega)) d m)) p A) r →
  Ev (fun q => spec_Diff.l2 q (i : Int) (k : Int) (m : Int) (c : Int) B (c : Int) (n : Int) ch p A) r := by
 have la : (A[i]'(by omega)).length = c := ha _ (List.getElem_mem _)
 have lb : (B[i]'(by omega)).length = c := hb _ (List.getElem_mem _)
 have ra : ∀ _ : Unit, rd_L5 A (i : Int) = A[i]'(by omega) := fun _ => rdLi A i (by omega)
 have rb : ∀ _ : Unit, rd_L5 B (i : Int) = B[i]'(by omega) := fun _ => rdLi B i (by omega)
 obtain ⟨a, hae⟩ : ∃ a, a = A[i]'(by omega) := ⟨_, rfl⟩
 obtain ⟨b, hbe⟩ : ∃ b, b = B[i]'(by omega) := ⟨_, rfl⟩
 simp only [← hae] at la ra ⊢
 simp only [← hbe] at lb rb ⊢
 intro d
 induction d with
 | zero =>
  intro m hm hk he
  have wi : ∀ _ : Unit, wrap64 ((m : Int) + 1) = ((m + 1 : Nat) : Int) := fun _ => by rw [w64 (by omega) (by omega)]; omega
  refine zae ?_
  simp only [spec_Diff.l2, rb (), wi (), Option.bind_some, List.nil_append, Int.toNat_natCast]
  simp only [zax] at he
  unfold zbv at he
  refine zab (by omega) ?_
  by_cases q : k < m
  ·rw [if_pos q] at he
   refine zaa (by omega) (zaa (by omega) (zaa (by omega) (zaa (by omega) (zaa (by omega) (zaa (by omega) (zaa ?_ (zaa (by omega) he)))))))
   rw [List.length_nil, List.length_drop, List.length_take]; omega
  ·rw [if_neg q, List.append_nil] at he
   exact zab (by omega) he
 | succ d ih =>
  intro m hm hk he
  have wi : ∀ _ : Unit, wrap64 ((m : Int) + 1) = ((m + 1 : Nat) : Int) := fun _ => by rw [w64 (by omega) (by omega)]; omega
  refine zae ?_
  simp only [spec_Diff.l2, ra (), rb (), wi (), Option.bind_some, List.nil_append, Int.toNat_natCast]
  simp only [zax] at he
  refine zaa (by omega) (zaa (by omega) (zaa (by omega) (zaa (by omega) (zaa (by omega) (zaa (by omega) (zaa (by omega) ?_))))))
  by_cases q : cne (zad a m) (zad b m) = true
  ·rw [if_pos q] at he
   exact zaa q (ih (m + 1) (by omega) (by omega) he)
  ·rw [if_neg q] at he
   refine zab q ?_
   unfold zbv at he
   by_cases q2 : k < m
   ·rw [if_pos q2] at he
    refine zaa (by omega) (zaa (by omega) (zaa (by omega) (zaa (by omega) (zaa ?_ (zaa (by omega) he)))))
    rw [List.length_nil, List.length_drop, List.length_take]; omega
   ·rw [if_neg q2, List.append_nil] at he
    exact zab (by omega) he
theorem spec_Diff_l1 (i : Nat) (hi : i < n) (r : Int × Int × List S101 × Bool) : ∀ (d k : Nat) (ch : List S101), c ≤ k + d → ch.length + d < 100000 →
  Ev (fun q => spec_Diff.l0 q ((i + 1 : Nat) : Int) (c : Int) B (c : Int) (n : Int) (ch ++ za4 (i : Int) (A[i]'(by omega)) (B[i]'(by omega)) d k) p A) r →
  Ev (fun q => spec_Diff.l1 q (i : Int) (k : Int) (c : Int) B (c : Int) (n : Int) ch p A) r := by
 have lb : (B[i]'(by omega)).length = c := hb _ (List.getElem_mem _)
 have wi : ∀ _ : Unit, wrap64 ((i : Int) + 1) = ((i + 1 : Nat) : Int) := fun _ => by rw [w64 (by omega) (by omega)]; omega
 intro d
 induction d with
 | zero =>
  intro k ch h1 h2 he
  refine zae ?_
  simp only [spec_Diff.l1, wi ()]
  simp only [za4, List.append_nil] at he
  exact zab (by omega) he
 | succ d ih =>
  intro k ch h1 h2 he
  refine zae ?_
  simp only [spec_Diff.l1, wi ()]
  unfold za4 at he
  rw [lb] at he
  by_cases q : k < c
  ·rw [if_pos q] at he
   have el := zb0 (A[i]'(by omega)) (B[i]'(by omega)) (c - k) k
   have rl := zbk (i : Int) (B[i]'(by omega)) k (zax (A[i]'(by omega)) (B[i]'(by omega)) (c - k) k)
   refine zaa (by omega) (spec_Diff_l2 A B c n hA hB ha hb hc hn p i hi ch (by omega) k r (c - k) k (by omega) (Nat.le_refl _) ?_)
   refine ih _ _ (by omega) (by rw [List.length_append]; omega) ?_
   rw [List.append_assoc]
   exact he
  ·rw [if_neg q, List.append_nil] at he
   exact zab (by omega) he
theorem spec_Diff_l0 : ∀ (d i : Nat) (ch : List S101), i + d = n → ch.length + 61 * d < 90000 →
  Ev (fun q => spec_Diff.l0 q (i : Int) (c : Int) B (c : Int) (n : Int) ch p A) (finv (c : Int) (n : Int) (ch ++ zar A B d i)) := by
 intro d
 induction d with
 | zero =>
  intro i ch h1 h2
  refine zae ?_
  simp only [spec_Diff.l0, zar, List.append_nil]
  refine zab (by omega) ?_
  by_cases q : (ch.length : Int) > 400
  ·rw [show finv (c : Int) (n : Int) ch = (0, 0, [], false) from if_pos q]; exact zaa q (Ev.now _)
  ·rw [show finv (c : Int) (n : Int) ch = ((c : Int), (n : Int), ch, true) from if_neg q]; exact zab q (Ev.now _)
 | succ d ih =>
  intro i ch h1 h2
  have hi : i < n := by omega
  refine zae ?_
  simp only [spec_Diff.l0]
  refine zaa (by omega) ?_
  have rl := zbj (i : Int) (A[i]'(by omega)) (B[i]'(by omega)) 61 0
  have e := ih (i + 1) (ch ++ za4 (i : Int) (A[i]'(by omega)) (B[i]'(by omega)) 61 0) (by omega) (by rw [List.length_append]; omega)
  have eq : ch ++ za4 (i : Int) (A[i]'(by omega)) (B[i]'(by omega)) 61 0 ++ zar A B d (i + 1) = ch ++ zar A B (d + 1) i := by
   conv => rhs; unfold zar
   rw [List.append_assoc, List.getD_eq_getElem?_getD, List.getElem?_eq_getElem (by omega), List.getD_eq_getElem?_getD, List.getElem?_eq_getElem (by omega)]
   rfl
  rw [eq] at e
  exact spec_Diff_l1 A B c n hA hB ha hb hc hn p i hi _ 61 0 ch (by omega) (by omega) e
omit hA hB ha hb hn in
theorem impl_runs_l1 (u : Int) (a b : List S98) (la : a.length = c) (lb : b.length = c) (ch : List S101) (hch : ch.length < 100000) (k : Nat) (r : List S101) : ∀ (d m : Nat), m + d = c → k ≤ m →
  Ev (fun q => impl_runs.l0 q u a b (ch ++ zbv u b k (zax a b d m)) ((zax a b d m + 1 : Nat) : Int)) r → Ev (fun q => impl_runs.l1 q u a b ch (m : Int) (k : Int)) r := by
 have cl : ∀ _ : Unit, ∀ x : List S98, x.length ≤ 60 → impl_Cell_102.f x = some x := fun _ x hx => by
  simp only [impl_Cell_102.f, Option.bind_some, List.nil_append]
  rw [if_pos (by simp; omega)]
 have sl : ∀ m : Nat, m ≤ c → ((b.take m).drop k).length ≤ 60 := fun m hm => by rw [List.length_drop, List.length_take]; omega
 intro d
 induction d with
 | zero =>
  intro m hm hk he
  have wi : ∀ _ : Unit, wrap64 ((m : Int) + 1) = ((m + 1 : Nat) : Int) := fun _ => by rw [w64 (by omega) (by omega)]; omega
  refine zae ?_
  simp only [impl_runs.l1, wi (), Int.toNat_natCast, cl () _ (sl m (by omega)), Option.bind_some]
  simp only [zax] at he
  unfold zbv at he
  refine zab (by omega) ?_
  by_cases q : k < m
  ·rw [if_pos q] at he
   exact zaa (by omega) (zaa (by omega) (zaa (by omega) (zaa (by omega) (zaa (by omega) he))))
  ·rw [if_neg q, List.append_nil] at he
   exact zab (by omega) he
 | succ d ih =>
  intro m hm hk he
  have wi : ∀ _ : Unit, wrap64 ((m : Int) + 1) = ((m + 1 : Nat) : Int) := fun _ => by rw [w64 (by omega) (by omega)]; omega
  refine zae ?_
  simp only [impl_runs.l1, wi (), Int.toNat_natCast, cl () _ (sl m (by omega)), Option.bind_some]
  simp only [zax] at he
  refine zaa (by omega) (zaa (by omega) (zaa (by omega) ?_))
  by_cases q : cne (zad a m) (zad b m) = true
  ·rw [if_pos q] at he
   exact zaa q (ih (m + 1) (by omega) (by omega) he)
  ·rw [if_neg q] at he
   refine zab q ?_
   unfold zbv at he
   by_cases q2 : k < m
   ·rw [if_pos q2] at he
    exact zaa (by omega) (zaa (by omega) (zaa (by omega) (zaa (by omega) (zaa (by omega) he))))
   ·rw [if_neg q2, List.append_nil] at he
    exact zab (by omega) he
omit hA hB ha hb hn in
theorem impl_runs_ev (u : Int) (a b : List S98) (la : a.length = c) (lb : b.length = c) : Ev (fun q => impl_runs.f q u a b) (za4 u a b 61 0) := by
 have go : ∀ (d k : Nat) (ch : List S101), c < k + d → ch.length + d < 100000 → Ev (fun q => impl_runs.l0 q u a b ch (k : Int)) (ch ++ za4 u a b d k) := by
  intro d
  induction d with
  | zero =>
   intro k ch h1 h2
   refine zae ?_
   simp only [impl_runs.l0, za4, List.append_nil]
   exact zab (by omega) (Ev.now _)
  | succ d ih =>
   intro k ch h1 h2
   refine zae ?_
   simp only [impl_runs.l0]
   unfold za4
   rw [lb]
   by_cases q : k < c
   ·rw [if_pos q]
    have el := zb0 a b (c - k) k
    have rl := zbk u b k (zax a b (c - k) k)
    refine zaa (by omega) (impl_runs_l1 c hc u a b la lb ch (by omega) k _ (c - k) k (by omega) (Nat.le_refl _) ?_)
    have e := ih (zax a b (c - k) k + 1) (ch ++ zbv u b k (zax a b (c - k) k)) (by omega) (by rw [List.length_append]; omega)
    rw [List.append_assoc] at e
    exact e
   ·rw [if_neg q, List.append_nil]
    exact zab (by omega) (Ev.now _)
 have := go 61 0 [] (by omega) (by simp)
 unfold impl_runs.f
 simpa using this
theorem impl_Diff_l0 : ∀ (d i : Nat) (ch : List S101), i + d = n → ch.length + 61 * d < 90000 →
  Ev (fun q => impl_Diff.l0 q B (n : Int) (i : Int) (c : Int) (n : Int) ch p A) (finv (c : Int) (n : Int) (ch ++ zar A B d i)) := by
 intro d
 induction d with
 | zero =>
  intro i ch h1 h2
  refine zae ?_
  simp only [impl_Diff.l0, zar, List.append_nil]
  refine zab (by omega) ?_
  by_cases q : (ch.length : Int) > 400
  ·rw [show finv (c : Int) (n : Int) ch = (0, 0, [], false) from if_pos q]; exact zaa q (Ev.now _)
  ·rw [show finv (c : Int) (n : Int) ch = ((c : Int), (n : Int), ch, true) from if_neg q]; exact zab q (Ev.now _)
 | succ d ih =>
  intro i ch h1 h2
  have hi : i < n := by omega
  have la : (A[i]'(by omega)).length = c := ha _ (List.getElem_mem _)
  have lb : (B[i]'(by omega)).length = c := hb _ (List.getElem_mem _)
  have ra : ∀ _ : Unit, rd_L5 A (i : Int) = A[i]'(by omega) := fun _ => rdLi A i (by omega)
  have rb : ∀ _ : Unit, rd_L5 B (i : Int) = B[i]'(by omega) := fun _ => rdLi B i (by omega)
  have wi : ∀ _ : Unit, wrap64 ((i : Int) + 1) = ((i + 1 : Nat) : Int) := fun _ => by rw [w64 (by omega) (by omega)]; omega
  have rl := zbj (i : Int) (A[i]'(by omega)) (B[i]'(by omega)) 61 0
  have e := ih (i + 1) (ch ++ za4 (i : Int) (A[i]'(by omega)) (B[i]'(by omega)) 61 0) (by omega) (by rw [List.length_append]; omega)
  have eq : ch ++ za4 (i : Int) (A[i]'(by omega)) (B[i]'(by omega)) 61 0 ++ zar A B d (i + 1) = ch ++ zar A B (d + 1) i := by
   conv => rhs; unfold zar
   rw [List.append_assoc, List.getD_eq_getElem?_getD, List.getElem?_eq_getElem (by omega), List.getD_eq_getElem?_getD, List.getElem?_eq_getElem (by omega)]
   rfl
  rw [eq] at e
  refine zae ?_
  simp only [impl_Diff.l0, ra (), rb (), wi ()]
  exact zaa (by omega) (zaa (by omega) (zaa (by omega) (zaa (by omega) (Ev.bind (impl_runs_ev c hc (i : Int) _ _ la lb) (zaa (by omega) e)))))
end
def zb1 (la lb : List (List S98)) (c : Nat) : List S101 := zar (zah la c lb.length) lb lb.length 0
theorem Diff_yes (ca cb : Int) (la lb : List (List S98)) (ha : zan ca la) (hb : zan cb lb) :
  Ev (fun k => spec_Diff.f k ca la cb lb) (finv cb (lb.length : Int) (zb1 la lb cb.toNat)) ∧ Ev (fun k => impl_Diff.f k ca la cb lb) (finv cb (lb.length : Int) (zb1 la lb cb.toNat)) := by
 obtain ⟨g1, g2, g3, g4, g5⟩ := id ha
 obtain ⟨f1, f2, f3, f4, f5⟩ := id hb
 obtain ⟨w, rfl⟩ := Int.eq_ofNat_of_zero_le (show 0 ≤ ca by omega)
 obtain ⟨c, rfl⟩ := Int.eq_ofNat_of_zero_le (show 0 ≤ cb by omega)
 rw [Int.toNat_natCast]
 have hw : ∀ x ∈ la, x.length = w := fun x hx => by have := (g5 x hx).1; omega
 have hx : ∀ x ∈ lb, x.length = c := fun x hx => by have := (f5 x hx).1; omega
 have hr := zbd (fun q hq => (g5 q hq).2) c lb.length (by omega) (by omega)
 have rl := zao la c lb.length
 obtain ⟨b1, e1, hb1⟩ := zap (w : Int) la
 obtain ⟨b2, e2, hb2⟩ := zap (c : Int) lb
 obtain ⟨b3, e3, hb3⟩ := zal (w : Int) la (fun x hx => by rw [hw x hx]; omega)
 obtain ⟨b4, e4, hb4⟩ := zal (c : Int) lb (fun x h => by rw [hx x h]; omega)
 obtain rfl : b2 = true := hb2.mpr hb
 obtain rfl : b4 = true := hb4.mpr hb
 constructor
 ·refine Ev.bind e1 (zaa (hb1.mpr ha) (Ev.bind e2 (zae ?_)))
  simp only [spec_Diff.j0]
  refine zab (by simp) (Ev.bind (zba w la c lb.length g4 hw (by omega) (by omega) (by omega)) ?_)
  have := spec_Diff_l0 (zah la c lb.length) lb c lb.length rl rfl (fun x hx => (hr x hx).1) hx (by omega) (by omega) (c : Int) lb.length 0 [] (by omega) (by simp; omega)
  simpa [zb1] using this
 ·refine Ev.bind e3 (zaa (hb3.mpr ha) (Ev.bind e4 (zae ?_)))
  simp only [impl_Diff.j0]
  refine zab (by simp) (Ev.bind (za5 w la c lb.length g4 hw (fun x hx => (g5 x hx).2) (by omega) (by omega) (by omega) (by omega)) ?_)
  have := impl_Diff_l0 (zah la c lb.length) lb c lb.length rl rfl (fun x hx => (hr x hx).1) hx (by omega) (by omega) (c : Int) lb.length 0 [] (by omega) (by simp; omega)
  simpa [zb1] using this
theorem Diff_no (ca cb : Int) (la lb : List (List S98)) (ha : ∀ x ∈ la, x.length ≤ 1048576) (hb : ∀ x ∈ lb, x.length ≤ 1048576) (h : ¬ (zan ca la ∧ zan cb lb)) :
  Ev (fun k => spec_Diff.f k ca la cb lb) (0, 0, [], false) ∧ Ev (fun k => impl_Diff.f k ca la cb lb) (0, 0, [], false) := by
 obtain ⟨b1, e1, hb1⟩ := zap ca la
 obtain ⟨b2, e2, hb2⟩ := zap cb lb
 obtain ⟨b3, e3, hb3⟩ := zal ca la ha
 obtain ⟨b4, e4, hb4⟩ := zal cb lb hb
 have s : Ev (fun k => spec_Diff.j0 k true ca la cb lb) (0, 0, [], false) := by
  refine zae ?_
  simp only [spec_Diff.j0]
  exact zaa (by trivial) (Ev.now _)
 have t : Ev (fun k => impl_Diff.j0 k true ca la cb lb) (0, 0, [], false) := by
  refine zae ?_
  simp only [impl_Diff.j0]
  exact zaa (by trivial) (Ev.now _)
 by_cases q : zan ca la
 ·have z : ¬ zan cb lb := fun z => h ⟨q, z⟩
  have z2 : b2 = false := by cases b2 with | false => rfl | true => exact absurd (hb2.mp rfl) z
  have z4 : b4 = false := by cases b4 with | false => rfl | true => exact absurd (hb4.mp rfl) z
  subst z2; subst z4
  exact ⟨Ev.bind e1 (zaa (hb1.mpr q) (Ev.bind e2 s)), Ev.bind e3 (zaa (hb3.mpr q) (Ev.bind e4 t))⟩
 ·exact ⟨Ev.bind e1 (zab (fun z => q (hb1.mp z)) s), Ev.bind e3 (zab (fun z => q (hb3.mp z)) t)⟩

def zbn (l : List (List S98)) : Prop := l.length ≤ 31 ∧ ∀ x ∈ l, x.length ≤ 61
theorem zcv {l : List (List S98)} (h : ∀ x ∈ l, x.length ≤ 61) {y : List S98} (hy : y.length ≤ 61) : ∀ x ∈ l ++ [y], x.length ≤ 61 := fun x hx => by
 rcases List.mem_append.mp hx with hx | hx
 ·exact h x hx
 ·rw [List.mem_singleton] at hx; rw [hx]; exact hy
theorem few_set {l : List (List S98)} (h : zbn l) (i : Nat) {y : List S98} (hy : y.length ≤ 61) : zbn (l.set i y) := ⟨by rw [List.length_set]; exact h.1, fun x hx => by
 rcases List.mem_or_eq_of_mem_set hx with hx | rfl
 ·exact h.2 x hx
 ·exact hy⟩
theorem zcc (b : List Int) (hb : b.length < 4611686018427387904) (i h : Int) (hi : 0 ≤ i) :
  ∃ (c : Nat) (l : List (List S98)) (i' h' : Int), Ev (fun k => spec_l5Draw.f k b i h) ((c : Int), l, i', h') ∧ 1 ≤ c ∧ c ≤ 8 ∧ 1 ≤ l.length ∧ l.length ≤ 4 ∧ (∀ x ∈ l, x.length ≤ 61) ∧ 0 ≤ i' := by
 have go : ∀ (c : Nat), 1 ≤ c → c ≤ 8 → ∀ (d : Nat) (l : List (List S98)) (i h : Int), d ≤ 4 → l.length + d ≤ 4 → (∀ x ∈ l, x.length ≤ 61) → 0 ≤ i →
   ∃ l' i' h', Ev (fun k => spec_l5Draw.l0 k (d : Int) b i h (c : Int) l) ((c : Int), l', i', h') ∧ l'.length = l.length + d ∧ (∀ x ∈ l', x.length ≤ 61) ∧ 0 ≤ i' := by
  intro c c1 c8 d
  induction d with
  | zero =>
   intro l i h _ _ hl hi
   refine ⟨l, i, h, zae ?_, by omega, hl, hi⟩
   simp only [spec_l5Draw.l0]
   exact zab (by omega) (Ev.now _)
  | succ d ih =>
   intro l i h hd hn hl hi
   have wd : wrap64 (((d + 1 : Nat) : Int) - 1) = (d : Int) := by rw [w64 (by omega) (by omega)]; omega
   obtain ⟨y, i1, h1, e1, hy, j1⟩ := za2 b hb i h hi c c1 (by omega)
   obtain ⟨l', i', h', e', hl', hx', hi'⟩ := ih (l ++ [y]) i1 h1 (by omega) (by rw [List.length_append]; simp; omega) (zcv hl (by omega)) j1
   refine ⟨l', i', h', zae ?_, by rw [hl', List.length_append]; simp; omega, hx', hi'⟩
   simp only [spec_l5Draw.l0, wd]
   exact zaa (by omega) (Ev.bind e1 (zaa (by omega) e'))
 unfold spec_l5Draw.f
 obtain ⟨u, i1, h1, e1, u0, u1, j1⟩ := zaf b hb i h 8 hi (by omega)
 obtain ⟨v, i2, h2, e2, v0, v1, j2⟩ := zaf b hb i1 h1 4 j1 (by omega)
 obtain ⟨p, rfl⟩ := Int.eq_ofNat_of_zero_le u0
 obtain ⟨q, rfl⟩ := Int.eq_ofNat_of_zero_le v0
 have w1 : wrap64 (1 + (p : Int)) = ((1 + p : Nat) : Int) := by rw [w64 (by omega) (by omega)]; omega
 have w2 : wrap64 (1 + (q : Int)) = ((1 + q : Nat) : Int) := by rw [w64 (by omega) (by omega)]; omega
 obtain ⟨l, i', h', e', hl, hx, hi'⟩ := go (1 + p) (by omega) (by omega) (1 + q) [] i2 h2 (by omega) (by simp; omega) (by simp) j2
 refine ⟨1 + p, l, i', h', zac e1 (zac e2 ?_), by omega, by omega, by rw [hl]; simp, by rw [hl]; simp; omega, hx, hi'⟩
 simp only [w1, w2]
 exact e'
theorem zbh (b : List Int) (hb : b.length < 4611686018427387904) (c : Nat) (hc : c ≤ 8) : ∀ (d : Nat) (l : List (List S98)) (i h : Int), l.length + d = 31 → (∀ x ∈ l, x.length ≤ 61) → 0 ≤ i →
  ∃ l' i' h', Ev (fun k => spec_l5DrawAny.l0 k b i h (c : Int) l) ((c : Int), l', i', h') ∧ zbn l' ∧ 0 ≤ i' := by
 intro d
 induction d with
 | zero =>
  intro l i h hl hx hi
  obtain ⟨v, i1, h1, e1, v0, v1, j1⟩ := zaf b hb i h 2 hi (by omega)
  have w1 : wrap64 (30 + v) = 30 + v := w64 (by omega) (by omega)
  refine ⟨l, i1, h1, zae ?_, ⟨by omega, hx⟩, j1⟩
  simp only [spec_l5DrawAny.l0]
  refine zac e1 ?_
  simp only [w1]
  exact zab (by omega) (Ev.now _)
 | succ d ih =>
  intro l i h hl hx hi
  obtain ⟨v, i1, h1, e1, v0, v1, j1⟩ := zaf b hb i h 2 hi (by omega)
  have w1 : wrap64 (30 + v) = 30 + v := w64 (by omega) (by omega)
  by_cases q : (l.length : Int) < 30 + v
  ·have er := zaz c 0 0 false false false (by omega)
   obtain ⟨l', i', h', e', hl', hi'⟩ := ih (l ++ [List.replicate c (blk ⟨0, 0, false, false, false⟩)]) i1 h1 (by rw [List.length_append]; simp; omega) (zcv hx (by rw [List.length_replicate]; omega)) j1
   refine ⟨l', i', h', zae ?_, hl', hi'⟩
   simp only [spec_l5DrawAny.l0]
   refine zac e1 ?_
   simp only [w1]
   exact zaa q (Ev.bind er (zaa (by omega) e'))
  ·refine ⟨l, i1, h1, zae ?_, ⟨by omega, hx⟩, j1⟩
   simp only [spec_l5DrawAny.l0]
   refine zac e1 ?_
   simp only [w1]
   exact zab q (Ev.now _)
theorem zaw (b : List Int) (hb : b.length < 4611686018427387904) (i h : Int) (hi : 0 ≤ i) :
  ∃ (c : Int) (l : List (List S98)) (i' h' : Int), Ev (fun k => spec_l5DrawAny.f k b i h) (c, l, i', h') ∧ zbn l ∧ 0 ≤ i' := by
 obtain ⟨c, l, i1, h1, e1, c1, c8, l1, l4, hx, j1⟩ := zcc b hb i h hi
 obtain ⟨o, i2, h2, e2, j2⟩ := zaj b hb i1 h1 12 j1 (by omega)
 unfold spec_l5DrawAny.f
 have few : zbn l := ⟨by omega, hx⟩
 cases o with
 | false => exact ⟨(c : Int), l, i2, h2, Ev.bind e1 (zac e2 (zab (by simp) (Ev.now _))), few, j2⟩
 | true =>
  obtain ⟨u, i3, h3, e3, u0, u1, j3⟩ := zaf b hb i2 h2 3 j2 (by omega)
  by_cases q0 : u = 0
  ·obtain ⟨v, i4, h4, e4, v0, v1, j4⟩ := zaf b hb i3 h3 3 j3 (by omega)
   refine ⟨rd [0, wrap64 ((c : Int) + 1), 61] v, l, i4, h4, Ev.bind e1 (zac e2 (zaa rfl (zac e3 (zaa q0 ?_)))), few, j4⟩
   simp only [Option.bind_some]
   exact zac e4 (zaa v0 (zaa (by simp only [List.length_cons, List.length_nil]; omega) (Ev.now _)))
  by_cases q1 : u = 1
  ·obtain ⟨y, i4, h4, e4, hy, j4⟩ := zbp b hb i3 h3 j3
   exact ⟨(c : Int), _, i4, h4, Ev.bind e1 (zac e2 (zaa rfl (zac e3 (zab q0 (zaa q1 (Ev.bind e4 (zaa (by show (0 : Int) < (l.length : Int); omega) (Ev.now _)))))))), few_set few 0 hy, j4⟩
  ·obtain ⟨l', i4, h4, e4, hl', j4⟩ := zbh b hb c c8 (31 - l.length) l i3 h3 (by omega) hx j3
   exact ⟨(c : Int), l', i4, h4, Ev.bind e1 (zac e2 (zaa rfl (zac e3 (zab q0 (zab q1 (zaa (by show u = 2; omega) e4)))))), hl', j4⟩
theorem zcp (c : Int) (l : List (List S98)) (hl : l.length ≤ 31) (hx : ∀ x ∈ l, x.length ≤ 61) : Ev (fun k => spec_l5Copy.f k c l) (c, l) := by
 have go : ∀ (d i : Nat), i + d = l.length → Ev (fun k => spec_l5Copy.l0 k (i : Int) c l c (l.take i)) (c, l) := by
  intro d
  induction d with
  | zero =>
   intro i h
   refine zae ?_
   simp only [spec_l5Copy.l0]
   refine zab (by omega) (za0 (Ev.now _) ?_)
   rw [List.take_of_length_le (by omega)]
  | succ d ih =>
   intro i h
   have hi : i < l.length := by omega
   have wi : wrap64 ((i : Int) + 1) = ((i + 1 : Nat) : Int) := by rw [w64 (by omega) (by omega)]; omega
   have hrd : rd_L5 l (i : Int) = l[i] := by
    unfold rd_L5
    rw [Int.toNat_natCast, List.getD_eq_getElem?_getD, List.getElem?_eq_getElem hi]; rfl
   have hw := hx _ (List.getElem_mem hi)
   refine zae ?_
   simp only [spec_l5Copy.l0, Option.bind_some, hrd, wi, List.nil_append]
   have e := ih (i + 1) (by omega)
   rw [List.take_succ_eq_append_getElem hi] at e
   exact zaa (by omega) (zaa (by omega) (zaa (by simp; omega) (zaa (by rw [List.length_take]; omega) e)))
 exact go l.length 0 (by omega)
theorem za3 (b : List Int) (hb : b.length < 4611686018427387904) (i h : Int) (hi : 0 ≤ i) :
  ∃ (ca : Int) (la : List (List S98)) (cb : Int) (lb : List (List S98)) (i' h' : Int), Ev (fun k => spec_l10DrawTwo.f k b i h) (ca, la, cb, lb, i', h') ∧ zbn la ∧ zbn lb ∧ 0 ≤ i' := by
 obtain ⟨ca, la, i1, h1, e1, ha, j1⟩ := zaw b hb i h hi
 obtain ⟨cb, lb, i2, h2, e2, hb', j2⟩ := zaw b hb i1 h1 j1
 obtain ⟨o, i3, h3, e3, j3⟩ := zaj b hb i2 h2 2 j2 (by omega)
 have no : Ev (fun k => spec_l10DrawTwo.j0 k false b i3 h3 ca la cb lb) (ca, la, cb, lb, i3, h3) := by
  refine zae ?_
  simp only [spec_l10DrawTwo.j0]
  exact zab (by simp) (Ev.now _)
 unfold spec_l10DrawTwo.f
 cases o with
 | false => exact ⟨ca, la, cb, lb, i3, h3, Ev.bind e1 (Ev.bind e2 (zac e3 (zab (by simp) no))), ha, hb', j3⟩
 | true =>
  obtain ⟨g, eg, hg⟩ := zap ca la
  cases g with
  | false => exact ⟨ca, la, cb, lb, i3, h3, Ev.bind e1 (Ev.bind e2 (zac e3 (zaa rfl (Ev.bind eg no)))), ha, hb', j3⟩
  | true =>
   obtain ⟨g1, g2, g3, g4, g5⟩ := hg.mp rfl
   obtain ⟨c, rfl⟩ := Int.eq_ofNat_of_zero_le (show 0 ≤ ca by omega)
   obtain ⟨v, i4, h4, e4, v0, v1, j4⟩ := zaf b hb i3 h3 (la.length : Int) j3 (by have := ha.1; omega)
   obtain ⟨y, i5, h5, e5, hy, j5⟩ := za2 b hb i4 h4 j4 c (by omega) (by omega)
   refine ⟨(c : Int), la, (c : Int), la.set v.toNat y, i5, h5, Ev.bind e1 (Ev.bind e2 (zac e3 (zaa rfl (Ev.bind eg (zae ?_))))), ha, few_set ha _ (by omega), j5⟩
   simp only [spec_l10DrawTwo.j0]
   exact zaa (by trivial) (Ev.bind (zcp (c : Int) la ha.1 ha.2) (zac e4 (Ev.bind e5 (zaa v0 (zaa (by show v < (la.length : Int); omega) (Ev.now _))))))

theorem rdch (l : List S101) (i : Nat) (h : i < l.length) : rd_T101 l (i : Int) = l[i] := by
 unfold rd_T101; rw [Int.toNat_natCast, List.getD_eq_getElem?_getD, List.getElem?_eq_getElem h]; rfl

theorem zcd (c : Int) (l : List (List S98)) (a b : Nat) (hg : zan c l) (h1 : 1 ≤ a) (h2 : a ≤ 60) (h3 : 1 ≤ b) (h4 : b ≤ 30) : Ev (fun k => spec_Resized.f k c l (a : Int) (b : Int)) ((a : Int), zah l a b) := by
 obtain ⟨g1, g2, g3, g4, g5⟩ := id hg
 obtain ⟨w, rfl⟩ := Int.eq_ofNat_of_zero_le (show 0 ≤ c by omega)
 have hw : ∀ x ∈ l, x.length = w := fun x hx => by have := (g5 x hx).1; omega
 obtain ⟨b1, e1, hb1⟩ := zap (w : Int) l
 have c2 : (decide (1 ≤ (a : Int)) && decide ((a : Int) ≤ 60)) = true := by simp; omega
 have c3 : (decide (1 ≤ (b : Int)) && decide ((b : Int) ≤ 30)) = true := by simp; omega
 refine Ev.bind e1 (zaa (hb1.mpr hg) ?_)
 simp only [zam, Option.bind_some]
 exact zaa c2 (zaa c3 (Ev.bind (zba w l a b g4 hw (by omega) h2 h4) (Ev.now _)))
def ovl (y : List S98) (i : Nat) (c : List S98) : List S98 := y.take i ++ c ++ y.drop (i + c.length)
theorem ovl_length (y : List S98) (i : Nat) (c : List S98) (h : i + c.length ≤ y.length) : (ovl y i c).length = y.length := by
 unfold ovl
 rw [List.length_append, List.length_append, List.length_take, List.length_drop]; omega
theorem cpv_ovl (y : List S98) (i : Nat) (c : List S98) (h : i + c.length ≤ y.length) : cpv y i c = ovl y i c := by
 unfold cpv ovl
 rw [List.take_of_length_le (show c.length ≤ y.length - i by omega), Nat.min_eq_left (by omega)]
theorem ovl_step (y : List S98) (i : Nat) (c : List S98) (j : Nat) (hj : j < c.length) (h : i + c.length ≤ y.length) :
  ovl (y.set (i + j) c[j]) (i + (j + 1)) (c.drop (j + 1)) = ovl y (i + j) (c.drop j) := by
 unfold ovl
 rw [show i + (j + 1) = i + j + 1 by omega, zbu _ _ _ (by omega), List.drop_eq_getElem_cons hj, List.length_cons, List.length_drop, List.drop_set_of_lt (by omega)]
 rw [show i + j + 1 + (c.length - (j + 1)) = i + j + (c.length - (j + 1) + 1) by omega]
 simp
def zca (c n : Int) (x : S101) : Prop := 1 ≤ x.f2.length ∧ (0 ≤ x.f0 ∧ x.f0 ≤ n - 1) ∧ (0 ≤ x.f1 ∧ x.f1 ≤ c - (x.f2.length : Int))
def zbt (R : List (List S98)) (x : S101) : List (List S98) := R.set x.f0.toNat (ovl (R.getD x.f0.toNat []) x.f1.toNat x.f2)
section
variable (c n : Nat) (hc : c ≤ 60) (hn1 : 1 ≤ n) (hn : n ≤ 30) (ch : List S101) (hch : ch.length ≤ 1048576) (hcw : ∀ x ∈ ch, x.f2.length ≤ 1048576)
include hc hn1 hn hch hcw
set_option linter.unusedSectionVars false
theorem zcu (R : List (List S98)) (hR : R.length = n) (hw : ∀ x ∈ R, x.length = c) (x : S101) (hf : zca c n x) : (zbt R x).length = n ∧ ∀ y ∈ zbt R x, y.length = c := by
 obtain ⟨f1, ⟨f2, f3⟩, f4, f5⟩ := hf
 have hx : x.f0.toNat < R.length := by omega
 have hgd : R.getD x.f0.toNat [] = R[x.f0.toNat] := by rw [List.getD_eq_getElem?_getD, List.getElem?_eq_getElem hx]; rfl
 have hlen := hw _ (List.getElem_mem hx)
 refine ⟨by unfold zbt; rw [List.length_set, hR], fun y hy => ?_⟩
 unfold zbt at hy
 rcases List.mem_or_eq_of_mem_set hy with hy | rfl
 ·exact hw y hy
 ·rw [hgd, ovl_length _ _ _ (by omega), hlen]
theorem zck (i : Nat) (r : Int × List (List S98) × Bool) (q : Int) (a b : Int) (cs : List S98) (W : Nat) (hW : W = c) : ∀ (d m : Nat) (R : List (List S98)), m + d = cs.length → R.length = n → (0 ≤ a ∧ a ≤ (n : Int) - 1) → (0 ≤ b ∧ b ≤ (c : Int) - (cs.length : Int)) →
  (R.getD a.toNat []).length = W → Ev (fun k => spec_Patched.l0 k ((i + 1 : Nat) : Int) (c : Int) (n : Int) ch q (R.set a.toNat (ovl (R.getD a.toNat []) (b.toNat + m) (cs.drop m)))) r → (i : Int) < 4611686018427387904 →
  Ev (fun k => spec_Patched.l1 k (i : Int) (cs.length : Int) (m : Int) (c : Int) (n : Int) ch q R a b cs) r := by
 intro d
 induction d with
 | zero =>
  intro m R hm hR ha hb hy he hi
  have wi : ∀ _ : Unit, wrap64 ((i : Int) + 1) = ((i + 1 : Nat) : Int) := fun _ => by rw [w64 (by omega) (by omega)]; omega
  refine zae ?_
  simp only [spec_Patched.l1, wi ()]
  refine zab (by omega) ?_
  have hx : a.toNat < R.length := by omega
  rw [List.drop_of_length_le (show cs.length ≤ m by omega)] at he
  have e1 : ovl (R.getD a.toNat []) (b.toNat + m) [] = R.getD a.toNat [] := by simp [ovl]
  have e2 : R.set a.toNat (R.getD a.toNat []) = R := by
   rw [List.getD_eq_getElem?_getD, List.getElem?_eq_getElem hx]
   simp
  rw [e1, e2] at he
  exact he
 | succ d ih =>
  intro m R hm hR ha hb hy he hi
  obtain ⟨an, rfl⟩ := Int.eq_ofNat_of_zero_le ha.1
  obtain ⟨bn, rfl⟩ := Int.eq_ofNat_of_zero_le hb.1
  simp only [Int.toNat_natCast] at he hy
  have hx : an < R.length := by omega
  have hgd : R.getD an [] = R[an] := by rw [List.getD_eq_getElem?_getD, List.getElem?_eq_getElem hx]; rfl
  rw [hgd] at hy he
  have wm : ∀ _ : Unit, wrap64 ((m : Int) + 1) = ((m + 1 : Nat) : Int) := fun _ => by rw [w64 (by omega) (by omega)]; omega
  have wb : ∀ _ : Unit, wrap64 ((bn : Int) + (m : Int)) = ((bn + m : Nat) : Int) := fun _ => by rw [w64 (by omega) (by omega)]; omega
  have rl : ∀ _ : Unit, rd_L5 R (an : Int) = R[an] := fun _ => rdLi R an hx
  have rc : ∀ _ : Unit, rd_T98 cs (m : Int) = cs[m] := fun _ => rdc (by omega)
  refine zae ?_
  simp only [spec_Patched.l1, wm (), wb (), rl (), rc (), Int.toNat_natCast]
  refine zaa (by omega) (zaa (by omega) (zaa (by omega) (zaa (by omega) (zaa (by omega) (zaa (by omega) (zaa (by omega) ?_))))))
  have e := ih (m + 1) (R.set an (R[an].set (bn + m) cs[m])) (by omega) (by rw [List.length_set, hR]) ha hb
  simp only [Int.toNat_natCast] at e
  have hg2 : (R.set an (R[an].set (bn + m) cs[m])).getD an [] = R[an].set (bn + m) cs[m] := by
   rw [List.getD_eq_getElem?_getD, List.getElem?_set_self hx]; rfl
  rw [hg2, List.set_set, List.length_set, ovl_step _ _ _ _ (by omega) (by omega)] at e
  exact e hy he hi
theorem zb5 (i : Nat) (hi : i < ch.length) (R : List (List S98)) (hR : R.length = n) (hw : ∀ x ∈ R, x.length = c) (hf : zca c n ch[i]) (q : Int) (r : Int × List (List S98) × Bool)
  (he : Ev (fun k => spec_Patched.l0 k ((i + 1 : Nat) : Int) (c : Int) (n : Int) ch q (zbt R ch[i])) r) : Ev (fun k => spec_Patched.l0 k (i : Int) (c : Int) (n : Int) ch q R) r := by
 obtain ⟨f1, f2, f4⟩ := id hf
 have hcl := hcw _ (List.getElem_mem hi)
 have w1 : ∀ _ : Unit, wrap64 ((n : Int) - 1) = (n : Int) - 1 := fun _ => w64 (by omega) (by omega)
 have w2 : ∀ _ : Unit, wrap64 ((c : Int) - (ch[i].f2.length : Int)) = (c : Int) - (ch[i].f2.length : Int) := fun _ => w64 (by omega) (by omega)
 have c1 : (decide (0 ≤ ch[i].f0) && decide (ch[i].f0 ≤ (n : Int) - 1)) = true := by simp; exact f2
 have c2 : (decide (0 ≤ ch[i].f1) && decide (ch[i].f1 ≤ (c : Int) - (ch[i].f2.length : Int))) = true := by simp; omega
 have hx : ch[i].f0.toNat < R.length := by omega
 have hgd : R.getD ch[i].f0.toNat [] = R[ch[i].f0.toNat] := by rw [List.getD_eq_getElem?_getD, List.getElem?_eq_getElem hx]; rfl
 refine zae ?_
 simp only [spec_Patched.l0, rdch ch i hi, w1 (), w2 (), zam, Option.bind_some]
 refine zaa (by omega) (zaa (by omega) (zab (by omega) (zaa c1 ?_)))
 rw [c2]
 refine zae ?_
 simp only [spec_Patched.j2]
 refine zab (by decide) ?_
 have := zck c n hc hn1 hn ch hch hcw i r q ch[i].f0 ch[i].f1 ch[i].f2 c rfl ch[i].f2.length 0 R (by omega) hR f2 f4 (by rw [hgd]; exact hw _ (List.getElem_mem hx)) (by simpa [zbt] using he) (by omega)
 exact this
theorem zce (i : Nat) (hi : i < ch.length) (R : List (List S98)) (hf : ¬ zca c n ch[i]) (q : Int) : Ev (fun k => spec_Patched.l0 k (i : Int) (c : Int) (n : Int) ch q R) (0, [], false) := by
 have hcl := hcw _ (List.getElem_mem hi)
 have w1 : ∀ _ : Unit, wrap64 ((n : Int) - 1) = (n : Int) - 1 := fun _ => w64 (by omega) (by omega)
 have w2 : ∀ _ : Unit, wrap64 ((c : Int) - (ch[i].f2.length : Int)) = (c : Int) - (ch[i].f2.length : Int) := fun _ => w64 (by omega) (by omega)
 have jt : ∀ (u v : Int) (a b : Int) (e : List S98), Ev (fun k => spec_Patched.j2 k u v true (c : Int) (n : Int) ch q R a b e) (0, [], false) := by
  intro u v a b e
  refine zae ?_
  simp only [spec_Patched.j2]
  exact zaa (by trivial) (Ev.now _)
 refine zae ?_
 simp only [spec_Patched.l0, rdch ch i hi, w1 (), w2 (), zam, Option.bind_some]
 refine zaa (by omega) (zaa (by omega) ?_)
 by_cases z : (ch[i].f2.length : Int) < 1
 ·exact zaa z (jt _ _ _ _ _)
 refine zab z ?_
 by_cases c1 : (decide (0 ≤ ch[i].f0) && decide (ch[i].f0 ≤ (n : Int) - 1)) = true
 ·refine zaa c1 ?_
  have c2 : (decide (0 ≤ ch[i].f1) && decide (ch[i].f1 ≤ (c : Int) - (ch[i].f2.length : Int))) = false := by
   rw [Bool.eq_false_iff]
   intro c2
   simp only [Bool.and_eq_true, decide_eq_true_eq] at c1 c2
   exact hf ⟨by omega, c1, c2⟩
  rw [c2]
  exact jt _ _ _ _ _
 ·exact zab c1 (jt _ _ _ _ _)
theorem zbc (i : Nat) (hi : i < ch.length) (R : List (List S98)) (hR : R.length = n) (hw : ∀ x ∈ R, x.length = c) (hf : zca c n ch[i]) (q : Int) (r : Int × List (List S98) × Bool)
  (he : Ev (fun k => impl_Patched.l0 k ch (ch.length : Int) ((i + 1 : Nat) : Int) (c : Int) (n : Int) ch q (zbt R ch[i])) r) : Ev (fun k => impl_Patched.l0 k ch (ch.length : Int) (i : Int) (c : Int) (n : Int) ch q R) r := by
 obtain ⟨f1, f2, f4⟩ := id hf
 have hcl := hcw _ (List.getElem_mem hi)
 have w0 : ∀ _ : Unit, wrap64 ((i : Int) + 1) = ((i + 1 : Nat) : Int) := fun _ => by rw [w64 (by omega) (by omega)]; omega
 have w1 : ∀ _ : Unit, wrap64 ((n : Int) - 1) = (n : Int) - 1 := fun _ => w64 (by omega) (by omega)
 have w2 : ∀ _ : Unit, wrap64 ((c : Int) - (ch[i].f2.length : Int)) = (c : Int) - (ch[i].f2.length : Int) := fun _ => w64 (by omega) (by omega)
 have c1 : (decide (0 ≤ ch[i].f0) && decide (ch[i].f0 ≤ (n : Int) - 1)) = true := by simp; exact f2
 have c3 : (decide (1 ≤ (ch[i].f2.length : Int)) && decide ((ch[i].f2.length : Int) ≤ (c : Int))) = true := by simp; omega
 have c2 : (decide (0 ≤ ch[i].f1) && decide (ch[i].f1 ≤ (c : Int) - (ch[i].f2.length : Int))) = true := by simp; omega
 have hx : ch[i].f0.toNat < R.length := by omega
 have hgd : R.getD ch[i].f0.toNat [] = R[ch[i].f0.toNat] := by rw [List.getD_eq_getElem?_getD, List.getElem?_eq_getElem hx]; rfl
 have hlen := hw _ (List.getElem_mem hx)
 have rl : ∀ _ : Unit, rd_L5 R ch[i].f0 = R[ch[i].f0.toNat] := fun _ => by
  have := rdLi R ch[i].f0.toNat hx
  rwa [Int.toNat_of_nonneg f2.1] at this
 refine zae ?_
 simp only [impl_Patched.l0, rdch ch i hi, w0 (), w1 (), w2 (), zai, Option.bind_some, rl ()]
 refine zaa (by omega) (zaa (by omega) (zaa (by omega) (zaa c1 (zaa c3 (zaa c2 (zaa f2.1 (zaa (by omega) (zaa f4.1 (zaa (by omega) (zaa (by omega) ?_))))))))))
 rw [cpv_ovl _ _ _ (by omega)]
 unfold zbt at he
 rw [hgd] at he
 exact he
theorem zcg (i : Nat) (hi : i < ch.length) (R : List (List S98)) (hf : ¬ zca c n ch[i]) (q : Int) : Ev (fun k => impl_Patched.l0 k ch (ch.length : Int) (i : Int) (c : Int) (n : Int) ch q R) (0, [], false) := by
 have hcl := hcw _ (List.getElem_mem hi)
 have w1 : ∀ _ : Unit, wrap64 ((n : Int) - 1) = (n : Int) - 1 := fun _ => w64 (by omega) (by omega)
 have w2 : ∀ _ : Unit, wrap64 ((c : Int) - (ch[i].f2.length : Int)) = (c : Int) - (ch[i].f2.length : Int) := fun _ => w64 (by omega) (by omega)
 refine zae ?_
 simp only [impl_Patched.l0, rdch ch i hi, w1 (), w2 (), zai, Option.bind_some]
 refine zaa (by omega) (zaa (by omega) (zaa (by omega) ?_))
 by_cases c1 : (decide (0 ≤ ch[i].f0) && decide (ch[i].f0 ≤ (n : Int) - 1)) = true
 case neg => exact zab c1 (Ev.now _)
 refine zaa c1 ?_
 by_cases c3 : (decide (1 ≤ (ch[i].f2.length : Int)) && decide ((ch[i].f2.length : Int) ≤ (c : Int))) = true
 case neg => exact zab c3 (Ev.now _)
 refine zaa c3 (zab (fun c2 => ?_) (Ev.now _))
 simp only [Bool.and_eq_true, decide_eq_true_eq] at c1 c2 c3
 exact hf ⟨by omega, c1, c2⟩
theorem Patched_both : ∀ (d i : Nat) (R : List (List S98)), i + d = ch.length → R.length = n → (∀ x ∈ R, x.length = c) →
  ∃ (u : Int) (m : List (List S98)) (g : Bool), m.length ≤ 30 ∧ (∀ x ∈ m, x.length ≤ 60) ∧ (g = true → u = (c : Int) ∧ m.length = n ∧ zan u m) ∧ Ev (fun k => spec_Patched.l0 k (i : Int) (c : Int) (n : Int) ch (c : Int) R) (u, m, g) ∧ Ev (fun k => impl_Patched.l0 k ch (ch.length : Int) (i : Int) (c : Int) (n : Int) ch (c : Int) R) (u, m, g) := by
 intro d
 induction d with
 | zero =>
  intro i R h hR hw
  obtain ⟨b1, e1, hb1⟩ := zap (c : Int) R
  obtain ⟨b2, e2, hb2⟩ := zal (c : Int) R (fun x hx => by rw [hw x hx]; omega)
  obtain rfl : b1 = b2 := Bool.eq_iff_iff.mpr (hb1.trans hb2.symm)
  by_cases q : b1 = true
  ·refine ⟨(c : Int), R, true, by omega, fun x hx => by rw [hw x hx]; exact hc, fun _ => ⟨rfl, hR, hb1.mp q⟩, zae ?_, zae ?_⟩
   ·simp only [spec_Patched.l0]
    exact zab (by omega) (Ev.bind e1 (zaa q (Ev.now _)))
   ·simp only [impl_Patched.l0]
    exact zab (by omega) (Ev.bind e2 (zaa q (Ev.now _)))
  ·refine ⟨0, [], false, by simp, by simp, by simp, zae ?_, zae ?_⟩
   ·simp only [spec_Patched.l0]
    exact zab (by omega) (Ev.bind e1 (zab q (Ev.now _)))
   ·simp only [impl_Patched.l0]
    exact zab (by omega) (Ev.bind e2 (zab q (Ev.now _)))
 | succ d ih =>
  intro i R h hR hw
  have hi : i < ch.length := by omega
  by_cases hf : zca c n ch[i]
  ·obtain ⟨h1, h2⟩ := zcu c n hc hn1 hn ch hch hcw R hR hw ch[i] hf
   obtain ⟨u, m, g, p1, p2, p3, e1, e2⟩ := ih (i + 1) (zbt R ch[i]) (by omega) h1 h2
   exact ⟨u, m, g, p1, p2, p3, zb5 c n hc hn1 hn ch hch hcw i hi R hR hw hf _ _ e1, zbc c n hc hn1 hn ch hch hcw i hi R hR hw hf _ _ e2⟩
  ·exact ⟨0, [], false, by simp, by simp, by simp, zce c n hc hn1 hn ch hch hcw i hi R hf _, zcg c n hc hn1 hn ch hch hcw i hi R hf _⟩
end
theorem Patched_some (c : Int) (l : List (List S98)) (a b : Int) (ch : List S101) (hl : l.length ≤ 1048576) (hw : ∀ x ∈ l, x.length ≤ 1048576) (hch : ch.length ≤ 1048576) (hcw : ∀ x ∈ ch, x.f2.length ≤ 1048576) :
  ∃ (u : Int) (m : List (List S98)) (g : Bool), m.length ≤ 30 ∧ (∀ x ∈ m, x.length ≤ 60) ∧ (g = true → zan u m) ∧ Ev (fun k => spec_Patched.f k c l a b ch) (u, m, g) ∧ Ev (fun k => impl_Patched.f k c l a b ch) (u, m, g) := by
 obtain ⟨b1, e1, hb1⟩ := zap c l
 obtain ⟨b2, e2, hb2⟩ := zal c l hw
 obtain rfl : b1 = b2 := Bool.eq_iff_iff.mpr (hb1.trans hb2.symm)
 have st : ∀ (x y : Int) (R : List (List S98)), Ev (fun k => spec_Patched.j0 k true a b ch x R) (0, [], false) := by
  intro x y R
  refine zae ?_
  simp only [spec_Patched.j0]
  exact zaa (by trivial) (Ev.now _)
 have it : Ev (fun k => impl_Patched.j0 k true c l a b ch) (0, [], false) := by
  refine zae ?_
  simp only [impl_Patched.j0]
  exact zaa (by trivial) (Ev.now _)
 have no : Ev (fun k => spec_Resized.f k c l a b) (0, []) → Ev (fun k => spec_Patched.f k c l a b ch) (0, [], false) := by
  intro e
  unfold spec_Patched.f
  exact Ev.bind e (zaa (by simp) (st _ 0 _))
 by_cases c1 : b1 = true
 case neg =>
  refine ⟨0, [], false, by simp, by simp, by simp, no (Ev.bind e1 (zab c1 (Ev.now _))), ?_⟩
  unfold impl_Patched.f
  exact Ev.bind e2 (zab c1 it)
 have hg := hb1.mp c1
 by_cases c2 : (decide (1 ≤ a) && decide (a ≤ 60)) = true
 case neg =>
  refine ⟨0, [], false, by simp, by simp, by simp, no (Ev.bind e1 (zaa c1 ?_)), ?_⟩
  ·simp only [zam, Option.bind_some]; exact zab c2 (Ev.now _)
  ·unfold impl_Patched.f
   refine Ev.bind e2 (zaa c1 ?_)
   simp only [zai, Option.bind_some]; exact zab c2 it
 by_cases c3 : (decide (1 ≤ b) && decide (b ≤ 30)) = true
 case neg =>
  refine ⟨0, [], false, by simp, by simp, by simp, no (Ev.bind e1 (zaa c1 ?_)), ?_⟩
  ·simp only [zam, Option.bind_some]; exact zaa c2 (zab c3 (Ev.now _))
  ·unfold impl_Patched.f
   refine Ev.bind e2 (zaa c1 ?_)
   simp only [zai, Option.bind_some]; exact zaa c2 (zab c3 it)
 have c2' := c2
 have c3' := c3
 simp only [Bool.and_eq_true, decide_eq_true_eq] at c2 c3
 obtain ⟨x, rfl⟩ := Int.eq_ofNat_of_zero_le (show 0 ≤ a by omega)
 obtain ⟨y, rfl⟩ := Int.eq_ofNat_of_zero_le (show 0 ≤ b by omega)
 have u1 := zcd c l x y hg (by omega) (by omega) (by omega) (by omega)
 obtain ⟨g1, g2, g3, g4, g5⟩ := id hg
 obtain ⟨w, rfl⟩ := Int.eq_ofNat_of_zero_le (show 0 ≤ c by omega)
 have hw2 : ∀ x ∈ l, x.length = w := fun x hx => by have := (g5 x hx).1; omega
 have u2 := za5 w l x y g4 hw2 (fun x hx => (g5 x hx).2) (by omega) (by omega) (by omega) (by omega)
 have hrl := zao l x y
 by_cases c4 : (ch.length : Int) > 400
 ·refine ⟨0, [], false, by simp, by simp, by simp, ?_, ?_⟩
  ·unfold spec_Patched.f
   refine Ev.bind u1 (zab (by show ¬ (((zah l x y).length : Int) = 0); omega) ?_)
   rw [decide_eq_true c4]
   exact st _ 0 _
  ·unfold impl_Patched.f
   refine Ev.bind e2 (zaa c1 ?_)
   simp only [zai, Option.bind_some]
   refine zaa c2' (zaa c3' ?_)
   rw [decide_eq_true c4]
   exact it
 ·obtain ⟨u, m, g, p1, p2, p3, q1, q2⟩ := Patched_both x y (by omega) (by omega) (by omega) ch hch hcw ch.length 0 (zah l x y) (by omega) hrl (fun z hz => (zbd (fun q hq => (g5 q hq).2) x y (by omega) (by omega) z hz).1)
  refine ⟨u, m, g, p1, p2, fun z => (p3 z).2.2, ?_, ?_⟩
  ·unfold spec_Patched.f
   refine Ev.bind u1 (zab (by show ¬ (((zah l x y).length : Int) = 0); omega) ?_)
   rw [decide_eq_false c4]
   refine zae ?_
   simp only [spec_Patched.j0]
   exact zab (by decide) q1
  ·unfold impl_Patched.f
   refine Ev.bind e2 (zaa c1 ?_)
   simp only [zai, Option.bind_some]
   refine zaa c2' (zaa c3' ?_)
   rw [decide_eq_false c4]
   refine zae ?_
   simp only [impl_Patched.j0]
   exact zab (by decide) (Ev.bind u2 q2)

theorem cne_eq {x y : S98} (h : cne x y = false) : x = y := by
 obtain ⟨a0, ⟨a1, a2, a3, a4, a5⟩, a6⟩ := x
 obtain ⟨b0, ⟨b1, b2, b3, b4, b5⟩, b6⟩ := y
 simp [cne] at h
 simp_all
theorem cne_self (x : S98) : cne x x = false := by simp [cne]
theorem zcw (a b : List S98) : ∀ d k, zax a b d k = k + d ∨ cne (zad a (zax a b d k)) (zad b (zax a b d k)) = false
 | 0, k => .inl rfl
 | d + 1, k => by
  unfold zax
  by_cases h : cne (zad a k) (zad b k) = true
  ·rw [if_pos h]
   rcases zcw a b d (k + 1) with e | e
   ·exact .inl (by omega)
   ·exact .inr e
  ·rw [if_neg h]; exact .inr (by simpa using h)
theorem zcx (l : List S98) (i : Nat) (h : i < l.length) : zad l i = l[i] := by
 unfold zad rd_T98
 rw [Int.toNat_natCast, List.getD_eq_getElem?_getD, List.getElem?_eq_getElem h]; rfl
theorem mix_step (a b : List S98) (hab : a.length = b.length) (k : Nat) (hk : k < b.length) (he : a[k]'(by omega) = b[k]) : b.take k ++ a.drop k = b.take (k + 1) ++ a.drop (k + 1) := by
 rw [List.drop_eq_getElem_cons (show k < a.length by omega), he, List.take_succ_eq_append_getElem hk, List.append_assoc]; rfl
theorem mix_run (a b : List S98) (hab : a.length = b.length) (k e : Nat) (hk : k ≤ e) (he : e ≤ b.length) : ovl (b.take k ++ a.drop k) k ((b.take e).drop k) = b.take e ++ a.drop e := by
 have l1 : (b.take k).length = k := by rw [List.length_take]; omega
 have l2 : ((b.take e).drop k).length = e - k := by rw [List.length_drop, List.length_take]; omega
 have l3 : (b.take k ++ a.drop k).take k = b.take k := by rw [List.take_append_of_le_length (by omega), List.take_of_length_le (by omega)]
 have l4 : (b.take k ++ a.drop k).drop e = a.drop e := by rw [List.drop_append, List.drop_eq_nil_of_le (by omega), l1, List.nil_append, List.drop_drop, show k + (e - k) = e by omega]
 have l5 : b.take k ++ (b.take e).drop k = b.take e := by
  have := List.take_append_drop k (b.take e)
  rwa [List.take_take, Nat.min_eq_left hk] at this
 unfold ovl
 rw [l2, show k + (e - k) = e by omega, l3, l4, l5]
theorem runs_lay (u : Int) (a b : List S98) (hab : a.length = b.length) : ∀ d k, b.length + 1 ≤ k + d → (za4 u a b d k).foldl (fun y x => ovl y x.f1.toNat x.f2) (b.take k ++ a.drop k) = b
 | 0, k, h => by
  simp only [za4, List.foldl_nil]
  rw [List.take_of_length_le (by omega), List.drop_eq_nil_of_le (by omega), List.append_nil]
 | d + 1, k, h => by
  unfold za4
  by_cases hk : k < b.length
  ·rw [if_pos hk, List.foldl_append]
   have hle := zb0 a b (b.length - k) k
   generalize he : zax a b (b.length - k) k = e at hle
   have ih := runs_lay u a b hab d (e + 1) (by omega)
   have hm : (zbv u b k e).foldl (fun y x => ovl y x.f1.toNat x.f2) (b.take k ++ a.drop k) = b.take e ++ a.drop e := by
    unfold zbv
    by_cases hq : k < e
    ·rw [if_pos hq]
     simp only [List.foldl_cons, List.foldl_nil, Int.toNat_natCast]
     exact mix_run a b hab k e (by omega) (by omega)
    ·rw [if_neg hq, show e = k by omega]; rfl
   have hs : b.take e ++ a.drop e = b.take (e + 1) ++ a.drop (e + 1) := by
    by_cases hq : e < b.length
    ·refine mix_step a b hab e hq ?_
     rcases zcw a b (b.length - k) k with x | x
     ·omega
     ·rw [he] at x
      have := cne_eq x
      rwa [zcx a e (by omega), zcx b e hq] at this
    ·rw [List.take_of_length_le (by omega), List.drop_eq_nil_of_le (by omega), List.take_of_length_le (by omega), List.drop_eq_nil_of_le (by omega)]
   rw [hm, hs]; exact ih
  ·rw [if_neg hk, List.foldl_nil, List.take_of_length_le (by omega), List.drop_eq_nil_of_le (by omega), List.append_nil]
theorem zcy (u : Int) (a b : List S98) : ∀ d k, ∀ x ∈ za4 u a b d k, x.f0 = u ∧ 1 ≤ x.f2.length ∧ 0 ≤ x.f1 ∧ x.f1 + (x.f2.length : Int) ≤ (b.length : Int)
 | 0, _ => fun x hx => by simp [za4] at hx
 | d + 1, k => fun x hx => by
  unfold za4 at hx
  by_cases h : k < b.length
  ·rw [if_pos h, List.mem_append] at hx
   rcases hx with hx | hx
   ·have hle := zb0 a b (b.length - k) k
    unfold zbv at hx
    by_cases q : k < zax a b (b.length - k) k
    ·rw [if_pos q, List.mem_singleton] at hx
     have hl : ((b.take (zax a b (b.length - k) k)).drop k).length = zax a b (b.length - k) k - k := by rw [List.length_drop, List.length_take]; omega
     rw [hx]
     refine ⟨rfl, ?_, ?_, ?_⟩
     ·show 1 ≤ ((b.take _).drop k).length
      omega
     ·show (0 : Int) ≤ (k : Int)
      omega
     ·show (k : Int) + (((b.take _).drop k).length : Int) ≤ _
      omega
    ·rw [if_neg q] at hx; cases hx
   ·exact zcy u a b d _ x hx
  ·rw [if_neg h] at hx; cases hx
theorem lay_row (i : Nat) : ∀ (l : List S101) (R : List (List S98)), i < R.length → (∀ x ∈ l, x.f0 = (i : Int)) → l.foldl zbt R = R.set i (l.foldl (fun y x => ovl y x.f1.toNat x.f2) (R.getD i []))
 | [], R, hi, _ => by
  simp only [List.foldl_nil]
  rw [List.getD_eq_getElem?_getD, List.getElem?_eq_getElem hi]
  simp
 | x :: l, R, hi, h => by
  have hx := h x (List.mem_cons_self ..)
  simp only [List.foldl_cons]
  have hl : zbt R x = R.set i (ovl (R.getD i []) x.f1.toNat x.f2) := by unfold zbt; rw [hx, Int.toNat_natCast]
  rw [hl, lay_row i l _ (by rw [List.length_set]; exact hi) (fun y hy => h y (List.mem_cons_of_mem _ hy)), List.set_set]
  congr 2
  rw [List.getD_eq_getElem?_getD, List.getElem?_set_self hi]; rfl
theorem diff_lay (A B : List (List S98)) (hab : A.length = B.length) (c : Nat) (ha : ∀ x ∈ A, x.length = c) (hb : ∀ x ∈ B, x.length = c) (hc : c ≤ 60) : ∀ d i, i + d = B.length → (zar A B d i).foldl zbt (B.take i ++ A.drop i) = B
 | 0, i, h => by
  simp only [zar, List.foldl_nil]
  rw [List.take_of_length_le (by omega), List.drop_eq_nil_of_le (by omega), List.append_nil]
 | d + 1, i, h => by
  unfold zar
  have hi : i < B.length := by omega
  have hi' : i < A.length := by omega
  have ga : A.getD i [] = A[i] := by rw [List.getD_eq_getElem?_getD, List.getElem?_eq_getElem hi']; rfl
  have gb : B.getD i [] = B[i] := by rw [List.getD_eq_getElem?_getD, List.getElem?_eq_getElem hi]; rfl
  have la := ha _ (List.getElem_mem hi')
  have lb := hb _ (List.getElem_mem hi)
  have lt : (B.take i).length = i := by rw [List.length_take]; omega
  rw [ga, gb, List.foldl_append, lay_row i _ _ (by rw [List.length_append, List.length_take, List.length_drop]; omega) (fun x hx => (zcy _ _ _ _ _ x hx).1)]
  have gr : (B.take i ++ A.drop i).getD i [] = A[i] := by
   rw [List.getD_eq_getElem?_getD, List.getElem?_append_right (by omega), lt, Nat.sub_self, List.drop_eq_getElem_cons hi']; rfl
  have rl := runs_lay (i : Int) A[i] B[i] (by omega) 61 0 (by omega)
  rw [List.take_zero, List.drop_zero, List.nil_append] at rl
  rw [gr, rl]
  have hs : (B.take i ++ A.drop i).set i B[i] = B.take (i + 1) ++ A.drop (i + 1) := by
   rw [List.set_append_right _ _ (by omega), lt, Nat.sub_self, List.drop_eq_getElem_cons hi', List.set_cons_zero, List.take_succ_eq_append_getElem hi, List.append_assoc]; rfl
  rw [hs]
  exact diff_lay A B hab c ha hb hc d (i + 1) (by omega)
theorem zc2 (A B : List (List S98)) (c : Nat) (hb : ∀ x ∈ B, x.length = c) : ∀ d i, i + d = B.length → ∀ x ∈ zar A B d i, zca (c : Int) (B.length : Int) x
 | 0, _, _ => fun x hx => by simp [zar] at hx
 | d + 1, i, h => fun x hx => by
  unfold zar at hx
  rw [List.mem_append] at hx
  rcases hx with hx | hx
  ·have gb : B.getD i [] = B[i]'(by omega) := by rw [List.getD_eq_getElem?_getD, List.getElem?_eq_getElem (by omega)]; rfl
   have lb := hb _ (List.getElem_mem (show i < B.length by omega))
   obtain ⟨h0, h1, h2, h3⟩ := zcy _ _ _ _ _ x hx
   rw [gb, lb] at h3
   exact ⟨h1, ⟨by omega, by omega⟩, h2, by omega⟩
  ·exact zc2 A B c hb d (i + 1) (by omega) x hx
theorem Patched_fit (c n : Nat) (hc : c ≤ 60) (hn1 : 1 ≤ n) (hn : n ≤ 30) (ch : List S101) (hch : ch.length ≤ 1048576) (hcw : ∀ x ∈ ch, x.f2.length ≤ 1048576) (hf : ∀ x ∈ ch, zca (c : Int) (n : Int) x) (R' : List (List S98)) (hg : zan (c : Int) R') :
  ∀ (d i : Nat) (R : List (List S98)), i + d = ch.length → R.length = n → (∀ x ∈ R, x.length = c) → (ch.drop i).foldl zbt R = R' →
  Ev (fun k => impl_Patched.l0 k ch (ch.length : Int) (i : Int) (c : Int) (n : Int) ch (c : Int) R) ((c : Int), R', true) := by
 intro d
 induction d with
 | zero =>
  intro i R h hR hw he
  rw [List.drop_eq_nil_of_le (by omega), List.foldl_nil] at he
  subst he
  obtain ⟨b2, e2, hb2⟩ := zal (c : Int) R (fun x hx => by rw [hw x hx]; omega)
  refine zae ?_
  simp only [impl_Patched.l0]
  exact zab (by omega) (Ev.bind e2 (zaa (hb2.mpr hg) (Ev.now _)))
 | succ d ih =>
  intro i R h hR hw he
  have hi : i < ch.length := by omega
  have hfi := hf _ (List.getElem_mem hi)
  obtain ⟨h1, h2⟩ := zcu c n hc hn1 hn ch hch hcw R hR hw ch[i] hfi
  rw [List.drop_eq_getElem_cons hi, List.foldl_cons] at he
  exact zbc c n hc hn1 hn ch hch hcw i hi R hR hw hfi _ _ (ih (i + 1) (zbt R ch[i]) (by omega) h1 h2 he)
theorem Patched_back (ca cb : Int) (la lb : List (List S98)) (ha : zan ca la) (hb : zan cb lb) (h4 : (zb1 la lb cb.toNat).length ≤ 400) :
  Ev (fun k => impl_Patched.f k ca la cb (lb.length : Int) (zb1 la lb cb.toNat)) (cb, lb, true) := by
 obtain ⟨g1, g2, g3, g4, g5⟩ := id ha
 obtain ⟨f1, f2, f3, f4, f5⟩ := id hb
 obtain ⟨w, rfl⟩ := Int.eq_ofNat_of_zero_le (show 0 ≤ ca by omega)
 obtain ⟨c, rfl⟩ := Int.eq_ofNat_of_zero_le (show 0 ≤ cb by omega)
 rw [Int.toNat_natCast] at h4 ⊢
 have hw : ∀ x ∈ la, x.length = w := fun x hx => by have := (g5 x hx).1; omega
 have hx : ∀ x ∈ lb, x.length = c := fun x hx => by have := (f5 x hx).1; omega
 have hr := zbd (fun q hq => (g5 q hq).2) c lb.length (by omega) (by omega)
 have rl := zao la c lb.length
 obtain ⟨b2, e2, hb2⟩ := zal (w : Int) la (fun x hx => by rw [hw x hx]; omega)
 have c2 : (decide (1 ≤ (c : Int)) && decide ((c : Int) ≤ 60)) = true := by simp; omega
 have c3 : (decide (1 ≤ (lb.length : Int)) && decide ((lb.length : Int) ≤ 30)) = true := by simp; omega
 have u2 := za5 w la c lb.length g4 hw (fun x hx => (g5 x hx).2) (by omega) (by omega) (by omega) (by omega)
 have hfit := zc2 (zah la c lb.length) lb c hx lb.length 0 (by omega)
 have hlay := diff_lay (zah la c lb.length) lb rl c (fun x hx => (hr x hx).1) hx (by omega) lb.length 0 (by omega)
 rw [List.take_zero, List.drop_zero, List.nil_append] at hlay
 have e := Patched_fit c lb.length (by omega) (by omega) (by omega) (zb1 la lb c) (by omega) (fun x hq => by obtain ⟨_, _, h8, h9⟩ := hfit x hq; omega) hfit lb hb (zb1 la lb c).length 0 (zah la c lb.length) (by omega) rl (fun x hx => (hr x hx).1) (by rw [List.drop_zero]; exact hlay)
 unfold impl_Patched.f
 refine Ev.bind e2 (zaa (hb2.mpr ha) ?_)
 simp only [zai, Option.bind_some]
 refine zaa c2 (zaa c3 ?_)
 rw [decide_eq_false (show ¬ ((zb1 la lb c).length : Int) > 400 by omega)]
 refine zae ?_
 simp only [impl_Patched.j0]
 exact zab (by decide) (Ev.bind u2 e)
theorem zcz {c : Nat} {l : List (List S98)} (h : zan (c : Int) l) : zah l c l.length = l := by
 obtain ⟨g1, g2, g3, g4, g5⟩ := h
 unfold zah
 rw [Nat.sub_self, List.drop_zero, Nat.min_self, Nat.sub_self, List.replicate_zero, List.append_nil]
 have e : ∀ x ∈ l, rowv x c = x := by
  intro x hx
  have hl := (g5 x hx).1
  have ts := take_self (zbs (g5 x hx).2) c (by omega) (fun q => absurd q (by omega))
  unfold rowv
  rw [ts, List.take_of_length_le (show x.length ≤ c by omega), show c - min c x.length = 0 by omega, List.replicate_zero, List.append_nil]
 exact (List.map_congr_left e).trans (List.map_id' l)
theorem runs_self (u : Int) (a : List S98) : ∀ d k, za4 u a a d k = []
 | 0, _ => rfl
 | d + 1, k => by
  have e : ∀ m, zax a a m k = k := fun m => by cases m with
   | zero => rfl
   | succ m => unfold zax; rw [cne_self]; rfl
  unfold za4
  by_cases h : k < a.length
  ·rw [if_pos h, e, runs_self u a d (k + 1)]
   unfold zbv
   rw [if_neg (Nat.lt_irrefl k)]; rfl
  ·rw [if_neg h]
theorem diff_self (A : List (List S98)) : ∀ d i, zar A A d i = []
 | 0, _ => rfl
 | d + 1, i => by unfold zar; rw [runs_self, diff_self A d (i + 1)]; rfl

theorem Diff_told (ca cb : Int) (la lb : List (List S98)) (ha : ∀ x ∈ la, x.length ≤ 1048576) (hb : ∀ x ∈ lb, x.length ≤ 1048576) :
  ∃ (c n : Int) (ch : List S101) (g : Bool), ch.length ≤ 400 ∧ (∀ x ∈ ch, 1 ≤ x.f2.length ∧ x.f2.length ≤ 60) ∧
   (g = true → zan ca la ∧ zan cb lb ∧ c = cb ∧ n = (lb.length : Int) ∧ ch = zb1 la lb cb.toNat) ∧ (g = false → c = 0 ∧ n = 0 ∧ ch = []) ∧
   Ev (fun k => spec_Diff.f k ca la cb lb) (c, n, ch, g) ∧ Ev (fun k => impl_Diff.f k ca la cb lb) (c, n, ch, g) := by
 by_cases h : zan ca la ∧ zan cb lb
 ·obtain ⟨e1, e2⟩ := Diff_yes ca cb la lb h.1 h.2
  unfold finv at e1 e2
  by_cases q : ((zb1 la lb cb.toNat).length : Int) > 400
  ·rw [if_pos q] at e1 e2
   exact ⟨0, 0, [], false, by simp, by simp, by simp, by simp, e1, e2⟩
  ·rw [if_neg q] at e1 e2
   obtain ⟨f1, f2, f3, f4, f5⟩ := id h.2
   obtain ⟨c, rfl⟩ := Int.eq_ofNat_of_zero_le (show 0 ≤ cb by omega)
   refine ⟨(c : Int), _, zb1 la lb (c : Int).toNat, true, by omega, fun x hx => ?_, fun _ => ⟨h.1, h.2, rfl, rfl, rfl⟩, by simp, e1, e2⟩
   rw [Int.toNat_natCast] at hx
   obtain ⟨h1, _, h2, h3⟩ := zc2 (zah la c lb.length) lb c (fun y hy => by have := (f5 y hy).1; omega) lb.length 0 (by omega) x hx
   exact ⟨h1, by omega⟩
 ·obtain ⟨e1, e2⟩ := Diff_no ca cb la lb ha hb h
  exact ⟨0, 0, [], false, by simp, by simp, by simp, by simp, e1, e2⟩
theorem zbz {l : List (List S98)} (h : zbn l) : ∀ x ∈ l, x.length ≤ 1048576 := fun x hx => by have := h.2 x hx; omega
def FewCh (l : List S101) : Prop := l.length ≤ 400 ∧ ∀ x ∈ l, x.f2.length ≤ 60
theorem few_ch {l : List S101} (h : FewCh l) (i : Nat) {y : S101} (hy : y.f2.length ≤ 60) : FewCh (l.set i y) := ⟨by rw [List.length_set]; exact h.1, fun x hx => by
 rcases List.mem_or_eq_of_mem_set hx with hx | rfl
 ·exact h.2 x hx
 ·exact hy⟩
theorem zb4 (b : List Int) (hb : b.length < 4611686018427387904) (i h : Int) (hi : 0 ≤ i) :
  ∃ (c n : Int) (ch : List S101) (i' h' : Int), Ev (fun k => spec_l10Draw.f k b i h) (c, n, ch, i', h') ∧ FewCh ch ∧ 0 ≤ i' := by
 obtain ⟨ca, la, cb, lb, i1, h1, e1, fa, fb, j1⟩ := za3 b hb i h hi
 obtain ⟨c, n, ch, g, hch, hcw, _, _, e2, _⟩ := Diff_told ca cb la lb (zbz fa) (zbz fb)
 obtain ⟨o, i2, h2, e3, j2⟩ := zaj b hb i1 h1 8 j1 (by omega)
 have few : FewCh ch := ⟨hch, fun x hx => (hcw x hx).2⟩
 have no : Ev (fun k => spec_l10Draw.j0 k false b i2 h2 c n ch) (c, n, ch, i2, h2) := by
  refine zae ?_
  simp only [spec_l10Draw.j0]
  exact zab (by simp) (Ev.now _)
 have yes : ch.length > 0 → ∃ (c' n' : Int) (ch' : List S101) (i' h' : Int), Ev (fun k => spec_l10Draw.j0 k true b i2 h2 c n ch) (c', n', ch', i', h') ∧ FewCh ch' ∧ 0 ≤ i' := by
  intro hp
  have hx0 := hcw _ (List.getElem_mem hp)
  have hrd : rd_T101 ch 0 = ch[0] := by
   unfold rd_T101
   rw [show (0 : Int).toNat = 0 from rfl, List.getD_eq_getElem?_getD, List.getElem?_eq_getElem hp]; rfl
  have hw0 : (rd_T101 ch 0).f2.length ≤ 60 := by rw [hrd]; exact hx0.2
  obtain ⟨u, i3, h3, e4, u0, u1, j3⟩ := zaf b hb i2 h2 5 j2 (by omega)
  by_cases q0 : u = 0
  ·obtain ⟨v, i4, h4, e5, v0, v1, j4⟩ := zaf b hb i3 h3 5 j3 (by omega)
   refine ⟨c, n, ch.set (0 : Int).toNat ⟨rd [(-1), 0, 9999999, 10000000, 4611686018427387904] v, (rd_T101 ch 0).f1, (rd_T101 ch 0).f2⟩, i4, h4, zae ?_, few_ch few _ hw0, j4⟩
   simp only [spec_l10Draw.j0, Option.bind_some]
   exact zaa (by trivial) (zaa (by omega) (zac e4 (zaa q0 (zac e5 (zaa v0 (zaa (by simp only [List.length_cons, List.length_nil]; omega) (Ev.now _)))))))
  by_cases q1 : u = 1
  ·obtain ⟨v, i4, h4, e5, v0, v1, j4⟩ := zaf b hb i3 h3 4 j3 (by omega)
   refine ⟨c, n, ch.set (0 : Int).toNat ⟨(rd_T101 ch 0).f0, rd [(-1), 5, 60, (-9223372036854775808)] v, (rd_T101 ch 0).f2⟩, i4, h4, zae ?_, few_ch few _ hw0, j4⟩
   simp only [spec_l10Draw.j0, Option.bind_some]
   exact zaa (by trivial) (zaa (by omega) (zac e4 (zab q0 (zaa q1 (zac e5 (zaa v0 (zaa (by simp only [List.length_cons, List.length_nil]; omega) (Ev.now _))))))))
  by_cases q2 : u = 2
  ·refine ⟨c, n, ch.set (0 : Int).toNat ⟨(rd_T101 ch 0).f0, (rd_T101 ch 0).f1, []⟩, i3, h3, zae ?_, few_ch few _ (y := ⟨(rd_T101 ch 0).f0, (rd_T101 ch 0).f1, []⟩) (Nat.zero_le _), j3⟩
   simp only [spec_l10Draw.j0]
   exact zaa (by trivial) (zaa (by omega) (zac e4 (zab q0 (zab q1 (zaa q2 (Ev.now _))))))
  by_cases q3 : u = 3
  ·obtain ⟨v, i4, h4, e5, v0, v1, j4⟩ := zaf b hb i3 h3 6 j3 (by omega)
   have ef : spec_l1From.f b i3 h3 (-1) 4 = some (wrap64 (-1 + v), i4, h4) := by
    unfold spec_l1From.f
    rw [w64 (x := 4 - (-1)) (by omega) (by omega), show (4 : Int) - (-1) + 1 = 6 by omega, w64 (x := 6) (by omega) (by omega), e5]
    rfl
   refine ⟨c, n, ch.set (0 : Int).toNat ⟨(rd_T101 ch 0).f0, (rd_T101 ch 0).f1, (rd_T101 ch 0).f2.set (0 : Int).toNat ⟨(rd_T98 (rd_T101 ch 0).f2 0).f0, ⟨(rd_T98 (rd_T101 ch 0).f2 0).f1.f0, (rd_T98 (rd_T101 ch 0).f2 0).f1.f1, (rd_T98 (rd_T101 ch 0).f2 0).f1.f2, (rd_T98 (rd_T101 ch 0).f2 0).f1.f3, (rd_T98 (rd_T101 ch 0).f2 0).f1.f4⟩, wrap64 (-1 + v)⟩⟩, i4, h4, zae ?_, few_ch few _ ?_, j4⟩
   ·simp only [spec_l10Draw.j0]
    exact zaa (by trivial) (zaa (by omega) (zac e4 (zab q0 (zab q1 (zab q2 (zaa q3 (zac ef (zaa (by rw [hrd]; omega) (Ev.now _)))))))))
   ·show (List.set _ _ _).length ≤ 60
    rw [List.length_set]; exact hw0
  ·obtain ⟨v, i4, h4, e5, v0, v1, j4⟩ := zaf b hb i3 h3 4 j3 (by omega)
   refine ⟨rd [0, 60, 61, (-1)] v, n, ch, i4, h4, zae ?_, few, j4⟩
   simp only [spec_l10Draw.j0, Option.bind_some]
   exact zaa (by trivial) (zaa (by omega) (zac e4 (zab q0 (zab q1 (zab q2 (zab q3 (zaa (by omega) (zac e5 (zaa v0 (zaa (by simp only [List.length_cons, List.length_nil]; omega) (Ev.now _)))))))))))
 unfold spec_l10Draw.f
 cases o with
 | false => exact ⟨c, n, ch, i2, h2, Ev.bind e1 (Ev.bind e2 (zac e3 (zab (by simp) no))), few, j2⟩
 | true =>
  by_cases hp : (ch.length : Int) > 0
  ·obtain ⟨c', n', ch', i', h', e4, f4, j4⟩ := yes (by omega)
   refine ⟨c', n', ch', i', h', Ev.bind e1 (Ev.bind e2 (zac e3 (zaa rfl ?_))), f4, j4⟩
   show Ev (fun k => spec_l10Draw.j0 k (decide ((ch.length : Int) > 0)) b i2 h2 c n ch) _
   rw [decide_eq_true hp]; exact e4
  ·refine ⟨c, n, ch, i2, h2, Ev.bind e1 (Ev.bind e2 (zac e3 (zaa rfl ?_))), few, j2⟩
   show Ev (fun k => spec_l10Draw.j0 k (decide ((ch.length : Int) > 0)) b i2 h2 c n ch) _
   rw [decide_eq_false hp]; exact no

theorem cell_self (x : S98) : (!(x.f0 == x.f0) || ((!(x.f1.f0 == x.f1.f0) || (!(x.f1.f1 == x.f1.f1) || (!(x.f1.f2 == x.f1.f2) || (!(x.f1.f3 == x.f1.f3) || (!(x.f1.f4 == x.f1.f4)))))) || (!(x.f2 == x.f2)))) = false := by simp
theorem zbl (l : List S98) (hl : l.length < 1000000000) : Ev (fun k => laws_likeRow.f k l l) true := by
 have go : ∀ (d i : Nat), i + d = l.length → Ev (fun k => laws_likeRow.l0 k l l (i : Int)) true := by
  intro d
  induction d with
  | zero =>
   intro i h
   refine zae ?_
   simp only [laws_likeRow.l0]
   exact zab (by omega) (Ev.now _)
  | succ d ih =>
   intro i h
   refine zae ?_
   simp only [laws_likeRow.l0, w64 (x := (i : Int) + 1) (by omega) (by omega)]
   exact zaa (by omega) (zaa (by omega) (zaa (by omega) (zab (by rw [cell_self]; simp) (ih (i + 1) (by omega)))))
 unfold laws_likeRow.f
 exact zaa rfl (go l.length 0 (by omega))
theorem zbg (c : Int) (l : List (List S98)) (hl : l.length < 1000000000) (hw : ∀ x ∈ l, x.length < 1000000000) : Ev (fun k => laws_likeGrid.f k c l c l) true := by
 have go : ∀ (d i : Nat), i + d = l.length → Ev (fun k => laws_likeGrid.l0 k (i : Int) c l c l) true := by
  intro d
  induction d with
  | zero =>
   intro i h
   refine zae ?_
   simp only [laws_likeGrid.l0]
   exact zab (by omega) (Ev.now _)
  | succ d ih =>
   intro i h
   have hi : i < l.length := by omega
   have hrd : rd_L5 l (i : Int) = l[i] := by
    unfold rd_L5
    rw [Int.toNat_natCast, List.getD_eq_getElem?_getD, List.getElem?_eq_getElem hi]; rfl
   refine zae ?_
   simp only [laws_likeGrid.l0, w64 (x := (i : Int) + 1) (by omega) (by omega), hrd]
   exact zaa (by omega) (zaa (by omega) (zaa (by omega) (Ev.bind (zbl _ (hw _ (List.getElem_mem hi))) (zaa rfl (ih (i + 1) (by omega))))))
 unfold laws_likeGrid.f
 refine zaa rfl (zae ?_)
 simp only [laws_likeGrid.j0]
 exact zab (by simp) (go l.length 0 (by omega))

theorem zb6 (c n : Int) (l : List S101) (hl : l.length < 1000000000) (hw : ∀ x ∈ l, x.f2.length < 1000000000) : Ev (fun k => laws_likePatch.f k c n l c n l) true := by
 have go : ∀ (d i : Nat), i + d = l.length → Ev (fun k => laws_likePatch.l0 k (i : Int) c n l c n l) true := by
  intro d
  induction d with
  | zero =>
   intro i h
   refine zae ?_
   simp only [laws_likePatch.l0]
   exact zab (by omega) (Ev.now _)
  | succ d ih =>
   intro i h
   have hi : i < l.length := by omega
   have hrd : rd_T101 l (i : Int) = l[i] := by
    unfold rd_T101
    rw [Int.toNat_natCast, List.getD_eq_getElem?_getD, List.getElem?_eq_getElem hi]; rfl
   refine zae ?_
   simp only [laws_likePatch.l0, w64 (x := (i : Int) + 1) (by omega) (by omega), hrd]
   exact zaa (by omega) (zaa (by omega) (zaa (by omega) (zaa trivial (zaa trivial (Ev.bind (zbl _ (hw _ (List.getElem_mem hi))) (zaa rfl (ih (i + 1) (by omega))))))))
 unfold laws_likePatch.f
 refine zaa rfl (zaa rfl (zae ?_))
 simp only [laws_likePatch.j0]
 exact zab (by simp) (go l.length 0 (by omega))

theorem Diff_same {c : Int} {l : List (List S98)} (h : zan c l) : Ev (fun k => impl_Diff.f k c l c l) (c, (l.length : Int), [], true) := by
 obtain ⟨e1, e2⟩ := Diff_yes c c l l h h
 obtain ⟨g1, g2, g3, g4, g5⟩ := id h
 obtain ⟨n, rfl⟩ := Int.eq_ofNat_of_zero_le (show 0 ≤ c by omega)
 have hd : zb1 l l (n : Int).toNat = [] := by
  rw [Int.toNat_natCast]
  unfold zb1
  rw [zcz h, diff_self]
 rw [hd] at e2
 exact e2
theorem FnPatched : laws_FnPatched.Pure := by
 intro l _ hl _
 refine Ev.rounds ?_
 unfold laws_FnPatched.f laws_big.f
 refine zac rfl ?_
 by_cases hb : (l.length : Int) > 4096
 ·exact zaa (by simpa using hb) (Ev.now _)
 refine zab (by simpa using hb) ?_
 have hl2 : l.length < 4611686018427387904 := by omega
 obtain ⟨h0, e0⟩ := zci l hl2
 obtain ⟨ca, la, cb, lb, i1, h1, e1, fa, fb, _⟩ := za3 l hl2 0 h0 (by omega)
 have ed : Ev (fun k => spec_DrawDiff.f k l) (ca, la, cb, lb) := by
  unfold spec_DrawDiff.f
  exact Ev.bind e0 (Ev.bind e1 (Ev.now _))
 obtain ⟨cg, lg, i2, h2, e2, fg, j2⟩ := zaw l hl2 0 h0 (by omega)
 obtain ⟨cq, nq, chq, i3, h3, e3, fq, _⟩ := zb4 l hl2 i2 h2 j2
 have ep : Ev (fun k => spec_DrawPatched.f k l) (cg, lg, cq, nq, chq) := by
  unfold spec_DrawPatched.f
  exact Ev.bind e0 (Ev.bind e2 (Ev.bind e3 (Ev.now _)))
 obtain ⟨c, n, ch, g, hch, hcw, hyes, hno, es, ei⟩ := Diff_told ca cb la lb (zbz fa) (zbz fb)
 obtain ⟨u, m, f, pm, pw, pg, qs, qi⟩ := Patched_some cg lg cq nq chq (by have := fg.1; omega) (zbz fg) (by have := fq.1; omega) (fun x hx => by have := fq.2 x hx; omega)
 have elp := zb6 c n ch (by omega) (fun x hx => by have := (hcw x hx).2; omega)
 have elg := zbg u m (by omega) (fun x hx => by have := pw x hx; omega)
 obtain ⟨b, eg, hgb⟩ := zal u m (fun x hx => by have := pw x hx; omega)
 have j1 : Ev (fun k => laws_FnPatched.j1 k g false ca la cb lb c n ch) true := by
  refine zae ?_
  simp only [laws_FnPatched.j1]
  refine zab (by simp) ?_
  cases g with
  | false =>
   obtain ⟨rfl, rfl, rfl⟩ := hno rfl
   exact zab (by simp) (Ev.bind elp (Ev.now _))
  | true =>
   obtain ⟨ga, gb, rfl, rfl, rfl⟩ := hyes rfl
   refine zaa rfl (Ev.bind (Patched_back ca c la lb ga gb hch) (Ev.bind (Diff_same ga) (zaa rfl (Ev.bind ?_ (zaa rfl (zaa rfl (Ev.now _)))))))
   exact zbg c lb (by have := fb.1; omega) (fun x hx => by have := fb.2 x hx; omega)
 have j0 : Ev (fun k => laws_FnPatched.j0 k g f false ca la cb lb c n ch cg lg cq nq chq u m) true := by
  refine zae ?_
  simp only [laws_FnPatched.j0]
  refine zab (by simp) (Ev.bind qs (zab (by simp) (Ev.bind elg (zaa rfl ?_))))
  cases f with
  | false => exact zab (by simp) j1
  | true =>
   obtain rfl : b = true := hgb.mpr (pg rfl)
   exact zaa rfl (Ev.bind eg j1)
 exact Ev.bind ed (Ev.bind ei (Ev.bind ep (Ev.bind qi (Ev.bind es (zab (by simp) (Ev.bind elp j0))))))

end Go.Proofs.Ytalopdcephohgaa.Pure
