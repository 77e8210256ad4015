/- The law FnRows answers true at every code: what is written stands there, the other cells stay but for halves that stand alone, and a row stays right and as long. -/
import Derived.Test.YtepeanpoicefdaaDoorPBx29
import Derived.Lib.TrimByte
namespace Go.Proofs.YtepeanpoicefdaaDoor.Pure
open Go.RowKit Go.Proofs.YtepeanpoicefdaaDoor.PB Go.Proofs.YtepeanpoicefdaaDoorW.PrintWords Go.Proofs.YtepeanpoicefdaaDoorW.PrintLast
set_option linter.unusedVariables false
set_option linter.unusedSimpArgs false

theorem w64 {x : Int} (h0 : -9223372036854775808 ≤ x) (h1 : x ≤ 9223372036854775807) : wrap64 x = x := by unfold wrap64; omega
theorem zaf {α : Type} {g : Nat → Option α} {r : α} (h : Ev (fun k => g (k + 1)) r) : Ev g r := by
 obtain ⟨K, h⟩ := h
 refine ⟨K + 1, fun k hk => ?_⟩
 obtain ⟨m, rfl⟩ : ∃ m, k = m + 1 := ⟨k - 1, by omega⟩
 exact h m (by omega)
theorem zbu {α : Type} {x : Option α} {r : α} (h : x = some r) : Ev (fun _ => x) r := ⟨0, fun _ _ => h⟩
theorem za3 {α : Type} {g : Nat → Option α} {r s : α} (h : Ev g r) (e : r = s) : Ev g s := e ▸ h
theorem zaa {α : Type} {c : Prop} [Decidable c] {a b : Nat → Option α} {r : α} (hc : c) (h : Ev a r) : Ev (fun k => if c then a k else b k) r := by
 obtain ⟨K, h⟩ := h
 exact ⟨K, fun k hk => by show (if c then a k else b k) = some r; rw [if_pos hc]; exact h k hk⟩
theorem zac {α : Type} {c : Prop} [Decidable c] {a b : Nat → Option α} {r : α} (hc : ¬ c) (h : Ev b r) : Ev (fun k => if c then a k else b k) r := by
 obtain ⟨K, h⟩ := h
 exact ⟨K, fun k hk => by show (if c then a k else b k) = some r; rw [if_neg hc]; exact h k hk⟩
theorem zad {α β : Type} {x : Option α} {a : α} {f : Nat → α → Option β} {r : β} (hx : x = some a) (h : Ev (fun k => f k a) r) : Ev (fun k => x.bind (f k)) r := by
 subst hx; exact h

theorem rd_nat (l : List Int) (i : Nat) : rd l (i : Int) = l.getD i 0 := by simp [rd]
theorem rd_at {l : List Int} {i : Nat} (h : i < l.length) : rd l (i : Int) = l[i] := by rw [rd_nat, List.getD_eq_getElem?_getD, List.getElem?_eq_getElem h]; rfl
theorem zcr {α : Type} (l : List α) (i : Nat) (a : α) (h : i < l.length) : (l.set i a).take (i + 1) = l.take i ++ [a] := by
 rw [List.take_succ_eq_append_getElem (by simpa using h), List.take_set, List.set_eq_of_length_le (by rw [List.length_take]; omega)]
 simp

theorem and255 (x : Int) : 0 ≤ Go.bits .and .i64 x 255 ∧ Go.bits .and .i64 x 255 ≤ 255 := by
 have h : ((BitVec.ofInt 64 x &&& BitVec.ofInt 64 255).toNat : Int) ≤ 255 := by
  rw [BitVec.toNat_and]
  have : (BitVec.ofInt 64 x).toNat &&& (BitVec.ofInt 64 255).toNat ≤ (BitVec.ofInt 64 255).toNat := Nat.and_le_right
  have e : (BitVec.ofInt 64 255).toNat = 255 := by decide
  omega
 have w : Go.bits .and .i64 x 255 = IntKind.i64.wrap ((BitVec.ofInt 64 x &&& BitVec.ofInt 64 255).toNat : Int) := rfl
 rw [w, IntKind.wrap_i64]
 omega
theorem zax (b : List Int) (hb : b.length < 4611686018427387904) (i h : Int) (hi : 0 ≤ i) :
  ∃ v i' h', spec_l1Byte.f b i h = some (v, i', h') ∧ 0 ≤ v ∧ v ≤ 255 ∧ 0 ≤ i' := by
 unfold spec_l1Byte.f
 by_cases c : i < (b.length : Int)
 ·rw [if_pos c, if_pos hi]
  exact ⟨_, _, _, rfl, (and255 _).1, (and255 _).2, by rw [w64 (by omega) (by omega)]; omega⟩
 ·rw [if_neg c]
  exact ⟨_, _, _, rfl, (and255 _).1, (and255 _).2, hi⟩
theorem zae (b : List Int) (hb : b.length < 4611686018427387904) (i h n : Int) (hi : 0 ≤ i) (hn : n < 4611686018427387904) :
  ∃ v i' h', spec_l1Below.f b i h n = some (v, i', h') ∧ 0 ≤ v ∧ (v < n ∨ (n ≤ 0 ∧ v = 0)) ∧ 0 ≤ i' := by
 unfold spec_l1Below.f
 by_cases c : n ≤ 0
 ·rw [if_pos c]; exact ⟨0, i, h, rfl, by omega, .inr ⟨c, rfl⟩, hi⟩
 ·rw [if_neg c]
  by_cases c2 : n ≤ 256
  ·rw [if_pos c2]
   obtain ⟨v, i', h', e, h0, h1, h2⟩ := zax b hb i h hi
   rw [e]
   simp only [Option.bind_some]
   rw [if_neg (by omega), Int.tmod_eq_emod_of_nonneg h0]
   exact ⟨_, _, _, rfl, Int.emod_nonneg _ (by omega), .inl (Int.emod_lt_of_pos _ (by omega)), h2⟩
  ·rw [if_neg c2]
   obtain ⟨x, i1, h1, e1, x0, x1, j1⟩ := zax b hb i h hi
   obtain ⟨y, i2, h2, e2, y0, y1, j2⟩ := zax b hb i1 h1 j1
   obtain ⟨z, i3, h3, e3, z0, z1, j3⟩ := zax b hb i2 h2 j2
   obtain ⟨u, i4, h4, e4, u0, u1, j4⟩ := zax b hb i3 h3 j3
   rw [e1]; simp only [Option.bind_some]
   rw [e2]; simp only [Option.bind_some]
   rw [e3]; simp only [Option.bind_some]
   rw [e4]; simp only [Option.bind_some]
   rw [if_neg (by omega), w64 (x := x * 16777216) (by omega) (by omega), w64 (x := y * 65536) (by omega) (by omega), w64 (x := z * 256) (by omega) (by omega), w64 (x := x * 16777216 + y * 65536) (by omega) (by omega),
    w64 (x := x * 16777216 + y * 65536 + z * 256) (by omega) (by omega), w64 (x := x * 16777216 + y * 65536 + z * 256 + u) (by omega) (by omega), Int.tmod_eq_emod_of_nonneg (by omega)]
   exact ⟨_, _, _, rfl, Int.emod_nonneg _ (by omega), .inl (Int.emod_lt_of_pos _ (by omega)), j4⟩

theorem zao (b : List Int) (hb : b.length < 4611686018427387904) (i h n : Int) (hi : 0 ≤ i) (hn : n < 4611686018427387904) :
  ∃ v i' h', spec_l1Once.f b i h n = some (v, i', h') ∧ 0 ≤ i' := by
 unfold spec_l1Once.f
 obtain ⟨v, i', h', e, _, _, h2⟩ := zae b hb i h n hi hn
 rw [e]
 exact ⟨_, _, _, rfl, h2⟩

theorem zbf (l : List Int) (hl : l.length < 4611686018427387904) : ∃ h, Ev (fun k => spec_l1New.f k l) (l, 0, h) := by
 have go : ∀ (d i : Nat) (x : Int), i + d = l.length → ∃ h, Ev (fun k => spec_l1New.l0 k l x (i : Int)) (l, 0, h) := by
  intro d
  induction d with
  | zero =>
   intro i x h
   refine ⟨x, zaf ?_⟩
   simp only [spec_l1New.l0]
   exact zac (by omega) (Ev.now _)
  | succ d ih =>
   intro i x h
   obtain ⟨h', e⟩ := ih (i + 1) (Go.bits .and .i64 (wrap64 ((wrap64 ((wrap64 (x * 137)) + (wrap64 (rd l (i : Int))))) + 11)) 1073741823) (by omega)
   refine ⟨h', zaf ?_⟩
   simp only [spec_l1New.l0, w64 (x := (i : Int) + 1) (by omega) (by omega)]
   exact zaa (by omega) (zaa (by omega) e)
 exact go l.length 0 _ (by omega)

theorem zbm (b : List Int) (hb : b.length < 4611686018427387904) (i h : Int) (hi : 0 ≤ i) :
  ∃ a0 a1 a2 a3 a4 i' h', spec_l3Draw.f b i h = some (a0, a1, a2, a3, a4, i', h') ∧ 0 ≤ i' := by
 obtain ⟨v, i1, h1, e1, j1⟩ := zao b hb i h 3 hi (by omega)
 unfold spec_l3Draw.f
 rw [e1]
 simp only [Option.bind_some]
 cases v with
 | true => rw [if_pos rfl]; exact ⟨_, _, _, _, _, _, _, rfl, j1⟩
 | false =>
  rw [if_neg (by simp)]
  obtain ⟨x, i2, h2, e2, _, _, j2⟩ := zae b hb i1 h1 9 j1 (by omega)
  rw [e2]; simp only [Option.bind_some]
  obtain ⟨y, i3, h3, e3, _, _, j3⟩ := zae b hb i2 h2 9 j2 (by omega)
  rw [e3]; simp only [Option.bind_some]
  obtain ⟨u, i4, h4, e4, j4⟩ := zao b hb i3 h3 3 j3 (by omega)
  rw [e4]; simp only [Option.bind_some]
  obtain ⟨v, i5, h5, e5, j5⟩ := zao b hb i4 h4 4 j4 (by omega)
  rw [e5]; simp only [Option.bind_some]
  obtain ⟨z, i6, h6, e6, j6⟩ := zao b hb i5 h5 4 j5 (by omega)
  rw [e6]; simp only [Option.bind_some]
  exact ⟨_, _, _, _, _, _, _, rfl, j6⟩
theorem zat (b : List Int) (hb : b.length < 4611686018427387904) (i h : Int) (hi : 0 ≤ i) :
  ∃ a0 a1 a2 a3 a4 i' h', spec_l3DrawAny.f b i h = some (a0, a1, a2, a3, a4, i', h') ∧ 0 ≤ i' := by
 obtain ⟨a0, a1, a2, a3, a4, i1, h1, e1, j1⟩ := zbm b hb i h hi
 obtain ⟨v, i2, h2, e2, j2⟩ := zao b hb i1 h1 14 j1 (by omega)
 unfold spec_l3DrawAny.f
 rw [e1]; simp only [Option.bind_some]
 rw [e2]; simp only [Option.bind_some]
 cases v with
 | false => rw [if_neg (by simp)]; exact ⟨_, _, _, _, _, _, _, rfl, j2⟩
 | true =>
  rw [if_pos rfl]
  obtain ⟨x, i3, h3, e3, x0, x1, j3⟩ := zae b hb i2 h2 4 j2 (by omega)
  rw [e3]; simp only [Option.bind_some]
  rw [if_pos (by omega), if_pos (by simp only [List.length_cons, List.length_nil]; omega)]
  exact ⟨_, _, _, _, _, _, _, rfl, j3⟩

theorem zbw (b : List Int) (hb : b.length < 4611686018427387904) (i h : Int) (hi : 0 ≤ i) : ∃ v i' h', spec_l1DrawRune.f b i h = some (v, i', h') ∧ 0 ≤ i' := by
 unfold spec_l1DrawRune.f
 obtain ⟨v, i1, h1, e, v0, v1, j1⟩ := zae b hb i h 12 hi (by omega)
 rw [Option.bind_some, e]
 simp only [Option.bind_some]
 rw [if_pos v0, if_pos (by simp; omega)]
 exact ⟨_, _, _, rfl, j1⟩

theorem rdc {l : List S48} {i : Nat} (h : i < l.length) : rd_T48 l (i : Int) = l[i] := by
 unfold rd_T48; rw [Int.toNat_natCast, List.getD_eq_getElem?_getD, List.getElem?_eq_getElem h]; rfl
theorem zb9 (a b : S37) : ((!(a.f0 == b.f0) || (!(a.f1 == b.f1) || (!(a.f2 == b.f2) || (!(a.f3 == b.f3) || (!(a.f4 == b.f4)))))) = true) ↔ a ≠ b := by
 obtain ⟨a0, a1, a2, a3, a4⟩ := a
 obtain ⟨b0, b1, b2, b3, b4⟩ := b
 constructor
 ·intro h e
  injection e with e0 e1 e2 e3 e4
  subst e0; subst e1; subst e2; subst e3; subst e4
  simp at h
 ·intro h
  by_cases q0 : a0 = b0
  ·by_cases q1 : a1 = b1
   ·by_cases q2 : a2 = b2
    ·by_cases q3 : a3 = b3
     ·by_cases q4 : a4 = b4
      ·subst q0; subst q1; subst q2; subst q3; subst q4; exact absurd rfl h
      ·simp [q4]
     ·simp [q3]
    ·simp [q2]
   ·simp [q1]
  ·simp [q0]

theorem zar (a b c : Int) : spec_l1In.f a b c = some (decide (b ≤ a) && decide (a ≤ c)) := by
 unfold spec_l1In.f
 by_cases h : a ≥ b
 ·rw [if_pos h]; simp [h]
 ·rw [if_neg h]; simp [show ¬ b ≤ a from h]

theorem zaw (a b c : Int) : impl_in.f a b c = some (decide (b ≤ a) && decide (a ≤ c)) := by
 unfold impl_in.f
 by_cases h : b ≤ a
 ·rw [if_pos h]; simp [h]
 ·rw [if_neg h]; simp [h]

def zbx (a b : Int) : Bool := (decide (0 ≤ a) && decide (a ≤ 8)) && (decide (0 ≤ b) && decide (b ≤ 8))
theorem zag (a b : Int) (c d e : Bool) : spec_StyleOk.f a b c d e = some (zbx a b) := by
 simp only [spec_StyleOk.f, zar, Option.bind_some, zbx]
 by_cases h : (decide (0 ≤ a) && decide (a ≤ 8)) = true
 ·simp [h]
 ·simp [h]
theorem zal (a b : Int) (c d e : Bool) : impl_StyleOk.f a b c d e = some (zbx a b) := by
 simp only [impl_StyleOk.f, zaw, Option.bind_some, zbx]
 by_cases h : (decide (0 ≤ a) && decide (a ≤ 8)) = true
 ·simp [h]
 ·simp [h]

def rok (r : Int) : Bool := decide (0 ≤ r) && decide (r ≤ 1114111) && !(decide (55296 ≤ r) && decide (r ≤ 57343))
theorem rok_iff {r : Int} : rok r = true ↔ 0 ≤ r ∧ r ≤ 1114111 ∧ ¬ (55296 ≤ r ∧ r ≤ 57343) := by
 simp [rok]; omega

def wid (r : Int) : Int :=
 if rok r = false ∨ r < 32 ∨ (127 ≤ r ∧ r ≤ 159) ∨ (768 ≤ r ∧ r ≤ 879) then 0
 else if (4352 ≤ r ∧ r ≤ 4447) ∨ (12288 ≤ r ∧ r ≤ 55295) ∨ (127744 ≤ r ∧ r ≤ 131071) then 2 else 1
theorem wid_range (r : Int) : 0 ≤ wid r ∧ wid r ≤ 2 := by
 unfold wid
 repeat' split
 all_goals omega

theorem zby (r : Int) : spec_RuneOk.f r = some (rok r) := by
 simp only [spec_RuneOk.f, zar, Option.bind_some, rok]
 by_cases h : (decide (0 ≤ r) && decide (r ≤ 1114111)) = true
 ·rw [if_pos h, h, Bool.true_and]
 ·rw [if_neg h, Bool.eq_false_iff.mpr h, Bool.false_and]

theorem zan (r : Int) : Ev (fun k => spec_Width.f k r) (wid r) := by
 have j1 : Ev (fun k => spec_Width.j0 k r true) 0 := by
  refine zaf ?_
  simp only [spec_Width.j0, if_true]
  exact Ev.now _
 have j0 : Ev (fun k => spec_Width.j0 k r false) (if (4352 ≤ r ∧ r ≤ 4447) ∨ (12288 ≤ r ∧ r ≤ 55295) ∨ (127744 ≤ r ∧ r ≤ 131071) then 2 else 1) := by
  refine zaf ?_
  simp only [spec_Width.j0, zar, Option.bind_some, Bool.false_eq_true, if_false]
  refine zbu ?_
  simp only [Bool.and_eq_true, decide_eq_true_eq]
  repeat' split
  all_goals first | rfl | omega
 simp only [spec_Width.f, zby, zar, Option.bind_some]
 cases hk : rok r with
 | false => simp only [Bool.false_eq_true, if_false]; refine za3 j1 ?_; unfold wid; rw [if_pos (.inl hk)]
 | true =>
  simp only [if_true]
  by_cases h1 : r < 32
  ·simp only [if_pos h1]; refine za3 j1 ?_; unfold wid; rw [if_pos (.inr (.inl h1))]
  ·simp only [if_neg h1]
   by_cases h2 : 127 ≤ r ∧ r ≤ 159
   ·simp only [h2.1, h2.2, decide_true, Bool.and_self, if_true]; refine za3 j1 ?_; unfold wid; rw [if_pos (.inr (.inr (.inl h2)))]
   ·have e2 : (decide (127 ≤ r) && decide (r ≤ 159)) = false := by simpa using h2
    simp only [e2, Bool.false_eq_true, if_false]
    by_cases h3 : 768 ≤ r ∧ r ≤ 879
    ·simp only [h3.1, h3.2, decide_true, Bool.and_self]; refine za3 j1 ?_; unfold wid; rw [if_pos (.inr (.inr (.inr h3)))]
    ·have e3 : (decide (768 ≤ r) && decide (r ≤ 879)) = false := by simpa using h3
     simp only [e3]; refine za3 j0 ?_; unfold wid
     refine (if_neg ?_).symm
     rintro (h | h | h | h)
     ·rw [hk] at h; cases h
     all_goals omega

theorem zbz (r : Int) : impl_RuneOk.f r = some (rok r) := by
 simp only [impl_RuneOk.f, zaw, Option.bind_some, rok]
 by_cases h : (decide (0 ≤ r) && decide (r ≤ 1114111)) = true
 ·rw [if_pos h, h, Bool.true_and]
 ·rw [if_neg h, Bool.eq_false_iff.mpr h, Bool.false_and]

theorem za7 (r : Int) : Ev (fun k => impl_Width.f k r) (wid r) := by
 have j1 : Ev (fun k => impl_Width.j0 k r true) 0 := by
  refine zaf ?_
  simp only [impl_Width.j0, if_true]
  exact Ev.now _
 have j0 : Ev (fun k => impl_Width.j0 k r false) (if (4352 ≤ r ∧ r ≤ 4447) ∨ (12288 ≤ r ∧ r ≤ 55295) ∨ (127744 ≤ r ∧ r ≤ 131071) then 2 else 1) := by
  refine zaf ?_
  simp only [impl_Width.j0, zaw, Option.bind_some, Bool.false_eq_true, if_false]
  refine zbu ?_
  simp only [Bool.and_eq_true, decide_eq_true_eq]
  repeat' split
  all_goals first | rfl | omega
 simp only [impl_Width.f, zbz, zaw, Option.bind_some]
 cases hk : rok r with
 | false => simp only [Bool.false_eq_true, if_false]; refine za3 j1 ?_; unfold wid; rw [if_pos (.inl hk)]
 | true =>
  simp only [if_true]
  by_cases h1 : r < 32
  ·simp only [if_pos h1]; refine za3 j1 ?_; unfold wid; rw [if_pos (.inr (.inl h1))]
  ·simp only [if_neg h1]
   by_cases h2 : 127 ≤ r ∧ r ≤ 159
   ·simp only [h2.1, h2.2, decide_true, Bool.and_self, if_true]; refine za3 j1 ?_; unfold wid; rw [if_pos (.inr (.inr (.inl h2)))]
   ·have e2 : (decide (127 ≤ r) && decide (r ≤ 159)) = false := by simpa using h2
    simp only [e2, Bool.false_eq_true, if_false]
    by_cases h3 : 768 ≤ r ∧ r ≤ 879
    ·simp only [h3.1, h3.2, decide_true, Bool.and_self]; refine za3 j1 ?_; unfold wid; rw [if_pos (.inr (.inr (.inr h3)))]
    ·have e3 : (decide (768 ≤ r) && decide (r ≤ 879)) = false := by simpa using h3
     simp only [e3]; refine za3 j0 ?_; unfold wid
     refine (if_neg ?_).symm
     rintro (h | h | h | h)
     ·rw [hk] at h; cases h
     all_goals omega

def zab (l : List S48) (i : Nat) : S48 := rd_T48 l (i : Int)
def zbk (l : List S48) (i : Nat) : Prop :=
 zbx (zab l i).f1.f0 (zab l i).f1.f1 = true ∧
 (((zab l i).f2 = 0 ∧ wid (zab l i).f0 = 1) ∨
 ((zab l i).f2 = 1 ∧ wid (zab l i).f0 = 2 ∧ i + 1 < l.length ∧ (zab l (i + 1)).f2 = 2 ∧ (zab l (i + 1)).f1 = (zab l i).f1) ∨
 ((zab l i).f2 = 2 ∧ (zab l i).f0 = 0 ∧ 0 < i ∧ (zab l (i - 1)).f2 = 1))
def zai (l : List S48) : Prop := 1 ≤ l.length ∧ l.length ≤ 60 ∧ ∀ i, i < l.length → zbk l i
theorem za6 (l : List S48) : ∃ b, Ev (fun k => spec_RowOk.f k l) b ∧ (b = true ↔ zai l) := by
 have go : l.length ≤ 60 → ∀ (d i : Nat), i + d = l.length → ∃ b, Ev (fun k => spec_RowOk.l0 k l (l.length : Int) (i : Int)) b ∧ (b = true ↔ ∀ j, i ≤ j → j < l.length → zbk l j) := by
  intro hl d
  induction d with
  | zero =>
   intro i h
   refine ⟨true, zaf ?_, by simp; omega⟩
   simp only [spec_RowOk.l0]
   exact zac (by omega) (Ev.now _)
  | succ d ih =>
   intro i h
   obtain ⟨b, e, hb⟩ := ih (i + 1) (by omega)
   have w1 : ∀ _ : Unit, wrap64 ((i : Int) + 1) = ((i + 1 : Nat) : Int) := fun _ => by rw [w64 (by omega) (by omega)]; omega
   have step : zbk l i → (b = true ↔ ∀ j, i ≤ j → j < l.length → zbk l j) := by
    intro c
    rw [hb]
    constructor
    ·intro q j h1 h2
     by_cases e : j = i
     ·rw [e]; exact c
     ·exact q j (by omega) h2
    ·intro q j h1 h2; exact q j (by omega) h2
   have bad : ¬ zbk l i → (false = true ↔ ∀ j, i ≤ j → j < l.length → zbk l j) := by
    intro c
    constructor
    ·intro x; cases x
    ·intro q; exact absurd (q i (Nat.le_refl _) (by omega)) c
   suffices hh : (zbk l i ∧ Ev (fun k => spec_RowOk.l0 k l (l.length : Int) (i : Int)) b) ∨ (¬ zbk l i ∧ Ev (fun k => spec_RowOk.l0 k l (l.length : Int) (i : Int)) false) by
    rcases hh with ⟨c, e⟩ | ⟨c, e⟩
    ·exact ⟨b, e, step c⟩
    ·exact ⟨false, e, bad c⟩
   have fold : ∀ {r : Bool}, Ev (fun k => spec_RowOk.l0 (k + 1) l (l.length : Int) (i : Int)) r → Ev (fun k => spec_RowOk.l0 k l (l.length : Int) (i : Int)) r := fun h => zaf h
   have g0 : rd_T48 l (i : Int) = zab l i := rfl
   have g1 : rd_T48 l ((i + 1 : Nat) : Int) = zab l (i + 1) := rfl
   by_cases q1 : zbx (zab l i).f1.f0 (zab l i).f1.f1 = true
   case neg =>
    refine .inr ⟨fun c => q1 c.1, fold ?_⟩
    simp only [spec_RowOk.l0, g0, zag, Option.bind_some]
    exact zaa (by omega) (zaa (by omega) (zaa (by omega) (zac q1 (Ev.now _))))
   by_cases p0 : (zab l i).f2 = 0
   ·by_cases q2 : wid (zab l i).f0 = 1
    ·refine .inl ⟨⟨q1, .inl ⟨p0, q2⟩⟩, fold ?_⟩
     simp only [spec_RowOk.l0, g0, zag, Option.bind_some, w1 ()]
     exact zaa (by omega) (zaa (by omega) (zaa (by omega) (zaa q1 (zaa p0 (Ev.bind (zan _) (zaa q2 e))))))
    ·refine .inr ⟨fun c => by rcases c.2 with x | x | x <;> omega, fold ?_⟩
     simp only [spec_RowOk.l0, g0, zag, Option.bind_some, w1 ()]
     exact zaa (by omega) (zaa (by omega) (zaa (by omega) (zaa q1 (zaa p0 (Ev.bind (zan _) (zac q2 (Ev.now _)))))))
   by_cases p1 : (zab l i).f2 = 1
   ·by_cases q2 : wid (zab l i).f0 = 2
    case neg =>
     refine .inr ⟨fun c => by rcases c.2 with x | x | x <;> omega, fold ?_⟩
     simp only [spec_RowOk.l0, g0, zag, Option.bind_some, w1 ()]
     exact zaa (by omega) (zaa (by omega) (zaa (by omega) (zaa q1 (zac p0 (zaa p1 (Ev.bind (zan _) (zac q2 (Ev.now _))))))))
    by_cases q3 : i + 1 = l.length
    ·refine .inr ⟨fun c => by rcases c.2 with x | x | x <;> omega, fold ?_⟩
     simp only [spec_RowOk.l0, g0, zag, Option.bind_some, w1 ()]
     exact zaa (by omega) (zaa (by omega) (zaa (by omega) (zaa q1 (zac p0 (zaa p1 (Ev.bind (zan _) (zaa q2 (zaa (by omega) (Ev.now _)))))))))
    by_cases q4 : (zab l (i + 1)).f2 = 2
    case neg =>
     refine .inr ⟨fun c => by rcases c.2 with x | x | x <;> omega, fold ?_⟩
     simp only [spec_RowOk.l0, g0, zag, Option.bind_some, w1 (), g1]
     exact zaa (by omega) (zaa (by omega) (zaa (by omega) (zaa q1 (zac p0 (zaa p1 (Ev.bind (zan _) (zaa q2 (zac (by omega) (zaa (by omega) (zaa (by omega) (zac q4 (Ev.now _))))))))))))
    by_cases q5 : (zab l (i + 1)).f1 = (zab l i).f1
    ·refine .inl ⟨⟨q1, .inr (.inl ⟨p1, q2, by omega, q4, q5⟩)⟩, fold ?_⟩
     simp only [spec_RowOk.l0, g0, zag, Option.bind_some, w1 (), g1]
     exact zaa (by omega) (zaa (by omega) (zaa (by omega) (zaa q1 (zac p0 (zaa p1 (Ev.bind (zan _) (zaa q2 (zac (by omega) (zaa (by omega) (zaa (by omega) (zaa q4 (zac (fun x => (zb9 _ _).mp x q5) e))))))))))))
    ·refine .inr ⟨fun c => ?_, fold ?_⟩
     ·rcases c.2 with x | x | x
      ·omega
      ·exact q5 x.2.2.2.2
      ·omega
     simp only [spec_RowOk.l0, g0, zag, Option.bind_some, w1 (), g1]
     exact zaa (by omega) (zaa (by omega) (zaa (by omega) (zaa q1 (zac p0 (zaa p1 (Ev.bind (zan _) (zaa q2 (zac (by omega) (zaa (by omega) (zaa (by omega) (zaa q4 (zaa ((zb9 _ _).mpr q5) (Ev.now _)))))))))))))
   by_cases p2 : (zab l i).f2 = 2
   case neg =>
    refine .inr ⟨fun c => by rcases c.2 with x | x | x <;> omega, fold ?_⟩
    simp only [spec_RowOk.l0, g0, zag, Option.bind_some, w1 ()]
    exact zaa (by omega) (zaa (by omega) (zaa (by omega) (zaa q1 (zac p0 (zac p1 (zac p2 (Ev.now _)))))))
   by_cases q2 : (zab l i).f0 = 0
   case neg =>
    refine .inr ⟨fun c => by rcases c.2 with x | x | x <;> omega, fold ?_⟩
    simp only [spec_RowOk.l0, g0, zag, Option.bind_some, w1 ()]
    exact zaa (by omega) (zaa (by omega) (zaa (by omega) (zaa q1 (zac p0 (zac p1 (zaa p2 (zac q2 (Ev.now _))))))))
   by_cases q3 : i = 0
   ·refine .inr ⟨fun c => by rcases c.2 with x | x | x <;> omega, fold ?_⟩
    simp only [spec_RowOk.l0, g0, zag, Option.bind_some, w1 ()]
    exact zaa (by omega) (zaa (by omega) (zaa (by omega) (zaa q1 (zac p0 (zac p1 (zaa p2 (zaa q2 (zaa (by omega) (Ev.now _)))))))))
   have w2 : ∀ _ : Unit, wrap64 ((i : Int) - 1) = ((i - 1 : Nat) : Int) := fun _ => by rw [w64 (by omega) (by omega)]; omega
   have g2 : rd_T48 l ((i - 1 : Nat) : Int) = zab l (i - 1) := rfl
   by_cases q4 : (zab l (i - 1)).f2 = 1
   ·refine .inl ⟨⟨q1, .inr (.inr ⟨p2, q2, by omega, q4⟩)⟩, fold ?_⟩
    simp only [spec_RowOk.l0, g0, zag, Option.bind_some, w1 (), w2 (), g2]
    exact zaa (by omega) (zaa (by omega) (zaa (by omega) (zaa q1 (zac p0 (zac p1 (zaa p2 (zaa q2 (zac (by omega) (zaa (by omega) (zaa (by omega) (zaa q4 e)))))))))))
   ·refine .inr ⟨fun c => by rcases c.2 with x | x | x <;> omega, fold ?_⟩
    simp only [spec_RowOk.l0, g0, zag, Option.bind_some, w1 (), w2 (), g2]
    exact zaa (by omega) (zaa (by omega) (zaa (by omega) (zaa q1 (zac p0 (zac p1 (zaa p2 (zaa q2 (zac (by omega) (zaa (by omega) (zaa (by omega) (zac q4 (Ev.now _))))))))))))
 have jt : Ev (fun k => spec_RowOk.j0 k l (l.length : Int) true) false := by
  refine zaf ?_
  simp only [spec_RowOk.j0]
  exact zaa (by trivial) (Ev.now _)
 unfold spec_RowOk.f
 by_cases h1 : (l.length : Int) < 1
 ·exact ⟨false, zaa h1 jt, ⟨fun x => (by cases x), fun x => by have := x.1; omega⟩⟩
 by_cases h2 : (l.length : Int) > 60
 ·refine ⟨false, zac h1 ?_, ⟨fun x => (by cases x), fun x => by have := x.2.1; omega⟩⟩
  rw [decide_eq_true h2]; exact jt
 ·obtain ⟨b, e, hb⟩ := go (by omega) l.length 0 (by omega)
  refine ⟨b, zac h1 (zaf ?_), ?_⟩
  ·simp only [spec_RowOk.j0]
   exact zac (by simp; omega) e
  ·rw [hb]
   exact ⟨fun q => ⟨by omega, by omega, fun i hi => q i (by omega) hi⟩, fun q j _ hj => q.2.2 j hj⟩
theorem zcd (x : S48) : Ev (fun k => impl_isCell.f k x.f0 x.f1.f0 x.f1.f1 x.f1.f2 x.f1.f3 x.f1.f4 x.f2)
  (if x.f2 = 0 then decide (wid x.f0 = 1) && zbx x.f1.f0 x.f1.f1 else if x.f2 = 1 then decide (wid x.f0 = 2) && zbx x.f1.f0 x.f1.f1 else if x.f2 = 2 then decide (x.f0 = 0) && zbx x.f1.f0 x.f1.f1 else false) := by
 unfold impl_isCell.f
 simp only [zal, Option.bind_some]
 by_cases p0 : x.f2 = 0
 ·rw [if_pos p0]
  refine zaa p0 (Ev.bind (za7 _) ?_)
  by_cases q : wid x.f0 = 1
  ·exact zaa q (za3 (Ev.now _) (by rw [decide_eq_true q]; simp))
  ·exact zac q (za3 (Ev.now _) (by rw [decide_eq_false q]; simp))
 rw [if_neg p0]
 refine zac p0 ?_
 by_cases p1 : x.f2 = 1
 ·rw [if_pos p1]
  refine zaa p1 (Ev.bind (za7 _) ?_)
  by_cases q : wid x.f0 = 2
  ·exact zaa q (za3 (Ev.now _) (by rw [decide_eq_true q]; simp))
  ·exact zac q (za3 (Ev.now _) (by rw [decide_eq_false q]; simp))
 rw [if_neg p1]
 refine zac p1 ?_
 by_cases p2 : x.f2 = 2
 ·refine za3 (r := decide (x.f0 = 0) && zbx x.f1.f0 x.f1.f1) (zaa p2 ?_) (if_pos p2).symm
  by_cases q : x.f0 = 0
  ·exact zaa q (za3 (Ev.now _) (by rw [decide_eq_true q]; simp))
  ·exact zac q (za3 (Ev.now _) (by rw [decide_eq_false q]; simp))
 ·exact za3 (zac p2 (Ev.now _)) (if_neg p2).symm
def zcu (x : S48) : Prop := zbx x.f1.f0 x.f1.f1 = true ∧ ((x.f2 = 0 ∧ wid x.f0 = 1) ∨ (x.f2 = 1 ∧ wid x.f0 = 2) ∨ (x.f2 = 2 ∧ x.f0 = 0))
theorem zb8 (x : S48) : ∃ b, Ev (fun k => impl_isCell.f k x.f0 x.f1.f0 x.f1.f1 x.f1.f2 x.f1.f3 x.f1.f4 x.f2) b ∧ (b = true ↔ zcu x) := by
 refine ⟨_, zcd x, ?_⟩
 unfold zcu
 by_cases p0 : x.f2 = 0
 ·rw [if_pos p0]; simp only [Bool.and_eq_true, decide_eq_true_eq]
  exact ⟨fun h => ⟨h.2, .inl ⟨p0, h.1⟩⟩, fun h => ⟨by rcases h.2 with q | q | q <;> omega, h.1⟩⟩
 rw [if_neg p0]
 by_cases p1 : x.f2 = 1
 ·rw [if_pos p1]; simp only [Bool.and_eq_true, decide_eq_true_eq]
  exact ⟨fun h => ⟨h.2, .inr (.inl ⟨p1, h.1⟩)⟩, fun h => ⟨by rcases h.2 with q | q | q <;> omega, h.1⟩⟩
 rw [if_neg p1]
 by_cases p2 : x.f2 = 2
 ·rw [if_pos p2]; simp only [Bool.and_eq_true, decide_eq_true_eq]
  exact ⟨fun h => ⟨h.2, .inr (.inr ⟨p2, h.1⟩)⟩, fun h => ⟨by rcases h.2 with q | q | q <;> omega, h.1⟩⟩
 rw [if_neg p2]
 exact ⟨fun h => (by cases h), fun h => by rcases h.2 with q | q | q <;> omega⟩
def CellI (l : List S48) (i : Nat) : Prop := zcu (zab l i) ∧ (0 < i → ((zab l (i - 1)).f2 = 1 ↔ (zab l i).f2 = 2) ∧ ((zab l (i - 1)).f2 = 1 → (zab l (i - 1)).f1 = (zab l i).f1)) ∧ (i = 0 → (zab l i).f2 ≠ 2)
theorem cell_iff (l : List S48) (n : Nat) (hn : l.length = n) (h1 : 1 ≤ n) : ((∀ i, i < n → CellI l i) ∧ (zab l (n - 1)).f2 ≠ 1) ↔ ∀ i, i < n → zbk l i := by
 constructor
 ·rintro ⟨h, hl⟩ i hi
  obtain ⟨hs, ha, h0⟩ := h i hi
  refine ⟨hs.1, ?_⟩
  rcases hs.2 with q | q | q
  ·exact .inl q
  ·refine .inr (.inl ⟨q.1, q.2, ?_⟩)
   have hne : i ≠ n - 1 := fun e => hl (e ▸ q.1)
   obtain ⟨_, hb, _⟩ := h (i + 1) (by omega)
   have := hb (by omega)
   rw [show i + 1 - 1 = i by omega] at this
   exact ⟨by omega, this.1.mp q.1, (this.2 q.1).symm⟩
  ·refine .inr (.inr ⟨q.1, q.2, ?_⟩)
   have hp : 0 < i := by
    rcases Nat.eq_zero_or_pos i with e | e
    ·exact absurd q.1 (h0 e)
    ·exact e
   exact ⟨hp, (ha hp).1.mpr q.1⟩
 ·intro h
  have last : (zab l (n - 1)).f2 ≠ 1 := by
   intro e
   rcases (h (n - 1) (by omega)).2 with q | q | q <;> omega
  refine ⟨fun i hi => ?_, last⟩
  obtain ⟨hs, hc⟩ := h i hi
  refine ⟨⟨hs, ?_⟩, ?_, ?_⟩
  ·rcases hc with q | q | q
   ·exact .inl q
   ·exact .inr (.inl ⟨q.1, q.2.1⟩)
   ·exact .inr (.inr ⟨q.1, q.2.1⟩)
  ·intro hp
   obtain ⟨_, hd⟩ := h (i - 1) (by omega)
   rw [show i - 1 + 1 = i by omega] at hd
   refine ⟨⟨fun e => ?_, fun e => ?_⟩, fun e => ?_⟩
   ·rcases hd with q | q | q
    ·omega
    ·exact q.2.2.2.1
    ·omega
   ·rcases hc with q | q | q
    ·omega
    ·omega
    ·exact q.2.2.2
   ·rcases hd with q | q | q
    ·omega
    ·exact q.2.2.2.2.symm
    ·omega
  ·intro e0 e
   rcases hc with q | q | q <;> omega
theorem zam (l : List S48) (hl : l.length ≤ 1048576) : ∃ b, Ev (fun k => impl_RowOk.f k l) b ∧ (b = true ↔ zai l) := by
 have ends : ∃ b, Ev (fun k => impl_RowOk.l0 k l l (l.length : Int) (l.length : Int)) b ∧ (b = true ↔ (1 ≤ l.length ∧ l.length ≤ 60 ∧ (zab l (l.length - 1)).f2 ≠ 1)) := by
  by_cases h1 : 1 ≤ l.length ∧ l.length ≤ 60
  ·have w2 : ∀ _ : Unit, wrap64 ((l.length : Int) - 1) = ((l.length - 1 : Nat) : Int) := fun _ => by rw [w64 (by omega) (by omega)]; omega
   have g2 : rd_T48 l ((l.length - 1 : Nat) : Int) = zab l (l.length - 1) := rfl
   refine ⟨(zab l (l.length - 1)).f2 != 1, zaf ?_, ?_⟩
   ·simp only [impl_RowOk.l0, zaw, Option.bind_some, w2 (), g2]
    exact zac (by omega) (zaa (by rw [decide_eq_true (p := (1 : Int) ≤ l.length) (by omega), decide_eq_true (p := (l.length : Int) ≤ 60) (by omega)]; rfl) (zaa (by omega) (zaa (by omega) (Ev.now _))))
   ·rw [bne_iff_ne]; exact ⟨fun x => ⟨h1.1, h1.2, x⟩, fun x => x.2.2⟩
  ·refine ⟨false, zaf ?_, ⟨fun x => (by cases x), fun x => absurd ⟨x.1, x.2.1⟩ h1⟩⟩
   simp only [impl_RowOk.l0, zaw, Option.bind_some]
   refine zac (by omega) (zac ?_ (Ev.now _))
   simp only [Bool.and_eq_true, decide_eq_true_eq]; omega
 obtain ⟨b, eb, hb⟩ := ends
 have go : ∀ (d i : Nat), i + d = l.length → ∃ c, Ev (fun k => impl_RowOk.l0 k l l (l.length : Int) (i : Int)) c ∧ (c = true ↔ ((∀ j, i ≤ j → j < l.length → CellI l j) ∧ b = true)) := by
  intro d
  induction d with
  | zero =>
   intro i h
   obtain rfl : i = l.length := by omega
   exact ⟨b, eb, ⟨fun x => ⟨fun j h1 h2 => by omega, x⟩, fun x => x.2⟩⟩
  | succ d ih =>
   intro i h
   obtain ⟨c, e, hc⟩ := ih (i + 1) (by omega)
   have w1 : ∀ _ : Unit, wrap64 ((i : Int) + 1) = ((i + 1 : Nat) : Int) := fun _ => by rw [w64 (by omega) (by omega)]; omega
   have g0 : rd_T48 l (i : Int) = zab l i := rfl
   obtain ⟨s, es, hs⟩ := zb8 (zab l i)
   suffices hh : (CellI l i ∧ Ev (fun k => impl_RowOk.l0 k l l (l.length : Int) (i : Int)) c) ∨ (¬ CellI l i ∧ Ev (fun k => impl_RowOk.l0 k l l (l.length : Int) (i : Int)) false) by
    rcases hh with ⟨q, e⟩ | ⟨q, e⟩
    ·refine ⟨c, e, ?_⟩
     rw [hc]
     refine ⟨fun x => ⟨fun j h1 h2 => ?_, x.2⟩, fun x => ⟨fun j h1 h2 => x.1 j (by omega) h2, x.2⟩⟩
     by_cases e : j = i
     ·rw [e]; exact q
     ·exact x.1 j (by omega) h2
    ·exact ⟨false, e, ⟨fun x => (by cases x), fun x => absurd (x.1 i (Nat.le_refl _) (by omega)) q⟩⟩
   by_cases hp : i = 0
   ·subst hp
    cases s with
    | false =>
     refine .inr ⟨fun x => (by cases hs.mpr x.1), zaf ?_⟩
     simp only [impl_RowOk.l0, g0]
     exact zaa (by omega) (zaa (by omega) (zaa (by omega) (zac (by omega) (Ev.bind es (zac (by simp) (Ev.now _))))))
    | true =>
     by_cases q : (zab l 0).f2 = 2
     ·refine .inr ⟨fun x => x.2.2 rfl q, zaf ?_⟩
      simp only [impl_RowOk.l0, g0]
      exact zaa (by omega) (zaa (by omega) (zaa (by omega) (zac (by omega) (Ev.bind es (zaa rfl (zaa (by rw [beq_iff_eq.mpr q]; rfl) (Ev.now _)))))))
     ·refine .inl ⟨⟨hs.mp rfl, fun x => by omega, fun _ => q⟩, zaf ?_⟩
      simp only [impl_RowOk.l0, g0, w1 ()]
      exact zaa (by omega) (zaa (by omega) (zaa (by omega) (zac (by omega) (Ev.bind es (zaa rfl (zac (by rw [beq_eq_false_iff_ne.mpr q]; simp) e))))))
   ·have w2 : ∀ _ : Unit, wrap64 ((i : Int) - 1) = ((i - 1 : Nat) : Int) := fun _ => by rw [w64 (by omega) (by omega)]; omega
    have g2 : rd_T48 l ((i - 1 : Nat) : Int) = zab l (i - 1) := rfl
    cases s with
    | false =>
     refine .inr ⟨fun x => (by cases hs.mpr x.1), zaf ?_⟩
     simp only [impl_RowOk.l0, g0, w2 (), g2]
     exact zaa (by omega) (zaa (by omega) (zaa (by omega) (zaa (by omega) (zaa (by omega) (zaa (by omega) (Ev.bind es (zac (by simp) (Ev.now _))))))))
    | true =>
     have hpre : ∀ {r : Bool}, Ev (fun k => (if ((((zab l (i - 1)).f2) == 1) != (((zab l i).f2) == 2)) = true then (some false) else (if ((zab l (i - 1)).f2) = 1 then (if (!(((zab l (i - 1)).f1.f0) == ((zab l i).f1.f0)) || (!(((zab l (i - 1)).f1.f1) == ((zab l i).f1.f1)) || (!(((zab l (i - 1)).f1.f2) == ((zab l i).f1.f2)) || (!(((zab l (i - 1)).f1.f3) == ((zab l i).f1.f3)) || (!(((zab l (i - 1)).f1.f4) == ((zab l i).f1.f4))))))) = true then (some false) else (impl_RowOk.l0 k l l (l.length : Int) ((i + 1 : Nat) : Int))) else (impl_RowOk.l0 k l l (l.length : Int) ((i + 1 : Nat) : Int))))) r → Ev (fun k => impl_RowOk.l0 k l l (l.length : Int) (i : Int)) r := by
      intro r hr
      refine zaf ?_
      simp only [impl_RowOk.l0, g0, w1 (), w2 (), g2]
      exact zaa (by omega) (zaa (by omega) (zaa (by omega) (zaa (by omega) (zaa (by omega) (zaa (by omega) (Ev.bind es (zaa rfl hr)))))))
     by_cases q1 : (zab l (i - 1)).f2 = 1
     ·by_cases q2 : (zab l i).f2 = 2
      ·by_cases q3 : (zab l (i - 1)).f1 = (zab l i).f1
       ·exact .inl ⟨⟨hs.mp rfl, fun _ => ⟨⟨fun _ => q2, fun _ => q1⟩, fun _ => q3⟩, fun x => absurd x hp⟩, hpre (zac (by rw [beq_iff_eq.mpr q1, beq_iff_eq.mpr q2]; simp) (zaa q1 (zac (fun x => (zb9 _ _).mp x q3) e)))⟩
       ·exact .inr ⟨fun x => q3 ((x.2.1 (by omega)).2 q1), hpre (zac (by rw [beq_iff_eq.mpr q1, beq_iff_eq.mpr q2]; simp) (zaa q1 (zaa ((zb9 _ _).mpr q3) (Ev.now _))))⟩
      ·exact .inr ⟨fun x => q2 ((x.2.1 (by omega)).1.mp q1), hpre (zaa (by rw [beq_iff_eq.mpr q1, beq_eq_false_iff_ne.mpr q2]; rfl) (Ev.now _))⟩
     ·by_cases q2 : (zab l i).f2 = 2
      ·exact .inr ⟨fun x => q1 ((x.2.1 (by omega)).1.mpr q2), hpre (zaa (by rw [beq_eq_false_iff_ne.mpr q1, beq_iff_eq.mpr q2]; rfl) (Ev.now _))⟩
      ·exact .inl ⟨⟨hs.mp rfl, fun _ => ⟨⟨fun x => absurd x q1, fun x => absurd x q2⟩, fun x => absurd x q1⟩, fun x => absurd x hp⟩, hpre (zac (by rw [beq_eq_false_iff_ne.mpr q1, beq_eq_false_iff_ne.mpr q2]; simp) (zac q1 e))⟩
 unfold impl_RowOk.f
 obtain ⟨c, e, hc⟩ := go l.length 0 (by omega)
 refine ⟨c, e, ?_⟩
 rw [hc, hb]
 constructor
 ·rintro ⟨h1, h2, h3, h4⟩
  exact ⟨h2, h3, (cell_iff l _ rfl h2).mp ⟨fun i hi => h1 i (by omega) hi, h4⟩⟩
 ·rintro ⟨h2, h3, h5⟩
  obtain ⟨h1, h4⟩ := (cell_iff l _ rfl h2).mpr h5
  exact ⟨fun j _ hj => h1 j hj, h2, h3, h4⟩

def blk (s : S37) : S48 := ⟨32, s, 0⟩

theorem zbt {l : List S48} {i : Nat} (h : i < l.length) : zab l i = l[i] := rdc h
theorem zap (l : List S48) (j i : Nat) (v : S48) (hj : j < l.length) : zab (l.set j v) i = if i = j then v else zab l i := by
 unfold zab rd_T48
 rw [Int.toNat_natCast, List.getD_eq_getElem?_getD, List.getD_eq_getElem?_getD, List.getElem?_set]
 by_cases h : i = j
 ·rw [if_pos h, if_pos h.symm, if_pos (by omega)]; rfl
 ·rw [if_neg h, if_neg (fun e => h e.symm)]
theorem zbs {a b : List S48} (hl : a.length = b.length) (h : ∀ i, i < a.length → zab a i = zab b i) : a = b := by
 refine List.ext_getElem hl (fun i h1 h2 => ?_)
 have := h i h1
 rwa [zbt h1, zbt h2] at this
def bl (x : S48) : S48 := ⟨32, x.f1, 0⟩
def zau (l : List S48) (a b : Nat) (c : S48) : List S48 := l.take a ++ List.replicate (b - a) c ++ l.drop b
theorem zaj (l : List S48) (a b : Nat) (c : S48) (h : a ≤ b) (hb : b ≤ l.length) : (zau l a b c).length = l.length := by
 simp [zau]; omega
theorem zci (l : List S48) (a : Nat) (c : S48) : zau l a a c = l := by simp [zau]
theorem fillv_set (l : List S48) (a b : Nat) (c : S48) (h : a < b) (hb : b ≤ l.length) : zau (l.set a c) (a + 1) b c = zau l a b c := by
 unfold zau
 rw [zcr _ _ _ (by omega), List.drop_set_of_lt (by omega)]
 rw [show b - a = (b - (a + 1)) + 1 by omega, List.replicate_succ]
 simp
theorem zas (l : List S48) (a b : Nat) (c : S48) (h : a ≤ b) (hb : b ≤ l.length) (i : Nat) : zab (zau l a b c) i = if a ≤ i ∧ i < b then c else zab l i := by
 unfold zab rd_T48 zau
 rw [Int.toNat_natCast, List.getD_eq_getElem?_getD, List.getD_eq_getElem?_getD]
 by_cases h1 : i < a
 ·rw [if_neg (by omega), List.append_assoc, List.getElem?_append_left (by simp; omega), List.getElem?_take, if_pos h1]
 ·by_cases h2 : i < b
  ·rw [if_pos (by omega), List.append_assoc, List.getElem?_append_right (by simp; omega), List.getElem?_append_left (by simp; omega)]
   rw [List.getElem?_replicate, if_pos (by simp; omega)]; rfl
  ·rw [if_neg (by omega), List.getElem?_append_right (by simp; omega), List.getElem?_drop]
   congr 2
   simp; omega
def zbp (l : List S48) (a : Nat) : List S48 := if 1 ≤ a ∧ a < l.length ∧ (zab l a).f2 = 2 then (l.set (a - 1) (bl (zab l (a - 1)))).set a (bl (zab l a)) else l
theorem za1 (l : List S48) (a : Nat) : (zbp l a).length = l.length := by
 unfold zbp
 by_cases h : 1 ≤ a ∧ a < l.length ∧ (zab l a).f2 = 2
 ·rw [if_pos h]; simp
 ·rw [if_neg h]
theorem zbh (l : List S48) (a i : Nat) : zab (zbp l a) i = if 1 ≤ a ∧ a < l.length ∧ (zab l a).f2 = 2 ∧ (i = a ∨ i + 1 = a) then bl (zab l i) else zab l i := by
 unfold zbp
 by_cases h : 1 ≤ a ∧ a < l.length ∧ (zab l a).f2 = 2
 ·rw [if_pos h, zap _ _ _ _ (by rw [List.length_set]; omega), zap _ _ _ _ (by omega)]
  by_cases h1 : i = a
  ·rw [if_pos h1, if_pos ⟨h.1, h.2.1, h.2.2, .inl h1⟩, h1]
  ·by_cases h2 : i = a - 1
   ·rw [if_neg h1, if_pos h2, if_pos ⟨h.1, h.2.1, h.2.2, .inr (by omega)⟩, h2]
   ·rw [if_neg h1, if_neg h2, if_neg (fun q => by omega)]
 ·rw [if_neg h, if_neg (fun q => h ⟨q.1, q.2.1, q.2.2.1⟩)]
theorem zb5 (l : List S48) (a : Nat) (hl : l.length < 4611686018427387904) (ha : a ≤ l.length) : Ev (fun k => impl_part.f k l (a : Int)) (zbp l a) := by
 have w1 : ∀ _ : Unit, wrap64 ((l.length : Int) - 1) = (l.length : Int) - 1 := fun _ => w64 (by omega) (by omega)
 simp only [impl_part.f, zaw, Option.bind_some, w1 ()]
 have no : ∀ (q : ¬ (1 ≤ a ∧ a < l.length ∧ (zab l a).f2 = 2)), Ev (fun k => impl_part.j0 k l (a : Int) false) (zbp l a) := by
  intro q
  refine zaf ?_
  simp only [impl_part.j0]
  refine zac (by simp) (za3 (Ev.now _) ?_)
  unfold zbp; rw [if_neg q]
 by_cases h : 1 ≤ a ∧ a < l.length
 ·refine zaa (by simp; omega) (zaa (by omega) (zaa (by omega) ?_))
  show Ev (fun k => impl_part.j0 k l (a : Int) ((zab l a).f2 == 2)) (zbp l a)
  by_cases q : (zab l a).f2 = 2
  ·have wa : ∀ _ : Unit, wrap64 ((a : Int) - 1) = ((a - 1 : Nat) : Int) := fun _ => by rw [w64 (by omega) (by omega)]; omega
   refine zaf ?_
   simp only [impl_part.j0, wa (), impl_blank.f, Option.bind_some, Int.toNat_natCast]
   refine zaa (by simp [q]) (zaa (by omega) (zaa (by omega) (zaa (by omega) (zaa (by omega) (za3 (Ev.now _) ?_)))))
   unfold zbp; rw [if_pos ⟨h.1, h.2, q⟩]; rfl
  ·rw [show ((zab l a).f2 == 2) = false by simpa using q]
   exact no (fun x => q x.2.2)
 ·exact zac (by simp; omega) (no (fun x => h ⟨x.1, x.2.1⟩))
theorem za0 (l : List S48) (a b : Nat) (s0 s1 : Int) (s2 s3 s4 : Bool) (hl : l.length < 4611686018427387904) (hab : a ≤ b) (hb : b ≤ l.length) :
  Ev (fun k => impl_clearCells.f k l (a : Int) (b : Int) s0 s1 s2 s3 s4) (zau (if a < b then zbp (zbp l a) b else l) a b (blk ⟨s0, s1, s2, s3, s4⟩)) := by
 have loop : ∀ (d i : Nat) (m : List S48), i + d = b → m.length = l.length → Ev (fun k => impl_clearCells.l0 k m (b : Int) (i : Int) s0 s1 s2 s3 s4) (zau m i b (blk ⟨s0, s1, s2, s3, s4⟩)) := by
  intro d
  induction d with
  | zero =>
   intro i m h hm
   refine zaf ?_
   simp only [impl_clearCells.l0]
   refine zac (by omega) (za3 (Ev.now _) ?_)
   rw [show i = b by omega, zci]
  | succ d ih =>
   intro i m h hm
   have := ih (i + 1) (m.set i (blk ⟨s0, s1, s2, s3, s4⟩)) (by omega) (by simpa using hm)
   rw [fillv_set _ _ _ _ (by omega) (by omega)] at this
   have wi : ∀ _ : Unit, wrap64 ((i : Int) + 1) = ((i + 1 : Nat) : Int) := fun _ => by rw [w64 (by omega) (by omega)]; omega
   refine zaf ?_
   simp only [impl_clearCells.l0, impl_blank.f, Option.bind_some, wi (), Int.toNat_natCast]
   exact zaa (by omega) (zaa (by omega) (zaa (by omega) this))
 have j : ∀ m : List S48, m.length = l.length → Ev (fun k => impl_clearCells.j0 k m (a : Int) (b : Int) s0 s1 s2 s3 s4) (zau m a b (blk ⟨s0, s1, s2, s3, s4⟩)) := by
  intro m hm
  refine zaf ?_
  simp only [impl_clearCells.j0]
  exact loop (b - a) a m (by omega) hm
 simp only [impl_clearCells.f]
 by_cases h : a < b
 ·rw [if_pos h]
  refine zaa (by omega) (Ev.bind (zb5 l a hl (by omega)) (Ev.bind (zb5 _ b (by rw [za1]; exact hl) (by rw [za1]; exact hb)) (j _ (by rw [za1, za1]))))
 ·rw [if_neg h]
  exact zac (by omega) (j l rfl)
def zbb (m : List S48) (i : Nat) : Prop := ((zab m i).f2 = 1 ∧ (i + 1 = m.length ∨ (zab m (i + 1)).f2 ≠ 2)) ∨ ((zab m i).f2 = 2 ∧ (i = 0 ∨ (zab m (i - 1)).f2 ≠ 1))
instance (m : List S48) (i : Nat) : Decidable (zbb m i) := by unfold zbb; exact inferInstance
def za8 (m : List S48) (i : Nat) : S48 := if zbb m i then bl (zab m i) else zab m i
def zay (m : List S48) : List S48 := (List.range m.length).map (za8 m)
theorem zak (m : List S48) : (zay m).length = m.length := by simp [zay]
theorem zav (m : List S48) (i : Nat) (h : i < m.length) : zab (zay m) i = za8 m i := by
 rw [zbt (by rw [zak]; exact h)]
 simp [zay]

theorem zb6 (m : List S48) (hl : m.length < 1000000) : Ev (fun k => spec_l4Mended.f k m) (zay m) := by
 have go : ∀ (d i : Nat) (out : List S48), i + d = m.length → out.length = m.length → (∀ j, j < m.length → zab out j = if j < i then za8 m j else zab m j) → Ev (fun k => spec_l4Mended.l0 k m out (i : Int)) (zay m) := by
  intro d
  induction d with
  | zero =>
   intro i out h hm hc
   refine zaf ?_
   simp only [spec_l4Mended.l0]
   refine zac (by omega) (za3 (Ev.now _) ?_)
   refine zbs (by rw [hm, zak]) (fun j hj => ?_)
   rw [hc j (by omega), if_pos (by omega), zav _ _ (by omega)]
  | succ d ih =>
   intro i out h hm hc
   have c0 : zab out i = zab m i := by rw [hc i (by omega), if_neg (by omega)]
   have blankStep : zbb m i → Ev (fun k => spec_l4Mended.l0 k m (out.set i (bl (zab m i))) ((i + 1 : Nat) : Int)) (zay m) := by
    intro ha
    refine ih (i + 1) _ (by omega) (by rw [List.length_set]; exact hm) (fun j hj => ?_)
    rw [zap _ _ _ _ (by omega)]
    by_cases e : j = i
    ·rw [if_pos e, if_pos (by omega), e]; unfold za8; rw [if_pos ha]
    ·rw [if_neg e, hc j hj]
     by_cases q : j < i
     ·rw [if_pos q, if_pos (by omega)]
     ·rw [if_neg q, if_neg (by omega)]
   have keepStep : ¬ zbb m i → Ev (fun k => spec_l4Mended.l0 k m out ((i + 1 : Nat) : Int)) (zay m) := by
    intro ha
    refine ih (i + 1) _ (by omega) hm (fun j hj => ?_)
    rw [hc j hj]
    by_cases e : j = i
    ·rw [if_neg (by omega), if_pos (by omega), e]; unfold za8; rw [if_neg ha]
    ·by_cases q : j < i
     ·rw [if_pos q, if_pos (by omega)]
     ·rw [if_neg q, if_neg (by omega)]
   have wi : ∀ _ : Unit, wrap64 ((i : Int) + 1) = ((i + 1 : Nat) : Int) := fun _ => by rw [w64 (by omega) (by omega)]; omega
   have g0 : rd_T48 out (i : Int) = zab m i := c0
   have hlen : (out.length : Int) = (m.length : Int) := by rw [hm]
   refine zaf ?_
   simp only [spec_l4Mended.l0, g0, wi (), spec_l4Blank.f, Option.bind_some, Int.toNat_natCast, hlen]
   refine zaa (by omega) (zaa (by omega) ?_)
   by_cases p1 : (zab m i).f2 = 1
   ·refine zaa p1 ?_
    by_cases e : i + 1 = m.length
    ·exact zaa (by omega) (blankStep (.inl ⟨p1, .inl e⟩))
    ·have g1 : rd_T48 out ((i + 1 : Nat) : Int) = zab m (i + 1) := by
      show zab out (i + 1) = _
      rw [hc (i + 1) (by omega), if_neg (by omega)]
     simp only [g1]
     refine zac (by omega) (zaa (by omega) (zaa (by omega) ?_))
     by_cases p2 : (zab m (i + 1)).f2 = 2
     ·refine zaa p2 (zac (by omega) (keepStep ?_))
      rintro (⟨_, q | q⟩ | ⟨q, _⟩)
      ·exact e q
      ·exact q p2
      ·omega
     ·exact zac p2 (blankStep (.inl ⟨p1, .inr p2⟩))
   ·refine zac p1 ?_
    by_cases p2 : (zab m i).f2 = 2
    ·refine zaa p2 ?_
     by_cases e : i = 0
     ·exact zaa (by omega) (blankStep (.inr ⟨p2, .inl e⟩))
     ·have wm : wrap64 ((i : Int) - 1) = ((i - 1 : Nat) : Int) := by rw [w64 (by omega) (by omega)]; omega
      have g1 : rd_T48 m ((i - 1 : Nat) : Int) = zab m (i - 1) := rfl
      simp only [wm, g1]
      refine zac (by omega) (zaa (by omega) (zaa (by omega) ?_))
      by_cases p3 : (zab m (i - 1)).f2 = 1
      ·refine zaa p3 (keepStep ?_)
       rintro (⟨q, _⟩ | ⟨_, q | q⟩)
       ·exact p1 q
       ·exact e q
       ·exact q p3
      ·exact zac p3 (blankStep (.inr ⟨p2, .inr p3⟩))
    ·refine zac p2 (keepStep ?_)
     rintro (⟨q, _⟩ | ⟨q, _⟩)
     ·exact p1 q
     ·exact p2 q
 simp only [spec_l4Mended.f, Option.bind_some, List.nil_append]
 exact zaa (by simp; omega) (go m.length 0 m (by omega) rfl (fun j _ => by rw [if_neg (by omega)]))

theorem za9 (l : List S48) (a b : Nat) (s0 s1 : Int) (s2 s3 s4 : Bool) (hl : l.length < 1000000) (hab : a ≤ b) (hb : b ≤ l.length) :
  Ev (fun k => spec_l4Cleared.f k l (a : Int) (b : Int) s0 s1 s2 s3 s4) (zay (zau l a b (blk ⟨s0, s1, s2, s3, s4⟩))) := by
 have loop : ∀ (d i : Nat) (m : List S48), i + d = b → m.length = l.length → Ev (fun k => spec_l4Cleared.l0 k (b : Int) m (i : Int) s0 s1 s2 s3 s4) (zay (zau m i b (blk ⟨s0, s1, s2, s3, s4⟩))) := by
  intro d
  induction d with
  | zero =>
   intro i m h hm
   refine zaf ?_
   simp only [spec_l4Cleared.l0]
   refine zac (by omega) ?_
   rw [show i = b by omega, zci]
   exact Ev.bind (zb6 m (by omega)) (Ev.now _)
  | succ d ih =>
   intro i m h hm
   have := ih (i + 1) (m.set i (blk ⟨s0, s1, s2, s3, s4⟩)) (by omega) (by simpa using hm)
   rw [fillv_set _ _ _ _ (by omega) (by omega)] at this
   have wi : ∀ _ : Unit, wrap64 ((i : Int) + 1) = ((i + 1 : Nat) : Int) := fun _ => by rw [w64 (by omega) (by omega)]; omega
   refine zaf ?_
   simp only [spec_l4Cleared.l0, spec_l4Blank.f, Option.bind_some, wi (), Int.toNat_natCast]
   exact zaa (by omega) (zaa (by omega) (zaa (by omega) this))
 simp only [spec_l4Cleared.f, Option.bind_some, List.nil_append]
 exact zaa (by simp; omega) (loop (b - a) a l (by omega) rfl)
theorem zca (l : List S48) (hr : zai l) (a b : Nat) (s : S37) (hab : a ≤ b) (hb : b ≤ l.length) :
  zau (if a < b then zbp (zbp l a) b else l) a b (blk s) = zay (zau l a b (blk s)) := by
 have hlen : (if a < b then zbp (zbp l a) b else l).length = l.length := by
  by_cases h : a < b
  ·rw [if_pos h, za1, za1]
  ·rw [if_neg h]
 refine zbs (by rw [zak, zaj _ _ _ _ hab (by omega), zaj _ _ _ _ hab hb, hlen]) (fun i hi => ?_)
 rw [zaj _ _ _ _ hab (by omega), hlen] at hi
 rw [zav _ _ (by rw [zaj _ _ _ _ hab hb]; exact hi), zas _ _ _ _ hab (by omega)]
 obtain ⟨_, _, hok⟩ := hr
 have hci := (hok i hi).2
 have ci := zas l a b (blk s) hab hb i
 have cp := zas l a b (blk s) hab hb (i - 1)
 have cn := zas l a b (blk s) hab hb (i + 1)
 have hfl := zaj l a b (blk s) hab hb
 by_cases hin : a ≤ i ∧ i < b
 ·rw [if_pos hin]
  rw [if_pos hin] at ci
  unfold za8
  rw [if_neg, ci]
  unfold zbb
  rw [ci]
  rintro (⟨q, _⟩ | ⟨q, _⟩) <;> exact absurd q (by show ¬ ((0 : Int) = _); omega)
 ·rw [if_neg hin]
  rw [if_neg hin] at ci
  have alone : zbb (zau l a b (blk s)) i ↔ ((zab l i).f2 = 1 ∧ a < b ∧ i + 1 = a) ∨ ((zab l i).f2 = 2 ∧ a < b ∧ i = b) := by
   unfold zbb
   rw [ci, hfl]
   constructor
   ·rintro (⟨q, h⟩ | ⟨q, h⟩)
    ·refine .inl ⟨q, ?_⟩
     rcases hci with ⟨z, _⟩ | ⟨_, _, h1, h2, _⟩ | ⟨z, _⟩
     ·omega
     ·rcases h with h | h
      ·omega
      ·by_cases q2 : a ≤ i + 1 ∧ i + 1 < b
       ·omega
       ·rw [cn, if_neg q2] at h; exact absurd h2 h
     ·omega
    ·refine .inr ⟨q, ?_⟩
     rcases hci with ⟨z, _⟩ | ⟨z, _⟩ | ⟨_, _, h1, h2⟩
     ·omega
     ·omega
     ·rcases h with h | h
      ·omega
      ·by_cases q2 : a ≤ i - 1 ∧ i - 1 < b
       ·omega
       ·rw [cp, if_neg q2] at h; exact absurd h2 h
   ·rintro (⟨q, h1, h2⟩ | ⟨q, h1, h2⟩)
    ·refine .inl ⟨q, .inr ?_⟩
     rw [cn, if_pos (by omega)]
     show ¬ ((0 : Int) = 2); omega
    ·refine .inr ⟨q, .inr ?_⟩
     rw [cp, if_pos (by omega)]
     show ¬ ((0 : Int) = 1); omega
  unfold za8
  rw [ci]
  by_cases hab2 : a < b
  ·have pb : zab (zbp l a) b = zab l b := by rw [zbh, if_neg (fun q => by have := q.2.2.2; omega)]
   rw [if_pos hab2, zbh, za1, pb]
   have hprev : i + 1 = a → (zab l a).f2 = 2 → (zab l i).f2 = 1 := by
    intro e q
    by_cases ha : a < l.length
    ·rcases (hok a ha).2 with ⟨z, _⟩ | ⟨z, _⟩ | ⟨_, _, _, z⟩
     ·omega
     ·omega
     ·rwa [show a - 1 = i by omega] at z
    ·omega
   have hnext : i + 1 = a → (zab l i).f2 = 1 → (zab l a).f2 = 2 := by
    intro e q
    rcases hci with ⟨z, _⟩ | ⟨_, _, _, z, _⟩ | ⟨z, _⟩
    ·omega
    ·rwa [e] at z
    ·omega
   by_cases e1 : i + 1 = a
   ·have nb : ¬ (i = b ∨ i + 1 = b) := by omega
    rw [if_neg (fun q => nb q.2.2.2), zbh]
    by_cases q1 : (zab l i).f2 = 1
    ·rw [if_pos ⟨by omega, by omega, hnext e1 q1, .inr e1⟩, if_pos (alone.mpr (.inl ⟨q1, hab2, e1⟩))]
    ·rw [if_neg (fun q => q1 (hprev e1 q.2.2.1)), if_neg]
     rw [alone]
     rintro (⟨x, _⟩ | ⟨_, _, x⟩)
     ·exact q1 x
     ·omega
   ·have nia : ¬ (i = a ∨ i + 1 = a) := by omega
    have pi : zab (zbp l a) i = zab l i := by rw [zbh, if_neg (fun q => nia q.2.2.2)]
    rw [pi]
    by_cases e2 : i = b
    ·by_cases q2 : (zab l i).f2 = 2
     ·rw [if_pos ⟨by omega, by omega, by rw [← e2]; exact q2, .inl e2⟩, if_pos (alone.mpr (.inr ⟨q2, hab2, e2⟩))]
     ·rw [if_neg (fun q => q2 (by rw [e2]; exact q.2.2.1)), if_neg]
      rw [alone]
      rintro (⟨_, _, x⟩ | ⟨x, _⟩)
      ·omega
      ·exact q2 x
    ·have nb : ¬ (i = b ∨ i + 1 = b) := by omega
     rw [if_neg (fun q => nb q.2.2.2), if_neg]
     rw [alone]
     rintro (⟨_, _, x⟩ | ⟨_, _, x⟩) <;> omega
  ·rw [if_neg hab2, if_neg]
   rw [alone]
   rintro (⟨_, x, _⟩ | ⟨_, x, _⟩) <;> exact hab2 x

def zah (l : List S48) (a : Nat) (r : Int) (s : S37) : List S48 :=
 if wid r = 2 then ((zay (zau l a (a + 2) (blk s))).set a ⟨r, s, 1⟩).set (a + 1) ⟨0, s, 2⟩ else (zay (zau l a (a + 1) (blk s))).set a ⟨r, s, 0⟩
theorem zba (l : List S48) (a : Nat) (r : Int) (s : S37) (h : a + 1 ≤ l.length) (h2 : wid r = 2 → a + 2 ≤ l.length) : (zah l a r s).length = l.length := by
 unfold zah
 by_cases q : wid r = 2
 ·rw [if_pos q, List.length_set, List.length_set, zak, zaj _ _ _ _ (by omega) (h2 q)]
 ·rw [if_neg q, List.length_set, zak, zaj _ _ _ _ (by omega) h]
theorem zbj (l : List S48) (a : Nat) (r : Int) (s0 s1 : Int) (s2 s3 s4 : Bool) (hl : l.length < 1000000) (h0 : wid r = 1 ∨ wid r = 2) (ha : (a : Int) + wid r ≤ (l.length : Int)) :
  Ev (fun k => spec_l4Written.f k l (a : Int) r s0 s1 s2 s3 s4) (zah l a r ⟨s0, s1, s2, s3, s4⟩) := by
 unfold spec_l4Written.f zah
 refine Ev.bind (zan r) ?_
 rcases h0 with h0 | h0
 ·rw [if_neg (by omega)]
  have wa : wrap64 ((a : Int) + wid r) = ((a + 1 : Nat) : Int) := by rw [h0, w64 (by omega) (by omega)]; omega
  have wp : wrap64 (wid r - 1) = 0 := by rw [h0]; exact w64 (by omega) (by omega)
  simp only [wa, wp, Int.toNat_natCast, Option.bind_some]
  have e := za9 l a (a + 1) s0 s1 s2 s3 s4 hl (by omega) (by omega)
  have hlen : (zay (zau l a (a + 1) (blk ⟨s0, s1, s2, s3, s4⟩))).length = l.length := by rw [zak, zaj _ _ _ _ (by omega) (by omega)]
  refine Ev.bind e (zaa (by omega) (zaa (by rw [hlen]; omega) (zac (by omega) (Ev.now _))))
 ·rw [if_pos h0]
  have wa : wrap64 ((a : Int) + wid r) = ((a + 2 : Nat) : Int) := by rw [h0, w64 (by omega) (by omega)]; omega
  have wp : wrap64 (wid r - 1) = 1 := by rw [h0]; exact w64 (by omega) (by omega)
  have w1 : wrap64 ((a : Int) + 1) = ((a + 1 : Nat) : Int) := by rw [w64 (by omega) (by omega)]; omega
  simp only [wa, wp, w1, Int.toNat_natCast, Option.bind_some]
  have e := za9 l a (a + 2) s0 s1 s2 s3 s4 hl (by omega) (by omega)
  have hlen : (zay (zau l a (a + 2) (blk ⟨s0, s1, s2, s3, s4⟩))).length = l.length := by rw [zak, zaj _ _ _ _ (by omega) (by omega)]
  refine Ev.bind e (zaa (by omega) (zaa (by rw [hlen]; omega) (zaa h0 (zaa (by omega) (zaa (by rw [hlen]; omega) (Ev.now _))))))
theorem zb3 (l : List S48) (hr : zai l) (a : Nat) (r : Int) (s0 s1 : Int) (s2 s3 s4 : Bool) (h0 : wid r = 1 ∨ wid r = 2) (ha : (a : Int) + wid r ≤ (l.length : Int)) :
  Ev (fun k => impl_write.f k l (a : Int) r s0 s1 s2 s3 s4) (zah l a r ⟨s0, s1, s2, s3, s4⟩) := by
 have hl := hr.2.1
 unfold impl_write.f zah
 refine Ev.bind (za7 r) ?_
 rcases h0 with h0 | h0
 ·rw [if_neg (by omega)]
  have wa : wrap64 ((a : Int) + 1) = ((a + 1 : Nat) : Int) := by rw [w64 (by omega) (by omega)]; omega
  simp only [wa, Int.toNat_natCast]
  have e := za0 l a (a + 1) s0 s1 s2 s3 s4 (by omega) (by omega) (by omega)
  rw [zca l hr a (a + 1) _ (by omega) (by omega)] at e
  exact zac (by omega) (Ev.bind e (zaa (by omega) (zaa (by omega) (Ev.now _))))
 ·rw [if_pos h0]
  have wa : wrap64 ((a : Int) + 2) = ((a + 2 : Nat) : Int) := by rw [w64 (by omega) (by omega)]; omega
  have w1 : wrap64 ((a : Int) + 1) = ((a + 1 : Nat) : Int) := by rw [w64 (by omega) (by omega)]; omega
  simp only [wa, w1, Int.toNat_natCast]
  have e := za0 l a (a + 2) s0 s1 s2 s3 s4 (by omega) (by omega) (by omega)
  rw [zca l hr a (a + 2) _ (by omega) (by omega)] at e
  exact zaa h0 (Ev.bind e (zaa (by omega) (zaa (by omega) (zaa (by omega) (zaa (by omega) (Ev.now _))))))
theorem zcm (l : List S48) (a r : Int) (s0 s1 : Int) (s2 s3 s4 : Bool) (hl : l.length ≤ 1048576) :
  ∃ v : List S48, v.length ≤ 60 ∧ Ev (fun k => spec_Written.f k l a r s0 s1 s2 s3 s4) v ∧ Ev (fun k => impl_Written.f k l a r s0 s1 s2 s3 s4) v ∧
   (v = [] ∨ ∃ x : Nat, a = (x : Int) ∧ zai l ∧ (wid r = 1 ∨ wid r = 2) ∧ zbx s0 s1 = true ∧ (x : Int) + wid r ≤ (l.length : Int) ∧ v = zah l x r ⟨s0, s1, s2, s3, s4⟩) := by
 obtain ⟨b1, e1, hb1⟩ := za6 l
 obtain ⟨b2, e2, hb2⟩ := zam l hl
 obtain rfl : b1 = b2 := Bool.eq_iff_iff.mpr (hb1.trans hb2.symm)
 have none_ : Ev (fun k => impl_Written.j0 k l a r true s0 s1 s2 s3 s4) [] := by
  refine zaf ?_
  simp only [impl_Written.j0]
  exact zaa (by trivial) (Ev.now _)
 have es := zan r
 have ei := za7 r
 have hw := wid_range r
 by_cases c1 : b1 = true
 case neg => exact ⟨[], by simp, Ev.bind es (Ev.bind e1 (zac c1 (Ev.now _))), Ev.bind ei (Ev.bind e2 (zac c1 none_)), .inl rfl⟩
 have hr := hb1.mp c1
 by_cases c0 : wid r = 0
 ·exact ⟨[], by simp, Ev.bind es (Ev.bind e1 (zaa c1 (zaa c0 (Ev.now _)))), Ev.bind ei (Ev.bind e2 (zaa c1 (zaa c0 none_))), .inl rfl⟩
 have wl : wrap64 ((l.length : Int) - wid r) = (l.length : Int) - wid r := w64 (by omega) (by omega)
 by_cases c2 : zbx s0 s1 = true
 case neg =>
  refine ⟨[], by simp, Ev.bind es (Ev.bind e1 (zaa c1 (zac c0 ?_))), Ev.bind ei (Ev.bind e2 (zaa c1 (zac c0 ?_))), .inl rfl⟩
  ·simp only [zag, zar, Option.bind_some]
   by_cases q : (decide (0 ≤ a) && decide (a ≤ wrap64 ((l.length : Int) - wid r))) = true
   ·exact zaa q (zac c2 (Ev.now _))
   ·exact zac q (Ev.now _)
  ·simp only [zal, Option.bind_some]; exact zac c2 none_
 by_cases c3 : (decide (0 ≤ a) && decide (a ≤ (l.length : Int) - wid r)) = true
 ·have c4 := c3
  simp only [Bool.and_eq_true, decide_eq_true_eq] at c4
  obtain ⟨x, rfl⟩ := Int.eq_ofNat_of_zero_le c4.1
  have h60 := hr.2.1
  refine ⟨zah l x r ⟨s0, s1, s2, s3, s4⟩, by rw [zba _ _ _ _ (by omega) (fun h => by omega)]; exact h60, Ev.bind es (Ev.bind e1 (zaa c1 (zac c0 ?_))), Ev.bind ei (Ev.bind e2 (zaa c1 (zac c0 ?_))), .inr ⟨x, rfl, hr, by omega, c2, by omega, rfl⟩⟩
  ·simp only [zag, zar, Option.bind_some, wl]
   exact zaa c3 (zaa c2 (Ev.bind (zbj l x r s0 s1 s2 s3 s4 (by omega) (by omega) (by omega)) (Ev.now _)))
  ·have cl : impl_Cell_44.f l = some l := by
    simp only [impl_Cell_44.f, Option.bind_some, List.nil_append]
    rw [if_pos (by simp; omega)]
   simp only [zal, zaw, Option.bind_some, wl, c3]
   refine zaa c2 (zaf ?_)
   simp only [impl_Written.j0, cl, Option.bind_some]
   exact zac (by simp) (Ev.bind (zb3 l hr x r s0 s1 s2 s3 s4 (by omega) (by omega)) (Ev.now _))
 ·refine ⟨[], by simp, Ev.bind es (Ev.bind e1 (zaa c1 (zac c0 ?_))), Ev.bind ei (Ev.bind e2 (zaa c1 (zac c0 ?_))), .inl rfl⟩
  ·simp only [zag, zar, Option.bind_some, wl]
   exact zac c3 (Ev.now _)
  ·simp only [zal, zaw, Option.bind_some, wl]
   rw [Bool.not_eq_true] at c3
   simp only [c3]
   exact zaa c2 none_
theorem zbl (n : Nat) (a b : Int) (c d e : Bool) (hn : n ≤ 1000000) : Ev (fun k => spec_l4Row.f k (n : Int) a b c d e) (List.replicate n (blk ⟨a, b, c, d, e⟩)) := by
 have go : ∀ (q i : Nat), i + q = n → Ev (fun k => spec_l4Row.l0 k (n : Int) (List.replicate i (blk ⟨a, b, c, d, e⟩)) (i : Int) a b c d e) (List.replicate n (blk ⟨a, b, c, d, e⟩)) := by
  intro q
  induction q with
  | zero =>
   intro i h
   obtain rfl : i = n := by omega
   refine zaf ?_
   simp only [spec_l4Row.l0]
   exact zac (by omega) (Ev.now _)
  | succ q ih =>
   intro i h
   have := ih (i + 1) (by omega)
   have wi : ∀ _ : Unit, wrap64 ((i : Int) + 1) = ((i + 1 : Nat) : Int) := fun _ => by rw [w64 (by omega) (by omega)]; omega
   refine zaf ?_
   simp only [spec_l4Row.l0, spec_l4Blank.f, Option.bind_some, wi ()]
   refine zaa (by omega) (zaa (by rw [List.length_replicate]; omega) ?_)
   rw [List.replicate_succ'] at this
   exact this
 unfold spec_l4Row.f
 exact go n 0 (by omega)
def za4 (n : Int) (s : S37) : List S48 := if (decide (1 ≤ n) && decide (n ≤ 60)) = true ∧ zbx s.f0 s.f1 = true then List.replicate n.toNat (blk s) else []
theorem zce (n : Int) (s : S37) : (za4 n s).length ≤ 60 := by
 unfold za4
 by_cases h : (decide (1 ≤ n) && decide (n ≤ 60)) = true ∧ zbx s.f0 s.f1 = true
 ·rw [if_pos h, List.length_replicate]
  have := h.1
  simp only [Bool.and_eq_true, decide_eq_true_eq] at this
  omega
 ·rw [if_neg h]; simp
theorem zcs (n : Int) (a b : Int) (c d e : Bool) : Ev (fun k => spec_Blank.f k n a b c d e) (za4 n ⟨a, b, c, d, e⟩) := by
 simp only [spec_Blank.f, zar, zag, Option.bind_some]
 by_cases h : (decide (1 ≤ n) && decide (n ≤ 60)) = true
 ·refine zaa h ?_
  by_cases q : zbx a b = true
  ·refine zaa q ?_
   have h2 := h
   simp only [Bool.and_eq_true, decide_eq_true_eq] at h2
   obtain ⟨m, rfl⟩ := Int.eq_ofNat_of_zero_le (show 0 ≤ n by omega)
   refine Ev.bind (zbl m a b c d e (by omega)) (za3 (Ev.now _) ?_)
   unfold za4; rw [if_pos ⟨h, q⟩, Int.toNat_natCast]
  ·refine zac q (za3 (Ev.now _) ?_)
   unfold za4; rw [if_neg (fun x => q x.2)]
 ·refine zac h (za3 (Ev.now _) ?_)
  unfold za4; rw [if_neg (fun x => h x.1)]
theorem zct (n : Int) (a b : Int) (c d e : Bool) : Ev (fun k => impl_Blank.f k n a b c d e) (za4 n ⟨a, b, c, d, e⟩) := by
 simp only [impl_Blank.f, zaw, zal, Option.bind_some]
 by_cases h : (decide (1 ≤ n) && decide (n ≤ 60)) = true
 ·refine zaa h (zaf ?_)
  simp only [impl_Blank.j0, impl_blank.f, Option.bind_some]
  by_cases q : zbx a b = true
  ·refine zac (by rw [q]; simp) ?_
   have h2 := h
   simp only [Bool.and_eq_true, decide_eq_true_eq] at h2
   have e1 : ∀ x : S48, impl_Cell_49.f [x] n = some (List.replicate n.toNat x) := by
    intro x
    unfold impl_Cell_49.f
    rw [if_pos ⟨rfl, by omega, by omega⟩]
    rfl
   rw [e1]
   refine za3 (Ev.now _) ?_
   unfold za4; rw [if_pos ⟨h, q⟩]; rfl
  ·refine zaa (by simp [q]) (za3 (Ev.now _) ?_)
   unfold za4; rw [if_neg (fun x => q x.2)]
 ·refine zac h (zaf ?_)
  simp only [impl_Blank.j0]
  refine zaa (by trivial) (za3 (Ev.now _) ?_)
  unfold za4; rw [if_neg (fun x => h x.1)]

theorem zbc (b : List Int) (hb : b.length < 4611686018427387904) (i h : Int) (hi : 0 ≤ i) : ∃ v i' h', spec_l4DrawRune.f b i h = some (v, i', h') ∧ (wid v = 1 ∨ wid v = 2) ∧ 0 ≤ i' := by
 unfold spec_l4DrawRune.f
 obtain ⟨v, i1, h1, e, v0, v1, j1⟩ := zae b hb i h 8 hi (by omega)
 rw [Option.bind_some, e]
 simp only [Option.bind_some]
 rw [if_pos v0, if_pos (by simp; omega)]
 refine ⟨_, _, _, rfl, ?_, j1⟩
 have hv : v = 0 ∨ v = 1 ∨ v = 2 ∨ v = 3 ∨ v = 4 ∨ v = 5 ∨ v = 6 ∨ v = 7 := by omega
 rcases hv with rfl | rfl | rfl | rfl | rfl | rfl | rfl | rfl <;> decide
theorem za5 (b : List Int) (hb : b.length < 4611686018427387904) (i h a : Int) (hi : 0 ≤ i) (ha : a < 1000000000) : ∃ v i' h', spec_l4DrawAt.f b i h a = some (v, i', h') ∧ 0 ≤ i' := by
 unfold spec_l4DrawAt.f
 obtain ⟨v, i1, h1, e, j1⟩ := zao b hb i h 12 hi (by omega)
 rw [e]; simp only [Option.bind_some]
 cases v with
 | true =>
  rw [if_pos rfl]
  obtain ⟨v, i2, h2, e2, v0, v1, j2⟩ := zae b hb i1 h1 5 j1 (by omega)
  rw [e2]; simp only [Option.bind_some]
  rw [if_pos v0, if_pos (by simp; omega)]
  exact ⟨_, _, _, rfl, j2⟩
 | false =>
  rw [if_neg (by simp)]
  obtain ⟨m, em, hm⟩ : ∃ m, spec_l1Max.f 1 a = some m ∧ m < 1000000001 := by
   unfold spec_l1Max.f
   split <;> exact ⟨_, rfl, by omega⟩
  rw [em]; simp only [Option.bind_some]
  obtain ⟨v, i2, h2, e2, _, _, j2⟩ := zae b hb i1 h1 m j1 (by omega)
  rw [e2]; simp only [Option.bind_some]
  exact ⟨_, _, _, rfl, j2⟩
theorem zb7 (b : List Int) (hb : b.length < 4611686018427387904) (i h : Int) (hi : 0 ≤ i) (n : Nat) (h1 : 1 ≤ n) (h9 : n ≤ 60) :
  ∃ l i' h', Ev (fun k => spec_l4Draw.f k b i h (n : Int)) (l, i', h') ∧ l.length = n ∧ 0 ≤ i' := by
 have go : ∀ (d : Nat) (l : List S48) (i h : Int), d ≤ 7 → l.length = n → 0 ≤ i → ∃ l' i' h', Ev (fun k => spec_l4Draw.l0 k (n : Int) l (d : Int) b i h) (l', i', h') ∧ l'.length = n ∧ 0 ≤ i' := by
  intro d
  induction d with
  | zero =>
   intro l i h _ hl hi
   refine ⟨l, i, h, zaf ?_, hl, hi⟩
   simp only [spec_l4Draw.l0]
   exact zac (by omega) (Ev.now _)
  | succ d ih =>
   intro l i h hd hl hi
   have wd : ∀ _ : Unit, wrap64 (((d + 1 : Nat) : Int) - 1) = (d : Int) := fun _ => by rw [w64 (by omega) (by omega)]; omega
   obtain ⟨r, i1, h1', e1, hw, j1⟩ := zbc b hb i h hi
   obtain ⟨a, i2, h2, e2, a0, a1, j2⟩ := zae b hb i1 h1' (n : Int) j1 (by omega)
   obtain ⟨x, rfl⟩ := Int.eq_ofNat_of_zero_le a0
   have wa : wrap64 ((x : Int) + wid r) = (x : Int) + wid r := w64 (by omega) (by omega)
   by_cases c : (x : Int) + wid r ≤ (n : Int)
   ·obtain ⟨s0, s1, s2, s3, s4, i3, h3, e3, j3⟩ := zbm b hb i2 h2 j2
    have ew := zbj l x r s0 s1 s2 s3 s4 (by omega) hw (by omega)
    have lw := zba l x r ⟨s0, s1, s2, s3, s4⟩ (by omega) (fun q => by omega)
    obtain ⟨l', i', h', e', hl', hi'⟩ := ih (zah l x r ⟨s0, s1, s2, s3, s4⟩) i3 h3 (by omega) (by omega) j3
    refine ⟨l', i', h', zaf ?_, hl', hi'⟩
    simp only [spec_l4Draw.l0, e1, e2, e3, Option.bind_some, wd ()]
    exact zaa (by omega) (Ev.bind (zan r) (zaa (by rw [wa]; exact c) (Ev.bind ew e')))
   ·obtain ⟨l', i', h', e', hl', hi'⟩ := ih l i2 h2 (by omega) hl j2
    refine ⟨l', i', h', zaf ?_, hl', hi'⟩
    simp only [spec_l4Draw.l0, e1, e2, Option.bind_some, wd ()]
    exact zaa (by omega) (Ev.bind (zan r) (zac (by rw [wa]; exact c) e'))
 unfold spec_l4Draw.f
 obtain ⟨v, i1, h1', e1, v0, v1, j1⟩ := zae b hb i h 7 hi (by omega)
 obtain ⟨d, rfl⟩ := Int.eq_ofNat_of_zero_le v0
 obtain ⟨l', i', h', e', hl', hi'⟩ := go d (List.replicate n (blk ⟨0, 0, false, false, false⟩)) i1 h1' (by omega) (by simp) j1
 exact ⟨l', i', h', Ev.bind (zbl n 0 0 false false false (by omega)) (zad e1 e'), hl', hi'⟩
theorem zbe (b : List Int) (hb : b.length < 4611686018427387904) (i h : Int) (hi : 0 ≤ i) :
  ∃ l i' h', Ev (fun k => spec_l4DrawAny.f k b i h) (l, i', h') ∧ l.length ≤ 61 ∧ 0 ≤ i' := by
 unfold spec_l4DrawAny.f
 obtain ⟨v, i1, h1, e1, v0, v1, j1⟩ := zae b hb i h 9 hi (by omega)
 obtain ⟨d, rfl⟩ := Int.eq_ofNat_of_zero_le v0
 have w1 : ∀ _ : Unit, wrap64 (1 + (d : Int)) = ((1 + d : Nat) : Int) := fun _ => by rw [w64 (by omega) (by omega)]; omega
 obtain ⟨l, i2, h2, e2, hl, j2⟩ := zb7 b hb i1 h1 j1 (1 + d) (by omega) (by omega)
 obtain ⟨o, i3, h3, e3, j3⟩ := zao b hb i2 h2 12 j2 (by omega)
 cases o with
 | false =>
  refine ⟨l, i3, h3, zad e1 ?_, by omega, j3⟩
  simp only [w1 ()]
  exact Ev.bind e2 (zad e3 (zac (by simp) (Ev.now _)))
 | true =>
  obtain ⟨a, i4, h4, e4, a0, a1, j4⟩ := zae b hb i3 h3 (l.length : Int) j3 (by omega)
  obtain ⟨c, i5, h5, e5, c0, c1, j5⟩ := zae b hb i4 h4 4 j4 (by omega)
  by_cases q0 : c = 0
  ·obtain ⟨u, i6, h6, e6, u0, u1, j6⟩ := zae b hb i5 h5 6 j5 (by omega)
   have ef : spec_l1From.f b i5 h5 (-1) 4 = some (wrap64 (-1 + u), i6, h6) := by
    unfold spec_l1From.f
    rw [w64 (x := 4 - (-1)) (by omega) (by omega), show (4 : Int) - (-1) + 1 = 6 by omega, w64 (x := 6) (by omega) (by omega), e6]
    rfl
   refine ⟨l.set a.toNat ⟨(rd_T48 l a).f0, ⟨(rd_T48 l a).f1.f0, (rd_T48 l a).f1.f1, (rd_T48 l a).f1.f2, (rd_T48 l a).f1.f3, (rd_T48 l a).f1.f4⟩, wrap64 (-1 + u)⟩, i6, h6, zad e1 ?_, by rw [List.length_set]; omega, j6⟩
   simp only [w1 ()]
   exact Ev.bind e2 (zad e3 (zaa rfl (zad e4 (zaa a0 (zaa (show a < (l.length : Int) by omega) (zad e5 (zaa q0 (zad ef (Ev.now _)))))))))
  by_cases q1 : c = 1
  ·obtain ⟨u, i6, h6, e6, u0, u1, j6⟩ := zae b hb i5 h5 4 j5 (by omega)
   refine ⟨l.set a.toNat ⟨rd [0, 10, 19968, (-1)] u, ⟨(rd_T48 l a).f1.f0, (rd_T48 l a).f1.f1, (rd_T48 l a).f1.f2, (rd_T48 l a).f1.f3, (rd_T48 l a).f1.f4⟩, (rd_T48 l a).f2⟩, i6, h6, zad e1 ?_, by rw [List.length_set]; omega, j6⟩
   simp only [w1 (), Option.bind_some]
   exact Ev.bind e2 (zad e3 (zaa rfl (zad e4 (zaa a0 (zaa (show a < (l.length : Int) by omega) (zad e5 (zac q0 (zaa q1 (zad e6 (zaa u0 (zaa (by simp only [List.length_cons, List.length_nil]; omega) (Ev.now _))))))))))))
  by_cases q2 : c = 2
  ·obtain ⟨s0, s1, s2, s3, s4, i6, h6, e6, j6⟩ := zat b hb i5 h5 j5
   refine ⟨l.set a.toNat ⟨(rd_T48 l a).f0, ⟨s0, s1, s2, s3, s4⟩, (rd_T48 l a).f2⟩, i6, h6, zad e1 ?_, by rw [List.length_set]; omega, j6⟩
   simp only [w1 ()]
   exact Ev.bind e2 (zad e3 (zaa rfl (zad e4 (zaa a0 (zaa (show a < (l.length : Int) by omega) (zad e5 (zac q0 (zac q1 (zaa q2 (zad e6 (Ev.now _)))))))))))
  ·obtain ⟨u, i6, h6, e6, u0, u1, j6⟩ := zae b hb i5 h5 2 j5 (by omega)
   obtain ⟨m, rfl⟩ := Int.eq_ofNat_of_zero_le u0
   have w2 : ∀ _ : Unit, wrap64 (60 + (m : Int)) = ((60 + m : Nat) : Int) := fun _ => by rw [w64 (by omega) (by omega)]; omega
   have er := zbl (60 + m) 0 0 false false false (by omega)
   refine ⟨List.replicate (60 + m) (blk ⟨0, 0, false, false, false⟩), i6, h6, zad e1 ?_, by rw [List.length_replicate]; omega, j6⟩
   simp only [w1 ()]
   refine Ev.bind e2 (zad e3 (zaa rfl (zad e4 (zaa a0 (zaa (show a < (l.length : Int) by omega) (zad e5 (zac q0 (zac q1 (zac q2 (zaa (by omega) (zad e6 ?_)))))))))))
   simp only [w2 ()]
   exact Ev.bind er (Ev.now _)
theorem zbn (l : List Int) (hl : l.length < 4611686018427387904) : ∃ (r : List S48) (a n s0 s1 : Int) (s2 s3 s4 : Bool), Ev (fun k => spec_DrawWritten.f k l) (r, a, n, s0, s1, s2, s3, s4) ∧ r.length ≤ 61 := by
 obtain ⟨h, e0⟩ := zbf l hl
 obtain ⟨r, i1, h1, e1, hr, j1⟩ := zbe l hl 0 h (by omega)
 obtain ⟨n, i2, h2, e2, _, j2⟩ := zbc l hl i1 h1 j1
 obtain ⟨o, i3, h3, e3, j3⟩ := zao l hl i2 h2 12 j2 (by omega)
 unfold spec_DrawWritten.f
 cases o with
 | true =>
  obtain ⟨m, i4, h4, e4, j4⟩ := zbw l hl i3 h3 j3
  obtain ⟨a, i5, h5, e5, j5⟩ := za5 l hl i4 h4 (r.length : Int) j4 (by omega)
  obtain ⟨s0, s1, s2, s3, s4, i6, h6, e6, j6⟩ := zat l hl i5 h5 j5
  exact ⟨r, a, m, s0, s1, s2, s3, s4, Ev.bind e0 (Ev.bind e1 (zad e2 (zad e3 (zaa rfl (zad e4 (zad e5 (zad e6 (Ev.now _)))))))), hr⟩
 | false =>
  obtain ⟨a, i5, h5, e5, j5⟩ := za5 l hl i3 h3 (r.length : Int) j3 (by omega)
  obtain ⟨s0, s1, s2, s3, s4, i6, h6, e6, j6⟩ := zat l hl i5 h5 j5
  exact ⟨r, a, n, s0, s1, s2, s3, s4, Ev.bind e0 (Ev.bind e1 (zad e2 (zad e3 (zac (by simp) (zad e5 (zad e6 (Ev.now _))))))), hr⟩
theorem zbo (l : List Int) (hl : l.length < 4611686018427387904) : ∃ (r : List S48) (a n s0 s1 : Int) (s2 s3 s4 : Bool), Ev (fun k => spec_DrawCleared.f k l) (r, a, n, s0, s1, s2, s3, s4) ∧ r.length ≤ 61 := by
 obtain ⟨h, e0⟩ := zbf l hl
 obtain ⟨r, i1, h1, e1, hr, j1⟩ := zbe l hl 0 h (by omega)
 obtain ⟨a, i5, h5, e5, j5⟩ := za5 l hl i1 h1 (r.length : Int) j1 (by omega)
 obtain ⟨u, i6, h6, e6, _, _, j6⟩ := zae l hl i5 h5 4 j5 (by omega)
 obtain ⟨s0, s1, s2, s3, s4, i7, h7, e7, j7⟩ := zat l hl i6 h6 j6
 unfold spec_DrawCleared.f
 exact ⟨r, a, wrap64 (a + u), s0, s1, s2, s3, s4, Ev.bind e0 (Ev.bind e1 (zad e5 (zad e6 (zad e7 (Ev.now _))))), hr⟩
theorem zb0 (l : List Int) (hl : l.length < 4611686018427387904) : ∃ (n s0 s1 : Int) (s2 s3 s4 : Bool), Ev (fun k => spec_DrawBlank.f k l) (n, s0, s1, s2, s3, s4) := by
 obtain ⟨h, e0⟩ := zbf l hl
 obtain ⟨u, i6, h6, e6, u0, u1, j6⟩ := zae l hl 0 h 6 (by omega) (by omega)
 obtain ⟨s0, s1, s2, s3, s4, i7, h7, e7, j7⟩ := zat l hl i6 h6 j6
 unfold spec_DrawBlank.f
 simp only [Option.bind_some]
 exact ⟨_, s0, s1, s2, s3, s4, Ev.bind e0 (zad e6 (zaa u0 (zaa (by simp only [List.length_cons, List.length_nil]; omega) (zad e7 (Ev.now _)))))⟩

def enc (r : Int) : List Int :=
 if r < 128 then [r] else if r < 2048 then [192 + r / 64, 128 + r % 64]
 else if r < 65536 then [224 + r / 4096, 128 + r / 64 % 64, 128 + r % 64]
 else [240 + r / 262144, 128 + r / 4096 % 64, 128 + r / 64 % 64, 128 + r % 64]
theorem zbv (r : Int) : (enc r).length ≤ 4 := by
 unfold enc
 repeat' split
 all_goals simp
def fixr (r : Int) : Int := if rok r then r else 65533
def encs (l : List Int) : List Int := l.flatMap fun r => enc (fixr r)
theorem encs_nil : encs [] = [] := rfl
theorem encs_cons (r : Int) (l : List Int) : encs (r :: l) = enc (fixr r) ++ encs l := by simp [encs]
theorem zb2 {r : Int} (h : rok r = true) : spec_l1Put.f r = some (enc r) := by
 rw [rok_iff] at h
 have t64 : Int.tdiv r 64 = r / 64 := Int.tdiv_eq_ediv_of_nonneg h.1
 have t4096 : Int.tdiv r 4096 = r / 4096 := Int.tdiv_eq_ediv_of_nonneg h.1
 have t262144 : Int.tdiv r 262144 = r / 262144 := Int.tdiv_eq_ediv_of_nonneg h.1
 have m64 : Int.tmod r 64 = r % 64 := Int.tmod_eq_emod_of_nonneg h.1
 have w1 : wrap64 (r / 64) = r / 64 := w64 (by omega) (by omega)
 have w2 : wrap64 (r / 4096) = r / 4096 := w64 (by omega) (by omega)
 have w3 : wrap64 (r / 262144) = r / 262144 := w64 (by omega) (by omega)
 have m1 : Int.tmod (r / 64) 64 = r / 64 % 64 := Int.tmod_eq_emod_of_nonneg (by omega)
 have m2 : Int.tmod (r / 4096) 64 = r / 4096 % 64 := Int.tmod_eq_emod_of_nonneg (by omega)
 unfold spec_l1Put.f enc
 simp only [t64, t4096, t262144, m64, w1, w2, w3, m1, m2]
 repeat' split
 ·rw [show r % 256 = r by omega]
 ·rw [w64 (by omega) (by omega), w64 (by omega) (by omega), show (192 + r / 64) % 256 = 192 + r / 64 by omega, show (128 + r % 64) % 256 = 128 + r % 64 by omega]
 ·rw [w64 (x := 224 + r / 4096) (by omega) (by omega), w64 (x := 128 + r / 64 % 64) (by omega) (by omega), w64 (x := 128 + r % 64) (by omega) (by omega), show (224 + r / 4096) % 256 = 224 + r / 4096 by omega,
   show (128 + r / 64 % 64) % 256 = 128 + r / 64 % 64 by omega, show (128 + r % 64) % 256 = 128 + r % 64 by omega]
 ·rw [w64 (x := 240 + r / 262144) (by omega) (by omega), w64 (x := 128 + r / 4096 % 64) (by omega) (by omega), w64 (x := 128 + r / 64 % 64) (by omega) (by omega), w64 (x := 128 + r % 64) (by omega) (by omega), show (240 + r / 262144) % 256 = 240 + r / 262144 by omega,
   show (128 + r / 4096 % 64) % 256 = 128 + r / 4096 % 64 by omega, show (128 + r / 64 % 64) % 256 = 128 + r / 64 % 64 by omega, show (128 + r % 64) % 256 = 128 + r % 64 by omega]

theorem spec_Text_ev (l : List Int) (hl : l.length < 17592186044416) : Ev (fun k => spec_Text.f k l) (strOfNums (encs l)) := by
 have go : ∀ (d i : Nat) (acc : List Int), i + d = l.length → acc.length ≤ 4 * i → Ev (fun k => spec_Text.l0 k l acc (i : Int)) (strOfNums (acc ++ encs (l.drop i))) := by
  intro d
  induction d with
  | zero =>
   intro i acc h ha
   refine zaf ?_
   simp only [spec_Text.l0]
   refine zac (by omega) ?_
   rw [List.drop_of_length_le (by omega), encs_nil, List.append_nil]
   exact Ev.now _
  | succ d ih =>
   intro i acc h ha
   refine zaf ?_
   have hr : rd l (i : Int) = l[i]'(by omega) := rd_at (by omega)
   simp only [spec_Text.l0, w64 (x := (i : Int) + 1) (by omega) (by omega), zby, Option.bind_some]
   refine zaa (by omega) (zaa (by omega) ?_)
   have hn : Ev (fun k => spec_Text.l0 k l (acc ++ enc (fixr (rd l (i : Int)))) ((i : Int) + 1)) (strOfNums (acc ++ encs (l.drop i))) := by
    have := ih (i + 1) (acc ++ enc (fixr (rd l (i : Int)))) (by omega) (by have := zbv (fixr (rd l (i : Int))); rw [List.length_append]; omega)
    refine za3 this ?_
    rw [show l.drop i = l[i]'(by omega) :: l.drop (i + 1) from List.drop_eq_getElem_cons (by omega), encs_cons, hr, List.append_assoc]
   have hle := zbv (fixr (rd l (i : Int)))
   by_cases c : rok (rd l (i : Int)) = true
   ·refine zaa c (zad (zb2 c) ?_)
    have e : fixr (rd l (i : Int)) = rd l (i : Int) := by unfold fixr; rw [if_pos c]
    rw [e] at hn hle
    exact zaa (by omega) hn
   ·refine zac c (zad (zb2 (by decide)) ?_)
    have e : fixr (rd l (i : Int)) = 65533 := by unfold fixr; rw [if_neg c]
    rw [e] at hn hle
    exact zaa (by omega) hn
 exact go l.length 0 [] (by omega) (by simp)

def putv (r : Int) : ByteArray := if rok r then strOfNums (enc r) else ⟨#[]⟩

theorem zb1 {r : Int} (h : rok r = true) (l : List Int) (hl : l.length < 140737488355300) : Ev (fun k => utf8_AppendRune.f k l r) (l ++ enc r) := by
 rw [rok_iff] at h
 have e0 : r % 4294967296 = r := by omega
 have a1 : Go.bits .and .u8 (r % 256) 63 = r % 64 := by rw [u8_and63 _ (by omega) (by omega)]; omega
 have a2 : Go.bits .and .u8 ((r / 64) % 256) 63 = r / 64 % 64 := by rw [u8_and63 _ (by omega) (by omega)]; omega
 have a3 : Go.bits .and .u8 ((r / 4096) % 256) 63 = r / 4096 % 64 := by rw [u8_and63 _ (by omega) (by omega)]; omega
 have o1 : Go.bits .or .u8 128 (r % 64) = 128 + r % 64 := u8_or128 _ (by omega) (by omega)
 have o2 : Go.bits .or .u8 128 (r / 64 % 64) = 128 + r / 64 % 64 := u8_or128 _ (by omega) (by omega)
 have o3 : Go.bits .or .u8 128 (r / 4096 % 64) = 128 + r / 4096 % 64 := u8_or128 _ (by omega) (by omega)
 simp only [utf8_AppendRune.f, utf8_appendRuneNonASCII.f, e0, a1, o1]
 unfold enc
 by_cases h1 : r < 128
 ·simp only [if_pos (show r ≤ 127 by omega), if_pos h1, if_pos (show l.length < 140737488355328 by omega), show r % 256 = r by omega]
  exact Ev.now _
 ·simp only [if_neg (show ¬ r ≤ 127 by omega), if_neg h1]
  by_cases h2 : r < 2048
  ·have o : Go.bits .or .u8 192 (r / 64 % 256) = 192 + r / 64 := by rw [show r / 64 % 256 = r / 64 by omega]; exact u8_or192 _ (by omega) (by omega)
   simp only [if_pos (show r ≤ 2047 by omega), if_pos h2, Option.bind_some, o]
   exact zbu (by rw [if_pos (by simp; omega)]; rfl)
  ·simp only [if_neg (show ¬ r ≤ 2047 by omega), if_neg h2]
   have j1 : r < 65536 → Ev (fun k => utf8_appendRuneNonASCII.j0 k l r r true) (l ++ [224 + r / 4096, 128 + r / 64 % 64, 128 + r % 64]) := fun h3 => by
    have o : Go.bits .or .u8 224 (r / 4096 % 256) = 224 + r / 4096 := by rw [show r / 4096 % 256 = r / 4096 by omega]; exact u8_or224 _ (by omega) (by omega)
    refine zaf ?_
    simp only [utf8_appendRuneNonASCII.j0, if_true, Option.bind_some, o, a1, a2, o1, o2]
    exact zbu (by rw [if_pos (by simp; omega)])
   have j0 : ¬ r < 65536 → Ev (fun k => utf8_appendRuneNonASCII.j0 k l r r false) (l ++ [240 + r / 262144, 128 + r / 4096 % 64, 128 + r / 64 % 64, 128 + r % 64]) := fun h3 => by
    have o : Go.bits .or .u8 240 (r / 262144 % 256) = 240 + r / 262144 := by rw [show r / 262144 % 256 = r / 262144 by omega]; exact u8_or240 _ (by omega) (by omega)
    refine zaf ?_
    simp only [utf8_appendRuneNonASCII.j0, Bool.false_eq_true, if_false, Option.bind_some, o, a1, a2, a3, o1, o2, o3, if_pos (show r > 65535 by omega), if_pos (show r ≤ 1114111 by omega)]
    exact zbu (by rw [if_pos (by simp; omega)])
   by_cases h3 : r < 65536
   ·simp only [if_pos h3]
    by_cases h4 : r < 55296
    ·simp only [if_pos h4, decide_eq_true h4]
     exact (Ev.bind (j1 h3) (Ev.now _))
    ·simp only [if_neg h4, if_pos (show 57343 < r by omega), decide_eq_true (show r ≤ 65535 by omega)]
     exact (Ev.bind (j1 h3) (Ev.now _))
   ·simp only [if_neg h3, if_neg (show ¬ r < 55296 by omega), if_pos (show 57343 < r by omega), decide_eq_false (show ¬ r ≤ 65535 by omega)]
    exact (Ev.bind (j0 h3) (Ev.now _))

theorem w32 {x : Int} (h0 : -2147483648 ≤ x) (h1 : x ≤ 2147483647) : wrap32 x = x := by unfold wrap32; omega

theorem impl_Put_ev (r : Int) : Ev (fun k => impl_Put.f k r) (putv r) := by
 simp only [impl_Put.f, zbz, Option.bind_some]
 unfold putv
 by_cases h : rok r = true
 ·have h' := rok_iff.mp h
  simp only [if_pos h, w32 (x := r) (by omega) (by omega)]
  exact Ev.bind (zb1 h [] (by simp)) (Ev.now _)
 ·simp only [if_neg h]
  exact Ev.now _

def ub (r : Int) : List UInt8 := (enc r).map fun n => UInt8.ofNat n.toNat
def zbi (l : List S48) : Nat → List Int
 | 0 => []
 | n + 1 => if (zab l n).f2 = 2 then zbi l n else zbi l n ++ [(zab l n).f0]
def bts (rs : List Int) : List UInt8 := rs.flatMap ub
theorem zb4 (a b : List Int) : bts (a ++ b) = bts a ++ bts b := by simp [bts]
theorem bts_one (r : Int) : bts [r] = ub r := by simp [bts]
theorem zbd (l : List S48) : ∀ n, (zbi l n).length ≤ n
 | 0 => by simp [zbi]
 | n + 1 => by
  have := zbd l n
  unfold zbi
  split
  ·omega
  ·rw [List.length_append, List.length_cons, List.length_nil]; omega
theorem zcl (rs : List Int) : (bts rs).length ≤ 4 * rs.length := by
 induction rs with
 | nil => simp [bts]
 | cons r rs ih =>
  have := zbv r
  have e : bts (r :: rs) = ub r ++ bts rs := by simp [bts]
  rw [e, List.length_append, List.length_cons]
  unfold ub
  rw [List.length_map]; omega
theorem wid_rok {r : Int} (h : 1 ≤ wid r) : rok r = true := by
 unfold wid at h
 split at h
 ·omega
 ·rename_i q
  cases hr : rok r with
  | true => rfl
  | false => exact absurd (.inl hr) q
theorem wid_two {r : Int} (h : wid r = 2) : r ≠ 32 := by
 unfold wid at h
 split at h
 ·omega
 ·split at h
  ·omega
  ·omega
theorem zcb {l : List S48} (h : zai l) (i : Nat) (hi : i < l.length) (h2 : (zab l i).f2 ≠ 2) : rok (zab l i).f0 = true := by
 rcases (h.2.2 i hi).2 with q | q | q
 ·exact wid_rok (by omega)
 ·exact wid_rok (by omega)
 ·exact absurd q.1 h2
theorem zcq {l : List S48} (h : zai l) : ∀ n, n ≤ l.length → ∀ r ∈ zbi l n, rok r = true
 | 0, _ => by simp [zbi]
 | n + 1, hn => by
  intro r hr
  unfold zbi at hr
  split at hr
  ·exact zcq h n (by omega) r hr
  ·rename_i q
   rw [List.mem_append, List.mem_singleton] at hr
   rcases hr with hr | rfl
   ·exact zcq h n (by omega) r hr
   ·exact zcb h n (by omega) q
theorem encs_bts (rs : List Int) (h : ∀ r ∈ rs, rok r = true) : (strOfNums (encs rs)).data.toList = bts rs := by
 rw [strOfNums_data]
 induction rs with
 | nil => rfl
 | cons r rs ih =>
  have hr := h r (by simp)
  have e : bts (r :: rs) = ub r ++ bts rs := by simp [bts]
  rw [encs_cons, List.map_append, ih (fun x hx => h x (by simp [hx])), e]
  unfold fixr
  rw [if_pos hr]; rfl
theorem putv_ub {r : Int} (h : rok r = true) : (putv r).data.toList = ub r := by
 unfold putv
 rw [if_pos h, strOfNums_data]; rfl
theorem zcf (l : List S48) (m : Nat) (hm : m ≤ l.length) (hl : l.length ≤ 60) : ∀ (d i : Nat), i + d = m → Ev (fun k => spec_l4Text.l1 k l (m : Int) (zbi l i) (i : Int)) (strOfNums (encs (zbi l m))) := by
 intro d
 induction d with
 | zero =>
  intro i h
  obtain rfl : i = m := by omega
  have := zbd l i
  refine zaf ?_
  simp only [spec_l4Text.l1]
  exact zac (by omega) (Ev.bind (spec_Text_ev _ (by omega)) (Ev.now _))
 | succ d ih =>
  intro i h
  have := zbd l i
  have wi : ∀ _ : Unit, wrap64 ((i : Int) + 1) = ((i + 1 : Nat) : Int) := fun _ => by rw [w64 (by omega) (by omega)]; omega
  have e := ih (i + 1) (by omega)
  refine zaf ?_
  simp only [spec_l4Text.l1, wi ()]
  refine zaa (by omega) (zaa (by omega) (zaa (by omega) ?_))
  by_cases q : (zab l i).f2 = 2
  ·have ht : zbi l (i + 1) = zbi l i := by show (if (zab l i).f2 = 2 then _ else _) = _; rw [if_pos q]
   rw [ht] at e
   exact zaa q e
  ·have ht : zbi l (i + 1) = zbi l i ++ [(zab l i).f0] := by show (if (zab l i).f2 = 2 then _ else _) = _; rw [if_neg q]
   rw [ht] at e
   exact zac q (zaa (by omega) e)
theorem zcg (l : List S48) (hl : l.length ≤ 60) : ∀ m : Nat, m ≤ l.length → ∃ q : Nat, q ≤ m ∧ Ev (fun k => spec_l4Text.l0 k l (m : Int)) (strOfNums (encs (zbi l q))) ∧ (∀ i, q ≤ i → i < m → (zab l i).f0 = 32) ∧ (0 < q → (zab l (q - 1)).f0 ≠ 32)
 | 0, _ => by
  refine ⟨0, by omega, zaf ?_, fun i h1 h2 => by omega, fun h => by omega⟩
  simp only [spec_l4Text.l0]
  refine zac (by omega) (zaf ?_)
  simp only [spec_l4Text.j1]
  exact zcf l 0 (by omega) hl 0 0 rfl
 | m + 1, hm => by
  have wi : ∀ _ : Unit, wrap64 (((m + 1 : Nat) : Int) - 1) = (m : Int) := fun _ => by rw [w64 (by omega) (by omega)]; omega
  by_cases c : (zab l m).f0 = 32
  ·obtain ⟨q, hq, e, h1, h2⟩ := zcg l hl m (by omega)
   refine ⟨q, by omega, zaf ?_, fun i hi hi2 => ?_, h2⟩
   ·simp only [spec_l4Text.l0, wi ()]
    exact zaa (by omega) (zaa (by omega) (zaa (by omega) (zaa c e)))
   ·by_cases hc : i < m
    ·exact h1 i hi hc
    ·obtain rfl : i = m := by omega
     exact c
  ·refine ⟨m + 1, by omega, zaf ?_, fun i h1 h2 => by omega, fun _ => c⟩
   simp only [spec_l4Text.l0, wi ()]
   refine zaa (by omega) (zaa (by omega) (zaa (by omega) (zac c (zaf ?_))))
   simp only [spec_l4Text.j1]
   exact zcf l (m + 1) hm hl (m + 1) 0 (by omega)
theorem ub_last (r : Int) (hr : rok r = true) (h : r ≠ 32) : ∃ v z, ub r = v ++ [z] ∧ z ≠ 32 := by
 have h' := rok_iff.mp hr
 have ne : ∀ n : Int, 0 ≤ n → n ≤ 255 → n ≠ 32 → UInt8.ofNat n.toNat ≠ 32 := by
  intro n h0 h1 h2 e
  have := congrArg UInt8.toNat e
  rw [UInt8.toNat_ofNat'] at this
  have e32 : (32 : UInt8).toNat = 32 := rfl
  omega
 unfold ub enc
 split
 ·exact ⟨[], _, rfl, ne r (by omega) (by omega) h⟩
 ·split
  ·exact ⟨[_], _, rfl, ne _ (by omega) (by omega) (by omega)⟩
  ·split
   ·exact ⟨[_, _], _, rfl, ne _ (by omega) (by omega) (by omega)⟩
   ·exact ⟨[_, _, _], _, rfl, ne _ (by omega) (by omega) (by omega)⟩
theorem bts_last {l : List S48} (h : zai l) (q : Nat) (hq : q ≤ l.length) (h0 : 0 < q) (hc : (zab l (q - 1)).f0 ≠ 32) : ∃ v z, bts (zbi l q) = v ++ [z] ∧ z ≠ 32 := by
 obtain ⟨p, rfl⟩ : ∃ p, q = p + 1 := ⟨q - 1, by omega⟩
 have one : ∀ n, n < l.length → (zab l n).f2 ≠ 2 → (zab l n).f0 ≠ 32 → ∃ v z, bts (zbi l (n + 1)) = v ++ [z] ∧ z ≠ 32 := by
  intro n hn h2 h3
  obtain ⟨v, z, e, hz⟩ := ub_last _ (zcb h n hn h2) h3
  refine ⟨bts (zbi l n) ++ v, z, ?_, hz⟩
  have ht : zbi l (n + 1) = zbi l n ++ [(zab l n).f0] := by show (if (zab l n).f2 = 2 then _ else _) = _; rw [if_neg h2]
  rw [ht, zb4, bts_one, e, List.append_assoc]
 by_cases h2 : (zab l p).f2 = 2
 ·have ht : zbi l (p + 1) = zbi l p := by show (if (zab l p).f2 = 2 then _ else _) = _; rw [if_pos h2]
  rw [ht]
  have hp : 0 < p ∧ (zab l (p - 1)).f2 = 1 := by
   rcases (h.2.2 p (by omega)).2 with x | x | x
   ·omega
   ·omega
   ·exact x.2.2
  obtain ⟨o, rfl⟩ : ∃ o, p = o + 1 := ⟨p - 1, by omega⟩
  have h1 : (zab l o).f2 = 1 := hp.2
  refine one o (by omega) (by omega) ?_
  rcases (h.2.2 o (by omega)).2 with x | x | x
  ·omega
  ·exact wid_two x.2.1
  ·omega
 ·exact one p (by omega) h2 hc
theorem bts_tail {l : List S48} (h : zai l) (q : Nat) : ∀ d, q + d ≤ l.length → (∀ i, q ≤ i → i < q + d → (zab l i).f0 = 32) → bts (zbi l (q + d)) = bts (zbi l q) ++ List.replicate d 32
 | 0, _, _ => by simp
 | d + 1, hd, hc => by
  have ih := bts_tail h q d (by omega) (fun i h1 h2 => hc i h1 (by omega))
  have c := hc (q + d) (by omega) (by omega)
  have h2 : (zab l (q + d)).f2 ≠ 2 := by
   intro e
   rcases (h.2.2 (q + d) (by omega)).2 with x | x | x <;> omega
  have ht : zbi l (q + d + 1) = zbi l (q + d) ++ [(zab l (q + d)).f0] := by show (if (zab l (q + d)).f2 = 2 then _ else _) = _; rw [if_neg h2]
  rw [show q + (d + 1) = q + d + 1 by omega, ht, zb4, bts_one, ih, c, List.replicate_succ', List.append_assoc]
  rfl
theorem trim_is {l : List S48} (h : zai l) (q : Nat) (hq : q ≤ l.length) (hc : ∀ i, q ≤ i → i < l.length → (zab l i).f0 = 32) (h0 : 0 < q → (zab l (q - 1)).f0 ≠ 32) : Lib.trimRightB (bts (zbi l l.length)) 32 = bts (zbi l q) := by
 have e := bts_tail h q (l.length - q) (by omega) (fun i h1 h2 => hc i h1 (by omega))
 rw [show q + (l.length - q) = l.length by omega] at e
 rw [Lib.trimRightB_take _ 32 (bts (zbi l q)).length]
 ·rw [e, List.take_left']
  rfl
 ·rw [e, List.length_append]; omega
 ·intro j b hj hb
  rw [e, List.getElem?_append_right hj, List.getElem?_replicate] at hb
  split at hb
  ·exact (Option.some.inj hb).symm
  ·cases hb
 ·intro b hk hb
  have hq0 : 0 < q := by
   rcases Nat.eq_zero_or_pos q with z | z
   ·subst z; simp [zbi, bts] at hk
   ·exact z
  obtain ⟨v, z, ev, hz⟩ := bts_last h q hq hq0 (h0 hq0)
  rw [e, List.getElem?_append_left (by omega), ev] at hb
  simp at hb
  rw [← hb]; exact hz
theorem zch (l : List S48) (h : zai l) : ∀ (d i : Nat), i + d = l.length → Ev (fun k => impl_RowText.l0 k l (bts (zbi l i)) (i : Int)) ⟨(Lib.trimRightB (bts (zbi l l.length)) 32).toArray⟩ := by
 have hl := h.2.1
 intro d
 induction d with
 | zero =>
  intro i hi
  obtain rfl : i = l.length := by omega
  have h1 := zcl (zbi l l.length)
  have h2 := zbd l l.length
  refine zaf ?_
  simp only [impl_RowText.l0]
  refine zac (by omega) (zbu ?_)
  unfold strings_TrimRight.f
  rw [if_pos ⟨by show (bts (zbi l l.length)).toArray.size ≤ _; rw [List.size_toArray]; omega, rfl⟩]
 | succ d ih =>
  intro i hi
  have h1 := zcl (zbi l i)
  have h2 := zbd l i
  have wi : ∀ _ : Unit, wrap64 ((i : Int) + 1) = ((i + 1 : Nat) : Int) := fun _ => by rw [w64 (by omega) (by omega)]; omega
  have e := ih (i + 1) (by omega)
  refine zaf ?_
  simp only [impl_RowText.l0, wi ()]
  refine zaa (by omega) (zaa (by omega) ?_)
  by_cases q : (zab l i).f2 = 2
  ·have ht : zbi l (i + 1) = zbi l i := by show (if (zab l i).f2 = 2 then _ else _) = _; rw [if_pos q]
   rw [ht] at e
   exact zaa q e
  ·have ht : zbi l (i + 1) = zbi l i ++ [(zab l i).f0] := by show (if (zab l i).f2 = 2 then _ else _) = _; rw [if_neg q]
   have hr := zcb h i (by omega) q
   have hp := putv_ub hr
   have hz : (putv (zab l i).f0).size ≤ 4 := by
    unfold putv
    rw [if_pos hr, strOfNums_size]; exact zbv _
   rw [ht, zb4, bts_one, ← hp] at e
   have hz' : (bts (zbi l i)).length + (putv (rd_T48 l (i : Int)).f0).size ≤ 140737488355328 := by
    show (bts (zbi l i)).length + (putv (zab l i).f0).size ≤ 140737488355328
    omega
   exact zac q (Ev.bind (impl_Put_ev _) (zaa hz' e))

theorem wid32 : wid 32 = 1 := by decide
theorem mended_right {l m : List S48} (hl : zai l) (hm : m.length = l.length)
  (h : ∀ i, i < l.length → zab m i = zab l i ∨ ((zab m i).f2 = 0 ∧ zbx (zab m i).f1.f0 (zab m i).f1.f1 = true ∧ wid (zab m i).f0 = 1)) : zai (zay m) := by
 refine ⟨by rw [zak, hm]; exact hl.1, by rw [zak, hm]; exact hl.2.1, fun i hi => ?_⟩
 rw [zak] at hi
 have hil : i < l.length := by omega
 have hc := hl.2.2 i hil
 have hst : zbx (zab m i).f1.f0 (zab m i).f1.f1 = true := by
  rcases h i hil with e | e
  ·rw [e]; exact hc.1
  ·exact e.2.1
 unfold zbk
 rw [zak, zav _ _ hi]
 by_cases q : zbb m i
 ·have e : za8 m i = bl (zab m i) := by unfold za8; rw [if_pos q]
  rw [e]
  exact ⟨hst, .inl ⟨rfl, wid32⟩⟩
 ·have e : za8 m i = zab m i := by unfold za8; rw [if_neg q]
  rw [e]
  refine ⟨hst, ?_⟩
  have q' : ¬ (((zab m i).f2 = 1 ∧ (i + 1 = m.length ∨ (zab m (i + 1)).f2 ≠ 2)) ∨ ((zab m i).f2 = 2 ∧ (i = 0 ∨ (zab m (i - 1)).f2 ≠ 1))) := q
  rcases h i hil with e1 | e1
  ·rcases hc.2 with z | z | z
   ·exact .inl (by rw [e1]; exact z)
   ·rw [e1] at q' ⊢
    have hn : i + 1 < m.length ∧ (zab m (i + 1)).f2 = 2 := by
     refine ⟨by omega, Decidable.byContradiction fun c => q' (.inl ⟨z.1, .inr c⟩)⟩
    have na : ¬ zbb m (i + 1) := by
     intro a
     rcases a with a | a
     ·omega
     ·rcases a.2 with b | b
      ·omega
      ·apply b
       rw [show i + 1 - 1 = i by omega, e1]; exact z.1
    have e2 : za8 m (i + 1) = zab m (i + 1) := by unfold za8; rw [if_neg na]
    rw [zav _ _ hn.1, e2]
    refine .inr (.inl ⟨z.1, z.2.1, hn.1, hn.2, ?_⟩)
    rcases h (i + 1) (by omega) with e3 | e3
    ·rw [e3]; exact z.2.2.2.2
    ·omega
   ·rw [e1] at q' ⊢
    have hp : (zab m (i - 1)).f2 = 1 := Decidable.byContradiction fun c => q' (.inr ⟨z.1, .inr c⟩)
    have na : ¬ zbb m (i - 1) := by
     intro a
     rcases a with a | a
     ·rcases a.2 with b | b
      ·omega
      ·apply b
       rw [show i - 1 + 1 = i by omega, e1]; exact z.1
     ·omega
    have e2 : za8 m (i - 1) = zab m (i - 1) := by unfold za8; rw [if_neg na]
    have hm1 : i - 1 < m.length := by omega
    exact .inr (.inr ⟨z.1, z.2.1, z.2.2.1, by rw [zav _ _ hm1, e2]; exact hp⟩)
  ·exact .inl ⟨e1.1, e1.2.2⟩
theorem not_alone {l : List S48} (hl : zai l) (i : Nat) (hi : i < l.length) : ¬ zbb l i := by
 intro a
 rcases (hl.2.2 i hi).2 with z | z | z
 ·rcases a with a | a <;> omega
 ·rcases a with a | a
  ·rcases a.2 with b | b
   ·omega
   ·exact b z.2.2.2.1
  ·omega
 ·rcases a with a | a
  ·omega
  ·rcases a.2 with b | b
   ·omega
   ·exact b z.2.2.2
theorem mended_self {l : List S48} (hl : zai l) : zay l = l := by
 refine zbs (zak l) (fun i hi => ?_)
 rw [zak] at hi
 rw [zav _ _ hi]
 unfold za8
 rw [if_neg (not_alone hl i hi)]
def zaz (l : List S48) (a b : Nat) (s : S37) : List S48 := zay (zau l a b (blk s))
theorem zaq (l : List S48) (a b : Nat) (s : S37) (h : a ≤ b) (hb : b ≤ l.length) : (zaz l a b s).length = l.length := by
 unfold zaz; rw [zak, zaj _ _ _ _ h hb]
theorem zbg {l : List S48} (hl : zai l) (a b : Nat) (s : S37) (hs : zbx s.f0 s.f1 = true) (h : a ≤ b) (hb : b ≤ l.length) : zai (zaz l a b s) := by
 refine mended_right hl (zaj _ _ _ _ h hb) (fun i hi => ?_)
 rw [zas _ _ _ _ h hb]
 by_cases q : a ≤ i ∧ i < b
 ·rw [if_pos q]; exact .inr ⟨rfl, hs, wid32⟩
 ·rw [if_neg q]; exact .inl rfl
theorem zbr {l : List S48} (a b : Nat) (s : S37) (h : a ≤ b) (hb : b ≤ l.length) (i : Nat) (h1 : a ≤ i) (h2 : i < b) : zab (zaz l a b s) i = blk s := by
 have e : zab (zau l a b (blk s)) i = blk s := by rw [zas _ _ _ _ h hb, if_pos ⟨h1, h2⟩]
 unfold zaz
 rw [zav _ _ (by rw [zaj _ _ _ _ h hb]; omega)]
 unfold za8
 rw [e, if_neg]
 intro q
 have z : (zab (zau l a b (blk s)) i).f2 = 0 := by rw [e]; rfl
 rcases q with q | q <;> omega
theorem zck {l : List S48} (hl : zai l) (a b : Nat) (s : S37) (h : a ≤ b) (hb : b ≤ l.length) (i : Nat) (hi : i < l.length) (ho : i + 1 < a ∨ b < i) : zab (zaz l a b s) i = zab l i := by
 have e : ∀ j, ¬ (a ≤ j ∧ j < b) → zab (zau l a b (blk s)) j = zab l j := fun j hj => by rw [zas _ _ _ _ h hb, if_neg hj]
 unfold zaz
 rw [zav _ _ (by rw [zaj _ _ _ _ h hb]; exact hi)]
 unfold za8
 rw [if_neg, e i (by omega)]
 intro q
 apply not_alone hl i hi
 have q' : ((zab (zau l a b (blk s)) i).f2 = 1 ∧ (i + 1 = (zau l a b (blk s)).length ∨ (zab (zau l a b (blk s)) (i + 1)).f2 ≠ 2)) ∨ ((zab (zau l a b (blk s)) i).f2 = 2 ∧ (i = 0 ∨ (zab (zau l a b (blk s)) (i - 1)).f2 ≠ 1)) := q
 rw [e i (by omega), e (i + 1) (by omega), e (i - 1) (by omega), zaj _ _ _ _ h hb] at q'
 exact q'
theorem fillv_same {y : List S48} (a b : Nat) (c : S48) (h : a ≤ b) (hb : b ≤ y.length) (hc : ∀ i, a ≤ i → i < b → zab y i = c) : zau y a b c = y := by
 refine zbs (zaj _ _ _ _ h hb) (fun i hi => ?_)
 rw [zas _ _ _ _ h hb]
 by_cases q : a ≤ i ∧ i < b
 ·rw [if_pos q, hc i q.1 q.2]
 ·rw [if_neg q]
theorem zbq {l : List S48} (hl : zai l) (a b : Nat) (s : S37) (hs : zbx s.f0 s.f1 = true) (h : a ≤ b) (hb : b ≤ l.length) : zaz (zaz l a b s) a b s = zaz l a b s := by
 have hy := zbg hl a b s hs h hb
 have hn := zaq l a b s h hb
 show zay (zau (zaz l a b s) a b (blk s)) = zaz l a b s
 rw [fillv_same a b (blk s) h (by omega) (fun i h1 h2 => zbr a b s h hb i h1 h2)]
 exact mended_self hy
theorem right_one {y : List S48} (hy : zai y) (a : Nat) (ha : a < y.length) (r : Int) (s : S37) (hs : zbx s.f0 s.f1 = true) (hr : wid r = 1) (h0 : (zab y a).f2 = 0) : zai (y.set a ⟨r, s, 0⟩) := by
 have cs : ∀ i, zab (y.set a ⟨r, s, 0⟩) i = if i = a then ⟨r, s, 0⟩ else zab y i := fun i => zap y a i _ ha
 refine ⟨by rw [List.length_set]; exact hy.1, by rw [List.length_set]; exact hy.2.1, fun i hi => ?_⟩
 rw [List.length_set] at hi
 have hc := hy.2.2 i hi
 unfold zbk at hc ⊢
 rw [List.length_set]
 by_cases q : i = a
 ·have e := cs i
  rw [if_pos q] at e
  rw [e]
  exact ⟨hs, .inl ⟨rfl, hr⟩⟩
 ·have e := cs i
  rw [if_neg q] at e
  rw [e]
  refine ⟨hc.1, ?_⟩
  rcases hc.2 with z | z | z
  ·exact .inl z
  ·have e1 := cs (i + 1)
   have ne : ¬ (i + 1 = a) := fun c => by have := z.2.2.2.1; rw [c] at this; omega
   rw [if_neg ne] at e1
   rw [e1]
   exact .inr (.inl z)
  ·have e1 := cs (i - 1)
   have ne : ¬ (i - 1 = a) := fun c => by have := z.2.2.2; rw [c] at this; omega
   rw [if_neg ne] at e1
   rw [e1]
   exact .inr (.inr z)
theorem right_two {y : List S48} (hy : zai y) (a : Nat) (ha : a + 1 < y.length) (r : Int) (s : S37) (hs : zbx s.f0 s.f1 = true) (hr : wid r = 2) (h0 : (zab y a).f2 = 0) (h1 : (zab y (a + 1)).f2 = 0) : zai ((y.set a ⟨r, s, 1⟩).set (a + 1) ⟨0, s, 2⟩) := by
 have cs : ∀ i, zab ((y.set a ⟨r, s, 1⟩).set (a + 1) ⟨0, s, 2⟩) i = if i = a + 1 then ⟨0, s, 2⟩ else if i = a then ⟨r, s, 1⟩ else zab y i := fun i => by
  rw [zap _ _ _ _ (by rw [List.length_set]; omega), zap _ _ _ _ (by omega)]
 have len : ((y.set a ⟨r, s, 1⟩).set (a + 1) ⟨0, s, 2⟩).length = y.length := by rw [List.length_set, List.length_set]
 refine ⟨by rw [len]; exact hy.1, by rw [len]; exact hy.2.1, fun i hi => ?_⟩
 rw [len] at hi
 have hc := hy.2.2 i hi
 unfold zbk at hc ⊢
 rw [len]
 by_cases q1 : i = a + 1
 ·have e := cs i
  have e2 := cs (i - 1)
  rw [if_pos q1] at e
  rw [if_neg (by omega), if_pos (by omega)] at e2
  rw [e, e2]
  exact ⟨hs, .inr (.inr ⟨rfl, rfl, by omega, rfl⟩)⟩
 by_cases q : i = a
 ·have e := cs i
  have e2 := cs (i + 1)
  rw [if_neg q1, if_pos q] at e
  rw [if_pos (by omega)] at e2
  rw [e, e2]
  exact ⟨hs, .inr (.inl ⟨rfl, hr, by omega, rfl, rfl⟩)⟩
 ·have e := cs i
  rw [if_neg q1, if_neg q] at e
  rw [e]
  refine ⟨hc.1, ?_⟩
  rcases hc.2 with z | z | z
  ·exact .inl z
  ·have e1 := cs (i + 1)
   have ne : ¬ (i + 1 = a) := fun c => by have := z.2.2.2.1; rw [c] at this; omega
   rw [if_neg (by omega), if_neg ne] at e1
   rw [e1]
   exact .inr (.inl z)
  ·have e1 := cs (i - 1)
   have ne : ¬ (i - 1 = a + 1) := fun c => by have := z.2.2.2; rw [c] at this; omega
   rw [if_neg ne, if_neg (by omega)] at e1
   rw [e1]
   exact .inr (.inr z)
theorem zcp {l : List S48} (hl : zai l) (a : Nat) (r : Int) (s : S37) (hs : zbx s.f0 s.f1 = true) (h0 : wid r = 1 ∨ wid r = 2) (ha : (a : Int) + wid r ≤ (l.length : Int)) : zai (zah l a r s) := by
 unfold zah
 rcases h0 with h0 | h0
 ·rw [if_neg (by omega)]
  have hy := zbg hl a (a + 1) s hs (by omega) (by omega)
  have hn := zaq l a (a + 1) s (by omega) (by omega)
  have hc := zbr (l := l) a (a + 1) s (by omega) (by omega) a (by omega) (by omega)
  exact right_one hy a (by omega) r s hs h0 (by rw [hc]; rfl)
 ·rw [if_pos h0]
  have hy := zbg hl a (a + 2) s hs (by omega) (by omega)
  have hn := zaq l a (a + 2) s (by omega) (by omega)
  have hc := zbr (l := l) a (a + 2) s (by omega) (by omega) a (by omega) (by omega)
  have hd := zbr (l := l) a (a + 2) s (by omega) (by omega) (a + 1) (by omega) (by omega)
  exact right_two hy a (by omega) r s hs h0 (by rw [hc]; rfl) (by rw [hd]; rfl)
theorem written_at {l : List S48} (a : Nat) (r : Int) (s : S37) (h0 : wid r = 1 ∨ wid r = 2) (ha : (a : Int) + wid r ≤ (l.length : Int)) : (zab (zah l a r s) a).f0 = r ∧ (zab (zah l a r s) a).f1 = s := by
 unfold zah
 rcases h0 with h0 | h0
 ·rw [if_neg (by omega)]
  have hn := zaq l a (a + 1) s (by omega) (by omega)
  unfold zaz at hn
  rw [zap _ _ _ _ (by omega), if_pos rfl]
  exact ⟨rfl, rfl⟩
 ·rw [if_pos h0]
  have hn := zaq l a (a + 2) s (by omega) (by omega)
  unfold zaz at hn
  rw [zap _ _ _ _ (by rw [List.length_set]; omega), if_neg (by omega), zap _ _ _ _ (by omega), if_pos rfl]
  exact ⟨rfl, rfl⟩
theorem written_out {l : List S48} (hl : zai l) (a : Nat) (r : Int) (s : S37) (h0 : wid r = 1 ∨ wid r = 2) (ha : (a : Int) + wid r ≤ (l.length : Int)) (i : Nat) (hi : i < l.length) (ho : i + 1 < a ∨ (a : Int) + wid r < (i : Int)) : zab (zah l a r s) i = zab l i := by
 unfold zah
 rcases h0 with h0 | h0
 ·rw [if_neg (by omega)]
  have hn := zaq l a (a + 1) s (by omega) (by omega)
  have hc := zck hl a (a + 1) s (by omega) (by omega) i hi (by omega)
  unfold zaz at hn hc
  rw [zap _ _ _ _ (by omega), if_neg (by omega), hc]
 ·rw [if_pos h0]
  have hn := zaq l a (a + 2) s (by omega) (by omega)
  have hc := zck hl a (a + 2) s (by omega) (by omega) i hi (by omega)
  unfold zaz at hn hc
  rw [zap _ _ _ _ (by rw [List.length_set]; omega), if_neg (by omega), zap _ _ _ _ (by omega), if_neg (by omega), hc]
theorem zcj {y z : List S48} (a b : Nat) (c : S48) (h : a ≤ b) (hb : b ≤ y.length) (hz : z.length = y.length) (ho : ∀ i, ¬ (a ≤ i ∧ i < b) → zab z i = zab y i) : zau z a b c = zau y a b c := by
 refine zbs (by rw [zaj _ _ _ _ h (by omega), zaj _ _ _ _ h hb, hz]) (fun i hi => ?_)
 rw [zas _ _ _ _ h (by omega), zas _ _ _ _ h hb]
 by_cases q : a ≤ i ∧ i < b
 ·rw [if_pos q, if_pos q]
 ·rw [if_neg q, if_neg q, ho i q]
theorem zco {l : List S48} (hl : zai l) (a : Nat) (r : Int) (s : S37) (hs : zbx s.f0 s.f1 = true) (h0 : wid r = 1 ∨ wid r = 2) (ha : (a : Int) + wid r ≤ (l.length : Int)) : zah (zah l a r s) a r s = zah l a r s := by
 rcases h0 with h0 | h0
 ·have hn := zaq l a (a + 1) s (by omega) (by omega)
  have ht := zbq hl a (a + 1) s hs (by omega) (by omega)
  have e : zah l a r s = (zaz l a (a + 1) s).set a ⟨r, s, 0⟩ := by unfold zah; rw [if_neg (by omega)]; rfl
  have f : zau (zah l a r s) a (a + 1) (blk s) = zau (zaz l a (a + 1) s) a (a + 1) (blk s) := by
   refine zcj a (a + 1) _ (by omega) (by omega) (by rw [e, List.length_set]) (fun i q => ?_)
   rw [e, zap _ _ _ _ (by omega), if_neg (by omega)]
  have u : ∀ z : List S48, zah z a r s = (zay (zau z a (a + 1) (blk s))).set a ⟨r, s, 0⟩ := fun z => by unfold zah; rw [if_neg (by omega)]
  rw [u (zah l a r s), f]
  show (zaz (zaz l a (a + 1) s) a (a + 1) s).set a ⟨r, s, 0⟩ = _
  rw [ht, e]
 ·have hn := zaq l a (a + 2) s (by omega) (by omega)
  have ht := zbq hl a (a + 2) s hs (by omega) (by omega)
  have e : zah l a r s = ((zaz l a (a + 2) s).set a ⟨r, s, 1⟩).set (a + 1) ⟨0, s, 2⟩ := by unfold zah; rw [if_pos h0]; rfl
  have f : zau (zah l a r s) a (a + 2) (blk s) = zau (zaz l a (a + 2) s) a (a + 2) (blk s) := by
   refine zcj a (a + 2) _ (by omega) (by omega) (by rw [e, List.length_set, List.length_set]) (fun i q => ?_)
   rw [e, zap _ _ _ _ (by rw [List.length_set]; omega), if_neg (by omega), zap _ _ _ _ (by omega), if_neg (by omega)]
  have u : ∀ z : List S48, zah z a r s = ((zay (zau z a (a + 2) (blk s))).set a ⟨r, s, 1⟩).set (a + 1) ⟨0, s, 2⟩ := fun z => by unfold zah; rw [if_pos h0]
  rw [u (zah l a r s), f]
  show ((zaz (zaz l a (a + 2) s) a (a + 2) s).set a ⟨r, s, 1⟩).set (a + 1) ⟨0, s, 2⟩ = _
  rw [ht, e]
theorem zcc (n : Nat) (s : S37) (hs : zbx s.f0 s.f1 = true) (h1 : 1 ≤ n) (h2 : n ≤ 60) : zai (List.replicate n (blk s)) := by
 refine ⟨by simpa using h1, by simpa using h2, fun i hi => ?_⟩
 rw [List.length_replicate] at hi
 have e : zab (List.replicate n (blk s)) i = blk s := by rw [zbt (by simpa using hi)]; simp
 unfold zbk
 rw [e]
 exact ⟨hs, .inl ⟨rfl, wid32⟩⟩
theorem blank_text (n : Nat) (s : S37) (hs : zbx s.f0 s.f1 = true) (h1 : 1 ≤ n) (h2 : n ≤ 60) : Ev (fun k => impl_RowText.f k (List.replicate n (blk s))) (⟨#[]⟩ : ByteArray) := by
 have h := zcc n s hs h1 h2
 have hl : (List.replicate n (blk s)).length = n := List.length_replicate
 have hc : ∀ i, i < n → (zab (List.replicate n (blk s)) i).f0 = 32 := by
  intro i hi
  rw [zbt (by rw [hl]; exact hi)]; simp [blk]
 obtain ⟨b2, e2, hb2⟩ := zam (List.replicate n (blk s)) (by omega)
 obtain rfl : b2 = true := hb2.mpr h
 have e4 := zch _ h (List.replicate n (blk s)).length 0 (by omega)
 rw [trim_is h 0 (by omega) (fun i _ hi => hc i (by omega)) (fun z => by omega)] at e4
 unfold impl_RowText.f
 exact Ev.bind e2 (zaa rfl e4)

theorem zcn (l : List S48) (a b : Int) (s0 s1 : Int) (s2 s3 s4 : Bool) (hl : l.length ≤ 1048576) :
  ∃ r : List S48, r.length ≤ 60 ∧ Ev (fun k => spec_Cleared.f k l a b s0 s1 s2 s3 s4) r ∧ Ev (fun k => impl_Cleared.f k l a b s0 s1 s2 s3 s4) r ∧
   (r = [] ∨ ∃ x y : Nat, a = (x : Int) ∧ b = (y : Int) ∧ zai l ∧ zbx s0 s1 = true ∧ x ≤ y ∧ y ≤ l.length ∧ r = zay (zau l x y (blk ⟨s0, s1, s2, s3, s4⟩))) := by
 obtain ⟨b1, e1, hb1⟩ := za6 l
 obtain ⟨b2, e2, hb2⟩ := zam l hl
 obtain rfl : b1 = b2 := Bool.eq_iff_iff.mpr (hb1.trans hb2.symm)
 have none_ : Ev (fun k => impl_Cleared.j0 k l a b true s0 s1 s2 s3 s4) [] := by
  refine zaf ?_
  simp only [impl_Cleared.j0]
  exact zaa (by trivial) (Ev.now _)
 by_cases c1 : b1 = true
 case neg => exact ⟨[], by simp, Ev.bind e1 (zac c1 (Ev.now _)), Ev.bind e2 (zac c1 none_), .inl rfl⟩
 have hr := hb1.mp c1
 by_cases c2 : zbx s0 s1 = true
 case neg =>
  refine ⟨[], by simp, Ev.bind e1 (zaa c1 ?_), Ev.bind e2 (zaa c1 ?_), .inl rfl⟩
  ·simp only [zag, Option.bind_some]; exact zac c2 (Ev.now _)
  ·simp only [zal, Option.bind_some]; exact zac c2 none_
 by_cases c3 : 0 ≤ a ∧ a ≤ b ∧ b ≤ (l.length : Int)
 ·obtain ⟨h0, h1, h2⟩ := c3
  obtain ⟨x, rfl⟩ := Int.eq_ofNat_of_zero_le h0
  obtain ⟨y, rfl⟩ := Int.eq_ofNat_of_zero_le (show 0 ≤ b by omega)
  have h60 := hr.2.1
  refine ⟨zay (zau l x y (blk ⟨s0, s1, s2, s3, s4⟩)), by rw [zak, zaj _ _ _ _ (by omega) (by omega)]; exact h60, Ev.bind e1 (zaa c1 ?_), Ev.bind e2 (zaa c1 ?_), .inr ⟨x, y, rfl, rfl, hr, c2, by omega, by omega, rfl⟩⟩
  ·simp only [zag, zar, Option.bind_some]
   exact zaa c2 (zaa (by simp; omega) (zac (by omega) (Ev.bind (za9 l x y s0 s1 s2 s3 s4 (by omega) (by omega) (by omega)) (Ev.now _))))
  ·have sp : impl_isSpan.f l (x : Int) (y : Int) = some true := by
    unfold impl_isSpan.f
    rw [if_pos h0, if_pos h1, decide_eq_true h2]
   have cl : impl_Cell_44.f l = some l := by
    simp only [impl_Cell_44.f, Option.bind_some, List.nil_append]
    rw [if_pos (by simp; omega)]
   simp only [zal, sp, Option.bind_some]
   refine zaa c2 (zaf ?_)
   simp only [impl_Cleared.j0, cl, Option.bind_some]
   refine zac (by simp) (za3 (Ev.bind (za0 l x y s0 s1 s2 s3 s4 (by omega) (by omega) (by omega)) (Ev.now _)) ?_)
   exact zca l hr x y _ (by omega) (by omega)
 ·refine ⟨[], by simp, Ev.bind e1 (zaa c1 ?_), Ev.bind e2 (zaa c1 ?_), .inl rfl⟩
  ·simp only [zag, zar, Option.bind_some]
   refine zaa c2 ?_
   by_cases q : (decide (0 ≤ a) && decide (a ≤ b)) = true
   ·refine zaa q (zaa ?_ (Ev.now _))
    simp at q; omega
   ·exact zac q (Ev.now _)
  ·have sp : impl_isSpan.f l a b = some false := by
    unfold impl_isSpan.f
    by_cases q0 : 0 ≤ a
    ·by_cases q1 : a ≤ b
     ·rw [if_pos q0, if_pos q1, decide_eq_false (by omega)]
     ·rw [if_pos q0, if_neg q1]
    ·rw [if_neg q0]
   simp only [zal, sp, Option.bind_some]
   exact zaa c2 none_
theorem cell_self (x : S48) : (!(x.f0 == x.f0) || ((!(x.f1.f0 == x.f1.f0) || (!(x.f1.f1 == x.f1.f1) || (!(x.f1.f2 == x.f1.f2) || (!(x.f1.f3 == x.f1.f3) || (!(x.f1.f4 == x.f1.f4)))))) || (!(x.f2 == x.f2)))) = false := by simp
theorem za2 (l : List S48) (hl : l.length < 1000000000) : Ev (fun k => laws_likeRow.f k l l) true := by
 have go : ∀ (d i : Nat), i + d = l.length → Ev (fun k => laws_likeRow.l0 k l l (i : Int)) true := by
  intro d
  induction d with
  | zero =>
   intro i h
   refine zaf ?_
   simp only [laws_likeRow.l0]
   exact zac (by omega) (Ev.now _)
  | succ d ih =>
   intro i h
   refine zaf ?_
   simp only [laws_likeRow.l0, w64 (x := (i : Int) + 1) (by omega) (by omega)]
   exact zaa (by omega) (zaa (by omega) (zaa (by omega) (zac (by rw [cell_self]; simp) (ih (i + 1) (by omega)))))
 unfold laws_likeRow.f
 exact zaa rfl (go l.length 0 (by omega))
theorem RowText_evs (l : List S48) (hl : l.length ≤ 1048576) : ∃ v, Ev (fun k => spec_RowText.f k l) v ∧ Ev (fun k => impl_RowText.f k l) v := by
 obtain ⟨b1, e1, hb1⟩ := za6 l
 obtain ⟨b2, e2, hb2⟩ := zam l hl
 obtain rfl : b1 = b2 := Bool.eq_iff_iff.mpr (hb1.trans hb2.symm)
 unfold spec_RowText.f impl_RowText.f
 cases b1 with
 | false => exact ⟨_, Ev.bind e1 (zac (by simp) (Ev.now _)), Ev.bind e2 (zac (by simp) (Ev.now _))⟩
 | true =>
  have h := hb1.mp rfl
  obtain ⟨q, hq, e3, h1, h2⟩ := zcg l h.2.1 l.length (by omega)
  have e4 := zch l h l.length 0 (by omega)
  rw [trim_is h q hq h1 h2] at e4
  have he : (⟨(bts (zbi l q)).toArray⟩ : ByteArray) = strOfNums (encs (zbi l q)) := by
   refine ByteArray.ext (Array.toList_inj.mp ?_)
   rw [encs_bts _ (zcq h q hq)]
  rw [he] at e4
  exact ⟨_, Ev.bind e1 (zaa rfl (Ev.bind e3 (Ev.now _))), Ev.bind e2 (zaa rfl e4)⟩

theorem ev_unique {α : Type} {g : Nat → Option α} {a b : α} (h1 : Ev g a) (h2 : Ev g b) : a = b := by
 obtain ⟨K, h1⟩ := h1
 obtain ⟨L, h2⟩ := h2
 exact Option.some.inj ((h1 (K + L) (by omega)).symm.trans (h2 (K + L) (by omega)))
theorem no_bytes : ((⟨#[]⟩ : ByteArray).toList != ([] : List UInt8)) = false := by first | rfl | decide | (unfold ByteArray.toList ByteArray.toList.loop; rw [if_neg (by decide)]; rfl)

theorem rows_l1 (row x : List S48) (a : Nat) (r : Int) (s0 s1 : Int) (s2 s3 s4 : Bool) (hr : zai row) (h0 : wid r = 1 ∨ wid r = 2) (hs : zbx s0 s1 = true) (ha : (a : Int) + wid r ≤ (row.length : Int)) (hx : x = zah row a r ⟨s0, s1, s2, s3, s4⟩) :
  ∀ (d i : Nat), i + d = x.length → Ev (fun k => laws_FnRows.l1 k row (a : Int) r x (wid r) (i : Int) s0 s1 s2 s3 s4) true := by
 have h60 := hr.2.1
 have hlen : x.length = row.length := by rw [hx]; exact zba _ _ _ _ (by omega) (fun q => by omega)
 have hxr : zai x := by rw [hx]; exact zcp hr a r _ hs h0 ha
 have ws : ∀ _ : Unit, wrap64 ((a : Int) - 1) = (a : Int) - 1 := fun _ => w64 (by omega) (by omega)
 have wp : ∀ _ : Unit, wrap64 ((a : Int) + wid r) = (a : Int) + wid r := fun _ => w64 (by omega) (by omega)
 intro d
 induction d with
 | zero =>
  intro i h
  obtain ⟨b2, e2, hb2⟩ := zam x (by omega)
  obtain rfl : b2 = true := hb2.mpr hxr
  have hat := written_at (l := row) a r ⟨s0, s1, s2, s3, s4⟩ h0 ha
  rw [← hx] at hat
  have h0' : (rd_T48 x (a : Int)).f0 = r := hat.1
  have h1' : (rd_T48 x (a : Int)).f1 = ⟨s0, s1, s2, s3, s4⟩ := hat.2
  obtain ⟨v, hv, _, ev2, hv3⟩ := zcm x (a : Int) r s0 s1 s2 s3 s4 (by omega)
  have hve : v = x := by
   have tw := zco hr a r ⟨s0, s1, s2, s3, s4⟩ hs h0 ha
   rw [← hx] at tw
   rcases hv3 with e | ⟨y, ey, _, _, _, _, e⟩
   ·have full : ∃ z, Ev (fun k => impl_Written.f k x (a : Int) r s0 s1 s2 s3 s4) z ∧ z = x := by
     have hw := wid_range r
     obtain ⟨b3, e3, hb3⟩ := zam x (by omega)
     obtain rfl : b3 = true := hb3.mpr hxr
     have wl : wrap64 ((x.length : Int) - wid r) = (x.length : Int) - wid r := w64 (by omega) (by omega)
     have c3 : (decide (0 ≤ (a : Int)) && decide ((a : Int) ≤ (x.length : Int) - wid r)) = true := by simp; omega
     have cl : impl_Cell_44.f x = some x := by
      simp only [impl_Cell_44.f, Option.bind_some, List.nil_append]
      rw [if_pos (by simp; omega)]
     refine ⟨_, ?_, tw⟩
     unfold impl_Written.f
     refine Ev.bind (za7 r) (Ev.bind e3 (zaa rfl (zac (by omega) ?_)))
     simp only [zal, zaw, Option.bind_some, wl, c3]
     refine zaa hs (zaf ?_)
     simp only [impl_Written.j0, cl, Option.bind_some]
     exact zac (by simp) (Ev.bind (zb3 x hxr a r s0 s1 s2 s3 s4 h0 (by omega)) (Ev.now _))
    obtain ⟨z, ez, rfl⟩ := full
    exact ev_unique ev2 ez
   ·obtain rfl : a = y := by omega
    rw [e, tw]
  rw [hve] at ev2
  clear hv3 hve hv
  have elk := za2 x (by omega)
  refine zaf ?_
  simp only [laws_FnRows.l1]
  refine zac (by omega) (Ev.bind e2 (zaa rfl (zaa (by omega) (zaa (by omega) (zaa (by omega) (zaa h0' (zaa ?_ (Ev.bind ev2 (Ev.bind elk (Ev.now _))))))))))
  rw [h1']; simp
 | succ d ih =>
  intro i h
  have wi : ∀ _ : Unit, wrap64 ((i : Int) + 1) = ((i + 1 : Nat) : Int) := fun _ => by rw [w64 (by omega) (by omega)]; omega
  have e := ih (i + 1) (by omega)
  have jf : Ev (fun k => laws_FnRows.j5 k row (a : Int) r x (wid r) (i : Int) false s0 s1 s2 s3 s4) true := by
   refine zaf ?_
   simp only [laws_FnRows.j5, wi ()]
   exact zac (by simp) e
  have jt : (i + 1 < a ∨ (a : Int) + wid r < (i : Int)) → Ev (fun k => laws_FnRows.j5 k row (a : Int) r x (wid r) (i : Int) true s0 s1 s2 s3 s4) true := by
   intro ho
   have hc := written_out hr a r ⟨s0, s1, s2, s3, s4⟩ h0 ha i (by omega) ho
   rw [← hx] at hc
   have hc' : rd_T48 x (i : Int) = rd_T48 row (i : Int) := hc
   refine zaf ?_
   simp only [laws_FnRows.j5, wi (), hc']
   exact zaa (by trivial) (zaa (by omega) (zaa (by omega) (zaa (by omega) (zac (by rw [cell_self]; simp) e))))
  refine zaf ?_
  simp only [laws_FnRows.l1, ws (), wp ()]
  refine zaa (by omega) ?_
  by_cases q : (i : Int) < (a : Int) - 1
  ·exact zaa q (jt (by omega))
  ·refine zac q ?_
   by_cases q2 : (i : Int) > (a : Int) + wid r
   ·rw [decide_eq_true q2]; exact jt (by omega)
   ·rw [decide_eq_false q2]; exact jf
theorem rows_j3 (row x : List S48) (a r : Int) (s0 s1 : Int) (s2 s3 s4 : Bool)
  (h : x = [] ∨ ∃ y : Nat, a = (y : Int) ∧ zai row ∧ (wid r = 1 ∨ wid r = 2) ∧ zbx s0 s1 = true ∧ (y : Int) + wid r ≤ (row.length : Int) ∧ x = zah row y r ⟨s0, s1, s2, s3, s4⟩) :
  Ev (fun k => laws_FnRows.j3 k row a r x s0 s1 s2 s3 s4) true := by
 refine zaf ?_
 simp only [laws_FnRows.j3]
 by_cases q : (x.length : Int) = 0
 ·exact zaa q (Ev.now _)
 ·refine zac q (Ev.bind (zan r) ?_)
  rcases h with rfl | ⟨y, rfl, hr, h0, hs, ha, hx⟩
  ·exact absurd rfl q
  ·exact rows_l1 row x y r s0 s1 s2 s3 s4 hr h0 hs ha hx x.length 0 (by omega)
theorem rows_l0 (row x c y : List S48) (a r : Int) (s0 s1 : Int) (s2 s3 s4 : Bool) (f t : Nat) (z0 z1 : Int) (z2 z3 z4 : Bool)
  (hj : Ev (fun k => laws_FnRows.j3 k row a r x s0 s1 s2 s3 s4) true)
  (hr : zai c) (hs : zbx z0 z1 = true) (hft : f ≤ t) (ht : t ≤ c.length) (hy : y = zay (zau c f t (blk ⟨z0, z1, z2, z3, z4⟩))) :
  ∀ (d i : Nat), i + d = t → f ≤ i → Ev (fun k => laws_FnRows.l0 k row a r x c (f : Int) (t : Int) y (i : Int) s0 s1 s2 s3 s4 z0 z1 z2 z3 z4) true := by
 have h60 := hr.2.1
 have hlen : y.length = c.length := by rw [hy]; exact zaq _ _ _ _ hft ht
 have hyr : zai y := by rw [hy]; exact zbg hr f t _ hs hft ht
 intro d
 induction d with
 | zero =>
  intro i h hi
  obtain ⟨b2, e2, hb2⟩ := zam y (by omega)
  obtain rfl : b2 = true := hb2.mpr hyr
  have tw : zay (zau y f t (blk ⟨z0, z1, z2, z3, z4⟩)) = y := by
   have := zbq hr f t ⟨z0, z1, z2, z3, z4⟩ hs hft ht
   unfold zaz at this
   rw [← hy] at this
   exact this
  obtain ⟨v, hv, _, ev2, hv3⟩ := zcn y (f : Int) (t : Int) z0 z1 z2 z3 z4 (by omega)
  have hve : v = y := by
   rcases hv3 with e | ⟨p, q, ep, eq, _, _, _, _, e⟩
   ·have full : ∃ z, Ev (fun k => impl_Cleared.f k y (f : Int) (t : Int) z0 z1 z2 z3 z4) z ∧ z = y := by
     obtain ⟨b3, e3, hb3⟩ := zam y (by omega)
     obtain rfl : b3 = true := hb3.mpr hyr
     have sp : impl_isSpan.f y (f : Int) (t : Int) = some true := by
      unfold impl_isSpan.f
      rw [if_pos (by omega), if_pos (by omega), decide_eq_true (by omega)]
     have cl : impl_Cell_44.f y = some y := by
      simp only [impl_Cell_44.f, Option.bind_some, List.nil_append]
      rw [if_pos (by simp; omega)]
     refine ⟨_, ?_, tw⟩
     unfold impl_Cleared.f
     refine Ev.bind e3 (zaa rfl ?_)
     simp only [zal, sp, Option.bind_some]
     refine zaa hs (zaf ?_)
     simp only [impl_Cleared.j0, cl, Option.bind_some]
     refine zac (by simp) (za3 (Ev.bind (za0 y f t z0 z1 z2 z3 z4 (by omega) (by omega) (by omega)) (Ev.now _)) ?_)
     exact zca y hyr f t _ (by omega) (by omega)
    obtain ⟨z, ez, rfl⟩ := full
    exact ev_unique ev2 ez
   ·obtain rfl : f = p := by omega
    obtain rfl : t = q := by omega
    rw [e, tw]
  rw [hve] at ev2
  clear hv3 hve hv
  have elk := za2 y (by omega)
  refine zaf ?_
  simp only [laws_FnRows.l0]
  exact zac (by omega) (Ev.bind e2 (zaa rfl (zaa (by omega) (Ev.bind ev2 (Ev.bind elk (zaa rfl hj))))))
 | succ d ih =>
  intro i h hi
  have wi : ∀ _ : Unit, wrap64 ((i : Int) + 1) = ((i + 1 : Nat) : Int) := fun _ => by rw [w64 (by omega) (by omega)]; omega
  have hc : zab y i = blk ⟨z0, z1, z2, z3, z4⟩ := by rw [hy]; exact zbr f t _ hft ht i hi (by omega)
  have hc' : rd_T48 y (i : Int) = blk ⟨z0, z1, z2, z3, z4⟩ := hc
  refine zaf ?_
  simp only [laws_FnRows.l0, wi (), hc']
  exact zaa (by omega) (zaa (by omega) (zaa (by omega) (zac (by simp [blk]) (ih (i + 1) (by omega) (by omega)))))
theorem FnRows : laws_FnRows.Pure := by
 intro l _ hl _
 refine Ev.rounds ?_
 unfold laws_FnRows.f laws_big.f
 refine zad rfl ?_
 by_cases hb : (l.length : Int) > 4096
 ·exact zaa (by simpa using hb) (Ev.now _)
 refine zac (by simpa using hb) ?_
 have hl2 : l.length < 4611686018427387904 := by omega
 obtain ⟨row, a, r, s0, s1, s2, s3, s4, ed1, hrow⟩ := zbn l hl2
 obtain ⟨c, f, t, z0, z1, z2, z3, z4, ed2, hcl⟩ := zbo l hl2
 obtain ⟨n, w0, w1, w2, w3, w4, ed3⟩ := zb0 l hl2
 obtain ⟨x, hx60, es1, ei1, hx⟩ := zcm row a r s0 s1 s2 s3 s4 (by omega)
 obtain ⟨y, hy60, es2, ei2, hy⟩ := zcn c f t z0 z1 z2 z3 z4 (by omega)
 have es3 := zcs n w0 w1 w2 w3 w4
 have ei3 := zct n w0 w1 w2 w3 w4
 have hbl := zce n ⟨w0, w1, w2, w3, w4⟩
 obtain ⟨b1, er1, hb1⟩ := za6 row
 obtain ⟨b2, er2, hb2⟩ := zam row (by omega)
 obtain rfl : b1 = b2 := Bool.eq_iff_iff.mpr (hb1.trans hb2.symm)
 obtain ⟨v, et1, et2⟩ := RowText_evs row (by omega)
 have hj3 := rows_j3 row x a r s0 s1 s2 s3 s4 hx
 have hj1 : Ev (fun k => laws_FnRows.j1 k row a r x c f t y false s0 s1 s2 s3 s4 z0 z1 z2 z3 z4) true := by
  refine zaf ?_
  simp only [laws_FnRows.j1]
  refine zac (by simp) ?_
  by_cases q : (y.length : Int) > 0
  ·refine zaa q ?_
   rcases hy with rfl | ⟨p, u, rfl, rfl, hr, hs, hpu, huc, hye⟩
   ·exact absurd q (by simp)
   ·exact rows_l0 row x c y a r s0 s1 s2 s3 s4 p u z0 z1 z2 z3 z4 hj3 hr hs hpu huc hye (u - p) p (by omega) (by omega)
  ·exact zac q hj3
 have hj0 : Ev (fun k => laws_FnRows.j0 k row a r x c f t y (za4 n ⟨w0, w1, w2, w3, w4⟩) false s0 s1 s2 s3 s4 z0 z1 z2 z3 z4) true := by
  refine zaf ?_
  simp only [laws_FnRows.j0]
  refine zac (by simp) ?_
  by_cases q : ((za4 n ⟨w0, w1, w2, w3, w4⟩).length : Int) > 0
  ·refine zaa q ?_
   have hq : (decide (1 ≤ n) && decide (n ≤ 60)) = true ∧ zbx w0 w1 = true := by
    refine Decidable.byContradiction fun z => ?_
    unfold za4 at q
    rw [if_neg z] at q
    simp at q
   have he : za4 n ⟨w0, w1, w2, w3, w4⟩ = List.replicate n.toNat (blk ⟨w0, w1, w2, w3, w4⟩) := by unfold za4; rw [if_pos hq]
   have hn := hq.1
   simp only [Bool.and_eq_true, decide_eq_true_eq] at hn
   rw [he]
   have hbr := zcc n.toNat ⟨w0, w1, w2, w3, w4⟩ hq.2 (by omega) (by omega)
   obtain ⟨b3, e3, hb3⟩ := zam (List.replicate n.toNat (blk ⟨w0, w1, w2, w3, w4⟩)) (by rw [List.length_replicate]; omega)
   obtain rfl : b3 = true := hb3.mpr hbr
   refine Ev.bind e3 (zaa rfl (Ev.bind (blank_text n.toNat ⟨w0, w1, w2, w3, w4⟩ hq.2 (by omega) (by omega)) ?_))
   simp only [no_bytes]
   exact hj1
  ·exact zac q hj1
 refine Ev.bind ed1 (Ev.bind ei1 (Ev.bind ed2 (Ev.bind ei2 (Ev.bind ed3 (Ev.bind ei3 (Ev.bind es1 (Ev.bind (za2 x (by omega)) (zaa rfl (Ev.bind es2 (Ev.bind (za2 y (by omega)) (zaa rfl (Ev.bind es3 (Ev.bind (za2 _ (by omega)) (zaa rfl (Ev.bind er2 (Ev.bind er1 (zac (by simp) (Ev.bind et2 (Ev.bind et1 ?_)))))))))))))))))))
 simp only [bne_self_eq_false]
 exact hj0

end Go.Proofs.YtepeanpoicefdaaDoor.Pure
