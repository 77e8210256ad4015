/- The law FnKept answers true at every code: the last lines are there, as many as fit, each with its number, and a word is found where it stands. -/
import Derived.Test.YtalopdcephohgaaRAx19
import Derived.Lib.IndexMore
namespace Go.Proofs.Ytalopdcephohgaa.Pure
open Go.RowKit Go.Proofs.Ytalopdcephohgaa.RA Go.Proofs.YtalopdcephohgaaW.PrintWords Go.Proofs.YtalopdcephohgaaW.PrintLast
set_option linter.unusedVariables false
set_option linter.unusedSimpArgs false

theorem w64 {x : Int} (h0 : -9223372036854775808 ≤ x) (h1 : x ≤ 9223372036854775807) : wrap64 x = x := by unfold wrap64; omega
theorem zac {α : Type} {g : Nat → Option α} {r : α} (h : Ev (fun k => g (k + 1)) r) : Ev g r := by
 obtain ⟨K, h⟩ := h
 refine ⟨K + 1, fun k hk => ?_⟩
 obtain ⟨m, rfl⟩ : ∃ m, k = m + 1 := ⟨k - 1, by omega⟩
 exact h m (by omega)
theorem zav {α : Type} {g : Nat → Option α} {r s : α} (h : Ev g r) (e : r = s) : Ev g s := e ▸ h
theorem zaa {α : Type} {c : Prop} [Decidable c] {a b : Nat → Option α} {r : α} (hc : c) (h : Ev a r) : Ev (fun k => if c then a k else b k) r := by
 obtain ⟨K, h⟩ := h
 exact ⟨K, fun k hk => by show (if c then a k else b k) = some r; rw [if_pos hc]; exact h k hk⟩
theorem zad {α : Type} {c : Prop} [Decidable c] {a b : Nat → Option α} {r : α} (hc : ¬ c) (h : Ev b r) : Ev (fun k => if c then a k else b k) r := by
 obtain ⟨K, h⟩ := h
 exact ⟨K, fun k hk => by show (if c then a k else b k) = some r; rw [if_neg hc]; exact h k hk⟩
theorem zah {α β : Type} {a : α} {f : Nat → α → Option β} {r : β} (h : Ev (fun k => f k a) r) : Ev (fun k => (some a).bind (f k)) r := h
theorem zab {α β : Type} {x : Option α} {a : α} {f : Nat → α → Option β} {r : β} (hx : x = some a) (h : Ev (fun k => f k a) r) : Ev (fun k => x.bind (f k)) r := by
 subst hx; exact h

theorem rd_nat (l : List Int) (i : Nat) : rd l (i : Int) = l.getD i 0 := by simp [rd]
theorem rd_at {l : List Int} {i : Nat} (h : i < l.length) : rd l (i : Int) = l[i] := by rw [rd_nat, List.getD_eq_getElem?_getD, List.getElem?_eq_getElem h]; rfl
theorem zbi {α : Type} (d : α) {l : List α} {i : Nat} (h : i < l.length) : rdOf d l (i : Int) = l[i] := by
 unfold rdOf; rw [Int.toNat_natCast, List.getD_eq_getElem?_getD, List.getElem?_eq_getElem h]; rfl
theorem zaq (a b c : Int) : spec_l1In.f a b c = some (decide (b ≤ a) && decide (a ≤ c)) := by
 unfold spec_l1In.f
 by_cases h : a ≥ b
 ·rw [if_pos h]; simp [h]
 ·rw [if_neg h]; simp [show ¬ b ≤ a from h]

theorem zba (a b c : Int) : impl_in.f a b c = some (decide (b ≤ a) && decide (a ≤ c)) := by
 unfold impl_in.f
 by_cases h : b ≤ a
 ·rw [if_pos h]; simp [h]
 ·rw [if_neg h]; simp [h]

def za7 (a : Int) (l : List ByteArray) (c : Int) : Bool := (decide (1 ≤ a) && decide (a ≤ 200)) && decide ((l.length : Int) ≤ a) && (decide (0 ≤ c) && decide (c ≤ 1000000)) && l.all (fun s => decide (s.size ≤ 300))
theorem drop_all {α : Type} (p : α → Bool) (l : List α) (i : Nat) (h : i < l.length) : (l.drop i).all p = (p l[i] && (l.drop (i + 1)).all p) := by
 rw [List.drop_eq_getElem_cons h, List.all_cons]
theorem zak (a : Int) (l : List ByteArray) (c : Int) (hl : l.length ≤ 1048576) : Ev (fun k => spec_HistoryOk.f k a l c) (za7 a l c) := by
 have go : ∀ (d i : Nat), i + d = l.length → Ev (fun k => spec_HistoryOk.l0 k (i : Int) a l c) ((l.drop i).all (fun s => decide (s.size ≤ 300))) := by
  intro d
  induction d with
  | zero =>
   intro i h
   refine zac ?_
   simp only [spec_HistoryOk.l0]
   rw [List.drop_of_length_le (by omega)]
   exact zad (by omega) (Ev.now _)
  | succ d ih =>
   intro i h
   refine zac ?_
   simp only [spec_HistoryOk.l0, zbi ByteArray.empty (show i < l.length by omega), w64 (x := (i : Int) + 1) (by omega) (by omega)]
   refine zaa (by omega) (zaa (by omega) ?_)
   rw [drop_all _ _ _ (show i < l.length by omega)]
   by_cases e : (l[i].size : Int) > 300
   ·exact zaa e (zav (Ev.now _) (by rw [decide_eq_false (by omega)]; rfl))
   ·exact zad e (zav (ih (i + 1) (by omega)) (by rw [decide_eq_true (p := l[i].size ≤ 300) (by omega)]; rfl))
 have jt : Ev (fun k => spec_HistoryOk.j0 k true a l c) false := by
  refine zac ?_
  simp only [spec_HistoryOk.j0]
  exact zaa (by trivial) (Ev.now _)
 have jf : Ev (fun k => spec_HistoryOk.j0 k false a l c) (l.all (fun s => decide (s.size ≤ 300))) := by
  refine zac ?_
  simp only [spec_HistoryOk.j0]
  exact zad (by simp) (go l.length 0 (by omega))
 unfold spec_HistoryOk.f za7
 refine zab (zaq _ _ _) ?_
 cases e1 : (decide (1 ≤ a) && decide (a ≤ 200)) with
 | false => exact zad (by simp) (zav jt (by simp))
 | true =>
  refine zaa rfl ?_
  by_cases h2 : (l.length : Int) > a
  ·exact zaa h2 (zav jt (by rw [decide_eq_false (by omega)]; simp))
  ·refine zad h2 (zab (zaq _ _ _) ?_)
   rw [decide_eq_true (p := (l.length : Int) ≤ a) (by omega)]
   cases e2 : (decide (0 ≤ c) && decide (c ≤ 1000000)) with
   | false => exact zav jt (by simp)
   | true => exact zav jf (by simp)
theorem za1 (l : List ByteArray) (hl : l.length ≤ 1048576) : Ev (fun k => slices_ContainsFunc_string_string_impl_HistoryOk_lit1.f k l) (!l.all (fun s => decide (s.size ≤ 300))) := by
 have go : ∀ (d i : Nat), i + d = l.length → ∃ r, Ev (fun k => slices_IndexFunc_string_string_impl_HistoryOk_lit1.l0 k l (l.length : Int) (i : Int)) r ∧ decide (r ≥ 0) = !(l.drop i).all (fun s => decide (s.size ≤ 300)) := by
  intro d
  induction d with
  | zero =>
   intro i h
   refine ⟨-1, zac ?_, ?_⟩
   ·simp only [slices_IndexFunc_string_string_impl_HistoryOk_lit1.l0]
    exact zad (by omega) (Ev.now _)
   ·rw [List.drop_of_length_le (by omega)]; rfl
  | succ d ih =>
   intro i h
   rw [drop_all _ _ _ (show i < l.length by omega)]
   by_cases e : (l[i].size : Int) > 300
   ·refine ⟨(i : Int), zac ?_, ?_⟩
    ·simp only [slices_IndexFunc_string_string_impl_HistoryOk_lit1.l0, zbi ByteArray.empty (show i < l.length by omega), impl_HistoryOk_1.f, Option.bind_some]
     exact zaa (by omega) (zaa (by omega) (zaa (by omega) (zaa (decide_eq_true e) (Ev.now _))))
    ·rw [decide_eq_false (p := l[i].size ≤ 300) (by omega)]
     simp
   ·obtain ⟨r, er, hr⟩ := ih (i + 1) (by omega)
    refine ⟨r, zac ?_, ?_⟩
    ·simp only [slices_IndexFunc_string_string_impl_HistoryOk_lit1.l0, zbi ByteArray.empty (show i < l.length by omega), impl_HistoryOk_1.f, Option.bind_some, w64 (x := (i : Int) + 1) (by omega) (by omega)]
     exact zaa (by omega) (zaa (by omega) (zaa (by omega) (zad (by simp; omega) er)))
    ·rw [hr, decide_eq_true (p := l[i].size ≤ 300) (by omega)]; rfl
 unfold slices_ContainsFunc_string_string_impl_HistoryOk_lit1.f slices_IndexFunc_string_string_impl_HistoryOk_lit1.f
 obtain ⟨r, e, hr⟩ := go l.length 0 (by omega)
 exact Ev.bind e (zav (Ev.now _) hr)
theorem zag (a : Int) (l : List ByteArray) (c : Int) (hl : l.length ≤ 1048576) : Ev (fun k => impl_HistoryOk.f k a l c) (za7 a l c) := by
 unfold impl_HistoryOk.f za7
 refine zab (zba _ _ _) ?_
 cases e1 : (decide (1 ≤ a) && decide (a ≤ 200)) with
 | false => exact zad (by simp) (zav (Ev.now _) (by simp))
 | true =>
  refine zaa rfl ?_
  by_cases h2 : (l.length : Int) ≤ a
  ·refine zaa h2 (zab (zba _ _ _) ?_)
   rw [decide_eq_true h2]
   cases e2 : (decide (0 ≤ c) && decide (c ≤ 1000000)) with
   | false => exact zad (by simp) (zav (Ev.now _) (by simp))
   | true => exact zaa rfl (Ev.bind (za1 l hl) (zav (Ev.now _) (by simp)))
  ·exact zad h2 (zav (Ev.now _) (by rw [decide_eq_false h2]; simp))

theorem zaj {a : Int} {l : List ByteArray} {c : Int} (h : za7 a l c = true) : 1 ≤ a ∧ a ≤ 200 ∧ (l.length : Int) ≤ a ∧ 0 ≤ c ∧ c ≤ 1000000 ∧ ∀ s ∈ l, s.size ≤ 300 := by
 unfold za7 at h
 simp only [Bool.and_eq_true, decide_eq_true_eq, List.all_eq_true] at h
 obtain ⟨⟨⟨⟨h1, h2⟩, h3⟩, h4, h5⟩, h6⟩ := h
 exact ⟨h1, h2, h3, h4, h5, h6⟩

def zaw (a : Int) (l : List ByteArray) (c : Int) (s : ByteArray) : Int × List ByteArray × Int × Bool :=
 if za7 a l c = true ∧ s.size ≤ 300 then (if (l.length : Int) + 1 > a then (if c + 1 > 1000000 then (0, [], 0, false) else (a, (l ++ [s]).drop 1, c + 1, true)) else (a, l ++ [s], c, true)) else (0, [], 0, false)
theorem zbd (a : Int) (l : List ByteArray) (c : Int) (s : ByteArray) : (zaw a l c s).2.1.length ≤ 200 := by
 unfold zaw
 by_cases h : za7 a l c = true ∧ s.size ≤ 300
 ·rw [if_pos h]
  obtain ⟨h1, h2, h3, _⟩ := zaj h.1
  by_cases q : (l.length : Int) + 1 > a
  ·rw [if_pos q]
   by_cases q2 : c + 1 > 1000000
   ·rw [if_pos q2]; simp
   ·rw [if_neg q2]; simp; omega
  ·rw [if_neg q]; simp; omega
 ·rw [if_neg h]; simp
theorem zbc (a : Int) (l : List ByteArray) (c : Int) (s : ByteArray) (hl : l.length ≤ 1048576) : Ev (fun k => spec_Keep.f k a l c s) (zaw a l c s) := by
 have none_ : Ev (fun k => spec_Keep.j0 k s true a l c) (0, [], 0, false) := by
  refine zac ?_
  simp only [spec_Keep.j0]
  exact zaa (by trivial) (Ev.now _)
 unfold spec_Keep.f zaw
 refine Ev.bind (zak a l c hl) ?_
 by_cases h : za7 a l c = true
 case neg => rw [if_neg (fun q => h q.1)]; exact zad h none_
 refine zaa h ?_
 by_cases h2 : s.size ≤ 300
 case neg => rw [if_neg (fun q => h2 q.2), decide_eq_true (by omega)]; exact none_
 rw [if_pos ⟨h, h2⟩, decide_eq_false (by omega)]
 obtain ⟨g1, g2, g3, g4, g5, _⟩ := zaj h
 have ln : ((l ++ [s]).length : Int) = (l.length : Int) + 1 := by simp
 have wc : ∀ _ : Unit, wrap64 (c + 1) = c + 1 := fun _ => w64 (by omega) (by omega)
 refine zac ?_
 simp only [spec_Keep.j0, Option.bind_some, List.nil_append, ln, wc ()]
 refine zad (by simp) (zaa (by simp; omega) (zaa (by simp; omega) ?_))
 by_cases q : (l.length : Int) + 1 > a
 ·rw [if_pos q, if_pos q]
  refine zaa (by omega) ?_
  by_cases q2 : c + 1 > 1000000
  ·rw [if_pos q2, if_pos q2]; exact Ev.now _
  ·rw [if_neg q2, if_neg q2]; exact Ev.now _
 ·rw [if_neg q, if_neg q]
  exact zad (by omega) (Ev.now _)
theorem impl_Keep_ev (a : Int) (l : List ByteArray) (c : Int) (s : ByteArray) (hl : l.length ≤ 1048576) : Ev (fun k => impl_Keep.f k a l c s) (zaw a l c s) := by
 have none_ : Ev (fun k => impl_Keep.j0 k s true a l c) (0, [], 0, false) := by
  refine zac ?_
  simp only [impl_Keep.j0]
  exact zaa (by trivial) (Ev.now _)
 have cl : ∀ _ : Unit, ∀ x : List ByteArray, x.length ≤ 1048577 → slices_Clone_string_string.f x = some x := fun _ x hx => by
  simp only [slices_Clone_string_string.f, Option.bind_some, List.nil_append]
  rw [if_pos (by simp; omega)]
 unfold impl_Keep.f zaw
 refine Ev.bind (zag a l c hl) ?_
 by_cases h : za7 a l c = true
 case neg => rw [if_neg (fun q => h q.1)]; exact zad h none_
 refine zaa h ?_
 by_cases h2 : s.size ≤ 300
 case neg => rw [if_neg (fun q => h2 q.2), decide_eq_true (by omega)]; exact none_
 rw [if_pos ⟨h, h2⟩, decide_eq_false (by omega)]
 obtain ⟨g1, g2, g3, g4, g5, _⟩ := zaj h
 have ln : ((l ++ [s]).length : Int) = (l.length : Int) + 1 := by simp
 have wc : ∀ _ : Unit, wrap64 (c + 1) = c + 1 := fun _ => w64 (by omega) (by omega)
 refine zac ?_
 simp only [impl_Keep.j0, cl () l (by omega), cl () ((l ++ [s]).drop 1) (by simp; omega), Option.bind_some, ln, wc ()]
 refine zad (by simp) (zaa (by simp; omega) ?_)
 by_cases q : (l.length : Int) + 1 > a
 ·rw [if_pos q, if_pos q]
  refine zaa (by omega) ?_
  by_cases q2 : c + 1 > 1000000
  ·rw [if_pos q2, if_pos q2]; exact Ev.now _
  ·rw [if_neg q2, if_neg q2]; exact Ev.now _
 ·rw [if_neg q, if_neg q]
  exact zad (by omega) (Ev.now _)

def Bd (p : Nat → Int) (i k : Nat) : Prop := k < i ∧ ∀ j, j < k → p j = p (i - k + j)
theorem bd_zero {p : Nat → Int} {i : Nat} (h : 0 < i) : Bd p i 0 := ⟨h, fun j hj => absurd hj (by omega)⟩
theorem bd_down {p : Nat → Int} {i k k' : Nat} (h : Bd p i k) (h' : Bd p i k') (hlt : k' < k) : Bd p k k' := by
 refine ⟨hlt, fun j hj => ?_⟩
 have a := h'.2 j hj
 have b := h.2 (k - k' + j) (by omega)
 rw [a, b]
 have := h.1; have := h'.1
 rw [show i - k + (k - k' + j) = i - k' + j by omega]
theorem bd_up {p : Nat → Int} {i k k' : Nat} (h : Bd p i k) (h' : Bd p k k') : Bd p i k' := by
 refine ⟨by have := h.1; have := h'.1; omega, fun j hj => ?_⟩
 have a := h'.2 j hj
 have := h.1; have := h'.1
 have b := h.2 (k - k' + j) (by omega)
 rw [a, b, show i - k + (k - k' + j) = i - k' + j by omega]
theorem bd_succ {p : Nat → Int} {i k : Nat} (h : Bd p i k) (e : p k = p i) : Bd p (i + 1) (k + 1) := by
 refine ⟨by have := h.1; omega, fun j hj => ?_⟩
 have := h.1
 rw [show i + 1 - (k + 1) + j = i - k + j by omega]
 by_cases hjk : j < k
 ·exact h.2 j hjk
 ·obtain rfl : j = k := by omega
  rw [e, show i - j + j = i by omega]
theorem bd_pred {p : Nat → Int} {i k : Nat} (hi : 0 < i) (h : Bd p (i + 1) (k + 1)) : Bd p i k ∧ p k = p i := by
 have h1 := h.1
 refine ⟨⟨by omega, fun j hj => ?_⟩, ?_⟩
 ·have := h.2 j (by omega)
  rw [this, show i + 1 - (k + 1) + j = i - k + j by omega]
 ·have := h.2 k (by omega)
  rw [this, show i + 1 - (k + 1) + k = i by omega]
def Lg (p : Nat → Int) (i k : Nat) : Prop := Bd p i k ∧ ∀ k', Bd p i k' → k' ≤ k
theorem lg_unique {p : Nat → Int} {i k k' : Nat} (h : Lg p i k) (h' : Lg p i k') : k = k' := Nat.le_antisymm (h'.2 _ h.1) (h.2 _ h'.1)
theorem lg_one (p : Nat → Int) : Lg p 1 0 := ⟨bd_zero (by omega), fun k' h => by have := h.1; omega⟩

theorem lg_search (p : Nat → Int) (i : Nat) (hi : 0 < i) : ∀ N : Nat, (∀ k, Bd p i k → k ≤ N) → ∃ k, Lg p i k := by
 intro N
 induction N with
 | zero => intro h; exact ⟨0, bd_zero hi, h⟩
 | succ N ih =>
  intro h
  by_cases c : Bd p i (N + 1)
  ·exact ⟨N + 1, c, h⟩
  ·refine ih fun k hk => ?_
   have := h k hk
   by_cases e : k = N + 1
   ·subst e; exact absurd hk c
   ·omega
theorem lg_exists (p : Nat → Int) {i : Nat} (hi : 0 < i) : ∃ k, Lg p i k := lg_search p i hi i fun k h => by have := h.1; omega
noncomputable def bord (p : Nat → Int) (i : Nat) : Nat := if h : 0 < i then Classical.choose (lg_exists p h) else 0
theorem zbb (p : Nat → Int) {i : Nat} (hi : 0 < i) : Lg p i (bord p i) := by
 unfold bord; rw [dif_pos hi]; exact Classical.choose_spec (lg_exists p hi)
theorem bord_eq {p : Nat → Int} {i k : Nat} (h : Lg p i k) : bord p i = k := lg_unique (zbb p (by have := h.1.1; omega)) h
theorem bord_lt (p : Nat → Int) {i : Nat} (hi : 0 < i) : bord p i < i := (zbb p hi).1.1
theorem bord_zero (p : Nat → Int) : bord p 0 = 0 := by unfold bord; rw [dif_neg (by omega)]
theorem bord_one (p : Nat → Int) : bord p 1 = 0 := bord_eq (lg_one p)
noncomputable def bords (p : Nat → Int) (n : Nat) : List Int := (List.range n).map fun i => (bord p (i + 1) : Int)
theorem zaf (p : Nat → Int) (n : Nat) : (bords p n).length = n := by simp [bords]
theorem zay (p : Nat → Int) (n : Nat) : bords p (n + 1) = bords p n ++ [(bord p (n + 1) : Int)] := by simp [bords, List.range_succ]
theorem bords_get (p : Nat → Int) (n i : Nat) (h : i < (bords p n).length) : (bords p n)[i] = (bord p (i + 1) : Int) := by simp [bords]
def Try (p : Nat → Int) (i k : Nat) : Prop := Bd p i k ∧ ∀ k', Bd p i k' → k < k' → p k' ≠ p i
theorem try_first (p : Nat → Int) {i : Nat} (hi : 0 < i) : Try p i (bord p i) := ⟨(zbb p hi).1, fun k' h hlt => by have := (zbb p hi).2 k' h; omega⟩
theorem try_hit {p : Nat → Int} {i k : Nat} (h : Try p i k) (e : p k = p i) : bord p (i + 1) = k + 1 := by
 refine bord_eq ⟨bd_succ h.1 e, fun k' hk' => ?_⟩
 cases k' with
 | zero => omega
 | succ k' =>
  obtain ⟨a, b⟩ := bd_pred (by have := h.1.1; omega) hk'
  by_cases c : k < k'
  ·exact absurd b (h.2 k' a c)
  ·omega
theorem try_next {p : Nat → Int} {i k : Nat} (h : Try p i k) (hk : 0 < k) (e : p k ≠ p i) : Try p i (bord p k) := by
 have l := zbb p hk
 refine ⟨bd_up h.1 l.1, fun k' hk' hlt => ?_⟩
 by_cases c : k < k'
 ·exact h.2 k' hk' c
 ·by_cases c2 : k' = k
  ·subst c2; exact e
  ·have := l.2 k' (bd_down h.1 hk' (by omega)); omega
theorem try_miss {p : Nat → Int} {i : Nat} (h : Try p i 0) (e : p 0 ≠ p i) : bord p (i + 1) = 0 := by
 refine bord_eq ⟨bd_zero (by omega), fun k' hk' => ?_⟩
 cases k' with
 | zero => omega
 | succ k' =>
  obtain ⟨a, b⟩ := bd_pred (by have := h.1.1; omega) hk'
  by_cases c : 0 < k'
  ·exact absurd b (h.2 k' a c)
  ·obtain rfl : k' = 0 := by omega
   exact absurd b e
def fn (l : List Int) : Nat → Int := fun i => rd l (i : Int)

theorem za4 (l : List Int) (hl : l.length < 17592186044416) : Ev (fun k => spec_l11Borders.f k l) (bords (fn l) l.length) := by
 have inner : ∀ (N k i : Nat) (r : List Int), k ≤ N → 0 < i → i < l.length → Try (fn l) i k → Ev (fun f => spec_l11Borders.l0 f l (bords (fn l) (i + 1)) (bord (fn l) (i + 1) : Int) ((i + 1 : Nat) : Int)) r →
   Ev (fun f => spec_l11Borders.l1 f l (bords (fn l) i) (k : Int) (i : Int)) r := by
  intro N
  induction N with
  | zero =>
   intro k i r hk hi hil ht hr
   obtain rfl : k = 0 := by omega
   refine zac ?_
   simp only [spec_l11Borders.l1, w64 (x := ((0 : Nat) : Int) + 1) (by omega) (by omega), w64 (x := (i : Int) + 1) (by omega) (by omega)]
   refine zaa (by omega) (zad (by omega) (zaa (by omega) (zaa (by omega) (zaa (by omega) (zaa (by omega) ?_)))))
   by_cases e : rd l ((0 : Nat) : Int) = rd l (i : Int)
   ·refine zaa e (zaa (by rw [zaf]; omega) ?_)
    rw [zay, try_hit ht e] at hr
    exact hr
   ·refine zad e (zaa (by rw [zaf]; omega) ?_)
    rw [zay, try_miss ht e] at hr
    exact hr
  | succ N ih =>
   intro k i r hk hi hil ht hr
   by_cases hk0 : k = 0
   ·exact ih k i r (by omega) hi hil ht hr
   ·have hki := ht.1.1
    have wk : wrap64 ((k : Int) - 1) = ((k - 1 : Nat) : Int) := by rw [w64 (by omega) (by omega)]; omega
    refine zac ?_
    simp only [spec_l11Borders.l1, wk, w64 (x := (k : Int) + 1) (by omega) (by omega), w64 (x := (i : Int) + 1) (by omega) (by omega)]
    refine zaa (by omega) (zaa (by omega) (zaa (by omega) (zaa (by omega) (zaa (by omega) (zaa (by omega) ?_)))))
    by_cases e : rd l (k : Int) = rd l (i : Int)
    ·refine zaa e (zaa (by rw [zaf]; omega) ?_)
     rw [zay, try_hit ht e] at hr
     exact hr
    ·refine zad e (zaa (by omega) (zaa (by rw [zaf]; omega) ?_))
     rw [rd_at (l := bords (fn l) i) (by rw [zaf]; omega), bords_get, show k - 1 + 1 = k by omega]
     exact ih _ i r (by have := bord_lt (fn l) (i := k) (by omega); omega) hi hil (try_next ht (by omega) e) hr
 have outer : ∀ (d i : Nat), i + d = l.length → Ev (fun f => spec_l11Borders.l0 f l (bords (fn l) i) (bord (fn l) i : Int) (i : Int)) (bords (fn l) l.length) := by
  intro d
  induction d with
  | zero =>
   intro i h
   refine zac ?_
   simp only [spec_l11Borders.l0]
   refine zad (by omega) ?_
   rw [show i = l.length by omega]
   exact Ev.now _
  | succ d ih =>
   intro i h
   refine zac ?_
   simp only [spec_l11Borders.l0]
   refine zaa (by omega) ?_
   by_cases hi : i = 0
   ·subst hi
    refine zac ?_
    simp only [spec_l11Borders.l1, show wrap64 (((0 : Nat) : Int) + 1) = ((1 : Nat) : Int) from w64 (by omega) (by omega)]
    refine zad (by omega) (zaa (by rw [zaf]; omega) ?_)
    have := ih 1 (by omega)
    rw [zay, bord_one] at this
    rw [bord_zero]
    exact this
   ·exact inner _ _ i _ (Nat.le_refl _) (by omega) (by omega) (try_first _ (by omega)) (ih (i + 1) (by omega))
 have := outer l.length 0 (by omega)
 rw [bord_zero] at this
 exact this

def Mt (t p : Nat → Int) (m i k : Nat) : Prop := k ≤ i ∧ k ≤ m ∧ ∀ j, j < k → p j = t (i - k + j)
theorem mt_zero (t p : Nat → Int) (m i : Nat) : Mt t p m i 0 := ⟨by omega, by omega, fun j hj => absurd hj (by omega)⟩
theorem mt_down {t p : Nat → Int} {m i k k' : Nat} (h : Mt t p m i k) (h' : Mt t p m i k') (hlt : k' < k) : Bd p k k' := by
 refine ⟨hlt, fun j hj => ?_⟩
 have a := h'.2.2 j hj
 have b := h.2.2 (k - k' + j) (by omega)
 have := h.1
 rw [a, b, show i - k + (k - k' + j) = i - k' + j by omega]
theorem mt_up {t p : Nat → Int} {m i k k' : Nat} (h : Mt t p m i k) (h' : Bd p k k') : Mt t p m i k' := by
 have h1 := h'.1; have h2 := h.1; have h3 := h.2.1
 refine ⟨by omega, by omega, fun j hj => ?_⟩
 have a := h'.2 j hj
 have b := h.2.2 (k - k' + j) (by omega)
 rw [a, b, show i - k + (k - k' + j) = i - k' + j by omega]
theorem mt_succ {t p : Nat → Int} {m i k : Nat} (h : Mt t p m i k) (hk : k < m) (e : p k = t i) : Mt t p m (i + 1) (k + 1) := by
 have h2 := h.1
 refine ⟨by omega, by omega, fun j hj => ?_⟩
 rw [show i + 1 - (k + 1) + j = i - k + j by omega]
 by_cases hjk : j < k
 ·exact h.2.2 j hjk
 ·obtain rfl : j = k := by omega
  rw [e, show i - j + j = i by omega]
theorem mt_pred {t p : Nat → Int} {m i k : Nat} (h : Mt t p m (i + 1) (k + 1)) : Mt t p m i k ∧ k < m ∧ p k = t i := by
 have h1 := h.1; have h2 := h.2.1
 refine ⟨⟨by omega, by omega, fun j hj => ?_⟩, by omega, ?_⟩
 ·have := h.2.2 j (by omega)
  rw [this, show i + 1 - (k + 1) + j = i - k + j by omega]
 ·have := h.2.2 k (by omega)
  rw [this, show i + 1 - (k + 1) + k = i by omega]
def Most (t p : Nat → Int) (m i k : Nat) : Prop := Mt t p m i k ∧ ∀ k', Mt t p m i k' → k' ≤ k
def Seek (t p : Nat → Int) (m i k : Nat) : Prop := Mt t p m i k ∧ ∀ k', Mt t p m i k' → k < k' → k' = m ∨ p k' ≠ t i
theorem seek_first {t p : Nat → Int} {m i k : Nat} (h : Most t p m i k) : Seek t p m i k := ⟨h.1, fun k' hk' hlt => by have := h.2 k' hk'; omega⟩
theorem seek_next {t p : Nat → Int} {m i k : Nat} (h : Seek t p m i k) (hk : 0 < k) (e : k = m ∨ p k ≠ t i) : Seek t p m i (bord p k) := by
 have l := zbb p hk
 refine ⟨mt_up h.1 l.1, fun k' hk' hlt => ?_⟩
 by_cases c : k < k'
 ·exact h.2 k' hk' c
 ·by_cases c2 : k' = k
  ·subst c2; exact e
  ·have := l.2 k' (mt_down h.1 hk' (by omega)); omega
theorem seek_hit {t p : Nat → Int} {m i k : Nat} (h : Seek t p m i k) (hk : k < m) (e : p k = t i) : Most t p m (i + 1) (k + 1) := by
 refine ⟨mt_succ h.1 hk e, fun k' hk' => ?_⟩
 cases k' with
 | zero => omega
 | succ k' =>
  obtain ⟨a, b, c⟩ := mt_pred hk'
  by_cases d : k < k'
  ·rcases h.2 k' a d with x | x
   ·omega
   ·exact absurd c x
  ·omega
theorem seek_miss {t p : Nat → Int} {m i : Nat} (h : Seek t p m i 0) (e : p 0 ≠ t i) : Most t p m (i + 1) 0 := by
 refine ⟨mt_zero _ _ _ _, fun k' hk' => ?_⟩
 cases k' with
 | zero => omega
 | succ k' =>
  obtain ⟨a, b, c⟩ := mt_pred hk'
  by_cases d : 0 < k'
  ·rcases h.2 k' a d with x | x
   ·omega
   ·exact absurd c x
  ·obtain rfl : k' = 0 := by omega
   exact absurd c e
theorem zbf {t p : Nat → Int} {m i k : Nat} (h : Most t p m i k) : k = m ↔ Mt t p m i m :=
 ⟨fun e => e ▸ h.1, fun x => Nat.le_antisymm h.1.2.1 (h.2 m x)⟩
open Classical in
noncomputable def occ (t p : Nat → Int) (m : Nat) : Nat → List Int
 | 0 => []
 | i + 1 => if Mt t p m (i + 1) m then occ t p m i ++ [((i + 1 - m : Nat) : Int)] else occ t p m i
open Classical in
theorem zbh (t p : Nat → Int) (m : Nat) : ∀ i, (occ t p m i).length ≤ i
 | 0 => by simp [occ]
 | i + 1 => by
  have := zbh t p m i
  unfold occ
  split
  ·simp; omega
  ·omega
theorem za8 (t p : List Int) (ht : t.length < 17592186044416) (hp : p.length < 17592186044416) (hp1 : 1 ≤ p.length) :
  Ev (fun k => spec_l11Places.f k t p) (occ (fn t) (fn p) p.length t.length) := by
 have ol := zbh (fn t) (fn p) p.length
 have j2 : ∀ (k i : Nat) (r : List Int), i < t.length → k < p.length → Seek (fn t) (fn p) p.length i k → (k = 0 ∨ rd p (k : Int) = rd t (i : Int)) →
   (∀ k', Most (fn t) (fn p) p.length (i + 1) k' → Ev (fun f => spec_l11Places.l0 f t p (occ (fn t) (fn p) p.length (i + 1)) (bords (fn p) p.length) (k' : Int) ((i + 1 : Nat) : Int)) r) →
   Ev (fun f => spec_l11Places.j2 f t p (occ (fn t) (fn p) p.length i) (bords (fn p) p.length) (k : Int) (i : Int)) r := by
  intro k i r hi hk hs hd hr
  have o := ol i
  have hki := hs.1.1
  refine zac ?_
  simp only [spec_l11Places.j2, w64 (x := (k : Int) + 1) (by omega) (by omega), w64 (x := (i : Int) + 1) (by omega) (by omega)]
  refine zaa (by omega) (zaa (by omega) (zaa (by omega) (zaa (by omega) ?_)))
  by_cases e : rd p (k : Int) = rd t (i : Int)
  ·refine zaa e ?_
   have hm := seek_hit hs hk e
   have hr' := hr _ hm
   by_cases c : k + 1 = p.length
   ·refine zaa (by omega) (zaa (by omega) ?_)
    rw [w64 (x := (i : Int) - ((k : Int) + 1)) (by omega) (by omega), w64 (x := (i : Int) - ((k : Int) + 1) + 1) (by omega) (by omega)]
    unfold occ at hr'
    rw [if_pos ((zbf hm).mp c), ← c, show ((i + 1 - (k + 1) : Nat) : Int) = (i : Int) - ((k : Int) + 1) + 1 by omega] at hr'
    rw [← c]; exact hr'
   ·refine zad (by omega) ?_
    unfold occ at hr'
    rw [if_neg (fun x => c ((zbf hm).mpr x))] at hr'
    exact hr'
  ·obtain rfl : k = 0 := by rcases hd with h | h; exact h; exact absurd h e
   refine zad e (zad (by omega) ?_)
   have hm := seek_miss hs e
   have hr' := hr _ hm
   unfold occ at hr'
   rw [if_neg (fun x => by have := (zbf hm).mpr x; omega)] at hr'
   exact hr'
 have l1 : ∀ (N k i : Nat) (r : List Int), k ≤ N → i < t.length → Seek (fn t) (fn p) p.length i k →
   (∀ k', Most (fn t) (fn p) p.length (i + 1) k' → Ev (fun f => spec_l11Places.l0 f t p (occ (fn t) (fn p) p.length (i + 1)) (bords (fn p) p.length) (k' : Int) ((i + 1 : Nat) : Int)) r) →
   Ev (fun f => spec_l11Places.l1 f t p (occ (fn t) (fn p) p.length i) (bords (fn p) p.length) (k : Int) (i : Int)) r := by
  intro N
  induction N with
  | zero =>
   intro k i r hk hi hs hr
   obtain rfl : k = 0 := by omega
   refine zac ?_
   simp only [spec_l11Places.l1]
   exact zad (by omega) (j2 0 i r hi (by omega) hs (.inl rfl) hr)
  | succ N ih =>
   intro k i r hk hi hs hr
   by_cases hk0 : k = 0
   ·exact ih k i r (by omega) hi hs hr
   ·have hkp := hs.1.2.1
    have wk : wrap64 ((k : Int) - 1) = ((k - 1 : Nat) : Int) := by rw [w64 (by omega) (by omega)]; omega
    have nx : (k = p.length ∨ fn p k ≠ fn t i) → Ev (fun f => spec_l11Places.l1 f t p (occ (fn t) (fn p) p.length i) (bords (fn p) p.length) (rd (bords (fn p) p.length) ((k - 1 : Nat) : Int)) (i : Int)) r := fun hx => by
     rw [rd_at (l := bords (fn p) p.length) (by rw [zaf]; omega), bords_get, show k - 1 + 1 = k by omega]
     exact ih _ i r (by have := bord_lt (fn p) (i := k) (by omega); omega) hi (seek_next hs (by omega) hx) hr
    refine zac ?_
    simp only [spec_l11Places.l1, wk]
    refine zaa (by omega) ?_
    by_cases c : k = p.length
    ·exact zaa (by omega) (zaa (by omega) (zaa (by rw [zaf]; omega) (nx (.inl c))))
    ·refine zad (by omega) (zaa (by omega) (zaa (by omega) (zaa (by omega) (zaa (by omega) ?_))))
     by_cases e : rd p (k : Int) = rd t (i : Int)
     ·exact zaa e (j2 k i r hi (by omega) hs (.inr e) hr)
     ·exact zad e (zaa (by omega) (zaa (by rw [zaf]; omega) (nx (.inr e))))
 have l0 : ∀ (d i k : Nat), i + d = t.length → Most (fn t) (fn p) p.length i k → Ev (fun f => spec_l11Places.l0 f t p (occ (fn t) (fn p) p.length i) (bords (fn p) p.length) (k : Int) (i : Int)) (occ (fn t) (fn p) p.length t.length) := by
  intro d
  induction d with
  | zero =>
   intro i k h hm
   refine zac ?_
   simp only [spec_l11Places.l0]
   refine zad (by omega) ?_
   rw [show i = t.length by omega]
   exact Ev.now _
  | succ d ih =>
   intro i k h hm
   refine zac ?_
   simp only [spec_l11Places.l0]
   exact zaa (by omega) (l1 _ k i _ (Nat.le_refl _) (by omega) (seek_first hm) (fun k' hk' => ih (i + 1) k' (by omega) hk'))
 unfold spec_l11Places.f
 refine Ev.bind (za4 p hp) ?_
 exact l0 t.length 0 0 (by omega) ⟨mt_zero _ _ _ _, fun k' h => h.1⟩

def bsv (s : ByteArray) : List Int := (List.range s.size).map fun (i : Nat) => bt s (i : Int)
theorem zal (s : ByteArray) : (bsv s).length = s.size := by simp [bsv]
theorem bt_list (s : ByteArray) (i : Nat) (h : i < s.data.toList.length) : bt s (i : Int) = ((s.data.toList[i]).toNat : Int) := by
 have hs : i < s.size := by rw [Array.length_toList] at h; exact h
 unfold bt
 have e : (i : Int).toNat = i := Int.toNat_natCast i
 rw [dif_pos (by rw [e]; exact hs)]
 have : ∀ j (hj : j < s.size), j = i → ((s[j]).toNat : Int) = ((s.data.toList[i]).toNat : Int) := fun j hj e => by subst e; rw [Array.getElem_toList]; rfl
 exact this _ _ e
theorem bt_byte (s : ByteArray) (i : Int) : 0 ≤ bt s i ∧ bt s i ≤ 255 := bt_range s i
theorem bsv_take (s : ByteArray) (i : Nat) (h : i < s.size) : (bsv s).take (i + 1) = (bsv s).take i ++ [bt s (i : Int)] := by
 rw [List.take_succ_eq_append_getElem (by rw [zal]; exact h)]
 simp [bsv]
theorem zax (s : ByteArray) (hs : s.size < 17592186044416) : Ev (fun k => spec_l12Bytes.f k s) (bsv s) := by
 have go : ∀ (d i : Nat), i + d = s.size → Ev (fun k => spec_l12Bytes.l0 k s ((bsv s).take i) (i : Int)) (bsv s) := by
  intro d
  induction d with
  | zero =>
   intro i h
   refine zac ?_
   simp only [spec_l12Bytes.l0]
   rw [List.take_of_length_le (by rw [zal]; omega)]
   exact zad (by omega) (Ev.now _)
  | succ d ih =>
   intro i h
   have hb := bt_byte s (i : Int)
   have hi := ih (i + 1) (by omega)
   rw [bsv_take s i (by omega)] at hi
   refine zac ?_
   simp only [spec_l12Bytes.l0, w64 (x := bt s (i : Int)) (by omega) (by omega), show wrap64 ((i : Int) + 1) = ((i + 1 : Nat) : Int) by rw [w64 (by omega) (by omega)]; omega]
   exact zaa (by omega) (zaa (by omega) (zaa (by rw [List.length_take, zal]; omega) hi))
 exact go s.size 0 (by omega)
theorem fn_bsv (s : ByteArray) (j : Nat) (h : j < s.data.toList.length) : fn (bsv s) j = ((s.data.toList[j]).toNat : Int) := by
 have hs : j < (bsv s).length := by rw [zal]; rw [Array.length_toList] at h; exact h
 unfold fn
 rw [rd_at hs, ← bt_list s j h]
 simp [bsv]
theorem occ_pos (t p : Nat → Int) (m : Nat) : ∀ n, (occ t p m n).length ≠ 0 ↔ ∃ i, 1 ≤ i ∧ i ≤ n ∧ Mt t p m i m
 | 0 => by
  unfold occ
  refine ⟨fun h => absurd rfl h, fun ⟨i, h1, h2, _⟩ => by omega⟩
 | n + 1 => by
  have ih := occ_pos t p m n
  unfold occ
  by_cases h : Mt t p m (n + 1) m
  ·rw [if_pos h]
   exact ⟨fun _ => ⟨n + 1, by omega, by omega, h⟩, fun _ => by rw [List.length_append]; simp⟩
  ·rw [if_neg h, ih]
   refine ⟨fun ⟨i, h1, h2, h3⟩ => ⟨i, h1, by omega, h3⟩, fun ⟨i, h1, h2, h3⟩ => ⟨i, h1, ?_, h3⟩⟩
   have : i ≠ n + 1 := fun e => h (e ▸ h3)
   omega
theorem occAt_iff (L W : List UInt8) (q : Nat) (hW : 1 ≤ W.length) : Lib.occAt L W q = true ↔ q + W.length ≤ L.length ∧ ∀ j (h1 : j < W.length) (h2 : q + j < L.length), W[j] = L[q + j] := by
 unfold Lib.occAt
 rw [List.isPrefixOf_iff_prefix, List.prefix_iff_eq_take]
 constructor
 ·intro h
  have hl := congrArg List.length h
  rw [List.length_take, List.length_drop] at hl
  refine ⟨by omega, fun j h1 h2 => ?_⟩
  have : ∀ (l : List UInt8) (e : W = l) (h3 : j < l.length), W[j] = l[j] := fun l e h3 => by subst e; rfl
  rw [this _ h (by rw [List.length_take, List.length_drop]; omega), List.getElem_take, List.getElem_drop]
 ·rintro ⟨h1, h2⟩
  refine List.ext_getElem (by rw [List.length_take, List.length_drop]; omega) fun j h3 h4 => ?_
  rw [List.getElem_take, List.getElem_drop]
  exact h2 j h3 (by omega)
theorem contains_occ (s w : ByteArray) (hw : 1 ≤ w.size) : Lib.contains s.data.toList w.data.toList = true ↔ (occ (fn (bsv s)) (fn (bsv w)) w.size s.size).length ≠ 0 := by
 have hsl : s.data.toList.length = s.size := by rw [Array.length_toList]; rfl
 have hwl : w.data.toList.length = w.size := by rw [Array.length_toList]; rfl
 rw [occ_pos]
 unfold Lib.contains
 rw [decide_eq_true_eq]
 have key : ∀ q, Lib.occAt s.data.toList w.data.toList q = true ↔ (q + w.size ≤ s.size ∧ Mt (fn (bsv s)) (fn (bsv w)) w.size (q + w.size) w.size) := by
  intro q
  rw [occAt_iff _ _ _ (by omega)]
  constructor
  ·rintro ⟨h1, h2⟩
   refine ⟨by omega, by omega, by omega, fun j hj => ?_⟩
   rw [show q + w.size - w.size + j = q + j by omega, fn_bsv w j (by omega), fn_bsv s (q + j) (by omega), h2 j (by omega) (by omega)]
  ·rintro ⟨h1, _, _, h2⟩
   refine ⟨by omega, fun j hj hq => ?_⟩
   have := h2 j (by omega)
   rw [show q + w.size - w.size + j = q + j by omega, fn_bsv w j (by omega), fn_bsv s (q + j) (by omega)] at this
   exact UInt8.toNat_inj.mp (by omega)
 constructor
 ·intro h
  rcases Lib.index_spec s.data.toList w.data.toList with ⟨h1, _⟩ | ⟨i, h1, h2, h3, _⟩
  ·omega
  ·have := (key i).mp h3
   exact ⟨i + w.size, by omega, this.1, this.2⟩
 ·rintro ⟨i, h1, h2, h3⟩
  rcases Lib.index_spec s.data.toList w.data.toList with ⟨_, h5⟩ | ⟨j, h4, _⟩
  ·have hm := h3.1
   have h6 := h5 (i - w.size) (by omega)
   have h7 := (key (i - w.size)).mpr ⟨by omega, by rw [show i - w.size + w.size = i by omega]; exact h3⟩
   rw [h6] at h7
   cases h7
  ·omega
theorem looked_same (a : Int) (l : List ByteArray) (c : Int) (w : ByteArray) (hok : za7 a l c = true) (hw : 1 ≤ w.size ∧ w.size ≤ 100) : ∀ (d i : Nat) (o : List Int), i + d = l.length → o.length ≤ i → (o.Pairwise (· < ·) ∧ ∀ x ∈ o, c ≤ x ∧ x < c + (i : Int)) →
  ∃ r, (r.length ≤ l.length ∧ r.Pairwise (· < ·) ∧ ∀ x ∈ r, c ≤ x ∧ x < c + (l.length : Int)) ∧ Ev (fun k => spec_Looked.l0 k w o (i : Int) a l c) r ∧ Ev (fun k => impl_Looked.l0 k w o l (l.length : Int) (i : Int) a l c) r := by
 obtain ⟨h1, h2, h3, h4, h5, h6⟩ := zaj hok
 intro d
 induction d with
 | zero =>
  intro i o h ho hq
  obtain rfl : i = l.length := by omega
  refine ⟨o, ⟨by omega, hq⟩, zac ?_, zac ?_⟩
  ·simp only [spec_Looked.l0]; exact zad (by omega) (Ev.now _)
  ·simp only [impl_Looked.l0]; exact zad (by omega) (Ev.now _)
 | succ d ih =>
  intro i o h ho hq
  have hi : i < l.length := by omega
  have hrd : rdOf ByteArray.empty l (i : Int) = l[i] := zbi _ hi
  have hsz := h6 l[i] (List.getElem_mem hi)
  have wi : ∀ _ : Unit, wrap64 ((i : Int) + 1) = ((i + 1 : Nat) : Int) := fun _ => by rw [w64 (by omega) (by omega)]; omega
  have hco := contains_occ l[i] w hw.1
  have e1 := zax l[i] (by omega)
  have e2 := zax w (by omega)
  have e3 := za8 (bsv l[i]) (bsv w) (by rw [zal]; omega) (by rw [zal]; omega) (by rw [zal]; omega)
  rw [zal, zal] at e3
  have e4 : strings_Contains.f l[i] w = some (Lib.contains l[i].data.toList w.data.toList) := by unfold strings_Contains.f; rw [if_pos (by omega)]
  by_cases q : Lib.contains l[i].data.toList w.data.toList = true
  ·obtain ⟨r, hr, f1, f2⟩ := ih (i + 1) (o ++ [wrap64 (c + (i : Int))]) (by omega) (by rw [List.length_append]; simp only [List.length_cons, List.length_nil]; omega) (by
    rw [w64 (x := c + (i : Int)) (by omega) (by omega)]
    refine ⟨List.pairwise_append.mpr ⟨hq.1, List.pairwise_singleton _ _, fun x hx y hy => ?_⟩, fun x hx => ?_⟩
    ·rw [List.mem_singleton.mp hy]; exact (hq.2 x hx).2
    ·rcases List.mem_append.mp hx with hx | hx
     ·have := hq.2 x hx; omega
     ·rw [List.mem_singleton.mp hx]; omega)
   have := hco.mp q
   refine ⟨r, hr, zac ?_, zac ?_⟩
   ·simp only [spec_Looked.l0, hrd, wi ()]
    exact zaa (by omega) (zaa (by omega) (Ev.bind e1 (Ev.bind e2 (Ev.bind e3 (zaa (by omega) (zaa (by omega) f1))))))
   ·simp only [impl_Looked.l0, hrd, wi ()]
    exact zaa (by omega) (zaa (by omega) (zaa (by omega) (zab e4 (zaa q (zaa (by omega) f2)))))
  ·obtain ⟨r, hr, f1, f2⟩ := ih (i + 1) o (by omega) (by omega) ⟨hq.1, fun x hx => by have := hq.2 x hx; omega⟩
   have : ¬ (occ (fn (bsv l[i])) (fn (bsv w)) w.size l[i].size).length ≠ 0 := fun x => q (hco.mpr x)
   refine ⟨r, hr, zac ?_, zac ?_⟩
   ·simp only [spec_Looked.l0, hrd, wi ()]
    exact zaa (by omega) (zaa (by omega) (Ev.bind e1 (Ev.bind e2 (Ev.bind e3 (zad (by omega) f1)))))
   ·simp only [impl_Looked.l0, hrd, wi ()]
    exact zaa (by omega) (zaa (by omega) (zaa (by omega) (zab e4 (zad q f2))))
theorem Looked_more (a : Int) (l : List ByteArray) (c : Int) (w : ByteArray) (hl : l.length ≤ 1048576) : ∃ r : List Int, (r.length ≤ l.length ∧ (r = [] ∨ za7 a l c = true ∧ r.Pairwise (· < ·) ∧ ∀ x ∈ r, c ≤ x ∧ x < c + (l.length : Int))) ∧ Ev (fun k => spec_Looked.f k a l c w) r ∧ Ev (fun k => impl_Looked.f k a l c w) r := by
 have hs := zak a l c hl
 have hi := zag a l c hl
 by_cases hok : za7 a l c = true
 ·by_cases h1 : (w.size : Int) < 1
  ·refine ⟨[], ⟨by simp, .inl rfl⟩, zah (Ev.bind hs (zaa hok (zaa h1 (zac ?_)))), zah (Ev.bind hi (zaa hok (zaa h1 (zac ?_))))⟩
   ·simp only [spec_Looked.j0]; exact zaa (by trivial) (Ev.now _)
   ·simp only [impl_Looked.j0]; exact zaa (by trivial) (Ev.now _)
  ·by_cases h2 : (w.size : Int) > 100
   ·refine ⟨[], ⟨by simp, .inl rfl⟩, zah (Ev.bind hs (zaa hok (zad h1 (zac ?_)))), zah (Ev.bind hi (zaa hok (zad h1 (zac ?_))))⟩
    ·simp only [spec_Looked.j0]; exact zaa (decide_eq_true h2) (Ev.now _)
    ·simp only [impl_Looked.j0]; exact zaa (decide_eq_true h2) (Ev.now _)
   ·obtain ⟨r, hr, f1, f2⟩ := looked_same a l c w hok (by omega) l.length 0 [] (by omega) (by simp) ⟨List.Pairwise.nil, fun x hx => by cases hx⟩
    refine ⟨r, ⟨hr.1, .inr ⟨hok, hr.2⟩⟩, zah (Ev.bind hs (zaa hok (zad h1 (zac ?_)))), zah (Ev.bind hi (zaa hok (zad h1 (zac ?_))))⟩
    ·simp only [spec_Looked.j0]; exact zad (by simpa using h2) f1
    ·simp only [impl_Looked.j0]; exact zad (by simpa using h2) f2
 ·refine ⟨[], ⟨by simp, .inl rfl⟩, zah (Ev.bind hs (zad hok (zac ?_))), zah (Ev.bind hi (zad hok (zac ?_)))⟩
  ·simp only [spec_Looked.j0]; exact zaa (by trivial) (Ev.now _)
  ·simp only [impl_Looked.j0]; exact zaa (by trivial) (Ev.now _)
def za2 (a : Int) (l : List ByteArray) (c n : Int) : ByteArray × Bool := if za7 a l c = true ∧ c ≤ n ∧ n < c + l.length then (rdOf ByteArray.empty l (n - c), true) else (⟨#[]⟩, false)
theorem zas {a : Int} {l : List ByteArray} {c n : Int} (h : za7 a l c = true) (h1 : c ≤ n) (h2 : n < c + l.length) : za2 a l c n = (rdOf ByteArray.empty l (n - c), true) := by
 unfold za2; rw [if_pos ⟨h, h1, h2⟩]
theorem zat {a : Int} {l : List ByteArray} {c n : Int} (h : ¬ (za7 a l c = true ∧ c ≤ n ∧ n < c + l.length)) : za2 a l c n = (⟨#[]⟩, false) := by
 unfold za2; rw [if_neg h]
theorem zbg (a : Int) (l : List ByteArray) (c n : Int) (hl : l.length ≤ 1048576) (hn : -9223372036854775808 ≤ n ∧ n ≤ 9223372036854775807) : Ev (fun k => spec_LineAt.f k a l c n) (za2 a l c n) := by
 unfold spec_LineAt.f
 refine Ev.bind (zak a l c hl) ?_
 by_cases e : za7 a l c = true
 ·obtain ⟨h1, h2, h3, h4, h5, h6⟩ := zaj e
  refine zaa e ?_
  rw [w64 (x := c + (l.length : Int)) (by omega) (by omega), w64 (x := c + (l.length : Int) - 1) (by omega) (by omega)]
  refine zab (zaq _ _ _) ?_
  by_cases q : c ≤ n ∧ n < c + l.length
  ·rw [w64 (x := n - c) (by omega) (by omega)]
   exact zaa (by rw [decide_eq_true q.1, decide_eq_true (p := n ≤ c + (l.length : Int) - 1) (by omega)]; rfl) (zaa (by omega) (zaa (by omega) (zav (Ev.now _) (zas e q.1 q.2).symm)))
  ·refine zad ?_ (zav (Ev.now _) (zat (fun x => q x.2)).symm)
   simp only [Bool.and_eq_true, decide_eq_true_eq]; omega
 ·exact zad e (zav (Ev.now _) (zat (fun x => e x.1)).symm)
theorem zam (a : Int) (l : List ByteArray) (c n : Int) (hl : l.length ≤ 1048576) (hn : -9223372036854775808 ≤ n ∧ n ≤ 9223372036854775807) : Ev (fun k => impl_LineAt.f k a l c n) (za2 a l c n) := by
 unfold impl_LineAt.f
 refine Ev.bind (zag a l c hl) ?_
 by_cases e : za7 a l c = true
 ·obtain ⟨h1, h2, h3, h4, h5, h6⟩ := zaj e
  refine zaa e ?_
  rw [w64 (x := c + (l.length : Int)) (by omega) (by omega)]
  by_cases q1 : n < c
  ·exact zaa q1 (zav (Ev.now _) (zat (fun x => by omega)).symm)
  refine zad q1 ?_
  by_cases q2 : n ≥ c + l.length
  ·exact zaa q2 (zav (Ev.now _) (zat (fun x => by omega)).symm)
  refine zad q2 ?_
  rw [w64 (x := n - c) (by omega) (by omega)]
  exact zaa (by omega) (zaa (by omega) (zav (Ev.now _) (zas e (by omega) (by omega)).symm))
 ·exact zad e (zav (Ev.now _) (zat (fun x => e x.1)).symm)

theorem zbe (a b : List Int) (ha : a.length < 9223372036854775807) : Ev (fun k => laws_likeInts.f k a b) (decide (a = b)) := by
 unfold laws_likeInts.f
 by_cases hl : a.length = b.length
 ·refine zaa (by omega) ?_
  have go : ∀ (d i : Nat), i + d = a.length → a.take i = b.take i → Ev (fun k => laws_likeInts.l0 k a b (i : Int)) (decide (a = b)) := by
   intro d
   induction d with
   | zero =>
    intro i h e
    refine zac ?_
    simp only [laws_likeInts.l0]
    refine zad (by omega) ?_
    rw [List.take_of_length_le (by omega), List.take_of_length_le (by omega)] at e
    rw [decide_eq_true e]
    exact Ev.now _
   | succ d ih =>
    intro i h e
    refine zac ?_
    simp only [laws_likeInts.l0, w64 (x := (i : Int) + 1) (by omega) (by omega)]
    refine zaa (by omega) (zaa (by omega) (zaa (by omega) ?_))
    by_cases c : rd a (i : Int) = rd b (i : Int)
    ·refine zaa c (ih (i + 1) (by omega) ?_)
     rw [rd_at (by omega), rd_at (by omega)] at c
     rw [List.take_succ_eq_append_getElem (by omega), List.take_succ_eq_append_getElem (by omega), e, c]
    ·refine zad c ?_
     rw [decide_eq_false (fun x => c (by rw [x]))]
     exact Ev.now _
  exact go a.length 0 (by omega) rfl
 ·refine zad (by omega) ?_
  rw [decide_eq_false (fun x => hl (by rw [x]))]
  exact Ev.now _
theorem za6 (a : List Int) (ha : a.length < 9223372036854775807) : Ev (fun k => laws_likeInts.f k a a) true := zav (zbe a a ha) (decide_eq_true rfl)

theorem zao (l : List Int) (hl : l.length < 4611686018427387904) : ∃ h, Ev (fun k => spec_l1New.f k l) (l, 0, h) := by
 have go : ∀ (d i : Nat) (x : Int), i + d = l.length → ∃ h, Ev (fun k => spec_l1New.l0 k l x (i : Int)) (l, 0, h) := by
  intro d
  induction d with
  | zero =>
   intro i x h
   refine ⟨x, zac ?_⟩
   simp only [spec_l1New.l0]
   exact zad (by omega) (Ev.now _)
  | succ d ih =>
   intro i x h
   obtain ⟨h', e⟩ := ih (i + 1) (Go.bits .and .i64 (wrap64 ((wrap64 ((wrap64 (x * 137)) + (wrap64 (rd l (i : Int))))) + 11)) 1073741823) (by omega)
   refine ⟨h', zac ?_⟩
   simp only [spec_l1New.l0, w64 (x := (i : Int) + 1) (by omega) (by omega)]
   exact zaa (by omega) (zaa (by omega) e)
 exact go l.length 0 _ (by omega)

theorem and255 (x : Int) : 0 ≤ Go.bits .and .i64 x 255 ∧ Go.bits .and .i64 x 255 ≤ 255 := by
 have h : ((BitVec.ofInt 64 x &&& BitVec.ofInt 64 255).toNat : Int) ≤ 255 := by
  rw [BitVec.toNat_and]
  have : (BitVec.ofInt 64 x).toNat &&& (BitVec.ofInt 64 255).toNat ≤ (BitVec.ofInt 64 255).toNat := Nat.and_le_right
  have e : (BitVec.ofInt 64 255).toNat = 255 := by decide
  omega
 have w : Go.bits .and .i64 x 255 = IntKind.i64.wrap ((BitVec.ofInt 64 x &&& BitVec.ofInt 64 255).toNat : Int) := rfl
 rw [w, IntKind.wrap_i64]
 omega
theorem zai (b : List Int) (hb : b.length < 4611686018427387904) (i h : Int) (hi : 0 ≤ i) :
  ∃ v i' h', spec_l1Byte.f b i h = some (v, i', h') ∧ 0 ≤ v ∧ v ≤ 255 ∧ 0 ≤ i' := by
 unfold spec_l1Byte.f
 by_cases c : i < (b.length : Int)
 ·rw [if_pos c, if_pos hi]
  exact ⟨_, _, _, rfl, (and255 _).1, (and255 _).2, by rw [w64 (by omega) (by omega)]; omega⟩
 ·rw [if_neg c]
  exact ⟨_, _, _, rfl, (and255 _).1, (and255 _).2, hi⟩
theorem zae (b : List Int) (hb : b.length < 4611686018427387904) (i h n : Int) (hi : 0 ≤ i) (hn : n < 4611686018427387904) :
  ∃ v i' h', spec_l1Below.f b i h n = some (v, i', h') ∧ 0 ≤ v ∧ (v < n ∨ (n ≤ 0 ∧ v = 0)) ∧ 0 ≤ i' := by
 unfold spec_l1Below.f
 by_cases c : n ≤ 0
 ·rw [if_pos c]; exact ⟨0, i, h, rfl, by omega, .inr ⟨c, rfl⟩, hi⟩
 ·rw [if_neg c]
  by_cases c2 : n ≤ 256
  ·rw [if_pos c2]
   obtain ⟨v, i', h', e, h0, h1, h2⟩ := zai b hb i h hi
   rw [e]
   simp only [Option.bind_some]
   rw [if_neg (by omega), Int.tmod_eq_emod_of_nonneg h0]
   exact ⟨_, _, _, rfl, Int.emod_nonneg _ (by omega), .inl (Int.emod_lt_of_pos _ (by omega)), h2⟩
  ·rw [if_neg c2]
   obtain ⟨x, i1, h1, e1, x0, x1, j1⟩ := zai b hb i h hi
   obtain ⟨y, i2, h2, e2, y0, y1, j2⟩ := zai b hb i1 h1 j1
   obtain ⟨z, i3, h3, e3, z0, z1, j3⟩ := zai b hb i2 h2 j2
   obtain ⟨u, i4, h4, e4, u0, u1, j4⟩ := zai b hb i3 h3 j3
   rw [e1]; simp only [Option.bind_some]
   rw [e2]; simp only [Option.bind_some]
   rw [e3]; simp only [Option.bind_some]
   rw [e4]; simp only [Option.bind_some]
   rw [if_neg (by omega), w64 (x := x * 16777216) (by omega) (by omega), w64 (x := y * 65536) (by omega) (by omega), w64 (x := z * 256) (by omega) (by omega), w64 (x := x * 16777216 + y * 65536) (by omega) (by omega),
    w64 (x := x * 16777216 + y * 65536 + z * 256) (by omega) (by omega), w64 (x := x * 16777216 + y * 65536 + z * 256 + u) (by omega) (by omega), Int.tmod_eq_emod_of_nonneg (by omega)]
   exact ⟨_, _, _, rfl, Int.emod_nonneg _ (by omega), .inl (Int.emod_lt_of_pos _ (by omega)), j4⟩

theorem zar (b : List Int) (hb : b.length < 4611686018427387904) (i h n : Int) (hi : 0 ≤ i) (hn : n < 4611686018427387904) :
  ∃ v i' h', spec_l1Once.f b i h n = some (v, i', h') ∧ 0 ≤ i' := by
 unfold spec_l1Once.f
 obtain ⟨v, i', h', e, _, _, h2⟩ := zae b hb i h n hi hn
 rw [e]
 exact ⟨_, _, _, rfl, h2⟩

theorem za9 (l : List ByteArray) (hl : l.length < 4611686018427387904) : Ev (fun k => laws_likeTexts.f k l l) true := by
 have go : ∀ (d i : Nat), i + d = l.length → Ev (fun k => laws_likeTexts.l0 k l l (i : Int)) true := by
  intro d
  induction d with
  | zero =>
   intro i h
   refine zac ?_
   simp only [laws_likeTexts.l0]
   exact zad (by omega) (Ev.now _)
  | succ d ih =>
   intro i h
   have wi : ∀ _ : Unit, wrap64 ((i : Int) + 1) = ((i + 1 : Nat) : Int) := fun _ => by rw [w64 (by omega) (by omega)]; omega
   refine zac ?_
   simp only [laws_likeTexts.l0, wi ()]
   exact zaa (by omega) (zaa (by omega) (zaa (by omega) (zaa (by trivial) (ih (i + 1) (by omega)))))
 unfold laws_likeTexts.f
 exact zaa rfl (go l.length 0 (by omega))
theorem zan (a : Int) (l : List ByteArray) (c : Int) (hl : l.length < 4611686018427387904) : Ev (fun k => laws_likeHistory.f k a l c a l c) true := by
 unfold laws_likeHistory.f
 exact zaa rfl (Ev.bind (za9 l hl) (zaa (by trivial) (zav (Ev.now _) (by simp))))
def za3 (l : List ByteArray) (c : Int) : Prop := l.length ≤ 201 ∧ -1000 ≤ c ∧ c ≤ 2000000
theorem keepv_drawn (a : Int) (l : List ByteArray) (c : Int) (s : ByteArray) : (zaw a l c s).2.1.length ≤ 200 ∧ 0 ≤ (zaw a l c s).2.2.1 ∧ (zaw a l c s).2.2.1 ≤ 1000000 := by
 refine ⟨zbd a l c s, ?_⟩
 unfold zaw
 by_cases h : za7 a l c = true ∧ s.size ≤ 300
 ·rw [if_pos h]
  obtain ⟨_, _, _, h4, h5, _⟩ := zaj h.1
  by_cases q : (l.length : Int) + 1 > a
  ·rw [if_pos q]
   by_cases q2 : c + 1 > 1000000
   ·rw [if_pos q2]; simp
   ·rw [if_neg q2]; show 0 ≤ c + 1 ∧ c + 1 ≤ 1000000; omega
  ·rw [if_neg q]; exact ⟨h4, h5⟩
 ·rw [if_neg h]; simp
theorem zap (b : List Int) (hb : b.length < 4611686018427387904) (i h : Int) (hi : 0 ≤ i) :
  ∃ a l c i' h', Ev (fun k => spec_l12Draw.f k b i h) (a, l, c, i', h') ∧ za3 l c ∧ 0 ≤ i' := by
 have go : ∀ (d : Nat) (a : Int) (l : List ByteArray) (c i h : Int), d ≤ 9 → l.length ≤ 200 → 0 ≤ c → c ≤ 1000000 → 0 ≤ i → ∃ a' l' c' i' h', Ev (fun k => spec_l12Draw.l0 k (d : Int) b i h a l c) (a', l', c', i', h') ∧ za3 l' c' ∧ 0 ≤ i' := by
  intro d
  induction d with
  | zero =>
   intro a l c i h _ hl hc0 hc1 hi
   obtain ⟨o, i1, h1, e1, j1⟩ := zar b hb i h 12 hi (by omega)
   cases o with
   | false =>
    refine ⟨a, l, c, i1, h1, zac ?_, ⟨by omega, by omega, by omega⟩, j1⟩
    simp only [spec_l12Draw.l0]
    exact zad (by omega) (zab e1 (zad (by simp) (Ev.now _)))
   | true =>
    obtain ⟨v, i2, h2, e2, v0, v1, j2⟩ := zae b hb i1 h1 3 j1 (by omega)
    by_cases q0 : v = 0
    ·obtain ⟨u, i3, h3, e3, u0, u1, j3⟩ := zae b hb i2 h2 4 j2 (by omega)
     refine ⟨rd [0, 1, 200, 201] u, l, c, i3, h3, zac ?_, ⟨by omega, by omega, by omega⟩, j3⟩
     simp only [spec_l12Draw.l0, Option.bind_some]
     exact zad (by omega) (zab e1 (zaa rfl (zab e2 (zaa q0 (zab e3 (zaa u0 (zaa (by simp; omega) (Ev.now _))))))))
    by_cases q1 : v = 1
    ·obtain ⟨u, i3, h3, e3, u0, u1, j3⟩ := zae b hb i2 h2 4 j2 (by omega)
     refine ⟨a, l, rd [-1, 1000000, 1000001, 999999] u, i3, h3, zac ?_, ⟨by omega, ?_⟩, j3⟩
     ·simp only [spec_l12Draw.l0, Option.bind_some]
      exact zad (by omega) (zab e1 (zaa rfl (zab e2 (zad q0 (zaa q1 (zab e3 (zaa u0 (zaa (by simp; omega) (Ev.now _)))))))))
     ·have hu : u = 0 ∨ u = 1 ∨ u = 2 ∨ u = 3 := by omega
      rcases hu with rfl | rfl | rfl | rfl <;> decide
    ·obtain ⟨u, i3, h3, e3, u0, u1, j3⟩ := zae b hb i2 h2 2 j2 (by omega)
     have w3 : ∀ _ : Unit, wrap64 (300 + u) = 300 + u := fun _ => w64 (by omega) (by omega)
     refine ⟨a, l ++ [strOfNums (List.replicate (300 + u : Int).toNat 0)], c, i3, h3, zac ?_, ⟨by rw [List.length_append]; simp; omega, by omega, by omega⟩, j3⟩
     simp only [spec_l12Draw.l0, Option.bind_some]
     refine zad (by omega) (zab e1 (zaa rfl (zab e2 (zad q0 (zad q1 (zaa (by omega) (zab e3 ?_)))))))
     simp only [w3 ()]
     exact zaa (by omega) (zaa (by omega) (zaa (by omega) (Ev.now _)))
  | succ d ih =>
   intro a l c i h hd hl hc0 hc1 hi
   have wd : ∀ _ : Unit, wrap64 (((d + 1 : Nat) : Int) - 1) = (d : Int) := fun _ => by rw [w64 (by omega) (by omega)]; omega
   obtain ⟨v, i1, h1, e1, v0, v1, j1⟩ := zae b hb i h 5 hi (by omega)
   obtain ⟨t, ht⟩ : ∃ t, t = rdOf ByteArray.empty [(⟨#[97, 98, 97, 98]⟩ : ByteArray), (⟨#[98, 97]⟩ : ByteArray), (⟨#[]⟩ : ByteArray), (⟨#[120, 97, 98]⟩ : ByteArray), (⟨#[97, 97, 98]⟩ : ByteArray)] v := ⟨_, rfl⟩
   have kd := keepv_drawn a l c t
   obtain ⟨a', l', c', i', h', e', hd', hi'⟩ := ih (zaw a l c t).1 (zaw a l c t).2.1 (zaw a l c t).2.2.1 i1 h1 (by omega) kd.1 kd.2.1 kd.2.2 j1
   refine ⟨a', l', c', i', h', zac ?_, hd', hi'⟩
   simp only [spec_l12Draw.l0, Option.bind_some, wd ()]
   refine zaa (by omega) (zab e1 (zaa v0 (zaa (by simp; omega) ?_)))
   rw [← ht]
   exact Ev.bind (zbc a l c t (by omega)) e'
 unfold spec_l12Draw.f
 obtain ⟨v, i1, h1, e1, v0, v1, j1⟩ := zae b hb i h 5 hi (by omega)
 obtain ⟨u, i2, h2, e2, u0, u1, j2⟩ := zae b hb i1 h1 9 j1 (by omega)
 obtain ⟨d, rfl⟩ := Int.eq_ofNat_of_zero_le u0
 obtain ⟨x, hx⟩ : ∃ x, spec_NewHistory.f (wrap64 (1 + v)) = some (x, [], 0, true) ∨ spec_NewHistory.f (wrap64 (1 + v)) = some (x, [], 0, false) := by
  unfold spec_NewHistory.f
  rw [zaq, Option.bind_some]
  split
  ·exact ⟨_, .inl rfl⟩
  ·exact ⟨_, .inr rfl⟩
 obtain ⟨a', l', c', i', h', e', hd', hi'⟩ := go d x [] 0 i2 h2 (by omega) (by simp) (by omega) (by omega) j2
 refine ⟨a', l', c', i', h', zab e1 ?_, hd', hi'⟩
 rcases hx with hx | hx
 ·exact zab hx (zab e2 e')
 ·exact zab hx (zab e2 e')
theorem za5 (l : List Int) (hl : l.length < 4611686018427387904) : ∃ a m c s, Ev (fun k => spec_DrawKeep.f k l) (a, m, c, s) ∧ za3 m c := by
 obtain ⟨h, e0⟩ := zao l hl
 obtain ⟨a, m, c, i1, h1, e1, hd, j1⟩ := zap l hl 0 h (by omega)
 obtain ⟨o, i2, h2, e2, j2⟩ := zar l hl i1 h1 12 j1 (by omega)
 obtain ⟨v, i3, h3, e3, v0, v1, _⟩ := zae l hl i2 h2 2 j2 (by omega)
 unfold spec_DrawKeep.f
 cases o with
 | true =>
  have w3 : ∀ _ : Unit, wrap64 (300 + v) = 300 + v := fun _ => w64 (by omega) (by omega)
  refine ⟨a, m, c, strOfNums (List.replicate (wrap64 (300 + v)).toNat 0), Ev.bind e0 (Ev.bind e1 (zab e2 (zaa rfl (zab e3 ?_)))), hd⟩
  simp only [w3 ()]
  exact zaa (by omega) (zaa (by omega) (Ev.now _))
 | false =>
  refine ⟨a, m, c, rdOf ByteArray.empty ([⟨#[97, 98, 97, 98]⟩, ⟨#[110, 101, 119]⟩] : List ByteArray) v, Ev.bind e0 (Ev.bind e1 (zab e2 (zad (by simp) ?_))), hd⟩
  simp only [Option.bind_some]
  exact zab e3 (zaa v0 (zaa (by simp; omega) (Ev.now _)))
theorem za0 (l : List Int) (hl : l.length < 4611686018427387904) : ∃ a m c n, Ev (fun k => spec_DrawLineAt.f k l) (a, m, c, n) ∧ za3 m c ∧ -9223372036854775808 ≤ n ∧ n ≤ 9223372036854775807 := by
 obtain ⟨h, e0⟩ := zao l hl
 obtain ⟨a, m, c, i1, h1, e1, hd, j1⟩ := zap l hl 0 h (by omega)
 obtain ⟨u, i2, h2, e2, u0, u1, j2⟩ := zae l hl i1 h1 10 j1 (by omega)
 have ef : spec_l1From.f l i1 h1 (-2) 7 = some (wrap64 (-2 + u), i2, h2) := by
  unfold spec_l1From.f
  rw [w64 (x := 7 - (-2)) (by omega) (by omega), show (7 : Int) - (-2) + 1 = 10 by omega, w64 (x := 10) (by omega) (by omega), e2]
  rfl
 obtain ⟨o, i3, h3, e3, j3⟩ := zar l hl i2 h2 12 j2 (by omega)
 obtain ⟨v, i4, h4, e4, v0, v1, _⟩ := zae l hl i3 h3 3 j3 (by omega)
 unfold spec_DrawLineAt.f
 cases o with
 | true =>
  refine ⟨a, m, c, rd [-1, 4611686018427387904, -9223372036854775808] v, Ev.bind e0 (Ev.bind e1 (zab ef (zab e3 (zaa rfl ?_)))), hd, ?_⟩
  ·simp only [Option.bind_some]
   exact zab e4 (zaa v0 (zaa (by simp; omega) (Ev.now _)))
  ·have hv : v = 0 ∨ v = 1 ∨ v = 2 := by omega
   rcases hv with rfl | rfl | rfl <;> decide
 | false =>
  refine ⟨a, m, c, wrap64 (c + wrap64 (-2 + u)), Ev.bind e0 (Ev.bind e1 (zab ef (zab e3 (zad (by simp) (Ev.now _))))), hd, ?_⟩
  obtain ⟨_, d1, d2⟩ := hd
  rw [w64 (x := -2 + u) (by omega) (by omega), w64 (x := c + (-2 + u)) (by omega) (by omega)]
  omega
theorem zaz (l : List Int) (hl : l.length < 4611686018427387904) : ∃ a m c s, Ev (fun k => spec_DrawLooked.f k l) (a, m, c, s) ∧ za3 m c := by
 obtain ⟨h, e0⟩ := zao l hl
 obtain ⟨a, m, c, i1, h1, e1, hd, j1⟩ := zap l hl 0 h (by omega)
 obtain ⟨v, i3, h3, e3, v0, v1, _⟩ := zae l hl i1 h1 5 j1 (by omega)
 unfold spec_DrawLooked.f
 refine ⟨a, m, c, rdOf ByteArray.empty ([⟨#[97, 98]⟩, ⟨#[97]⟩, ⟨#[98, 97]⟩, ⟨#[122, 122]⟩, ⟨#[]⟩] : List ByteArray) v, Ev.bind e0 (Ev.bind e1 ?_), hd⟩
 simp only [Option.bind_some]
 exact zab e3 (zaa v0 (zaa (by simp; omega) (Ev.now _)))
theorem zau (l : List Int) (hl : l.length < 4611686018427387904) : ∃ n, Ev (fun k => spec_DrawNewHistory.f k l) n := by
 obtain ⟨h, e0⟩ := zao l hl
 obtain ⟨v, i3, h3, e3, v0, v1, _⟩ := zae l hl 0 h 6 (by omega) (by omega)
 unfold spec_DrawNewHistory.f
 refine ⟨rd [0, 1, 9, 200, 201, -9223372036854775808] v, Ev.bind e0 ?_⟩
 simp only [Option.bind_some]
 exact zab e3 (zaa v0 (zaa (by simp; omega) (Ev.now _)))
theorem kept_l1 (a : Int) (l : List ByteArray) (c : Int) (a1 : Int) (l1 : List ByteArray) (c1 : Int) (h1 : za7 a l c = true) (h2 : za7 a1 l1 c1 = true) (hc : c ≤ c1) (he : c1 + (l1.length : Int) = c + (l.length : Int) + 1)
  (hg : ∀ j : Int, c1 ≤ j → j < c + (l.length : Int) → rdOf ByteArray.empty l1 (j - c1) = rdOf ByteArray.empty l (j - c)) : ∀ (d : Nat) (i : Int), i + (d : Int) = c + (l.length : Int) → c1 ≤ i →
  Ev (fun k => laws_FnKept.l1 k (c + (l.length : Int)) i a l c a1 l1 c1) true := by
 obtain ⟨_, _, g3, g4, g5, _⟩ := zaj h1
 obtain ⟨_, _, f3, f4, f5, _⟩ := zaj h2
 intro d
 induction d with
 | zero =>
  intro i h _
  refine zac ?_
  simp only [laws_FnKept.l1]
  exact zad (by omega) (Ev.now _)
 | succ d ih =>
  intro i h hi
  have wi : ∀ _ : Unit, wrap64 (i + 1) = i + 1 := fun _ => w64 (by omega) (by omega)
  have e1 := zam a1 l1 c1 i (by omega) (by omega)
  have e2 := zam a l c i (by omega) (by omega)
  rw [zas h2 hi (by omega)] at e1
  rw [zas h1 (by omega) (by omega)] at e2
  refine zac ?_
  simp only [laws_FnKept.l1, wi ()]
  exact zaa (by omega) (Ev.bind e1 (Ev.bind e2 (zaa (by trivial) (zaa (by trivial) (zaa (by rw [hg i hi (by omega)]) (ih (i + 1) (by omega) (by omega)))))))
theorem kept_is (a : Int) (l : List ByteArray) (c : Int) (s : ByteArray) (h : za7 a l c = true) (h2 : s.size ≤ 300) (a1 : Int) (l1 : List ByteArray) (c1 : Int) (hk : zaw a l c s = (a1, l1, c1, true)) :
  za7 a1 l1 c1 = true ∧ c ≤ c1 ∧ c1 + (l1.length : Int) = c + (l.length : Int) + 1 ∧ rdOf ByteArray.empty l1 (c + (l.length : Int) - c1) = s ∧ c1 ≤ c + (l.length : Int) ∧
  ∀ j : Int, c1 ≤ j → j < c + (l.length : Int) → rdOf ByteArray.empty l1 (j - c1) = rdOf ByteArray.empty l (j - c) := by
 obtain ⟨g1, g2, g3, g4, g5, g6⟩ := zaj h
 unfold zaw at hk
 rw [if_pos ⟨h, h2⟩] at hk
 have mk : ∀ (x : Int) (m : List ByteArray) (y : Int), 1 ≤ x → x ≤ 200 → (m.length : Int) ≤ x → 0 ≤ y → y ≤ 1000000 → (∀ z ∈ m, z.size ≤ 300) → za7 x m y = true := by
  intro x m y q1 q2 q3 q4 q5 q6
  unfold za7
  simp only [Bool.and_eq_true, decide_eq_true_eq, List.all_eq_true]
  exact ⟨⟨⟨⟨q1, q2⟩, q3⟩, q4, q5⟩, q6⟩
 have hz : ∀ z ∈ l ++ [s], z.size ≤ 300 := fun z hz => by
  rcases List.mem_append.mp hz with hz | hz
  ·exact g6 z hz
  ·rw [List.mem_singleton.mp hz]; exact h2
 have rdn : ∀ (m : List ByteArray) (n : Nat), rdOf ByteArray.empty m (n : Int) = m.getD n ByteArray.empty := fun m n => by unfold rdOf; rw [Int.toNat_natCast]
 by_cases q : (l.length : Int) + 1 > a
 ·rw [if_pos q] at hk
  by_cases q2 : c + 1 > 1000000
  ·rw [if_pos q2] at hk; simp at hk
  ·rw [if_neg q2] at hk
   simp only [Prod.mk.injEq, and_true] at hk
   obtain ⟨rfl, rfl, rfl⟩ := hk
   have ln : ((l ++ [s]).drop 1).length = l.length := by simp
   have gd : ∀ n : Nat, ((l ++ [s]).drop 1).getD n ByteArray.empty = (l ++ [s]).getD (1 + n) ByteArray.empty := fun n => by rw [List.getD_eq_getElem?_getD, List.getD_eq_getElem?_getD, List.getElem?_drop]
   refine ⟨mk _ _ _ g1 g2 (by rw [ln]; exact g3) (by omega) (by omega) (fun z hz' => hz z (List.mem_of_mem_drop hz')), by omega, by rw [ln]; omega, ?_, by omega, fun j hj1 hj2 => ?_⟩
   ·rw [show c + (l.length : Int) - (c + 1) = ((l.length - 1 : Nat) : Int) by omega, rdn, gd, show 1 + (l.length - 1) = l.length by omega]
    simp
   ·obtain ⟨n, hn⟩ := Int.eq_ofNat_of_zero_le (show 0 ≤ j - (c + 1) by omega)
    rw [hn, show j - c = ((1 + n : Nat) : Int) by omega, rdn, rdn, gd, List.getD_eq_getElem?_getD, List.getD_eq_getElem?_getD, List.getElem?_append_left (by omega)]
 ·rw [if_neg q] at hk
  simp only [Prod.mk.injEq, and_true] at hk
  obtain ⟨rfl, rfl, rfl⟩ := hk
  refine ⟨mk _ _ _ g1 g2 (by simp; omega) g4 g5 hz, by omega, by simp; omega, ?_, by omega, fun j hj1 hj2 => ?_⟩
  ·rw [show c + (l.length : Int) - c = ((l.length : Nat) : Int) by omega, rdn]
   simp
  ·obtain ⟨n, hn⟩ := Int.eq_ofNat_of_zero_le (show 0 ≤ j - c by omega)
   rw [hn, rdn, rdn, List.getD_eq_getElem?_getD, List.getD_eq_getElem?_getD, List.getElem?_append_left (by omega)]
theorem kept_end (a : Int) (l : List ByteArray) (c : Int) (s : ByteArray) (hd : za3 l c) (r : List Int) (b : Int) (m : List ByteArray) (e : Int) (hm : za3 m e) (hr : r.length ≤ 201) (hq : r = [] ∨ za7 b m e = true ∧ r.Pairwise (· < ·) ∧ ∀ x ∈ r, e ≤ x ∧ x < e + (m.length : Int))
  (a1 : Int) (l1 : List ByteArray) (c1 : Int) (is : Bool) (hk : zaw a l c s = (a1, l1, c1, is)) : ∀ (d i : Nat), i + d = r.length →
  Ev (fun k => laws_FnKept.l0 k s is r (i : Int) a l c a1 l1 c1 b m e) true := by
 obtain ⟨hd1, hd2, hd3⟩ := hd
 obtain ⟨hm1, hm2, hm3⟩ := hm
 intro d
 induction d with
 | zero =>
  intro i h
  refine zac ?_
  have wl : ∀ _ : Unit, wrap64 (c + (l.length : Int)) = c + (l.length : Int) := fun _ => w64 (by omega) (by omega)
  have wl1 : ∀ _ : Unit, wrap64 (c + (l.length : Int) + 1) = c + (l.length : Int) + 1 := fun _ => w64 (by omega) (by omega)
  simp only [laws_FnKept.l0, wl (), wl1 ()]
  refine zad (by omega) ?_
  cases is with
  | false =>
   have hx : a1 = 0 ∧ l1 = [] ∧ c1 = 0 := by
    unfold zaw at hk
    by_cases z : za7 a l c = true ∧ s.size ≤ 300
    ·rw [if_pos z] at hk
     by_cases q : (l.length : Int) + 1 > a
     ·rw [if_pos q] at hk
      by_cases q2 : c + 1 > 1000000
      ·rw [if_pos q2] at hk; simp at hk; exact ⟨hk.1.symm, hk.2.1, hk.2.2.symm⟩
      ·rw [if_neg q2] at hk; simp at hk
     ·rw [if_neg q] at hk; simp at hk
    ·rw [if_neg z] at hk; simp at hk; exact ⟨hk.1.symm, hk.2.1, hk.2.2.symm⟩
   obtain ⟨rfl, rfl, rfl⟩ := hx
   exact zad (by simp) (Ev.bind (zan 0 [] 0 (by simp)) (Ev.now _))
  | true =>
   have hz : za7 a l c = true ∧ s.size ≤ 300 := by
    refine Decidable.byContradiction fun z => ?_
    unfold zaw at hk
    rw [if_neg z] at hk; simp at hk
   obtain ⟨k1, k2, k3, k4, k5, k6⟩ := kept_is a l c s hz.1 hz.2 a1 l1 c1 hk
   obtain ⟨_, f2, f3, f4, f5, _⟩ := zaj k1
   have e1 := zam a1 l1 c1 (c + (l.length : Int)) (by omega) (by omega)
   rw [zas k1 k5 (by omega), k4] at e1
   have e2 := zag a1 l1 c1 (by omega)
   rw [k1] at e2
   have we : ∀ _ : Unit, wrap64 (c1 + (l1.length : Int)) = c + (l.length : Int) + 1 := fun _ => by rw [k3]; exact w64 (by omega) (by omega)
   simp only [we (), bne_self_eq_false]
   refine zaa (by trivial) (Ev.bind e1 (zaa (by trivial) (zaa (by trivial) (Ev.bind e2 (zaa (by trivial) (zac ?_))))))
   simp only [laws_FnKept.j4]
   obtain ⟨n, hn⟩ := Int.eq_ofNat_of_zero_le (show 0 ≤ c + (l.length : Int) - c1 by omega)
   exact zad (by simp) (kept_l1 a l c a1 l1 c1 hz.1 k1 k2 k3 k6 n c1 (by omega) (Int.le_refl _))
 | succ d ih =>
  intro i h
  have hi : i < r.length := by omega
  rcases hq with hq | ⟨q1, q2, q3⟩
  ·rw [hq] at hi; simp at hi
  have ri : ∀ _ : Unit, rd r (i : Int) = r[i] := fun _ => by unfold rd; rw [Int.toNat_natCast, List.getD_eq_getElem?_getD, List.getElem?_eq_getElem hi]; rfl
  have hin := q3 r[i] (List.getElem_mem hi)
  have e1 := zam b m e r[i] (by omega) (by omega)
  rw [zas q1 hin.1 hin.2] at e1
  have wi : ∀ _ : Unit, wrap64 ((i : Int) + 1) = ((i + 1 : Nat) : Int) := fun _ => by rw [w64 (by omega) (by omega)]; omega
  have en := ih (i + 1) (by omega)
  refine zac ?_
  simp only [laws_FnKept.l0, ri (), wi ()]
  refine zaa (by omega) (zaa (by omega) (Ev.bind e1 (zaa (by trivial) ?_)))
  by_cases z : i = 0
  ·exact zad (by omega) en
  ·have wm : ∀ _ : Unit, wrap64 ((i : Int) - 1) = ((i - 1 : Nat) : Int) := fun _ => by rw [w64 (by omega) (by omega)]; omega
   have rj : ∀ _ : Unit, rd r ((i - 1 : Nat) : Int) = r[i - 1] := fun _ => by unfold rd; rw [Int.toNat_natCast, List.getD_eq_getElem?_getD, List.getElem?_eq_getElem (by omega)]; rfl
   have lt : r[i - 1] < r[i] := List.pairwise_iff_getElem.mp q2 (i - 1) i (by omega) hi (by omega)
   simp only [wm (), rj ()]
   exact zaa (by omega) (zaa (by omega) (zaa (by omega) (zad (by omega) en)))
theorem FnKept : laws_FnKept.Pure := by
 intro l _ hl _
 refine Ev.rounds ?_
 unfold laws_FnKept.f laws_big.f
 refine zab rfl ?_
 by_cases hb : (l.length : Int) > 4096
 ·exact zaa (by simpa using hb) (Ev.now _)
 refine zad (by simpa using hb) ?_
 have hl' : l.length < 4611686018427387904 := by omega
 obtain ⟨a, m, c, s, e1, d1⟩ := za5 l hl'
 obtain ⟨a2, m2, c2, n2, e2, d2, n20, n21⟩ := za0 l hl'
 obtain ⟨a3, m3, c3, s3, e3, d3⟩ := zaz l hl'
 obtain ⟨n4, e4⟩ := zau l hl'
 have k1 := zbc a m c s (by have := d1.1; omega)
 have k2 := impl_Keep_ev a m c s (by have := d1.1; omega)
 have kl := zbd a m c s
 obtain ⟨⟨x, y, z, g⟩, hk⟩ : ∃ q, q = zaw a m c s := ⟨_, rfl⟩
 rw [← hk] at k1 k2 kl
 have kl' : y.length ≤ 200 := kl
 have la := zbg a2 m2 c2 n2 (by have := d2.1; omega) ⟨n20, n21⟩
 have lb := zam a2 m2 c2 n2 (by have := d2.1; omega) ⟨n20, n21⟩
 obtain ⟨⟨t, u⟩, hu⟩ : ∃ q, q = za2 a2 m2 c2 n2 := ⟨_, rfl⟩
 rw [← hu] at la lb
 obtain ⟨r, ⟨hr, hq⟩, lo1, lo2⟩ := Looked_more a3 m3 c3 s3 (by have := d3.1; omega)
 have ho1 := zak a m c (by have := d1.1; omega)
 have ho2 := zag a m c (by have := d1.1; omega)
 obtain ⟨p, w, nh1, nh2⟩ : ∃ p w, spec_NewHistory.f n4 = some (p, [], 0, w) ∧ impl_NewHistory.f n4 = some (p, [], 0, w) := by
  simp only [spec_NewHistory.f, impl_NewHistory.f, zaq, zba, Option.bind_some]
  by_cases h : (decide (1 ≤ n4) && decide (n4 ≤ 200)) = true
  ·exact ⟨n4, true, by rw [if_pos h], by rw [if_pos h]⟩
  ·exact ⟨0, false, by rw [if_neg h], by rw [if_neg h]⟩
 have lk := zan x y z (by omega)
 have li := za6 r (by have := d3.1; omega)
 refine Ev.bind e1 (Ev.bind k2 (Ev.bind e2 (Ev.bind lb (Ev.bind e3 (Ev.bind lo2 (Ev.bind e4 (zab nh2 (Ev.bind k1 (zad (by simp) (Ev.bind lk (zaa (by trivial) (Ev.bind ho2 (Ev.bind ho1 (zad (by simp) (Ev.bind lo1 (Ev.bind li ?_))))))))))))))))
 refine zac ?_
 simp only [laws_FnKept.j0]
 refine zad (by simp) (Ev.bind la (zad (by simp) ?_))
 rw [show (t.toList != t.toList) = false by simp]
 refine zac ?_
 simp only [laws_FnKept.j1]
 refine zad (by simp) (zab nh1 (zad (by simp) (Ev.bind (zan p [] 0 (by simp)) (zac ?_))))
 simp only [laws_FnKept.j2]
 exact zad (by simp) (kept_end a m c s d1 r a3 m3 c3 d3 (by have := d3.1; omega) hq x y z g hk.symm r.length 0 (by omega))

end Go.Proofs.Ytalopdcephohgaa.Pure
