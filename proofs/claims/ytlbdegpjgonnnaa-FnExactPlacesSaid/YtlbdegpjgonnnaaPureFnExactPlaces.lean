/- The law FnExactPlaces answers true at every two lists of numbers. -/
import Derived.Test.YtlbdegpjgonnnaaPFnExactPlacesx3
namespace Go.Proofs.Ytlbdegpjgonnnaa.Pure
open Go.RowKit Go.Proofs.Ytlbdegpjgonnnaa.PFnExactPlaces Go.Proofs.YtlbdegpjgonnnaaW.PrintWords Go.Proofs.YtlbdegpjgonnnaaW.PrintLast
set_option linter.unusedVariables false
set_option linter.unusedSimpArgs false

theorem w64 {x : Int} (h0 : -9223372036854775808 ≤ x) (h1 : x ≤ 9223372036854775807) : wrap64 x = x := by unfold wrap64; omega
theorem wf64 {x : Int} : (Lit.int .i64 x).wf = true ↔ -9223372036854775808 ≤ x ∧ x ≤ 9223372036854775807 := by
  simp [Lit.wf, IntKind.min, IntKind.max, IntKind.signed, IntKind.bits]
theorem wf8 {x : Int} : (Lit.int .u8 x).wf = true ↔ 0 ≤ x ∧ x ≤ 255 := by
  simp [Lit.wf, IntKind.min, IntKind.max, IntKind.signed, IntKind.bits]
theorem ev_succ {α : Type} {g : Nat → Option α} {r : α} (h : Ev (fun k => g (k + 1)) r) : Ev g r := by
  obtain ⟨K, h⟩ := h
  refine ⟨K + 1, fun k hk => ?_⟩
  obtain ⟨m, rfl⟩ : ∃ m, k = m + 1 := ⟨k - 1, by omega⟩
  exact h m (by omega)
theorem ev_fixed {α : Type} {x : Option α} {r : α} (h : x = some r) : Ev (fun _ => x) r := ⟨0, fun _ _ => h⟩
theorem ev_eq {α : Type} {g : Nat → Option α} {r s : α} (h : Ev g r) (e : r = s) : Ev g s := e ▸ h
theorem bt0 (s : ByteArray) (i : Int) : 0 ≤ bt s i := (bt_range s i).1
theorem bt255 (s : ByteArray) (i : Int) : bt s i ≤ 255 := (bt_range s i).2

theorem ev_pos {α : Type} {c : Prop} [Decidable c] {a b : Nat → Option α} {r : α} (hc : c) (h : Ev a r) : Ev (fun k => if c then a k else b k) r := by
  obtain ⟨K, h⟩ := h
  exact ⟨K, fun k hk => by show (if c then a k else b k) = some r; rw [if_pos hc]; exact h k hk⟩
theorem ev_neg {α : Type} {c : Prop} [Decidable c] {a b : Nat → Option α} {r : α} (hc : ¬ c) (h : Ev b r) : Ev (fun k => if c then a k else b k) r := by
  obtain ⟨K, h⟩ := h
  exact ⟨K, fun k hk => by show (if c then a k else b k) = some r; rw [if_neg hc]; exact h k hk⟩
theorem ev_bind_some {α β : Type} {a : α} {f : Nat → α → Option β} {r : β} (h : Ev (fun k => f k a) r) : Ev (fun k => (some a).bind (f k)) r := h
theorem ev_bind_of {α β : Type} {x : Option α} {a : α} {f : Nat → α → Option β} {r : β} (hx : x = some a) (h : Ev (fun k => f k a) r) : Ev (fun k => x.bind (f k)) r := by
  subst hx; exact h

theorem rd_nat (l : List Int) (i : Nat) : rd l (i : Int) = l.getD i 0 := by simp [rd]
theorem rd_at {l : List Int} {i : Nat} (h : i < l.length) : rd l (i : Int) = l[i] := by rw [rd_nat, List.getD_eq_getElem?_getD, List.getElem?_eq_getElem h]; rfl
theorem take_set_succ {α : Type} (l : List α) (i : Nat) (a : α) (h : i < l.length) : (l.set i a).take (i + 1) = l.take i ++ [a] := by
  rw [List.take_succ_eq_append_getElem (by simpa using h), List.take_set, List.set_eq_of_length_le (by rw [List.length_take]; omega)]
  simp

theorem laws_toInt64S_ev (l : List Int) (hl : l.length * 8 ≤ 140737488351232) : Ev (fun k => laws_toInt64S.f k l) l := by
  have go : ∀ (d i : Nat) (m : List Int), i + d = l.length → m.length = l.length → Ev (fun k => laws_toInt64S.l0 k l m (i : Int)) (m.take i ++ l.drop i) := by
    intro d
    induction d with
    | zero =>
      intro i m h hm
      refine ev_succ ?_
      simp only [laws_toInt64S.l0]
      refine ev_neg (by omega) ?_
      rw [List.take_of_length_le (by omega), List.drop_of_length_le (by omega), List.append_nil]
      exact Ev.now _
    | succ d ih =>
      intro i m h hm
      refine ev_succ ?_
      simp only [laws_toInt64S.l0, w64 (x := (i : Int) + 1) (by omega) (by omega)]
      refine ev_pos (by omega) (ev_pos (by omega) (ev_pos (by omega) ?_))
      have := ih (i + 1) (m.set (i : Int).toNat (rd l (i : Int))) (by omega) (by simpa using hm)
      refine ev_eq this ?_
      rw [show (i : Int).toNat = i by omega, take_set_succ _ _ _ (by omega), rd_at (by omega), List.append_assoc, List.singleton_append, ← List.drop_eq_getElem_cons (by omega)]
  unfold laws_toInt64S.f
  refine ev_pos (by omega) (ev_pos (by omega) ?_)
  have := go l.length 0 (List.replicate l.length 0) (by omega) (by simp)
  simpa using this

theorem laws_eqInt64S_ev (l : List Int) (hl : l.length < 9223372036854775807) : Ev (fun k => laws_eqInt64S.f k l l) true := by
  have go : ∀ (d i : Nat), i + d = l.length → Ev (fun k => laws_eqInt64S.l0 k l l (i : Int)) true := by
    intro d
    induction d with
    | zero =>
      intro i h
      refine ev_succ ?_
      simp only [laws_eqInt64S.l0]
      exact ev_neg (by omega) (Ev.now _)
    | succ d ih =>
      intro i h
      refine ev_succ ?_
      simp only [laws_eqInt64S.l0, w64 (x := (i : Int) + 1) (by omega) (by omega)]
      exact ev_pos (by omega) (ev_pos (by omega) (ev_pos (by omega) (ev_pos (by first | rfl | trivial) (ih (i + 1) (by omega)))))
  unfold laws_eqInt64S.f
  exact ev_pos rfl (go l.length 0 (by omega))

def mks : Nat → Int → List Int
  | 0, _ => []
  | n + 1, a => a :: mks n (a + 1)
theorem mks_length : ∀ (n : Nat) (a : Int), (mks n a).length = n
  | 0, _ => rfl
  | n + 1, a => by simp [mks, mks_length n]
theorem mks_get : ∀ (n : Nat) (a : Int) (i : Nat) (h : i < (mks n a).length), (mks n a)[i] = a + i
  | n + 1, a, 0, _ => by simp [mks]
  | n + 1, a, i + 1, h => by
    simp only [mks, List.getElem_cons_succ]
    rw [mks_get n (a + 1) i]; omega

theorem laws_markInt64S_ev (l : List Int) (a : Int) (ha : 0 ≤ a) (hl : a + l.length < 9223372036854775807) : Ev (fun k => laws_markInt64S.f k l a) (a + l.length, mks l.length a) := by
  have go : ∀ (d i : Nat) (m : List Int) (a : Int), 0 ≤ a → a + d < 9223372036854775807 → i + d = l.length → m.length = l.length → Ev (fun k => laws_markInt64S.l0 k m a (i : Int)) (a + d, m.take i ++ mks d a) := by
    intro d
    induction d with
    | zero =>
      intro i m a h0 h1 h hm
      refine ev_succ ?_
      simp only [laws_markInt64S.l0]
      refine ev_neg (by omega) ?_
      rw [List.take_of_length_le (by omega)]
      simp only [mks, List.append_nil, Int.natCast_zero, Int.add_zero]
      exact Ev.now _
    | succ d ih =>
      intro i m a h0 h1 h hm
      refine ev_succ ?_
      simp only [laws_markInt64S.l0, w64 (x := (i : Int) + 1) (by omega) (by omega), w64 (x := a + 1) (by omega) (by omega)]
      refine ev_pos (by omega) (ev_pos (by omega) ?_)
      have := ih (i + 1) (m.set (i : Int).toNat a) (a + 1) (by omega) (by omega) (by omega) (by simpa using hm)
      refine ev_eq this ?_
      rw [show (i : Int).toNat = i by omega, take_set_succ _ _ _ (by omega), List.append_assoc, List.singleton_append]
      simp only [mks, Prod.mk.injEq, and_true]; omega
  unfold laws_markInt64S.f
  have := go l.length 0 l a ha (by omega) (by omega) rfl
  simpa using this

theorem laws_heldInt64S_ev (n : Nat) (a : Int) (ha : 0 ≤ a) (hl : a + n < 9223372036854775807) : Ev (fun k => laws_heldInt64S.f k (mks n a) a) (a + n) := by
  have go : ∀ (d i : Nat), i + d = n → Ev (fun k => laws_heldInt64S.l0 k (mks n a) (a + i) (i : Int)) (a + n) := by
    intro d
    induction d with
    | zero =>
      intro i h
      refine ev_succ ?_
      simp only [laws_heldInt64S.l0]
      refine ev_neg (by rw [mks_length]; omega) ?_
      rw [show i = n by omega]
      exact Ev.now _
    | succ d ih =>
      intro i h
      refine ev_succ ?_
      simp only [laws_heldInt64S.l0, w64 (x := (i : Int) + 1) (by omega) (by omega), w64 (x := a + i + 1) (by omega) (by omega)]
      refine ev_pos (by rw [mks_length]; omega) (ev_pos (by omega) (ev_pos (by rw [rd_at (by rw [mks_length]; omega), mks_get]) ?_))
      have := ih (i + 1) (by omega)
      rw [show a + ((i + 1 : Nat) : Int) = a + i + 1 by omega] at this
      exact this
  unfold laws_heldInt64S.f
  have := go n 0 (by omega)
  simpa using this

def Bd (p : Nat → Int) (i k : Nat) : Prop := k < i ∧ ∀ j, j < k → p j = p (i - k + j)
theorem bd_zero {p : Nat → Int} {i : Nat} (h : 0 < i) : Bd p i 0 := ⟨h, fun j hj => absurd hj (by omega)⟩
theorem bd_down {p : Nat → Int} {i k k' : Nat} (h : Bd p i k) (h' : Bd p i k') (hlt : k' < k) : Bd p k k' := by
  refine ⟨hlt, fun j hj => ?_⟩
  have a := h'.2 j hj
  have b := h.2 (k - k' + j) (by omega)
  rw [a, b]
  have := h.1; have := h'.1
  rw [show i - k + (k - k' + j) = i - k' + j by omega]
theorem bd_up {p : Nat → Int} {i k k' : Nat} (h : Bd p i k) (h' : Bd p k k') : Bd p i k' := by
  refine ⟨by have := h.1; have := h'.1; omega, fun j hj => ?_⟩
  have a := h'.2 j hj
  have := h.1; have := h'.1
  have b := h.2 (k - k' + j) (by omega)
  rw [a, b, show i - k + (k - k' + j) = i - k' + j by omega]
theorem bd_succ {p : Nat → Int} {i k : Nat} (h : Bd p i k) (e : p k = p i) : Bd p (i + 1) (k + 1) := by
  refine ⟨by have := h.1; omega, fun j hj => ?_⟩
  have := h.1
  rw [show i + 1 - (k + 1) + j = i - k + j by omega]
  by_cases hjk : j < k
  · exact h.2 j hjk
  · obtain rfl : j = k := by omega
    rw [e, show i - j + j = i by omega]
theorem bd_pred {p : Nat → Int} {i k : Nat} (hi : 0 < i) (h : Bd p (i + 1) (k + 1)) : Bd p i k ∧ p k = p i := by
  have h1 := h.1
  refine ⟨⟨by omega, fun j hj => ?_⟩, ?_⟩
  · have := h.2 j (by omega)
    rw [this, show i + 1 - (k + 1) + j = i - k + j by omega]
  · have := h.2 k (by omega)
    rw [this, show i + 1 - (k + 1) + k = i by omega]
/-- The longest border. -/
def Lg (p : Nat → Int) (i k : Nat) : Prop := Bd p i k ∧ ∀ k', Bd p i k' → k' ≤ k
theorem lg_unique {p : Nat → Int} {i k k' : Nat} (h : Lg p i k) (h' : Lg p i k') : k = k' := Nat.le_antisymm (h'.2 _ h.1) (h.2 _ h'.1)
theorem lg_one (p : Nat → Int) : Lg p 1 0 := ⟨bd_zero (by omega), fun k' h => by have := h.1; omega⟩

theorem lg_search (p : Nat → Int) (i : Nat) (hi : 0 < i) : ∀ N : Nat, (∀ k, Bd p i k → k ≤ N) → ∃ k, Lg p i k := by
  intro N
  induction N with
  | zero => intro h; exact ⟨0, bd_zero hi, h⟩
  | succ N ih =>
    intro h
    by_cases c : Bd p i (N + 1)
    · exact ⟨N + 1, c, h⟩
    · refine ih fun k hk => ?_
      have := h k hk
      by_cases e : k = N + 1
      · subst e; exact absurd hk c
      · omega
theorem lg_exists (p : Nat → Int) {i : Nat} (hi : 0 < i) : ∃ k, Lg p i k := lg_search p i hi i fun k h => by have := h.1; omega
noncomputable def bord (p : Nat → Int) (i : Nat) : Nat := if h : 0 < i then Classical.choose (lg_exists p h) else 0
theorem bord_lg (p : Nat → Int) {i : Nat} (hi : 0 < i) : Lg p i (bord p i) := by
  unfold bord; rw [dif_pos hi]; exact Classical.choose_spec (lg_exists p hi)
theorem bord_eq {p : Nat → Int} {i k : Nat} (h : Lg p i k) : bord p i = k := lg_unique (bord_lg p (by have := h.1.1; omega)) h
theorem bord_lt (p : Nat → Int) {i : Nat} (hi : 0 < i) : bord p i < i := (bord_lg p hi).1.1
theorem bord_zero (p : Nat → Int) : bord p 0 = 0 := by unfold bord; rw [dif_neg (by omega)]
theorem bord_one (p : Nat → Int) : bord p 1 = 0 := bord_eq (lg_one p)
noncomputable def bords (p : Nat → Int) (n : Nat) : List Int := (List.range n).map fun i => (bord p (i + 1) : Int)
theorem bords_length (p : Nat → Int) (n : Nat) : (bords p n).length = n := by simp [bords]
theorem bords_succ (p : Nat → Int) (n : Nat) : bords p (n + 1) = bords p n ++ [(bord p (n + 1) : Int)] := by simp [bords, List.range_succ]
theorem bords_get (p : Nat → Int) (n i : Nat) (h : i < (bords p n).length) : (bords p n)[i] = (bord p (i + 1) : Int) := by simp [bords]
/-- A place of the search for the next border: all longer ones fail. -/
def Try (p : Nat → Int) (i k : Nat) : Prop := Bd p i k ∧ ∀ k', Bd p i k' → k < k' → p k' ≠ p i
theorem try_first (p : Nat → Int) {i : Nat} (hi : 0 < i) : Try p i (bord p i) := ⟨(bord_lg p hi).1, fun k' h hlt => by have := (bord_lg p hi).2 k' h; omega⟩
theorem try_hit {p : Nat → Int} {i k : Nat} (h : Try p i k) (e : p k = p i) : bord p (i + 1) = k + 1 := by
  refine bord_eq ⟨bd_succ h.1 e, fun k' hk' => ?_⟩
  cases k' with
  | zero => omega
  | succ k' =>
    obtain ⟨a, b⟩ := bd_pred (by have := h.1.1; omega) hk'
    by_cases c : k < k'
    · exact absurd b (h.2 k' a c)
    · omega
theorem try_next {p : Nat → Int} {i k : Nat} (h : Try p i k) (hk : 0 < k) (e : p k ≠ p i) : Try p i (bord p k) := by
  have l := bord_lg p hk
  refine ⟨bd_up h.1 l.1, fun k' hk' hlt => ?_⟩
  by_cases c : k < k'
  · exact h.2 k' hk' c
  · by_cases c2 : k' = k
    · subst c2; exact e
    · have := l.2 k' (bd_down h.1 hk' (by omega)); omega
theorem try_miss {p : Nat → Int} {i : Nat} (h : Try p i 0) (e : p 0 ≠ p i) : bord p (i + 1) = 0 := by
  refine bord_eq ⟨bd_zero (by omega), fun k' hk' => ?_⟩
  cases k' with
  | zero => omega
  | succ k' =>
    obtain ⟨a, b⟩ := bd_pred (by have := h.1.1; omega) hk'
    by_cases c : 0 < k'
    · exact absurd b (h.2 k' a c)
    · obtain rfl : k' = 0 := by omega
      exact absurd b e
def fn (l : List Int) : Nat → Int := fun i => rd l (i : Int)

theorem spec_l11Borders_ev (l : List Int) (hl : l.length < 17592186044416) : Ev (fun k => spec_l11Borders.f k l) (bords (fn l) l.length) := by
  have inner : ∀ (N k i : Nat) (r : List Int), k ≤ N → 0 < i → i < l.length → Try (fn l) i k → Ev (fun f => spec_l11Borders.l0 f l (bords (fn l) (i + 1)) (bord (fn l) (i + 1) : Int) ((i + 1 : Nat) : Int)) r →
      Ev (fun f => spec_l11Borders.l1 f l (bords (fn l) i) (k : Int) (i : Int)) r := by
    intro N
    induction N with
    | zero =>
      intro k i r hk hi hil ht hr
      obtain rfl : k = 0 := by omega
      refine ev_succ ?_
      simp only [spec_l11Borders.l1, w64 (x := ((0 : Nat) : Int) + 1) (by omega) (by omega), w64 (x := (i : Int) + 1) (by omega) (by omega)]
      refine ev_pos (by omega) (ev_neg (by omega) (ev_pos (by omega) (ev_pos (by omega) (ev_pos (by omega) (ev_pos (by omega) ?_)))))
      by_cases e : rd l ((0 : Nat) : Int) = rd l (i : Int)
      · refine ev_pos e (ev_pos (by rw [bords_length]; omega) ?_)
        rw [bords_succ, try_hit ht e] at hr
        exact hr
      · refine ev_neg e (ev_pos (by rw [bords_length]; omega) ?_)
        rw [bords_succ, try_miss ht e] at hr
        exact hr
    | succ N ih =>
      intro k i r hk hi hil ht hr
      by_cases hk0 : k = 0
      · exact ih k i r (by omega) hi hil ht hr
      · have hki := ht.1.1
        have wk : wrap64 ((k : Int) - 1) = ((k - 1 : Nat) : Int) := by rw [w64 (by omega) (by omega)]; omega
        refine ev_succ ?_
        simp only [spec_l11Borders.l1, wk, w64 (x := (k : Int) + 1) (by omega) (by omega), w64 (x := (i : Int) + 1) (by omega) (by omega)]
        refine ev_pos (by omega) (ev_pos (by omega) (ev_pos (by omega) (ev_pos (by omega) (ev_pos (by omega) (ev_pos (by omega) ?_)))))
        by_cases e : rd l (k : Int) = rd l (i : Int)
        · refine ev_pos e (ev_pos (by rw [bords_length]; omega) ?_)
          rw [bords_succ, try_hit ht e] at hr
          exact hr
        · refine ev_neg e (ev_pos (by omega) (ev_pos (by rw [bords_length]; omega) ?_))
          rw [rd_at (l := bords (fn l) i) (by rw [bords_length]; omega), bords_get, show k - 1 + 1 = k by omega]
          exact ih _ i r (by have := bord_lt (fn l) (i := k) (by omega); omega) hi hil (try_next ht (by omega) e) hr
  have outer : ∀ (d i : Nat), i + d = l.length → Ev (fun f => spec_l11Borders.l0 f l (bords (fn l) i) (bord (fn l) i : Int) (i : Int)) (bords (fn l) l.length) := by
    intro d
    induction d with
    | zero =>
      intro i h
      refine ev_succ ?_
      simp only [spec_l11Borders.l0]
      refine ev_neg (by omega) ?_
      rw [show i = l.length by omega]
      exact Ev.now _
    | succ d ih =>
      intro i h
      refine ev_succ ?_
      simp only [spec_l11Borders.l0]
      refine ev_pos (by omega) ?_
      by_cases hi : i = 0
      · subst hi
        refine ev_succ ?_
        simp only [spec_l11Borders.l1, show wrap64 (((0 : Nat) : Int) + 1) = ((1 : Nat) : Int) from w64 (by omega) (by omega)]
        refine ev_neg (by omega) (ev_pos (by rw [bords_length]; omega) ?_)
        have := ih 1 (by omega)
        rw [bords_succ, bord_one] at this
        rw [bord_zero]
        exact this
      · exact inner _ _ i _ (Nat.le_refl _) (by omega) (by omega) (try_first _ (by omega)) (ih (i + 1) (by omega))
  have := outer l.length 0 (by omega)
  rw [bord_zero] at this
  exact this

/-- The beginning of p of length k stands ahead of place i of t. -/
def Mt (t p : Nat → Int) (m i k : Nat) : Prop := k ≤ i ∧ k ≤ m ∧ ∀ j, j < k → p j = t (i - k + j)
theorem mt_zero (t p : Nat → Int) (m i : Nat) : Mt t p m i 0 := ⟨by omega, by omega, fun j hj => absurd hj (by omega)⟩
theorem mt_down {t p : Nat → Int} {m i k k' : Nat} (h : Mt t p m i k) (h' : Mt t p m i k') (hlt : k' < k) : Bd p k k' := by
  refine ⟨hlt, fun j hj => ?_⟩
  have a := h'.2.2 j hj
  have b := h.2.2 (k - k' + j) (by omega)
  have := h.1
  rw [a, b, show i - k + (k - k' + j) = i - k' + j by omega]
theorem mt_up {t p : Nat → Int} {m i k k' : Nat} (h : Mt t p m i k) (h' : Bd p k k') : Mt t p m i k' := by
  have h1 := h'.1; have h2 := h.1; have h3 := h.2.1
  refine ⟨by omega, by omega, fun j hj => ?_⟩
  have a := h'.2 j hj
  have b := h.2.2 (k - k' + j) (by omega)
  rw [a, b, show i - k + (k - k' + j) = i - k' + j by omega]
theorem mt_succ {t p : Nat → Int} {m i k : Nat} (h : Mt t p m i k) (hk : k < m) (e : p k = t i) : Mt t p m (i + 1) (k + 1) := by
  have h2 := h.1
  refine ⟨by omega, by omega, fun j hj => ?_⟩
  rw [show i + 1 - (k + 1) + j = i - k + j by omega]
  by_cases hjk : j < k
  · exact h.2.2 j hjk
  · obtain rfl : j = k := by omega
    rw [e, show i - j + j = i by omega]
theorem mt_pred {t p : Nat → Int} {m i k : Nat} (h : Mt t p m (i + 1) (k + 1)) : Mt t p m i k ∧ k < m ∧ p k = t i := by
  have h1 := h.1; have h2 := h.2.1
  refine ⟨⟨by omega, by omega, fun j hj => ?_⟩, by omega, ?_⟩
  · have := h.2.2 j (by omega)
    rw [this, show i + 1 - (k + 1) + j = i - k + j by omega]
  · have := h.2.2 k (by omega)
    rw [this, show i + 1 - (k + 1) + k = i by omega]
def Most (t p : Nat → Int) (m i k : Nat) : Prop := Mt t p m i k ∧ ∀ k', Mt t p m i k' → k' ≤ k
def Seek (t p : Nat → Int) (m i k : Nat) : Prop := Mt t p m i k ∧ ∀ k', Mt t p m i k' → k < k' → k' = m ∨ p k' ≠ t i
theorem seek_first {t p : Nat → Int} {m i k : Nat} (h : Most t p m i k) : Seek t p m i k := ⟨h.1, fun k' hk' hlt => by have := h.2 k' hk'; omega⟩
theorem seek_next {t p : Nat → Int} {m i k : Nat} (h : Seek t p m i k) (hk : 0 < k) (e : k = m ∨ p k ≠ t i) : Seek t p m i (bord p k) := by
  have l := bord_lg p hk
  refine ⟨mt_up h.1 l.1, fun k' hk' hlt => ?_⟩
  by_cases c : k < k'
  · exact h.2 k' hk' c
  · by_cases c2 : k' = k
    · subst c2; exact e
    · have := l.2 k' (mt_down h.1 hk' (by omega)); omega
theorem seek_hit {t p : Nat → Int} {m i k : Nat} (h : Seek t p m i k) (hk : k < m) (e : p k = t i) : Most t p m (i + 1) (k + 1) := by
  refine ⟨mt_succ h.1 hk e, fun k' hk' => ?_⟩
  cases k' with
  | zero => omega
  | succ k' =>
    obtain ⟨a, b, c⟩ := mt_pred hk'
    by_cases d : k < k'
    · rcases h.2 k' a d with x | x
      · omega
      · exact absurd c x
    · omega
theorem seek_miss {t p : Nat → Int} {m i : Nat} (h : Seek t p m i 0) (e : p 0 ≠ t i) : Most t p m (i + 1) 0 := by
  refine ⟨mt_zero _ _ _ _, fun k' hk' => ?_⟩
  cases k' with
  | zero => omega
  | succ k' =>
    obtain ⟨a, b, c⟩ := mt_pred hk'
    by_cases d : 0 < k'
    · rcases h.2 k' a d with x | x
      · omega
      · exact absurd c x
    · obtain rfl : k' = 0 := by omega
      exact absurd c e
theorem most_full {t p : Nat → Int} {m i k : Nat} (h : Most t p m i k) : k = m ↔ Mt t p m i m :=
  ⟨fun e => e ▸ h.1, fun x => Nat.le_antisymm h.1.2.1 (h.2 m x)⟩
open Classical in
/-- Where p stands in the first i of t. -/
noncomputable def occ (t p : Nat → Int) (m : Nat) : Nat → List Int
  | 0 => []
  | i + 1 => if Mt t p m (i + 1) m then occ t p m i ++ [((i + 1 - m : Nat) : Int)] else occ t p m i
open Classical in
theorem occ_succ (t p : Nat → Int) (m i : Nat) : occ t p m (i + 1) = if Mt t p m (i + 1) m then occ t p m i ++ [((i + 1 - m : Nat) : Int)] else occ t p m i := rfl
theorem occ_length (t p : Nat → Int) (m : Nat) : ∀ i, (occ t p m i).length ≤ i
  | 0 => by simp [occ]
  | i + 1 => by
    have := occ_length t p m i
    unfold occ
    split
    · simp; omega
    · omega
theorem occ_small (t p : Nat → Int) {m : Nat} : ∀ i, i < m → occ t p m i = []
  | 0, _ => by simp [occ]
  | i + 1, h => by
    unfold occ
    rw [if_neg (fun x => by have := x.1; omega)]
    exact occ_small t p i (by omega)

theorem spec_l11Places_ev (t p : List Int) (ht : t.length < 17592186044416) (hp : p.length < 17592186044416) (hp1 : 1 ≤ p.length) :
    Ev (fun k => spec_l11Places.f k t p) (occ (fn t) (fn p) p.length t.length) := by
  have ol := occ_length (fn t) (fn p) p.length
  have j2 : ∀ (k i : Nat) (r : List Int), i < t.length → k < p.length → Seek (fn t) (fn p) p.length i k → (k = 0 ∨ rd p (k : Int) = rd t (i : Int)) →
      (∀ k', Most (fn t) (fn p) p.length (i + 1) k' → Ev (fun f => spec_l11Places.l0 f t p (occ (fn t) (fn p) p.length (i + 1)) (bords (fn p) p.length) (k' : Int) ((i + 1 : Nat) : Int)) r) →
      Ev (fun f => spec_l11Places.j2 f t p (occ (fn t) (fn p) p.length i) (bords (fn p) p.length) (k : Int) (i : Int)) r := by
    intro k i r hi hk hs hd hr
    have o := ol i
    have hki := hs.1.1
    refine ev_succ ?_
    simp only [spec_l11Places.j2, w64 (x := (k : Int) + 1) (by omega) (by omega), w64 (x := (i : Int) + 1) (by omega) (by omega)]
    refine ev_pos (by omega) (ev_pos (by omega) (ev_pos (by omega) (ev_pos (by omega) ?_)))
    by_cases e : rd p (k : Int) = rd t (i : Int)
    · refine ev_pos e ?_
      have hm := seek_hit hs hk e
      have hr' := hr _ hm
      by_cases c : k + 1 = p.length
      · refine ev_pos (by omega) (ev_pos (by omega) ?_)
        rw [w64 (x := (i : Int) - ((k : Int) + 1)) (by omega) (by omega), w64 (x := (i : Int) - ((k : Int) + 1) + 1) (by omega) (by omega)]
        unfold occ at hr'
        rw [if_pos ((most_full hm).mp c), ← c, show ((i + 1 - (k + 1) : Nat) : Int) = (i : Int) - ((k : Int) + 1) + 1 by omega] at hr'
        rw [← c]; exact hr'
      · refine ev_neg (by omega) ?_
        unfold occ at hr'
        rw [if_neg (fun x => c ((most_full hm).mpr x))] at hr'
        exact hr'
    · obtain rfl : k = 0 := by rcases hd with h | h; exact h; exact absurd h e
      refine ev_neg e (ev_neg (by omega) ?_)
      have hm := seek_miss hs e
      have hr' := hr _ hm
      unfold occ at hr'
      rw [if_neg (fun x => by have := (most_full hm).mpr x; omega)] at hr'
      exact hr'
  have l1 : ∀ (N k i : Nat) (r : List Int), k ≤ N → i < t.length → Seek (fn t) (fn p) p.length i k →
      (∀ k', Most (fn t) (fn p) p.length (i + 1) k' → Ev (fun f => spec_l11Places.l0 f t p (occ (fn t) (fn p) p.length (i + 1)) (bords (fn p) p.length) (k' : Int) ((i + 1 : Nat) : Int)) r) →
      Ev (fun f => spec_l11Places.l1 f t p (occ (fn t) (fn p) p.length i) (bords (fn p) p.length) (k : Int) (i : Int)) r := by
    intro N
    induction N with
    | zero =>
      intro k i r hk hi hs hr
      obtain rfl : k = 0 := by omega
      refine ev_succ ?_
      simp only [spec_l11Places.l1]
      exact ev_neg (by omega) (j2 0 i r hi (by omega) hs (.inl rfl) hr)
    | succ N ih =>
      intro k i r hk hi hs hr
      by_cases hk0 : k = 0
      · exact ih k i r (by omega) hi hs hr
      · have hkp := hs.1.2.1
        have wk : wrap64 ((k : Int) - 1) = ((k - 1 : Nat) : Int) := by rw [w64 (by omega) (by omega)]; omega
        have nx : (k = p.length ∨ fn p k ≠ fn t i) → Ev (fun f => spec_l11Places.l1 f t p (occ (fn t) (fn p) p.length i) (bords (fn p) p.length) (rd (bords (fn p) p.length) ((k - 1 : Nat) : Int)) (i : Int)) r := fun hx => by
          rw [rd_at (l := bords (fn p) p.length) (by rw [bords_length]; omega), bords_get, show k - 1 + 1 = k by omega]
          exact ih _ i r (by have := bord_lt (fn p) (i := k) (by omega); omega) hi (seek_next hs (by omega) hx) hr
        refine ev_succ ?_
        simp only [spec_l11Places.l1, wk]
        refine ev_pos (by omega) ?_
        by_cases c : k = p.length
        · exact ev_pos (by omega) (ev_pos (by omega) (ev_pos (by rw [bords_length]; omega) (nx (.inl c))))
        · refine ev_neg (by omega) (ev_pos (by omega) (ev_pos (by omega) (ev_pos (by omega) (ev_pos (by omega) ?_))))
          by_cases e : rd p (k : Int) = rd t (i : Int)
          · exact ev_pos e (j2 k i r hi (by omega) hs (.inr e) hr)
          · exact ev_neg e (ev_pos (by omega) (ev_pos (by rw [bords_length]; omega) (nx (.inr e))))
  have l0 : ∀ (d i k : Nat), i + d = t.length → Most (fn t) (fn p) p.length i k → Ev (fun f => spec_l11Places.l0 f t p (occ (fn t) (fn p) p.length i) (bords (fn p) p.length) (k : Int) (i : Int)) (occ (fn t) (fn p) p.length t.length) := by
    intro d
    induction d with
    | zero =>
      intro i k h hm
      refine ev_succ ?_
      simp only [spec_l11Places.l0]
      refine ev_neg (by omega) ?_
      rw [show i = t.length by omega]
      exact Ev.now _
    | succ d ih =>
      intro i k h hm
      refine ev_succ ?_
      simp only [spec_l11Places.l0]
      exact ev_pos (by omega) (l1 _ k i _ (Nat.le_refl _) (by omega) (seek_first hm) (fun k' hk' => ih (i + 1) k' (by omega) hk'))
  unfold spec_l11Places.f
  refine Ev.bind (spec_l11Borders_ev p hp) ?_
  exact l0 t.length 0 0 (by omega) ⟨mt_zero _ _ _ _, fun k' h => h.1⟩

theorem slices_Equal_ev (a b : List Int) (ha : a.length < 9223372036854775807) : Ev (fun k => slices_Equal_int64_int64.f k a b) (decide (a = b)) := by
  unfold slices_Equal_int64_int64.f
  by_cases hl : a.length = b.length
  · refine ev_pos (by omega) ?_
    have go : ∀ (d i : Nat), i + d = a.length → a.take i = b.take i → Ev (fun k => slices_Equal_int64_int64.l0 k a b (a.length : Int) (i : Int)) (decide (a = b)) := by
      intro d
      induction d with
      | zero =>
        intro i h e
        refine ev_succ ?_
        simp only [slices_Equal_int64_int64.l0]
        refine ev_neg (by omega) ?_
        rw [List.take_of_length_le (by omega), List.take_of_length_le (by omega)] at e
        rw [decide_eq_true e]
        exact Ev.now _
      | succ d ih =>
        intro i h e
        refine ev_succ ?_
        simp only [slices_Equal_int64_int64.l0, w64 (x := (i : Int) + 1) (by omega) (by omega)]
        refine ev_pos (by omega) (ev_pos (by omega) (ev_pos (by omega) (ev_pos (by omega) ?_)))
        by_cases c : rd a (i : Int) = rd b (i : Int)
        · refine ev_pos c (ih (i + 1) (by omega) ?_)
          rw [rd_at (by omega), rd_at (by omega)] at c
          rw [List.take_succ_eq_append_getElem (by omega), List.take_succ_eq_append_getElem (by omega), e, c]
        · refine ev_neg c ?_
          rw [decide_eq_false (fun x => c (by rw [x]))]
          exact Ev.now _
    exact go a.length 0 (by omega) rfl
  · refine ev_neg (by omega) ?_
    rw [decide_eq_false (fun x => hl (by rw [x]))]
    exact Ev.now _

theorem cut_mt (t p : List Int) (s : Nat) (h : s + p.length ≤ t.length) : (t.take (s + p.length)).drop s = p ↔ Mt (fn t) (fn p) p.length (s + p.length) p.length := by
  have hl : ((t.take (s + p.length)).drop s).length = p.length := by rw [List.length_drop, List.length_take]; omega
  constructor
  · intro e
    refine ⟨by omega, Nat.le_refl _, fun j hj => ?_⟩
    show rd p (j : Int) = rd t ((s + p.length - p.length + j : Nat) : Int)
    rw [rd_at hj, rd_at (by omega)]
    have : p[j] = ((t.take (s + p.length)).drop s)[j]'(by omega) := by simp only [e]
    rw [this, List.getElem_drop, List.getElem_take]
    congr 1; omega
  · intro e
    refine List.ext_getElem hl fun j h1 h2 => ?_
    have := e.2.2 j h2
    rw [show fn p j = rd p (j : Int) from rfl, show fn t (s + p.length - p.length + j) = rd t ((s + p.length - p.length + j : Nat) : Int) from rfl, rd_at h2, rd_at (by omega)] at this
    rw [this, List.getElem_drop, List.getElem_take]
    congr 1; omega
noncomputable def placesv (t p : List Int) : List Int := if p.length < 1 ∨ p.length > 100 ∨ t.length > 5000 then [] else occ (fn t) (fn p) p.length t.length
theorem impl_Places_ev (t p : List Int) : Ev (fun k => impl_Places.f k t p) (placesv t p) := by
  have jt : Ev (fun k => impl_Places.j0 k t p [] (p.length : Int) true) [] := by
    refine ev_succ ?_
    simp only [impl_Places.j0]
    exact ev_pos (by simp) (Ev.now _)
  unfold impl_Places.f placesv
  refine ev_bind_some ?_
  by_cases h1 : p.length < 1
  · rw [if_pos (.inl h1)]; exact ev_pos (by omega) jt
  refine ev_neg (by omega) ?_
  by_cases h2 : p.length > 100
  · rw [if_pos (.inr (.inl h2))]; exact ev_pos (by omega) jt
  refine ev_neg (by omega) ?_
  by_cases h3 : t.length > 5000
  · rw [if_pos (.inr (.inr h3)), decide_eq_true (by omega)]; exact jt
  rw [if_neg (by omega), decide_eq_false (by omega)]
  refine ev_succ ?_
  simp only [impl_Places.j0]
  refine ev_neg (by simp) ?_
  have go : ∀ (d s : Nat), (s + d = t.length + 1 - p.length ∨ (t.length + 1 < p.length ∧ s = 0 ∧ d = 0)) → Ev (fun k => impl_Places.l0 k t p (occ (fn t) (fn p) p.length (s + p.length - 1)) (p.length : Int) (s : Int)) (occ (fn t) (fn p) p.length t.length) := by
    intro d
    induction d with
    | zero =>
      intro s h
      refine ev_succ ?_
      simp only [impl_Places.l0]
      refine ev_neg (by rw [w64 (by omega) (by omega)]; omega) ?_
      by_cases hz : t.length + 1 < p.length
      · rw [occ_small _ _ _ (by omega), occ_small _ _ _ (by omega)]; exact Ev.now _
      · by_cases hz2 : t.length + 1 = p.length
        · rw [occ_small _ _ _ (by omega), occ_small _ _ _ (by omega)]; exact Ev.now _
        · rw [show s + p.length - 1 = t.length by omega]; exact Ev.now _
    | succ d ih =>
      intro s h
      have ol := occ_length (fn t) (fn p) p.length (s + p.length - 1)
      refine ev_succ ?_
      have ws : wrap64 ((s : Int) + (p.length : Int)) = ((s + p.length : Nat) : Int) := by rw [w64 (by omega) (by omega)]; omega
      simp only [impl_Places.l0, ws, w64 (x := (s : Int) + 1) (by omega) (by omega)]
      refine ev_pos (by omega) (ev_pos (by omega) (ev_pos (by omega) ?_))
      rw [show ((s + p.length : Nat) : Int).toNat = s + p.length by omega, show (s : Int).toNat = s by omega]
      refine Ev.bind (slices_Equal_ev _ p (by rw [List.length_drop, List.length_take]; omega)) ?_
      have hi := ih (s + 1) (by omega)
      rw [show s + 1 + p.length - 1 = (s + p.length - 1) + 1 by omega] at hi
      rw [occ_succ] at hi
      have hm := cut_mt t p s (by omega)
      rw [show s + p.length - 1 + 1 = s + p.length by omega, show s + p.length - p.length = s by omega] at hi
      by_cases c : (t.take (s + p.length)).drop s = p
      · rw [if_pos (hm.mp c)] at hi
        exact ev_pos (decide_eq_true c) (ev_pos (by omega) hi)
      · rw [if_neg (fun x => c (hm.mpr x))] at hi
        exact ev_neg (by simpa using c) hi
  have := go (t.length + 1 - p.length) 0 (by omega)
  rw [occ_small _ _ _ (by omega)] at this
  exact this

theorem spec_Places_ev (t p : List Int) : Ev (fun k => spec_Places.f k t p) (placesv t p) := by
  unfold spec_Places.f placesv
  by_cases h1 : p.length < 1
  · rw [if_pos (.inl h1)]; exact ev_pos (by omega) (Ev.now _)
  refine ev_neg (by omega) ?_
  by_cases h2 : p.length > 100
  · rw [if_pos (.inr (.inl h2))]; exact ev_pos (by omega) (Ev.now _)
  refine ev_neg (by omega) ?_
  by_cases h3 : t.length > 5000
  · rw [if_pos (.inr (.inr h3))]; exact ev_pos (by omega) (Ev.now _)
  rw [if_neg (by omega)]
  exact ev_neg (by omega) (Ev.bind (spec_l11Places_ev t p (by omega) (by omega) (by omega)) (Ev.now _))
theorem placesv_length (t p : List Int) : (placesv t p).length ≤ 5000 := by
  unfold placesv
  split
  · simp
  · have := occ_length (fn t) (fn p) p.length t.length; omega
theorem FnExactPlaces : laws_FnExactPlaces.Pure := by
  intro t p hm hl hw hm2 hl2 hw2
  refine Ev.rounds ?_
  simp only [laws_FnExactPlaces.f]
  by_cases h1 : (t.length : Int) > 1048576
  · exact ev_pos h1 (Ev.now _)
  refine ev_neg h1 ?_
  by_cases h2 : (p.length : Int) > 1048576
  · exact ev_pos h2 (Ev.now _)
  refine ev_neg h2 ?_
  have hb := placesv_length t p
  have j0 : Ev (fun k => laws_FnExactPlaces.j0 k t p (placesv t p) (placesv t p) false) true := by
    refine ev_succ ?_
    simp only [laws_FnExactPlaces.j0]
    refine ev_neg (by decide) ?_
    refine Ev.bind (laws_markInt64S_ev (placesv t p) 1 (by omega) (by omega)) ?_
    refine Ev.bind (laws_heldInt64S_ev (placesv t p).length 1 (by omega) (by omega)) ?_
    refine ev_neg (by omega) (ev_pos rfl ?_)
    refine Ev.bind (laws_toInt64S_ev t hl) (Ev.bind (laws_toInt64S_ev p hl2) (Ev.bind (impl_Places_ev t p) (Ev.bind (laws_eqInt64S_ev _ (by omega)) (ev_pos rfl ?_))))
    refine Ev.bind (laws_heldInt64S_ev (placesv t p).length 1 (by omega) (by omega)) ?_
    exact ev_neg (by omega) (ev_pos rfl (Ev.now _))
  refine Ev.bind (laws_toInt64S_ev t hl) (Ev.bind (laws_toInt64S_ev p hl2) (Ev.bind (spec_Places_ev t p) (Ev.bind (laws_toInt64S_ev t hl) (Ev.bind (laws_toInt64S_ev p hl2) (Ev.bind (impl_Places_ev t p) (Ev.bind (laws_eqInt64S_ev _ (by omega)) (ev_pos rfl ?_)))))))
  refine Ev.bind (laws_toInt64S_ev t hl) (Ev.bind (laws_eqInt64S_ev t (by omega)) (ev_pos rfl ?_))
  refine Ev.bind (laws_toInt64S_ev p hl2) (Ev.bind (laws_eqInt64S_ev p (by omega)) (ev_pos rfl ?_))
  refine Ev.bind (laws_markInt64S_ev t 1 (by omega) (by omega)) (Ev.bind (laws_markInt64S_ev p _ (by show (0 : Int) ≤ 1 + (t.length : Int); omega) (by show (1 + (t.length : Int)) + p.length < _; omega)) (ev_neg ?_ ?_))
  · show ¬ (1 + (t.length : Int) + (p.length : Int) < 0)
    omega
  · exact Ev.bind (laws_eqInt64S_ev _ (by omega)) j0

end Go.Proofs.Ytlbdegpjgonnnaa.Pure
