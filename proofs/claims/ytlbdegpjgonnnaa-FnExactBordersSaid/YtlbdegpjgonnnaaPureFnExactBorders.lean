/- The law FnExactBorders answers true at every list of numbers. -/
import Derived.Test.YtlbdegpjgonnnaaPFnExactBordersx3
namespace Go.Proofs.Ytlbdegpjgonnnaa.Pure
open Go.RowKit Go.Proofs.Ytlbdegpjgonnnaa.PFnExactBorders Go.Proofs.YtlbdegpjgonnnaaW.PrintWords Go.Proofs.YtlbdegpjgonnnaaW.PrintLast
set_option linter.unusedVariables false
set_option linter.unusedSimpArgs false

theorem w64 {x : Int} (h0 : -9223372036854775808 ≤ x) (h1 : x ≤ 9223372036854775807) : wrap64 x = x := by unfold wrap64; omega
theorem wf64 {x : Int} : (Lit.int .i64 x).wf = true ↔ -9223372036854775808 ≤ x ∧ x ≤ 9223372036854775807 := by
  simp [Lit.wf, IntKind.min, IntKind.max, IntKind.signed, IntKind.bits]
theorem wf8 {x : Int} : (Lit.int .u8 x).wf = true ↔ 0 ≤ x ∧ x ≤ 255 := by
  simp [Lit.wf, IntKind.min, IntKind.max, IntKind.signed, IntKind.bits]
theorem ev_succ {α : Type} {g : Nat → Option α} {r : α} (h : Ev (fun k => g (k + 1)) r) : Ev g r := by
  obtain ⟨K, h⟩ := h
  refine ⟨K + 1, fun k hk => ?_⟩
  obtain ⟨m, rfl⟩ : ∃ m, k = m + 1 := ⟨k - 1, by omega⟩
  exact h m (by omega)
theorem ev_fixed {α : Type} {x : Option α} {r : α} (h : x = some r) : Ev (fun _ => x) r := ⟨0, fun _ _ => h⟩
theorem ev_eq {α : Type} {g : Nat → Option α} {r s : α} (h : Ev g r) (e : r = s) : Ev g s := e ▸ h
theorem bt0 (s : ByteArray) (i : Int) : 0 ≤ bt s i := (bt_range s i).1
theorem bt255 (s : ByteArray) (i : Int) : bt s i ≤ 255 := (bt_range s i).2

theorem ev_pos {α : Type} {c : Prop} [Decidable c] {a b : Nat → Option α} {r : α} (hc : c) (h : Ev a r) : Ev (fun k => if c then a k else b k) r := by
  obtain ⟨K, h⟩ := h
  exact ⟨K, fun k hk => by show (if c then a k else b k) = some r; rw [if_pos hc]; exact h k hk⟩
theorem ev_neg {α : Type} {c : Prop} [Decidable c] {a b : Nat → Option α} {r : α} (hc : ¬ c) (h : Ev b r) : Ev (fun k => if c then a k else b k) r := by
  obtain ⟨K, h⟩ := h
  exact ⟨K, fun k hk => by show (if c then a k else b k) = some r; rw [if_neg hc]; exact h k hk⟩
theorem ev_bind_some {α β : Type} {a : α} {f : Nat → α → Option β} {r : β} (h : Ev (fun k => f k a) r) : Ev (fun k => (some a).bind (f k)) r := h
theorem ev_bind_of {α β : Type} {x : Option α} {a : α} {f : Nat → α → Option β} {r : β} (hx : x = some a) (h : Ev (fun k => f k a) r) : Ev (fun k => x.bind (f k)) r := by
  subst hx; exact h

theorem rd_nat (l : List Int) (i : Nat) : rd l (i : Int) = l.getD i 0 := by simp [rd]
theorem rd_at {l : List Int} {i : Nat} (h : i < l.length) : rd l (i : Int) = l[i] := by rw [rd_nat, List.getD_eq_getElem?_getD, List.getElem?_eq_getElem h]; rfl
theorem take_set_succ {α : Type} (l : List α) (i : Nat) (a : α) (h : i < l.length) : (l.set i a).take (i + 1) = l.take i ++ [a] := by
  rw [List.take_succ_eq_append_getElem (by simpa using h), List.take_set, List.set_eq_of_length_le (by rw [List.length_take]; omega)]
  simp

theorem laws_toInt64S_ev (l : List Int) (hl : l.length * 8 ≤ 140737488351232) : Ev (fun k => laws_toInt64S.f k l) l := by
  have go : ∀ (d i : Nat) (m : List Int), i + d = l.length → m.length = l.length → Ev (fun k => laws_toInt64S.l0 k l m (i : Int)) (m.take i ++ l.drop i) := by
    intro d
    induction d with
    | zero =>
      intro i m h hm
      refine ev_succ ?_
      simp only [laws_toInt64S.l0]
      refine ev_neg (by omega) ?_
      rw [List.take_of_length_le (by omega), List.drop_of_length_le (by omega), List.append_nil]
      exact Ev.now _
    | succ d ih =>
      intro i m h hm
      refine ev_succ ?_
      simp only [laws_toInt64S.l0, w64 (x := (i : Int) + 1) (by omega) (by omega)]
      refine ev_pos (by omega) (ev_pos (by omega) (ev_pos (by omega) ?_))
      have := ih (i + 1) (m.set (i : Int).toNat (rd l (i : Int))) (by omega) (by simpa using hm)
      refine ev_eq this ?_
      rw [show (i : Int).toNat = i by omega, take_set_succ _ _ _ (by omega), rd_at (by omega), List.append_assoc, List.singleton_append, ← List.drop_eq_getElem_cons (by omega)]
  unfold laws_toInt64S.f
  refine ev_pos (by omega) (ev_pos (by omega) ?_)
  have := go l.length 0 (List.replicate l.length 0) (by omega) (by simp)
  simpa using this

theorem laws_eqInt64S_ev (l : List Int) (hl : l.length < 9223372036854775807) : Ev (fun k => laws_eqInt64S.f k l l) true := by
  have go : ∀ (d i : Nat), i + d = l.length → Ev (fun k => laws_eqInt64S.l0 k l l (i : Int)) true := by
    intro d
    induction d with
    | zero =>
      intro i h
      refine ev_succ ?_
      simp only [laws_eqInt64S.l0]
      exact ev_neg (by omega) (Ev.now _)
    | succ d ih =>
      intro i h
      refine ev_succ ?_
      simp only [laws_eqInt64S.l0, w64 (x := (i : Int) + 1) (by omega) (by omega)]
      exact ev_pos (by omega) (ev_pos (by omega) (ev_pos (by omega) (ev_pos (by first | rfl | trivial) (ih (i + 1) (by omega)))))
  unfold laws_eqInt64S.f
  exact ev_pos rfl (go l.length 0 (by omega))

def mks : Nat → Int → List Int
  | 0, _ => []
  | n + 1, a => a :: mks n (a + 1)
theorem mks_length : ∀ (n : Nat) (a : Int), (mks n a).length = n
  | 0, _ => rfl
  | n + 1, a => by simp [mks, mks_length n]
theorem mks_get : ∀ (n : Nat) (a : Int) (i : Nat) (h : i < (mks n a).length), (mks n a)[i] = a + i
  | n + 1, a, 0, _ => by simp [mks]
  | n + 1, a, i + 1, h => by
    simp only [mks, List.getElem_cons_succ]
    rw [mks_get n (a + 1) i]; omega

theorem laws_markInt64S_ev (l : List Int) (a : Int) (ha : 0 ≤ a) (hl : a + l.length < 9223372036854775807) : Ev (fun k => laws_markInt64S.f k l a) (a + l.length, mks l.length a) := by
  have go : ∀ (d i : Nat) (m : List Int) (a : Int), 0 ≤ a → a + d < 9223372036854775807 → i + d = l.length → m.length = l.length → Ev (fun k => laws_markInt64S.l0 k m a (i : Int)) (a + d, m.take i ++ mks d a) := by
    intro d
    induction d with
    | zero =>
      intro i m a h0 h1 h hm
      refine ev_succ ?_
      simp only [laws_markInt64S.l0]
      refine ev_neg (by omega) ?_
      rw [List.take_of_length_le (by omega)]
      simp only [mks, List.append_nil, Int.natCast_zero, Int.add_zero]
      exact Ev.now _
    | succ d ih =>
      intro i m a h0 h1 h hm
      refine ev_succ ?_
      simp only [laws_markInt64S.l0, w64 (x := (i : Int) + 1) (by omega) (by omega), w64 (x := a + 1) (by omega) (by omega)]
      refine ev_pos (by omega) (ev_pos (by omega) ?_)
      have := ih (i + 1) (m.set (i : Int).toNat a) (a + 1) (by omega) (by omega) (by omega) (by simpa using hm)
      refine ev_eq this ?_
      rw [show (i : Int).toNat = i by omega, take_set_succ _ _ _ (by omega), List.append_assoc, List.singleton_append]
      simp only [mks, Prod.mk.injEq, and_true]; omega
  unfold laws_markInt64S.f
  have := go l.length 0 l a ha (by omega) (by omega) rfl
  simpa using this

theorem laws_heldInt64S_ev (n : Nat) (a : Int) (ha : 0 ≤ a) (hl : a + n < 9223372036854775807) : Ev (fun k => laws_heldInt64S.f k (mks n a) a) (a + n) := by
  have go : ∀ (d i : Nat), i + d = n → Ev (fun k => laws_heldInt64S.l0 k (mks n a) (a + i) (i : Int)) (a + n) := by
    intro d
    induction d with
    | zero =>
      intro i h
      refine ev_succ ?_
      simp only [laws_heldInt64S.l0]
      refine ev_neg (by rw [mks_length]; omega) ?_
      rw [show i = n by omega]
      exact Ev.now _
    | succ d ih =>
      intro i h
      refine ev_succ ?_
      simp only [laws_heldInt64S.l0, w64 (x := (i : Int) + 1) (by omega) (by omega), w64 (x := a + i + 1) (by omega) (by omega)]
      refine ev_pos (by rw [mks_length]; omega) (ev_pos (by omega) (ev_pos (by rw [rd_at (by rw [mks_length]; omega), mks_get]) ?_))
      have := ih (i + 1) (by omega)
      rw [show a + ((i + 1 : Nat) : Int) = a + i + 1 by omega] at this
      exact this
  unfold laws_heldInt64S.f
  have := go n 0 (by omega)
  simpa using this

def Bd (p : Nat → Int) (i k : Nat) : Prop := k < i ∧ ∀ j, j < k → p j = p (i - k + j)
theorem bd_zero {p : Nat → Int} {i : Nat} (h : 0 < i) : Bd p i 0 := ⟨h, fun j hj => absurd hj (by omega)⟩
theorem bd_down {p : Nat → Int} {i k k' : Nat} (h : Bd p i k) (h' : Bd p i k') (hlt : k' < k) : Bd p k k' := by
  refine ⟨hlt, fun j hj => ?_⟩
  have a := h'.2 j hj
  have b := h.2 (k - k' + j) (by omega)
  rw [a, b]
  have := h.1; have := h'.1
  rw [show i - k + (k - k' + j) = i - k' + j by omega]
theorem bd_up {p : Nat → Int} {i k k' : Nat} (h : Bd p i k) (h' : Bd p k k') : Bd p i k' := by
  refine ⟨by have := h.1; have := h'.1; omega, fun j hj => ?_⟩
  have a := h'.2 j hj
  have := h.1; have := h'.1
  have b := h.2 (k - k' + j) (by omega)
  rw [a, b, show i - k + (k - k' + j) = i - k' + j by omega]
theorem bd_succ {p : Nat → Int} {i k : Nat} (h : Bd p i k) (e : p k = p i) : Bd p (i + 1) (k + 1) := by
  refine ⟨by have := h.1; omega, fun j hj => ?_⟩
  have := h.1
  rw [show i + 1 - (k + 1) + j = i - k + j by omega]
  by_cases hjk : j < k
  · exact h.2 j hjk
  · obtain rfl : j = k := by omega
    rw [e, show i - j + j = i by omega]
theorem bd_pred {p : Nat → Int} {i k : Nat} (hi : 0 < i) (h : Bd p (i + 1) (k + 1)) : Bd p i k ∧ p k = p i := by
  have h1 := h.1
  refine ⟨⟨by omega, fun j hj => ?_⟩, ?_⟩
  · have := h.2 j (by omega)
    rw [this, show i + 1 - (k + 1) + j = i - k + j by omega]
  · have := h.2 k (by omega)
    rw [this, show i + 1 - (k + 1) + k = i by omega]
/-- The longest border. -/
def Lg (p : Nat → Int) (i k : Nat) : Prop := Bd p i k ∧ ∀ k', Bd p i k' → k' ≤ k
theorem lg_unique {p : Nat → Int} {i k k' : Nat} (h : Lg p i k) (h' : Lg p i k') : k = k' := Nat.le_antisymm (h'.2 _ h.1) (h.2 _ h'.1)
theorem lg_one (p : Nat → Int) : Lg p 1 0 := ⟨bd_zero (by omega), fun k' h => by have := h.1; omega⟩

theorem lg_search (p : Nat → Int) (i : Nat) (hi : 0 < i) : ∀ N : Nat, (∀ k, Bd p i k → k ≤ N) → ∃ k, Lg p i k := by
  intro N
  induction N with
  | zero => intro h; exact ⟨0, bd_zero hi, h⟩
  | succ N ih =>
    intro h
    by_cases c : Bd p i (N + 1)
    · exact ⟨N + 1, c, h⟩
    · refine ih fun k hk => ?_
      have := h k hk
      by_cases e : k = N + 1
      · subst e; exact absurd hk c
      · omega
theorem lg_exists (p : Nat → Int) {i : Nat} (hi : 0 < i) : ∃ k, Lg p i k := lg_search p i hi i fun k h => by have := h.1; omega
noncomputable def bord (p : Nat → Int) (i : Nat) : Nat := if h : 0 < i then Classical.choose (lg_exists p h) else 0
theorem bord_lg (p : Nat → Int) {i : Nat} (hi : 0 < i) : Lg p i (bord p i) := by
  unfold bord; rw [dif_pos hi]; exact Classical.choose_spec (lg_exists p hi)
theorem bord_eq {p : Nat → Int} {i k : Nat} (h : Lg p i k) : bord p i = k := lg_unique (bord_lg p (by have := h.1.1; omega)) h
theorem bord_lt (p : Nat → Int) {i : Nat} (hi : 0 < i) : bord p i < i := (bord_lg p hi).1.1
theorem bord_zero (p : Nat → Int) : bord p 0 = 0 := by unfold bord; rw [dif_neg (by omega)]
theorem bord_one (p : Nat → Int) : bord p 1 = 0 := bord_eq (lg_one p)
noncomputable def bords (p : Nat → Int) (n : Nat) : List Int := (List.range n).map fun i => (bord p (i + 1) : Int)
theorem bords_length (p : Nat → Int) (n : Nat) : (bords p n).length = n := by simp [bords]
theorem bords_succ (p : Nat → Int) (n : Nat) : bords p (n + 1) = bords p n ++ [(bord p (n + 1) : Int)] := by simp [bords, List.range_succ]
theorem bords_get (p : Nat → Int) (n i : Nat) (h : i < (bords p n).length) : (bords p n)[i] = (bord p (i + 1) : Int) := by simp [bords]
/-- A place of the search for the next border: all longer ones fail. -/
def Try (p : Nat → Int) (i k : Nat) : Prop := Bd p i k ∧ ∀ k', Bd p i k' → k < k' → p k' ≠ p i
theorem try_first (p : Nat → Int) {i : Nat} (hi : 0 < i) : Try p i (bord p i) := ⟨(bord_lg p hi).1, fun k' h hlt => by have := (bord_lg p hi).2 k' h; omega⟩
theorem try_hit {p : Nat → Int} {i k : Nat} (h : Try p i k) (e : p k = p i) : bord p (i + 1) = k + 1 := by
  refine bord_eq ⟨bd_succ h.1 e, fun k' hk' => ?_⟩
  cases k' with
  | zero => omega
  | succ k' =>
    obtain ⟨a, b⟩ := bd_pred (by have := h.1.1; omega) hk'
    by_cases c : k < k'
    · exact absurd b (h.2 k' a c)
    · omega
theorem try_next {p : Nat → Int} {i k : Nat} (h : Try p i k) (hk : 0 < k) (e : p k ≠ p i) : Try p i (bord p k) := by
  have l := bord_lg p hk
  refine ⟨bd_up h.1 l.1, fun k' hk' hlt => ?_⟩
  by_cases c : k < k'
  · exact h.2 k' hk' c
  · by_cases c2 : k' = k
    · subst c2; exact e
    · have := l.2 k' (bd_down h.1 hk' (by omega)); omega
theorem try_miss {p : Nat → Int} {i : Nat} (h : Try p i 0) (e : p 0 ≠ p i) : bord p (i + 1) = 0 := by
  refine bord_eq ⟨bd_zero (by omega), fun k' hk' => ?_⟩
  cases k' with
  | zero => omega
  | succ k' =>
    obtain ⟨a, b⟩ := bd_pred (by have := h.1.1; omega) hk'
    by_cases c : 0 < k'
    · exact absurd b (h.2 k' a c)
    · obtain rfl : k' = 0 := by omega
      exact absurd b e
def fn (l : List Int) : Nat → Int := fun i => rd l (i : Int)

theorem spec_l11Borders_ev (l : List Int) (hl : l.length < 17592186044416) : Ev (fun k => spec_l11Borders.f k l) (bords (fn l) l.length) := by
  have inner : ∀ (N k i : Nat) (r : List Int), k ≤ N → 0 < i → i < l.length → Try (fn l) i k → Ev (fun f => spec_l11Borders.l0 f l (bords (fn l) (i + 1)) (bord (fn l) (i + 1) : Int) ((i + 1 : Nat) : Int)) r →
      Ev (fun f => spec_l11Borders.l1 f l (bords (fn l) i) (k : Int) (i : Int)) r := by
    intro N
    induction N with
    | zero =>
      intro k i r hk hi hil ht hr
      obtain rfl : k = 0 := by omega
      refine ev_succ ?_
      simp only [spec_l11Borders.l1, w64 (x := ((0 : Nat) : Int) + 1) (by omega) (by omega), w64 (x := (i : Int) + 1) (by omega) (by omega)]
      refine ev_pos (by omega) (ev_neg (by omega) (ev_pos (by omega) (ev_pos (by omega) (ev_pos (by omega) (ev_pos (by omega) ?_)))))
      by_cases e : rd l ((0 : Nat) : Int) = rd l (i : Int)
      · refine ev_pos e (ev_pos (by rw [bords_length]; omega) ?_)
        rw [bords_succ, try_hit ht e] at hr
        exact hr
      · refine ev_neg e (ev_pos (by rw [bords_length]; omega) ?_)
        rw [bords_succ, try_miss ht e] at hr
        exact hr
    | succ N ih =>
      intro k i r hk hi hil ht hr
      by_cases hk0 : k = 0
      · exact ih k i r (by omega) hi hil ht hr
      · have hki := ht.1.1
        have wk : wrap64 ((k : Int) - 1) = ((k - 1 : Nat) : Int) := by rw [w64 (by omega) (by omega)]; omega
        refine ev_succ ?_
        simp only [spec_l11Borders.l1, wk, w64 (x := (k : Int) + 1) (by omega) (by omega), w64 (x := (i : Int) + 1) (by omega) (by omega)]
        refine ev_pos (by omega) (ev_pos (by omega) (ev_pos (by omega) (ev_pos (by omega) (ev_pos (by omega) (ev_pos (by omega) ?_)))))
        by_cases e : rd l (k : Int) = rd l (i : Int)
        · refine ev_pos e (ev_pos (by rw [bords_length]; omega) ?_)
          rw [bords_succ, try_hit ht e] at hr
          exact hr
        · refine ev_neg e (ev_pos (by omega) (ev_pos (by rw [bords_length]; omega) ?_))
          rw [rd_at (l := bords (fn l) i) (by rw [bords_length]; omega), bords_get, show k - 1 + 1 = k by omega]
          exact ih _ i r (by have := bord_lt (fn l) (i := k) (by omega); omega) hi hil (try_next ht (by omega) e) hr
  have outer : ∀ (d i : Nat), i + d = l.length → Ev (fun f => spec_l11Borders.l0 f l (bords (fn l) i) (bord (fn l) i : Int) (i : Int)) (bords (fn l) l.length) := by
    intro d
    induction d with
    | zero =>
      intro i h
      refine ev_succ ?_
      simp only [spec_l11Borders.l0]
      refine ev_neg (by omega) ?_
      rw [show i = l.length by omega]
      exact Ev.now _
    | succ d ih =>
      intro i h
      refine ev_succ ?_
      simp only [spec_l11Borders.l0]
      refine ev_pos (by omega) ?_
      by_cases hi : i = 0
      · subst hi
        refine ev_succ ?_
        simp only [spec_l11Borders.l1, show wrap64 (((0 : Nat) : Int) + 1) = ((1 : Nat) : Int) from w64 (by omega) (by omega)]
        refine ev_neg (by omega) (ev_pos (by rw [bords_length]; omega) ?_)
        have := ih 1 (by omega)
        rw [bords_succ, bord_one] at this
        rw [bord_zero]
        exact this
      · exact inner _ _ i _ (Nat.le_refl _) (by omega) (by omega) (try_first _ (by omega)) (ih (i + 1) (by omega))
  have := outer l.length 0 (by omega)
  rw [bord_zero] at this
  exact this

theorem impl_Borders_loop (l : List Int) (hl : l.length < 17592186044416) : Ev (fun k => impl_Borders.l0 k l [] l (l.length : Int) 0) (bords (fn l) l.length) := by
  have inner : ∀ (N k i : Nat) (r : List Int), k ≤ N → 0 < i → i < l.length → Try (fn l) i k → Ev (fun f => impl_Borders.l0 f l (bords (fn l) (i + 1)) l (l.length : Int) ((i + 1 : Nat) : Int)) r →
      Ev (fun f => impl_Borders.l1 f l (bords (fn l) i) (rd l (i : Int)) (k : Int) l (l.length : Int) (i : Int)) r := by
    intro N
    induction N with
    | zero =>
      intro k i r hk hi hil ht hr
      obtain rfl : k = 0 := by omega
      refine ev_succ ?_
      simp only [impl_Borders.l1, w64 (x := ((0 : Nat) : Int) + 1) (by omega) (by omega), w64 (x := (i : Int) + 1) (by omega) (by omega)]
      refine ev_neg (by omega) (ev_pos (by omega) (ev_pos (by omega) ?_))
      by_cases e : rd l ((0 : Nat) : Int) = rd l (i : Int)
      · refine ev_pos e (ev_pos (by rw [bords_length]; omega) ?_)
        rw [bords_succ, try_hit ht e] at hr
        exact hr
      · refine ev_neg e (ev_pos (by rw [bords_length]; omega) ?_)
        rw [bords_succ, try_miss ht e] at hr
        exact hr
    | succ N ih =>
      intro k i r hk hi hil ht hr
      by_cases hk0 : k = 0
      · exact ih k i r (by omega) hi hil ht hr
      · have hki := ht.1.1
        have wk : wrap64 ((k : Int) - 1) = ((k - 1 : Nat) : Int) := by rw [w64 (by omega) (by omega)]; omega
        refine ev_succ ?_
        simp only [impl_Borders.l1, wk, w64 (x := (k : Int) + 1) (by omega) (by omega), w64 (x := (i : Int) + 1) (by omega) (by omega)]
        refine ev_pos (by omega) (ev_pos (by omega) (ev_pos (by omega) ?_))
        by_cases e : rd l (k : Int) = rd l (i : Int)
        · refine ev_pos e (ev_pos (by rw [bords_length]; omega) ?_)
          rw [bords_succ, try_hit ht e] at hr
          exact hr
        · refine ev_neg e (ev_pos (by omega) (ev_pos (by rw [bords_length]; omega) ?_))
          rw [rd_at (l := bords (fn l) i) (by rw [bords_length]; omega), bords_get, show k - 1 + 1 = k by omega]
          exact ih _ i r (by have := bord_lt (fn l) (i := k) (by omega); omega) hi hil (try_next ht (by omega) e) hr
  have outer : ∀ (d i : Nat), i + d = l.length → Ev (fun f => impl_Borders.l0 f l (bords (fn l) i) l (l.length : Int) (i : Int)) (bords (fn l) l.length) := by
    intro d
    induction d with
    | zero =>
      intro i h
      refine ev_succ ?_
      simp only [impl_Borders.l0]
      refine ev_neg (by omega) ?_
      rw [show i = l.length by omega]
      exact Ev.now _
    | succ d ih =>
      intro i h
      refine ev_succ ?_
      have wi : i ≠ 0 → wrap64 ((i : Int) - 1) = ((i - 1 : Nat) : Int) := fun _ => by rw [w64 (by omega) (by omega)]; omega
      simp only [impl_Borders.l0, w64 (x := (i : Int) + 1) (by omega) (by omega)]
      refine ev_pos (by omega) (ev_pos (by omega) (ev_pos (by omega) ?_))
      by_cases hi : i = 0
      · subst hi
        refine ev_neg (by omega) (ev_pos (by rw [bords_length]; omega) ?_)
        have := ih 1 (by omega)
        rw [bords_succ, bord_one] at this
        exact this
      · refine ev_pos (by omega) ?_
        rw [wi hi]
        refine ev_pos (by omega) (ev_pos (by rw [bords_length]; omega) ?_)
        rw [rd_at (l := bords (fn l) i) (by rw [bords_length]; omega), bords_get, show i - 1 + 1 = i by omega]
        exact inner _ _ i _ (Nat.le_refl _) (by omega) (by omega) (try_first _ (by omega)) (ih (i + 1) (by omega))
  exact outer l.length 0 (by omega)
noncomputable def bordersv (l : List Int) : List Int := if l.length > 100 then [] else bords (fn l) l.length
theorem impl_Borders_ev (l : List Int) : Ev (fun k => impl_Borders.f k l) (bordersv l) := by
  unfold impl_Borders.f bordersv
  refine ev_bind_some ?_
  by_cases h : l.length > 100
  · rw [if_pos h]; exact ev_pos (by omega) (Ev.now _)
  · rw [if_neg h]; exact ev_neg (by omega) (impl_Borders_loop l (by omega))

theorem spec_Borders_ev (l : List Int) : Ev (fun k => spec_Borders.f k l) (bordersv l) := by
  unfold spec_Borders.f bordersv
  by_cases h : l.length > 100
  · rw [if_pos h]; exact ev_pos (by omega) (Ev.now _)
  · rw [if_neg h]; exact ev_neg (by omega) (Ev.bind (spec_l11Borders_ev l (by omega)) (Ev.now _))
theorem bordersv_length (l : List Int) : (bordersv l).length ≤ 100 := by
  unfold bordersv
  split
  · simp
  · rw [bords_length]; omega
theorem FnExactBorders : laws_FnExactBorders.Pure := by
  intro l hm hl hw
  refine Ev.rounds ?_
  simp only [laws_FnExactBorders.f]
  by_cases h1 : (l.length : Int) > 1048576
  · exact ev_pos h1 (Ev.now _)
  have hb := bordersv_length l
  have j0 : Ev (fun k => laws_FnExactBorders.j0 k l (bordersv l) (bordersv l) false) true := by
    refine ev_succ ?_
    simp only [laws_FnExactBorders.j0]
    refine ev_neg (by decide) ?_
    refine Ev.bind (laws_markInt64S_ev (bordersv l) 1 (by omega) (by omega)) ?_
    refine Ev.bind (laws_heldInt64S_ev (bordersv l).length 1 (by omega) (by omega)) ?_
    refine ev_neg (by omega) (ev_pos rfl ?_)
    refine Ev.bind (laws_toInt64S_ev l hl) (Ev.bind (impl_Borders_ev l) (Ev.bind (laws_eqInt64S_ev _ (by omega)) (ev_pos rfl ?_)))
    refine Ev.bind (laws_heldInt64S_ev (bordersv l).length 1 (by omega) (by omega)) ?_
    exact ev_neg (by omega) (ev_pos rfl (Ev.now _))
  refine ev_neg h1 ?_
  refine Ev.bind (laws_toInt64S_ev l hl) (Ev.bind (spec_Borders_ev l) (Ev.bind (laws_toInt64S_ev l hl) (Ev.bind (impl_Borders_ev l) (Ev.bind (laws_eqInt64S_ev _ (by omega)) (ev_pos rfl ?_)))))
  refine Ev.bind (laws_toInt64S_ev l hl) (Ev.bind (laws_eqInt64S_ev l (by omega)) (ev_pos rfl ?_))
  refine Ev.bind (laws_markInt64S_ev l 1 (by omega) (by omega)) (ev_neg ?_ ?_)
  · show ¬ (1 + (l.length : Int) < 0)
    omega
  · exact Ev.bind (laws_eqInt64S_ev _ (by omega)) j0

end Go.Proofs.Ytlbdegpjgonnnaa.Pure
