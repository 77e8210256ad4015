/- The law FnPlaces answers true at every code: the places of a pattern are all that there are, and its period is its length less its last border. -/
import Derived.Test.YtlbdegpjgonnnabMFnPlacesx5
namespace Go.Proofs.Ytlbdegpjgonnnab.Pure
open Go.RowKit Go.Proofs.Ytlbdegpjgonnnab.PFnPlaces Go.Proofs.YtlbdegpjgonnnabW.PrintWords Go.Proofs.YtlbdegpjgonnnabW.PrintLast
set_option linter.unusedVariables false
set_option linter.unusedSimpArgs false

theorem w64 {x : Int} (h0 : -9223372036854775808 ≤ x) (h1 : x ≤ 9223372036854775807) : wrap64 x = x := by unfold wrap64; omega
theorem wf64 {x : Int} : (Lit.int .i64 x).wf = true ↔ -9223372036854775808 ≤ x ∧ x ≤ 9223372036854775807 := by
  simp [Lit.wf, IntKind.min, IntKind.max, IntKind.signed, IntKind.bits]
theorem wf8 {x : Int} : (Lit.int .u8 x).wf = true ↔ 0 ≤ x ∧ x ≤ 255 := by
  simp [Lit.wf, IntKind.min, IntKind.max, IntKind.signed, IntKind.bits]
theorem ev_succ {α : Type} {g : Nat → Option α} {r : α} (h : Ev (fun k => g (k + 1)) r) : Ev g r := by
  obtain ⟨K, h⟩ := h
  refine ⟨K + 1, fun k hk => ?_⟩
  obtain ⟨m, rfl⟩ : ∃ m, k = m + 1 := ⟨k - 1, by omega⟩
  exact h m (by omega)
theorem ev_fixed {α : Type} {x : Option α} {r : α} (h : x = some r) : Ev (fun _ => x) r := ⟨0, fun _ _ => h⟩
theorem ev_eq {α : Type} {g : Nat → Option α} {r s : α} (h : Ev g r) (e : r = s) : Ev g s := e ▸ h
theorem bt0 (s : ByteArray) (i : Int) : 0 ≤ bt s i := (bt_range s i).1
theorem bt255 (s : ByteArray) (i : Int) : bt s i ≤ 255 := (bt_range s i).2

theorem ev_pos {α : Type} {c : Prop} [Decidable c] {a b : Nat → Option α} {r : α} (hc : c) (h : Ev a r) : Ev (fun k => if c then a k else b k) r := by
  obtain ⟨K, h⟩ := h
  exact ⟨K, fun k hk => by show (if c then a k else b k) = some r; rw [if_pos hc]; exact h k hk⟩
theorem ev_neg {α : Type} {c : Prop} [Decidable c] {a b : Nat → Option α} {r : α} (hc : ¬ c) (h : Ev b r) : Ev (fun k => if c then a k else b k) r := by
  obtain ⟨K, h⟩ := h
  exact ⟨K, fun k hk => by show (if c then a k else b k) = some r; rw [if_neg hc]; exact h k hk⟩
theorem ev_bind_some {α β : Type} {a : α} {f : Nat → α → Option β} {r : β} (h : Ev (fun k => f k a) r) : Ev (fun k => (some a).bind (f k)) r := h
theorem ev_bind_of {α β : Type} {x : Option α} {a : α} {f : Nat → α → Option β} {r : β} (hx : x = some a) (h : Ev (fun k => f k a) r) : Ev (fun k => x.bind (f k)) r := by
  subst hx; exact h

theorem rd_nat (l : List Int) (i : Nat) : rd l (i : Int) = l.getD i 0 := by simp [rd]
theorem rd_at {l : List Int} {i : Nat} (h : i < l.length) : rd l (i : Int) = l[i] := by rw [rd_nat, List.getD_eq_getElem?_getD, List.getElem?_eq_getElem h]; rfl
theorem take_set_succ {α : Type} (l : List α) (i : Nat) (a : α) (h : i < l.length) : (l.set i a).take (i + 1) = l.take i ++ [a] := by
  rw [List.take_succ_eq_append_getElem (by simpa using h), List.take_set, List.set_eq_of_length_le (by rw [List.length_take]; omega)]
  simp

def Bd (p : Nat → Int) (i k : Nat) : Prop := k < i ∧ ∀ j, j < k → p j = p (i - k + j)
theorem bd_zero {p : Nat → Int} {i : Nat} (h : 0 < i) : Bd p i 0 := ⟨h, fun j hj => absurd hj (by omega)⟩
theorem bd_down {p : Nat → Int} {i k k' : Nat} (h : Bd p i k) (h' : Bd p i k') (hlt : k' < k) : Bd p k k' := by
  refine ⟨hlt, fun j hj => ?_⟩
  have a := h'.2 j hj
  have b := h.2 (k - k' + j) (by omega)
  rw [a, b]
  have := h.1; have := h'.1
  rw [show i - k + (k - k' + j) = i - k' + j by omega]
theorem bd_up {p : Nat → Int} {i k k' : Nat} (h : Bd p i k) (h' : Bd p k k') : Bd p i k' := by
  refine ⟨by have := h.1; have := h'.1; omega, fun j hj => ?_⟩
  have a := h'.2 j hj
  have := h.1; have := h'.1
  have b := h.2 (k - k' + j) (by omega)
  rw [a, b, show i - k + (k - k' + j) = i - k' + j by omega]
theorem bd_succ {p : Nat → Int} {i k : Nat} (h : Bd p i k) (e : p k = p i) : Bd p (i + 1) (k + 1) := by
  refine ⟨by have := h.1; omega, fun j hj => ?_⟩
  have := h.1
  rw [show i + 1 - (k + 1) + j = i - k + j by omega]
  by_cases hjk : j < k
  · exact h.2 j hjk
  · obtain rfl : j = k := by omega
    rw [e, show i - j + j = i by omega]
theorem bd_pred {p : Nat → Int} {i k : Nat} (hi : 0 < i) (h : Bd p (i + 1) (k + 1)) : Bd p i k ∧ p k = p i := by
  have h1 := h.1
  refine ⟨⟨by omega, fun j hj => ?_⟩, ?_⟩
  · have := h.2 j (by omega)
    rw [this, show i + 1 - (k + 1) + j = i - k + j by omega]
  · have := h.2 k (by omega)
    rw [this, show i + 1 - (k + 1) + k = i by omega]
/-- The longest border. -/
def Lg (p : Nat → Int) (i k : Nat) : Prop := Bd p i k ∧ ∀ k', Bd p i k' → k' ≤ k
theorem lg_unique {p : Nat → Int} {i k k' : Nat} (h : Lg p i k) (h' : Lg p i k') : k = k' := Nat.le_antisymm (h'.2 _ h.1) (h.2 _ h'.1)
theorem lg_one (p : Nat → Int) : Lg p 1 0 := ⟨bd_zero (by omega), fun k' h => by have := h.1; omega⟩

theorem lg_search (p : Nat → Int) (i : Nat) (hi : 0 < i) : ∀ N : Nat, (∀ k, Bd p i k → k ≤ N) → ∃ k, Lg p i k := by
  intro N
  induction N with
  | zero => intro h; exact ⟨0, bd_zero hi, h⟩
  | succ N ih =>
    intro h
    by_cases c : Bd p i (N + 1)
    · exact ⟨N + 1, c, h⟩
    · refine ih fun k hk => ?_
      have := h k hk
      by_cases e : k = N + 1
      · subst e; exact absurd hk c
      · omega
theorem lg_exists (p : Nat → Int) {i : Nat} (hi : 0 < i) : ∃ k, Lg p i k := lg_search p i hi i fun k h => by have := h.1; omega
noncomputable def bord (p : Nat → Int) (i : Nat) : Nat := if h : 0 < i then Classical.choose (lg_exists p h) else 0
theorem bord_lg (p : Nat → Int) {i : Nat} (hi : 0 < i) : Lg p i (bord p i) := by
  unfold bord; rw [dif_pos hi]; exact Classical.choose_spec (lg_exists p hi)
theorem bord_eq {p : Nat → Int} {i k : Nat} (h : Lg p i k) : bord p i = k := lg_unique (bord_lg p (by have := h.1.1; omega)) h
theorem bord_lt (p : Nat → Int) {i : Nat} (hi : 0 < i) : bord p i < i := (bord_lg p hi).1.1
theorem bord_zero (p : Nat → Int) : bord p 0 = 0 := by unfold bord; rw [dif_neg (by omega)]
theorem bord_one (p : Nat → Int) : bord p 1 = 0 := bord_eq (lg_one p)
noncomputable def bords (p : Nat → Int) (n : Nat) : List Int := (List.range n).map fun i => (bord p (i + 1) : Int)
theorem bords_length (p : Nat → Int) (n : Nat) : (bords p n).length = n := by simp [bords]
theorem bords_succ (p : Nat → Int) (n : Nat) : bords p (n + 1) = bords p n ++ [(bord p (n + 1) : Int)] := by simp [bords, List.range_succ]
theorem bords_get (p : Nat → Int) (n i : Nat) (h : i < (bords p n).length) : (bords p n)[i] = (bord p (i + 1) : Int) := by simp [bords]
/-- A place of the search for the next border: all longer ones fail. -/
def Try (p : Nat → Int) (i k : Nat) : Prop := Bd p i k ∧ ∀ k', Bd p i k' → k < k' → p k' ≠ p i
theorem try_first (p : Nat → Int) {i : Nat} (hi : 0 < i) : Try p i (bord p i) := ⟨(bord_lg p hi).1, fun k' h hlt => by have := (bord_lg p hi).2 k' h; omega⟩
theorem try_hit {p : Nat → Int} {i k : Nat} (h : Try p i k) (e : p k = p i) : bord p (i + 1) = k + 1 := by
  refine bord_eq ⟨bd_succ h.1 e, fun k' hk' => ?_⟩
  cases k' with
  | zero => omega
  | succ k' =>
    obtain ⟨a, b⟩ := bd_pred (by have := h.1.1; omega) hk'
    by_cases c : k < k'
    · exact absurd b (h.2 k' a c)
    · omega
theorem try_next {p : Nat → Int} {i k : Nat} (h : Try p i k) (hk : 0 < k) (e : p k ≠ p i) : Try p i (bord p k) := by
  have l := bord_lg p hk
  refine ⟨bd_up h.1 l.1, fun k' hk' hlt => ?_⟩
  by_cases c : k < k'
  · exact h.2 k' hk' c
  · by_cases c2 : k' = k
    · subst c2; exact e
    · have := l.2 k' (bd_down h.1 hk' (by omega)); omega
theorem try_miss {p : Nat → Int} {i : Nat} (h : Try p i 0) (e : p 0 ≠ p i) : bord p (i + 1) = 0 := by
  refine bord_eq ⟨bd_zero (by omega), fun k' hk' => ?_⟩
  cases k' with
  | zero => omega
  | succ k' =>
    obtain ⟨a, b⟩ := bd_pred (by have := h.1.1; omega) hk'
    by_cases c : 0 < k'
    · exact absurd b (h.2 k' a c)
    · obtain rfl : k' = 0 := by omega
      exact absurd b e
def fn (l : List Int) : Nat → Int := fun i => rd l (i : Int)

theorem spec_l11Borders_ev (l : List Int) (hl : l.length < 17592186044416) : Ev (fun k => spec_l11Borders.f k l) (bords (fn l) l.length) := by
  have inner : ∀ (N k i : Nat) (r : List Int), k ≤ N → 0 < i → i < l.length → Try (fn l) i k → Ev (fun f => spec_l11Borders.l0 f l (bords (fn l) (i + 1)) (bord (fn l) (i + 1) : Int) ((i + 1 : Nat) : Int)) r →
      Ev (fun f => spec_l11Borders.l1 f l (bords (fn l) i) (k : Int) (i : Int)) r := by
    intro N
    induction N with
    | zero =>
      intro k i r hk hi hil ht hr
      obtain rfl : k = 0 := by omega
      refine ev_succ ?_
      simp only [spec_l11Borders.l1, w64 (x := ((0 : Nat) : Int) + 1) (by omega) (by omega), w64 (x := (i : Int) + 1) (by omega) (by omega)]
      refine ev_pos (by omega) (ev_neg (by omega) (ev_pos (by omega) (ev_pos (by omega) (ev_pos (by omega) (ev_pos (by omega) ?_)))))
      by_cases e : rd l ((0 : Nat) : Int) = rd l (i : Int)
      · refine ev_pos e (ev_pos (by rw [bords_length]; omega) ?_)
        rw [bords_succ, try_hit ht e] at hr
        exact hr
      · refine ev_neg e (ev_pos (by rw [bords_length]; omega) ?_)
        rw [bords_succ, try_miss ht e] at hr
        exact hr
    | succ N ih =>
      intro k i r hk hi hil ht hr
      by_cases hk0 : k = 0
      · exact ih k i r (by omega) hi hil ht hr
      · have hki := ht.1.1
        have wk : wrap64 ((k : Int) - 1) = ((k - 1 : Nat) : Int) := by rw [w64 (by omega) (by omega)]; omega
        refine ev_succ ?_
        simp only [spec_l11Borders.l1, wk, w64 (x := (k : Int) + 1) (by omega) (by omega), w64 (x := (i : Int) + 1) (by omega) (by omega)]
        refine ev_pos (by omega) (ev_pos (by omega) (ev_pos (by omega) (ev_pos (by omega) (ev_pos (by omega) (ev_pos (by omega) ?_)))))
        by_cases e : rd l (k : Int) = rd l (i : Int)
        · refine ev_pos e (ev_pos (by rw [bords_length]; omega) ?_)
          rw [bords_succ, try_hit ht e] at hr
          exact hr
        · refine ev_neg e (ev_pos (by omega) (ev_pos (by rw [bords_length]; omega) ?_))
          rw [rd_at (l := bords (fn l) i) (by rw [bords_length]; omega), bords_get, show k - 1 + 1 = k by omega]
          exact ih _ i r (by have := bord_lt (fn l) (i := k) (by omega); omega) hi hil (try_next ht (by omega) e) hr
  have outer : ∀ (d i : Nat), i + d = l.length → Ev (fun f => spec_l11Borders.l0 f l (bords (fn l) i) (bord (fn l) i : Int) (i : Int)) (bords (fn l) l.length) := by
    intro d
    induction d with
    | zero =>
      intro i h
      refine ev_succ ?_
      simp only [spec_l11Borders.l0]
      refine ev_neg (by omega) ?_
      rw [show i = l.length by omega]
      exact Ev.now _
    | succ d ih =>
      intro i h
      refine ev_succ ?_
      simp only [spec_l11Borders.l0]
      refine ev_pos (by omega) ?_
      by_cases hi : i = 0
      · subst hi
        refine ev_succ ?_
        simp only [spec_l11Borders.l1, show wrap64 (((0 : Nat) : Int) + 1) = ((1 : Nat) : Int) from w64 (by omega) (by omega)]
        refine ev_neg (by omega) (ev_pos (by rw [bords_length]; omega) ?_)
        have := ih 1 (by omega)
        rw [bords_succ, bord_one] at this
        rw [bord_zero]
        exact this
      · exact inner _ _ i _ (Nat.le_refl _) (by omega) (by omega) (try_first _ (by omega)) (ih (i + 1) (by omega))
  have := outer l.length 0 (by omega)
  rw [bord_zero] at this
  exact this

/-- The beginning of p of length k stands ahead of place i of t. -/
def Mt (t p : Nat → Int) (m i k : Nat) : Prop := k ≤ i ∧ k ≤ m ∧ ∀ j, j < k → p j = t (i - k + j)
theorem mt_zero (t p : Nat → Int) (m i : Nat) : Mt t p m i 0 := ⟨by omega, by omega, fun j hj => absurd hj (by omega)⟩
theorem mt_down {t p : Nat → Int} {m i k k' : Nat} (h : Mt t p m i k) (h' : Mt t p m i k') (hlt : k' < k) : Bd p k k' := by
  refine ⟨hlt, fun j hj => ?_⟩
  have a := h'.2.2 j hj
  have b := h.2.2 (k - k' + j) (by omega)
  have := h.1
  rw [a, b, show i - k + (k - k' + j) = i - k' + j by omega]
theorem mt_up {t p : Nat → Int} {m i k k' : Nat} (h : Mt t p m i k) (h' : Bd p k k') : Mt t p m i k' := by
  have h1 := h'.1; have h2 := h.1; have h3 := h.2.1
  refine ⟨by omega, by omega, fun j hj => ?_⟩
  have a := h'.2 j hj
  have b := h.2.2 (k - k' + j) (by omega)
  rw [a, b, show i - k + (k - k' + j) = i - k' + j by omega]
theorem mt_succ {t p : Nat → Int} {m i k : Nat} (h : Mt t p m i k) (hk : k < m) (e : p k = t i) : Mt t p m (i + 1) (k + 1) := by
  have h2 := h.1
  refine ⟨by omega, by omega, fun j hj => ?_⟩
  rw [show i + 1 - (k + 1) + j = i - k + j by omega]
  by_cases hjk : j < k
  · exact h.2.2 j hjk
  · obtain rfl : j = k := by omega
    rw [e, show i - j + j = i by omega]
theorem mt_pred {t p : Nat → Int} {m i k : Nat} (h : Mt t p m (i + 1) (k + 1)) : Mt t p m i k ∧ k < m ∧ p k = t i := by
  have h1 := h.1; have h2 := h.2.1
  refine ⟨⟨by omega, by omega, fun j hj => ?_⟩, by omega, ?_⟩
  · have := h.2.2 j (by omega)
    rw [this, show i + 1 - (k + 1) + j = i - k + j by omega]
  · have := h.2.2 k (by omega)
    rw [this, show i + 1 - (k + 1) + k = i by omega]
def Most (t p : Nat → Int) (m i k : Nat) : Prop := Mt t p m i k ∧ ∀ k', Mt t p m i k' → k' ≤ k
def Seek (t p : Nat → Int) (m i k : Nat) : Prop := Mt t p m i k ∧ ∀ k', Mt t p m i k' → k < k' → k' = m ∨ p k' ≠ t i
theorem seek_first {t p : Nat → Int} {m i k : Nat} (h : Most t p m i k) : Seek t p m i k := ⟨h.1, fun k' hk' hlt => by have := h.2 k' hk'; omega⟩
theorem seek_next {t p : Nat → Int} {m i k : Nat} (h : Seek t p m i k) (hk : 0 < k) (e : k = m ∨ p k ≠ t i) : Seek t p m i (bord p k) := by
  have l := bord_lg p hk
  refine ⟨mt_up h.1 l.1, fun k' hk' hlt => ?_⟩
  by_cases c : k < k'
  · exact h.2 k' hk' c
  · by_cases c2 : k' = k
    · subst c2; exact e
    · have := l.2 k' (mt_down h.1 hk' (by omega)); omega
theorem seek_hit {t p : Nat → Int} {m i k : Nat} (h : Seek t p m i k) (hk : k < m) (e : p k = t i) : Most t p m (i + 1) (k + 1) := by
  refine ⟨mt_succ h.1 hk e, fun k' hk' => ?_⟩
  cases k' with
  | zero => omega
  | succ k' =>
    obtain ⟨a, b, c⟩ := mt_pred hk'
    by_cases d : k < k'
    · rcases h.2 k' a d with x | x
      · omega
      · exact absurd c x
    · omega
theorem seek_miss {t p : Nat → Int} {m i : Nat} (h : Seek t p m i 0) (e : p 0 ≠ t i) : Most t p m (i + 1) 0 := by
  refine ⟨mt_zero _ _ _ _, fun k' hk' => ?_⟩
  cases k' with
  | zero => omega
  | succ k' =>
    obtain ⟨a, b, c⟩ := mt_pred hk'
    by_cases d : 0 < k'
    · rcases h.2 k' a d with x | x
      · omega
      · exact absurd c x
    · obtain rfl : k' = 0 := by omega
      exact absurd c e
theorem most_full {t p : Nat → Int} {m i k : Nat} (h : Most t p m i k) : k = m ↔ Mt t p m i m :=
  ⟨fun e => e ▸ h.1, fun x => Nat.le_antisymm h.1.2.1 (h.2 m x)⟩
open Classical in
/-- Where p stands in the first i of t. -/
noncomputable def occ (t p : Nat → Int) (m : Nat) : Nat → List Int
  | 0 => []
  | i + 1 => if Mt t p m (i + 1) m then occ t p m i ++ [((i + 1 - m : Nat) : Int)] else occ t p m i
open Classical in
theorem occ_succ (t p : Nat → Int) (m i : Nat) : occ t p m (i + 1) = if Mt t p m (i + 1) m then occ t p m i ++ [((i + 1 - m : Nat) : Int)] else occ t p m i := rfl
theorem occ_length (t p : Nat → Int) (m : Nat) : ∀ i, (occ t p m i).length ≤ i
  | 0 => by simp [occ]
  | i + 1 => by
    have := occ_length t p m i
    unfold occ
    split
    · simp; omega
    · omega
theorem occ_small (t p : Nat → Int) {m : Nat} : ∀ i, i < m → occ t p m i = []
  | 0, _ => by simp [occ]
  | i + 1, h => by
    unfold occ
    rw [if_neg (fun x => by have := x.1; omega)]
    exact occ_small t p i (by omega)

theorem spec_l11Places_ev (t p : List Int) (ht : t.length < 17592186044416) (hp : p.length < 17592186044416) (hp1 : 1 ≤ p.length) :
    Ev (fun k => spec_l11Places.f k t p) (occ (fn t) (fn p) p.length t.length) := by
  have ol := occ_length (fn t) (fn p) p.length
  have j2 : ∀ (k i : Nat) (r : List Int), i < t.length → k < p.length → Seek (fn t) (fn p) p.length i k → (k = 0 ∨ rd p (k : Int) = rd t (i : Int)) →
      (∀ k', Most (fn t) (fn p) p.length (i + 1) k' → Ev (fun f => spec_l11Places.l0 f t p (occ (fn t) (fn p) p.length (i + 1)) (bords (fn p) p.length) (k' : Int) ((i + 1 : Nat) : Int)) r) →
      Ev (fun f => spec_l11Places.j2 f t p (occ (fn t) (fn p) p.length i) (bords (fn p) p.length) (k : Int) (i : Int)) r := by
    intro k i r hi hk hs hd hr
    have o := ol i
    have hki := hs.1.1
    refine ev_succ ?_
    simp only [spec_l11Places.j2, w64 (x := (k : Int) + 1) (by omega) (by omega), w64 (x := (i : Int) + 1) (by omega) (by omega)]
    refine ev_pos (by omega) (ev_pos (by omega) (ev_pos (by omega) (ev_pos (by omega) ?_)))
    by_cases e : rd p (k : Int) = rd t (i : Int)
    · refine ev_pos e ?_
      have hm := seek_hit hs hk e
      have hr' := hr _ hm
      by_cases c : k + 1 = p.length
      · refine ev_pos (by omega) (ev_pos (by omega) ?_)
        rw [w64 (x := (i : Int) - ((k : Int) + 1)) (by omega) (by omega), w64 (x := (i : Int) - ((k : Int) + 1) + 1) (by omega) (by omega)]
        unfold occ at hr'
        rw [if_pos ((most_full hm).mp c), ← c, show ((i + 1 - (k + 1) : Nat) : Int) = (i : Int) - ((k : Int) + 1) + 1 by omega] at hr'
        rw [← c]; exact hr'
      · refine ev_neg (by omega) ?_
        unfold occ at hr'
        rw [if_neg (fun x => c ((most_full hm).mpr x))] at hr'
        exact hr'
    · obtain rfl : k = 0 := by rcases hd with h | h; exact h; exact absurd h e
      refine ev_neg e (ev_neg (by omega) ?_)
      have hm := seek_miss hs e
      have hr' := hr _ hm
      unfold occ at hr'
      rw [if_neg (fun x => by have := (most_full hm).mpr x; omega)] at hr'
      exact hr'
  have l1 : ∀ (N k i : Nat) (r : List Int), k ≤ N → i < t.length → Seek (fn t) (fn p) p.length i k →
      (∀ k', Most (fn t) (fn p) p.length (i + 1) k' → Ev (fun f => spec_l11Places.l0 f t p (occ (fn t) (fn p) p.length (i + 1)) (bords (fn p) p.length) (k' : Int) ((i + 1 : Nat) : Int)) r) →
      Ev (fun f => spec_l11Places.l1 f t p (occ (fn t) (fn p) p.length i) (bords (fn p) p.length) (k : Int) (i : Int)) r := by
    intro N
    induction N with
    | zero =>
      intro k i r hk hi hs hr
      obtain rfl : k = 0 := by omega
      refine ev_succ ?_
      simp only [spec_l11Places.l1]
      exact ev_neg (by omega) (j2 0 i r hi (by omega) hs (.inl rfl) hr)
    | succ N ih =>
      intro k i r hk hi hs hr
      by_cases hk0 : k = 0
      · exact ih k i r (by omega) hi hs hr
      · have hkp := hs.1.2.1
        have wk : wrap64 ((k : Int) - 1) = ((k - 1 : Nat) : Int) := by rw [w64 (by omega) (by omega)]; omega
        have nx : (k = p.length ∨ fn p k ≠ fn t i) → Ev (fun f => spec_l11Places.l1 f t p (occ (fn t) (fn p) p.length i) (bords (fn p) p.length) (rd (bords (fn p) p.length) ((k - 1 : Nat) : Int)) (i : Int)) r := fun hx => by
          rw [rd_at (l := bords (fn p) p.length) (by rw [bords_length]; omega), bords_get, show k - 1 + 1 = k by omega]
          exact ih _ i r (by have := bord_lt (fn p) (i := k) (by omega); omega) hi (seek_next hs (by omega) hx) hr
        refine ev_succ ?_
        simp only [spec_l11Places.l1, wk]
        refine ev_pos (by omega) ?_
        by_cases c : k = p.length
        · exact ev_pos (by omega) (ev_pos (by omega) (ev_pos (by rw [bords_length]; omega) (nx (.inl c))))
        · refine ev_neg (by omega) (ev_pos (by omega) (ev_pos (by omega) (ev_pos (by omega) (ev_pos (by omega) ?_))))
          by_cases e : rd p (k : Int) = rd t (i : Int)
          · exact ev_pos e (j2 k i r hi (by omega) hs (.inr e) hr)
          · exact ev_neg e (ev_pos (by omega) (ev_pos (by rw [bords_length]; omega) (nx (.inr e))))
  have l0 : ∀ (d i k : Nat), i + d = t.length → Most (fn t) (fn p) p.length i k → Ev (fun f => spec_l11Places.l0 f t p (occ (fn t) (fn p) p.length i) (bords (fn p) p.length) (k : Int) (i : Int)) (occ (fn t) (fn p) p.length t.length) := by
    intro d
    induction d with
    | zero =>
      intro i k h hm
      refine ev_succ ?_
      simp only [spec_l11Places.l0]
      refine ev_neg (by omega) ?_
      rw [show i = t.length by omega]
      exact Ev.now _
    | succ d ih =>
      intro i k h hm
      refine ev_succ ?_
      simp only [spec_l11Places.l0]
      exact ev_pos (by omega) (l1 _ k i _ (Nat.le_refl _) (by omega) (seek_first hm) (fun k' hk' => ih (i + 1) k' (by omega) hk'))
  unfold spec_l11Places.f
  refine Ev.bind (spec_l11Borders_ev p hp) ?_
  exact l0 t.length 0 0 (by omega) ⟨mt_zero _ _ _ _, fun k' h => h.1⟩

theorem slices_Equal_ev (a b : List Int) (ha : a.length < 9223372036854775807) : Ev (fun k => slices_Equal_int64_int64.f k a b) (decide (a = b)) := by
  unfold slices_Equal_int64_int64.f
  by_cases hl : a.length = b.length
  · refine ev_pos (by omega) ?_
    have go : ∀ (d i : Nat), i + d = a.length → a.take i = b.take i → Ev (fun k => slices_Equal_int64_int64.l0 k a b (a.length : Int) (i : Int)) (decide (a = b)) := by
      intro d
      induction d with
      | zero =>
        intro i h e
        refine ev_succ ?_
        simp only [slices_Equal_int64_int64.l0]
        refine ev_neg (by omega) ?_
        rw [List.take_of_length_le (by omega), List.take_of_length_le (by omega)] at e
        rw [decide_eq_true e]
        exact Ev.now _
      | succ d ih =>
        intro i h e
        refine ev_succ ?_
        simp only [slices_Equal_int64_int64.l0, w64 (x := (i : Int) + 1) (by omega) (by omega)]
        refine ev_pos (by omega) (ev_pos (by omega) (ev_pos (by omega) (ev_pos (by omega) ?_)))
        by_cases c : rd a (i : Int) = rd b (i : Int)
        · refine ev_pos c (ih (i + 1) (by omega) ?_)
          rw [rd_at (by omega), rd_at (by omega)] at c
          rw [List.take_succ_eq_append_getElem (by omega), List.take_succ_eq_append_getElem (by omega), e, c]
        · refine ev_neg c ?_
          rw [decide_eq_false (fun x => c (by rw [x]))]
          exact Ev.now _
    exact go a.length 0 (by omega) rfl
  · refine ev_neg (by omega) ?_
    rw [decide_eq_false (fun x => hl (by rw [x]))]
    exact Ev.now _

theorem cut_mt (t p : List Int) (s : Nat) (h : s + p.length ≤ t.length) : (t.take (s + p.length)).drop s = p ↔ Mt (fn t) (fn p) p.length (s + p.length) p.length := by
  have hl : ((t.take (s + p.length)).drop s).length = p.length := by rw [List.length_drop, List.length_take]; omega
  constructor
  · intro e
    refine ⟨by omega, Nat.le_refl _, fun j hj => ?_⟩
    show rd p (j : Int) = rd t ((s + p.length - p.length + j : Nat) : Int)
    rw [rd_at hj, rd_at (by omega)]
    have : p[j] = ((t.take (s + p.length)).drop s)[j]'(by omega) := by simp only [e]
    rw [this, List.getElem_drop, List.getElem_take]
    congr 1; omega
  · intro e
    refine List.ext_getElem hl fun j h1 h2 => ?_
    have := e.2.2 j h2
    rw [show fn p j = rd p (j : Int) from rfl, show fn t (s + p.length - p.length + j) = rd t ((s + p.length - p.length + j : Nat) : Int) from rfl, rd_at h2, rd_at (by omega)] at this
    rw [this, List.getElem_drop, List.getElem_take]
    congr 1; omega
noncomputable def placesv (t p : List Int) : List Int := if p.length < 1 ∨ p.length > 100 ∨ t.length > 5000 then [] else occ (fn t) (fn p) p.length t.length
theorem impl_Places_ev (t p : List Int) : Ev (fun k => impl_Places.f k t p) (placesv t p) := by
  have jt : Ev (fun k => impl_Places.j0 k t p [] (p.length : Int) true) [] := by
    refine ev_succ ?_
    simp only [impl_Places.j0]
    exact ev_pos (by simp) (Ev.now _)
  unfold impl_Places.f placesv
  refine ev_bind_some ?_
  by_cases h1 : p.length < 1
  · rw [if_pos (.inl h1)]; exact ev_pos (by omega) jt
  refine ev_neg (by omega) ?_
  by_cases h2 : p.length > 100
  · rw [if_pos (.inr (.inl h2))]; exact ev_pos (by omega) jt
  refine ev_neg (by omega) ?_
  by_cases h3 : t.length > 5000
  · rw [if_pos (.inr (.inr h3)), decide_eq_true (by omega)]; exact jt
  rw [if_neg (by omega), decide_eq_false (by omega)]
  refine ev_succ ?_
  simp only [impl_Places.j0]
  refine ev_neg (by simp) ?_
  have go : ∀ (d s : Nat), (s + d = t.length + 1 - p.length ∨ (t.length + 1 < p.length ∧ s = 0 ∧ d = 0)) → Ev (fun k => impl_Places.l0 k t p (occ (fn t) (fn p) p.length (s + p.length - 1)) (p.length : Int) (s : Int)) (occ (fn t) (fn p) p.length t.length) := by
    intro d
    induction d with
    | zero =>
      intro s h
      refine ev_succ ?_
      simp only [impl_Places.l0]
      refine ev_neg (by rw [w64 (by omega) (by omega)]; omega) ?_
      by_cases hz : t.length + 1 < p.length
      · rw [occ_small _ _ _ (by omega), occ_small _ _ _ (by omega)]; exact Ev.now _
      · by_cases hz2 : t.length + 1 = p.length
        · rw [occ_small _ _ _ (by omega), occ_small _ _ _ (by omega)]; exact Ev.now _
        · rw [show s + p.length - 1 = t.length by omega]; exact Ev.now _
    | succ d ih =>
      intro s h
      have ol := occ_length (fn t) (fn p) p.length (s + p.length - 1)
      refine ev_succ ?_
      have ws : wrap64 ((s : Int) + (p.length : Int)) = ((s + p.length : Nat) : Int) := by rw [w64 (by omega) (by omega)]; omega
      simp only [impl_Places.l0, ws, w64 (x := (s : Int) + 1) (by omega) (by omega)]
      refine ev_pos (by omega) (ev_pos (by omega) (ev_pos (by omega) ?_))
      rw [show ((s + p.length : Nat) : Int).toNat = s + p.length by omega, show (s : Int).toNat = s by omega]
      refine Ev.bind (slices_Equal_ev _ p (by rw [List.length_drop, List.length_take]; omega)) ?_
      have hi := ih (s + 1) (by omega)
      rw [show s + 1 + p.length - 1 = (s + p.length - 1) + 1 by omega] at hi
      rw [occ_succ] at hi
      have hm := cut_mt t p s (by omega)
      rw [show s + p.length - 1 + 1 = s + p.length by omega, show s + p.length - p.length = s by omega] at hi
      by_cases c : (t.take (s + p.length)).drop s = p
      · rw [if_pos (hm.mp c)] at hi
        exact ev_pos (decide_eq_true c) (ev_pos (by omega) hi)
      · rw [if_neg (fun x => c (hm.mpr x))] at hi
        exact ev_neg (by simpa using c) hi
  have := go (t.length + 1 - p.length) 0 (by omega)
  rw [occ_small _ _ _ (by omega)] at this
  exact this

theorem impl_Borders_loop (l : List Int) (hl : l.length < 17592186044416) : Ev (fun k => impl_Borders.l0 k l [] l (l.length : Int) 0) (bords (fn l) l.length) := by
  have inner : ∀ (N k i : Nat) (r : List Int), k ≤ N → 0 < i → i < l.length → Try (fn l) i k → Ev (fun f => impl_Borders.l0 f l (bords (fn l) (i + 1)) l (l.length : Int) ((i + 1 : Nat) : Int)) r →
      Ev (fun f => impl_Borders.l1 f l (bords (fn l) i) (rd l (i : Int)) (k : Int) l (l.length : Int) (i : Int)) r := by
    intro N
    induction N with
    | zero =>
      intro k i r hk hi hil ht hr
      obtain rfl : k = 0 := by omega
      refine ev_succ ?_
      simp only [impl_Borders.l1, w64 (x := ((0 : Nat) : Int) + 1) (by omega) (by omega), w64 (x := (i : Int) + 1) (by omega) (by omega)]
      refine ev_neg (by omega) (ev_pos (by omega) (ev_pos (by omega) ?_))
      by_cases e : rd l ((0 : Nat) : Int) = rd l (i : Int)
      · refine ev_pos e (ev_pos (by rw [bords_length]; omega) ?_)
        rw [bords_succ, try_hit ht e] at hr
        exact hr
      · refine ev_neg e (ev_pos (by rw [bords_length]; omega) ?_)
        rw [bords_succ, try_miss ht e] at hr
        exact hr
    | succ N ih =>
      intro k i r hk hi hil ht hr
      by_cases hk0 : k = 0
      · exact ih k i r (by omega) hi hil ht hr
      · have hki := ht.1.1
        have wk : wrap64 ((k : Int) - 1) = ((k - 1 : Nat) : Int) := by rw [w64 (by omega) (by omega)]; omega
        refine ev_succ ?_
        simp only [impl_Borders.l1, wk, w64 (x := (k : Int) + 1) (by omega) (by omega), w64 (x := (i : Int) + 1) (by omega) (by omega)]
        refine ev_pos (by omega) (ev_pos (by omega) (ev_pos (by omega) ?_))
        by_cases e : rd l (k : Int) = rd l (i : Int)
        · refine ev_pos e (ev_pos (by rw [bords_length]; omega) ?_)
          rw [bords_succ, try_hit ht e] at hr
          exact hr
        · refine ev_neg e (ev_pos (by omega) (ev_pos (by rw [bords_length]; omega) ?_))
          rw [rd_at (l := bords (fn l) i) (by rw [bords_length]; omega), bords_get, show k - 1 + 1 = k by omega]
          exact ih _ i r (by have := bord_lt (fn l) (i := k) (by omega); omega) hi hil (try_next ht (by omega) e) hr
  have outer : ∀ (d i : Nat), i + d = l.length → Ev (fun f => impl_Borders.l0 f l (bords (fn l) i) l (l.length : Int) (i : Int)) (bords (fn l) l.length) := by
    intro d
    induction d with
    | zero =>
      intro i h
      refine ev_succ ?_
      simp only [impl_Borders.l0]
      refine ev_neg (by omega) ?_
      rw [show i = l.length by omega]
      exact Ev.now _
    | succ d ih =>
      intro i h
      refine ev_succ ?_
      have wi : i ≠ 0 → wrap64 ((i : Int) - 1) = ((i - 1 : Nat) : Int) := fun _ => by rw [w64 (by omega) (by omega)]; omega
      simp only [impl_Borders.l0, w64 (x := (i : Int) + 1) (by omega) (by omega)]
      refine ev_pos (by omega) (ev_pos (by omega) (ev_pos (by omega) ?_))
      by_cases hi : i = 0
      · subst hi
        refine ev_neg (by omega) (ev_pos (by rw [bords_length]; omega) ?_)
        have := ih 1 (by omega)
        rw [bords_succ, bord_one] at this
        exact this
      · refine ev_pos (by omega) ?_
        rw [wi hi]
        refine ev_pos (by omega) (ev_pos (by rw [bords_length]; omega) ?_)
        rw [rd_at (l := bords (fn l) i) (by rw [bords_length]; omega), bords_get, show i - 1 + 1 = i by omega]
        exact inner _ _ i _ (Nat.le_refl _) (by omega) (by omega) (try_first _ (by omega)) (ih (i + 1) (by omega))
  exact outer l.length 0 (by omega)
noncomputable def bordersv (l : List Int) : List Int := if l.length > 100 then [] else bords (fn l) l.length
theorem impl_Borders_ev (l : List Int) : Ev (fun k => impl_Borders.f k l) (bordersv l) := by
  unfold impl_Borders.f bordersv
  refine ev_bind_some ?_
  by_cases h : l.length > 100
  · rw [if_pos h]; exact ev_pos (by omega) (Ev.now _)
  · rw [if_neg h]; exact ev_neg (by omega) (impl_Borders_loop l (by omega))

noncomputable def periodv (l : List Int) : Int := if l.length < 1 ∨ l.length > 100 then -1 else (l.length : Int) - (bord (fn l) l.length : Int)
theorem periods_ev (l : List Int) (hl : l.length < 17592186044416) : Ev (fun k => spec_Period.f k l) (periodv l) ∧ Ev (fun k => impl_Period.f k l) (periodv l) := by
  unfold spec_Period.f impl_Period.f periodv
  by_cases h2 : (l.length : Int) < 1
  · rw [if_pos (.inl (by omega))]; exact ⟨ev_pos h2 (Ev.now _), ev_pos h2 (Ev.now _)⟩
  by_cases h3 : (l.length : Int) > 100
  · rw [if_pos (.inr (by omega))]; exact ⟨ev_neg h2 (ev_pos h3 (Ev.now _)), ev_neg h2 (ev_pos h3 (Ev.now _))⟩
  rw [if_neg (by omega)]
  have wl : wrap64 ((l.length : Int) - 1) = ((l.length - 1 : Nat) : Int) := by rw [w64 (by omega) (by omega)]; omega
  have e := impl_Borders_ev l
  unfold bordersv at e
  rw [if_neg (by omega)] at e
  have hb := bord_lt (fn l) (i := l.length) (by omega)
  have hr : rd (bords (fn l) l.length) ((l.length - 1 : Nat) : Int) = (bord (fn l) l.length : Int) := by
    rw [rd_at (l := bords (fn l) l.length) (by rw [bords_length]; omega), bords_get, show l.length - 1 + 1 = l.length by omega]
  rw [wl]
  exact ⟨ev_neg h2 (ev_neg h3 (Ev.bind (spec_l11Borders_ev l hl) (by rw [hr, w64 (by omega) (by omega)]; exact ev_pos (by omega) (ev_pos (by rw [bords_length]; omega) (Ev.now _))))),
    ev_neg h2 (ev_neg h3 (Ev.bind e (by rw [hr, w64 (by omega) (by omega)]; exact ev_pos (by omega) (ev_pos (by rw [bords_length]; omega) (Ev.now _)))))⟩

theorem laws_likeInts_ev (a b : List Int) (ha : a.length < 9223372036854775807) : Ev (fun k => laws_likeInts.f k a b) (decide (a = b)) := by
  unfold laws_likeInts.f
  by_cases hl : a.length = b.length
  · refine ev_pos (by omega) ?_
    have go : ∀ (d i : Nat), i + d = a.length → a.take i = b.take i → Ev (fun k => laws_likeInts.l0 k a b (i : Int)) (decide (a = b)) := by
      intro d
      induction d with
      | zero =>
        intro i h e
        refine ev_succ ?_
        simp only [laws_likeInts.l0]
        refine ev_neg (by omega) ?_
        rw [List.take_of_length_le (by omega), List.take_of_length_le (by omega)] at e
        rw [decide_eq_true e]
        exact Ev.now _
      | succ d ih =>
        intro i h e
        refine ev_succ ?_
        simp only [laws_likeInts.l0, w64 (x := (i : Int) + 1) (by omega) (by omega)]
        refine ev_pos (by omega) (ev_pos (by omega) (ev_pos (by omega) ?_))
        by_cases c : rd a (i : Int) = rd b (i : Int)
        · refine ev_pos c (ih (i + 1) (by omega) ?_)
          rw [rd_at (by omega), rd_at (by omega)] at c
          rw [List.take_succ_eq_append_getElem (by omega), List.take_succ_eq_append_getElem (by omega), e, c]
        · refine ev_neg c ?_
          rw [decide_eq_false (fun x => c (by rw [x]))]
          exact Ev.now _
    exact go a.length 0 (by omega) rfl
  · refine ev_neg (by omega) ?_
    rw [decide_eq_false (fun x => hl (by rw [x]))]
    exact Ev.now _
theorem laws_likeInts_self (a : List Int) (ha : a.length < 9223372036854775807) : Ev (fun k => laws_likeInts.f k a a) true := ev_eq (laws_likeInts_ev a a ha) (decide_eq_true rfl)

theorem and255 (x : Int) : 0 ≤ Go.bits .and .i64 x 255 ∧ Go.bits .and .i64 x 255 ≤ 255 := by
  have h : ((BitVec.ofInt 64 x &&& BitVec.ofInt 64 255).toNat : Int) ≤ 255 := by
    rw [BitVec.toNat_and]
    have : (BitVec.ofInt 64 x).toNat &&& (BitVec.ofInt 64 255).toNat ≤ (BitVec.ofInt 64 255).toNat := Nat.and_le_right
    have e : (BitVec.ofInt 64 255).toNat = 255 := by decide
    omega
  have w : Go.bits .and .i64 x 255 = IntKind.i64.wrap ((BitVec.ofInt 64 x &&& BitVec.ofInt 64 255).toNat : Int) := rfl
  rw [w, IntKind.wrap_i64]
  omega
/-- A draw's byte. -/
theorem spec_l1Byte_some (b : List Int) (hb : b.length < 4611686018427387904) (i h : Int) (hi : 0 ≤ i) :
    ∃ v i' h', spec_l1Byte.f b i h = some (v, i', h') ∧ 0 ≤ v ∧ v ≤ 255 ∧ 0 ≤ i' := by
  unfold spec_l1Byte.f
  by_cases c : i < (b.length : Int)
  · rw [if_pos c, if_pos hi]
    exact ⟨_, _, _, rfl, (and255 _).1, (and255 _).2, by rw [w64 (by omega) (by omega)]; omega⟩
  · rw [if_neg c]
    exact ⟨_, _, _, rfl, (and255 _).1, (and255 _).2, hi⟩
theorem spec_l1Below_some (b : List Int) (hb : b.length < 4611686018427387904) (i h n : Int) (hi : 0 ≤ i) (hn : n < 4611686018427387904) :
    ∃ v i' h', spec_l1Below.f b i h n = some (v, i', h') ∧ 0 ≤ v ∧ (v < n ∨ (n ≤ 0 ∧ v = 0)) ∧ 0 ≤ i' := by
  unfold spec_l1Below.f
  by_cases c : n ≤ 0
  · rw [if_pos c]; exact ⟨0, i, h, rfl, by omega, .inr ⟨c, rfl⟩, hi⟩
  · rw [if_neg c]
    by_cases c2 : n ≤ 256
    · rw [if_pos c2]
      obtain ⟨v, i', h', e, h0, h1, h2⟩ := spec_l1Byte_some b hb i h hi
      rw [e]
      simp only [Option.bind_some]
      rw [if_neg (by omega), Int.tmod_eq_emod_of_nonneg h0]
      exact ⟨_, _, _, rfl, Int.emod_nonneg _ (by omega), .inl (Int.emod_lt_of_pos _ (by omega)), h2⟩
    · rw [if_neg c2]
      obtain ⟨x, i1, h1, e1, x0, x1, j1⟩ := spec_l1Byte_some b hb i h hi
      obtain ⟨y, i2, h2, e2, y0, y1, j2⟩ := spec_l1Byte_some b hb i1 h1 j1
      obtain ⟨z, i3, h3, e3, z0, z1, j3⟩ := spec_l1Byte_some b hb i2 h2 j2
      obtain ⟨u, i4, h4, e4, u0, u1, j4⟩ := spec_l1Byte_some b hb i3 h3 j3
      rw [e1]; simp only [Option.bind_some]
      rw [e2]; simp only [Option.bind_some]
      rw [e3]; simp only [Option.bind_some]
      rw [e4]; simp only [Option.bind_some]
      rw [if_neg (by omega), w64 (x := x * 16777216) (by omega) (by omega), w64 (x := y * 65536) (by omega) (by omega), w64 (x := z * 256) (by omega) (by omega), w64 (x := x * 16777216 + y * 65536) (by omega) (by omega),
        w64 (x := x * 16777216 + y * 65536 + z * 256) (by omega) (by omega), w64 (x := x * 16777216 + y * 65536 + z * 256 + u) (by omega) (by omega), Int.tmod_eq_emod_of_nonneg (by omega)]
      exact ⟨_, _, _, rfl, Int.emod_nonneg _ (by omega), .inl (Int.emod_lt_of_pos _ (by omega)), j4⟩

theorem spec_l1Once_some (b : List Int) (hb : b.length < 4611686018427387904) (i h n : Int) (hi : 0 ≤ i) (hn : n < 4611686018427387904) :
    ∃ v i' h', spec_l1Once.f b i h n = some (v, i', h') ∧ 0 ≤ i' := by
  unfold spec_l1Once.f
  obtain ⟨v, i', h', e, _, _, h2⟩ := spec_l1Below_some b hb i h n hi hn
  rw [e]
  exact ⟨_, _, _, rfl, h2⟩

theorem spec_l1New_some (l : List Int) (hl : l.length < 4611686018427387904) : ∃ h, Ev (fun k => spec_l1New.f k l) (l, 0, h) := by
  have go : ∀ (d i : Nat) (x : Int), i + d = l.length → ∃ h, Ev (fun k => spec_l1New.l0 k l x (i : Int)) (l, 0, h) := by
    intro d
    induction d with
    | zero =>
      intro i x h
      refine ⟨x, ev_succ ?_⟩
      simp only [spec_l1New.l0]
      exact ev_neg (by omega) (Ev.now _)
    | succ d ih =>
      intro i x h
      obtain ⟨h', e⟩ := ih (i + 1) (Go.bits .and .i64 (wrap64 ((wrap64 ((wrap64 (x * 137)) + (wrap64 (rd l (i : Int))))) + 11)) 1073741823) (by omega)
      refine ⟨h', ev_succ ?_⟩
      simp only [spec_l1New.l0, w64 (x := (i : Int) + 1) (by omega) (by omega)]
      exact ev_pos (by omega) (ev_pos (by omega) e)
  exact go l.length 0 _ (by omega)

theorem spec_l11Draw_some (b : List Int) (hb : b.length < 4611686018427387904) (i h n : Int) (hi : 0 ≤ i) (hn : n ≤ 1000) (hn0 : 0 ≤ n) :
    ∃ l i' h', Ev (fun k => spec_l11Draw.f k b i h n) (l, i', h') ∧ l.length ≤ n ∧ 0 ≤ i' := by
  have go : ∀ (d : Nat) (l : List Int) (i h : Int), 0 ≤ i → l.length + d ≤ 1000 → ∃ l' i' h', Ev (fun k => spec_l11Draw.l0 k l (d : Int) b i h) (l', i', h') ∧ l'.length ≤ l.length + d ∧ 0 ≤ i' := by
    intro d
    induction d with
    | zero =>
      intro l i h hi hl
      refine ⟨l, i, h, ev_succ ?_, by omega, hi⟩
      simp only [spec_l11Draw.l0]
      exact ev_neg (by omega) (Ev.now _)
    | succ d ih =>
      intro l i h hi hl
      obtain ⟨v, i1, h1, e, _, _, j1⟩ := spec_l1Below_some b hb i h 2 hi (by omega)
      obtain ⟨l', i', h', e', hl', hi'⟩ := ih (l ++ [v]) i1 h1 j1 (by simp; omega)
      refine ⟨l', i', h', ev_succ ?_, by simp at hl'; omega, hi'⟩
      simp only [spec_l11Draw.l0, e, Option.bind_some, show (((d + 1 : Nat) : Int) - 1) = (d : Int) by omega, w64 (x := (d : Int)) (by omega) (by omega)]
      exact ev_pos (by omega) (ev_pos (by omega) e')
  unfold spec_l11Draw.f
  rw [w64 (by omega) (by omega)]
  obtain ⟨v, i1, h1, e, v0, v1, j1⟩ := spec_l1Below_some b hb i h (n + 1) hi (by omega)
  rw [e]
  simp only [Option.bind_some]
  obtain ⟨d, rfl⟩ : ∃ d : Nat, v = d := ⟨v.toNat, by omega⟩
  obtain ⟨l', i', h', e', hl', hi'⟩ := go d [] i1 h1 j1 (by simp; omega)
  exact ⟨l', i', h', e', by simp at hl'; omega, hi'⟩
theorem spec_DrawPlaces_some (l : List Int) (hl : l.length < 4611686018427387904) : ∃ t p, Ev (fun k => spec_DrawPlaces.f k l) (t, p) ∧ t.length ≤ 5001 ∧ p.length ≤ 4 := by
  obtain ⟨h, e0⟩ := spec_l1New_some l hl
  obtain ⟨t, i1, h1, e1, ht, j1⟩ := spec_l11Draw_some l hl 0 h 20 (by omega) (by omega) (by omega)
  obtain ⟨p, i2, h2, e2, hp, j2⟩ := spec_l11Draw_some l hl i1 h1 4 j1 (by omega) (by omega)
  obtain ⟨v, i3, h3, e3, j3⟩ := spec_l1Once_some l hl i2 h2 30 j2 (by omega)
  unfold spec_DrawPlaces.f
  cases v with
  | true =>
    obtain ⟨u, i4, h4, e4, u0, u1, j4⟩ := spec_l1Below_some l hl i3 h3 2 j3 (by omega)
    refine ⟨List.replicate (5000 + u).toNat 0, p, Ev.bind e0 (Ev.bind e1 (Ev.bind e2 (ev_bind_of e3 (ev_pos rfl (ev_bind_of e4 ?_))))), by simp; omega, by omega⟩
    show Ev (fun k => if 0 ≤ wrap64 (5000 + u) then _ else _) _
    rw [w64 (x := 5000 + u) (by omega) (by omega)]
    exact ev_pos (by omega) (ev_pos (by omega) (Ev.now _))
  | false => exact ⟨t, p, Ev.bind e0 (Ev.bind e1 (Ev.bind e2 (ev_bind_of e3 (ev_neg (by simp) (Ev.now _))))), by omega, by omega⟩
theorem spec_DrawBorders_some (l : List Int) (hl : l.length < 4611686018427387904) : ∃ q, Ev (fun k => spec_DrawBorders.f k l) q ∧ q.length ≤ 101 := by
  obtain ⟨h, e0⟩ := spec_l1New_some l hl
  obtain ⟨v, i3, h3, e3, j3⟩ := spec_l1Once_some l hl 0 h 30 (by omega) (by omega)
  unfold spec_DrawBorders.f
  cases v with
  | true =>
    obtain ⟨u, i4, h4, e4, u0, u1, j4⟩ := spec_l1Below_some l hl i3 h3 2 j3 (by omega)
    refine ⟨List.replicate (100 + u).toNat 0, Ev.bind e0 (ev_bind_of e3 (ev_pos rfl (ev_bind_of e4 ?_))), by simp; omega⟩
    show Ev (fun k => if 0 ≤ wrap64 (100 + u) then _ else _) _
    rw [w64 (x := 100 + u) (by omega) (by omega)]
    exact ev_pos (by omega) (ev_pos (by omega) (Ev.now _))
  | false =>
    obtain ⟨t, i1, h1, e1, ht, j1⟩ := spec_l11Draw_some l hl i3 h3 12 j3 (by omega) (by omega)
    exact ⟨t, Ev.bind e0 (ev_bind_of e3 (ev_neg (by simp) (Ev.bind e1 (Ev.now _)))), by omega⟩

theorem spec_Places_ev (t p : List Int) : Ev (fun k => spec_Places.f k t p) (placesv t p) := by
  unfold spec_Places.f placesv
  by_cases h1 : p.length < 1
  · rw [if_pos (.inl h1)]; exact ev_pos (by omega) (Ev.now _)
  refine ev_neg (by omega) ?_
  by_cases h2 : p.length > 100
  · rw [if_pos (.inr (.inl h2))]; exact ev_pos (by omega) (Ev.now _)
  refine ev_neg (by omega) ?_
  by_cases h3 : t.length > 5000
  · rw [if_pos (.inr (.inr h3))]; exact ev_pos (by omega) (Ev.now _)
  rw [if_neg (by omega)]
  exact ev_neg (by omega) (Ev.bind (spec_l11Places_ev t p (by omega) (by omega) (by omega)) (Ev.now _))
theorem spec_Borders_ev (l : List Int) : Ev (fun k => spec_Borders.f k l) (bordersv l) := by
  unfold spec_Borders.f bordersv
  by_cases h : l.length > 100
  · rw [if_pos h]; exact ev_pos (by omega) (Ev.now _)
  · rw [if_neg h]; exact ev_neg (by omega) (Ev.bind (spec_l11Borders_ev l (by omega)) (Ev.now _))
theorem occ_prefix (t p : Nat → Int) (m : Nat) : ∀ (d s : Nat), ∃ r, occ t p m (s + d) = occ t p m s ++ r
  | 0, s => ⟨[], by simp⟩
  | d + 1, s => by
    obtain ⟨r, h⟩ := occ_prefix t p m d s
    rw [show s + (d + 1) = (s + d) + 1 by omega, occ_succ, h]
    split
    · exact ⟨r ++ [_], by rw [List.append_assoc]⟩
    · exact ⟨r, rfl⟩
theorem cut_bd (q : List Int) (i j : Nat) (hj : j ≤ i) (hi : i < q.length) : q.take j = (q.take (i + 1)).drop (i + 1 - j) ↔ Bd (fn q) (i + 1) j := by
  have hl : ((q.take (i + 1)).drop (i + 1 - j)).length = j := by rw [List.length_drop, List.length_take]; omega
  have hl2 : (q.take j).length = j := by rw [List.length_take]; omega
  constructor
  · intro e
    refine ⟨by omega, fun x hx => ?_⟩
    show rd q (x : Int) = rd q ((i + 1 - j + x : Nat) : Int)
    rw [rd_at (by omega), rd_at (by omega)]
    have h1 : q[x]'(by omega) = (q.take j)[x]'(by omega) := by rw [List.getElem_take]
    have h2 : (q.take j)[x]'(by omega) = ((q.take (i + 1)).drop (i + 1 - j))[x]'(by omega) := by simp only [e]
    rw [h1, h2, List.getElem_drop, List.getElem_take]
  · intro e
    refine List.ext_getElem (by omega) fun x h1 h2 => ?_
    have := e.2 x (by omega)
    rw [show fn q x = rd q (x : Int) from rfl, show fn q (i + 1 - j + x) = rd q ((i + 1 - j + x : Nat) : Int) from rfl, rd_at (by omega), rd_at (by omega)] at this
    rw [List.getElem_take, this, List.getElem_drop, List.getElem_take]
theorem places_tail (q : List Int) (hq : q.length ≤ 101) : Ev (fun k => laws_FnPlaces.j3 k q (bordersv q) (periodv q)) true := by
  refine ev_succ ?_
  simp only [laws_FnPlaces.j3]
  by_cases hb : q.length < 1 ∨ q.length > 100
  · have e1 : bordersv q = [] := by
      unfold bordersv
      rcases hb with h | h
      · rw [if_neg (by omega)]; obtain rfl : q = [] := List.length_eq_zero_iff.mp (by omega); rfl
      · rw [if_pos h]
    have e2 : periodv q = -1 := by unfold periodv; rw [if_pos hb]
    rw [e1, e2]
    refine ev_succ ?_
    simp only [laws_FnPlaces.l1]
    refine ev_neg (by simp) (ev_pos (by omega) ?_)
    by_cases h : (q.length : Int) < 1
    · exact ev_pos h (Ev.now _)
    · refine ev_neg h ?_
      rw [decide_eq_true (by omega)]
      exact Ev.now _
  · have e1 : bordersv q = bords (fn q) q.length := by unfold bordersv; rw [if_neg (by omega)]
    have hbl := bord_lt (fn q) (i := q.length) (by omega)
    have e2 : periodv q = ((q.length - bord (fn q) q.length : Nat) : Int) := by unfold periodv; rw [if_neg hb]; omega
    rw [e1, e2]
    generalize hd : q.length - bord (fn q) q.length = dd
    have l3 : ∀ (d i : Nat), i + d = q.length → dd ≤ i → Ev (fun k => laws_FnPlaces.l3 k q (bords (fn q) q.length) (dd : Int) (i : Int)) true := by
      intro d
      induction d with
      | zero =>
        intro i h hi
        refine ev_succ ?_
        have wl : wrap64 ((q.length : Int) - 1) = ((q.length - 1 : Nat) : Int) := by rw [w64 (by omega) (by omega)]; omega
        have hr : rd (bords (fn q) q.length) ((q.length - 1 : Nat) : Int) = (bord (fn q) q.length : Int) := by
          rw [rd_at (l := bords (fn q) q.length) (by rw [bords_length]; omega), bords_get, show q.length - 1 + 1 = q.length by omega]
        simp only [laws_FnPlaces.l3, wl, hr]
        refine ev_neg (by omega) (ev_pos (by omega) (ev_pos (by rw [bords_length]; omega) ?_))
        refine ev_eq (Ev.now _) ?_
        rw [w64 (by omega) (by omega)]
        simp; omega
      | succ d ih =>
        intro i h hi
        refine ev_succ ?_
        have wd : wrap64 ((i : Int) - (dd : Int)) = ((i - dd : Nat) : Int) := by rw [w64 (by omega) (by omega)]; omega
        simp only [laws_FnPlaces.l3, wd, w64 (x := (i : Int) + 1) (by omega) (by omega)]
        refine ev_pos (by omega) (ev_pos (by omega) (ev_pos (by omega) (ev_pos (by omega) (ev_pos ?_ (ih (i + 1) (by omega) (by omega))))))
        have := (bord_lg (fn q) (i := q.length) (by omega)).1.2 (i - dd) (by omega)
        rw [show fn q (i - dd) = rd q ((i - dd : Nat) : Int) from rfl, show q.length - bord (fn q) q.length + (i - dd) = i by omega] at this
        exact this.symm
    have l1 : ∀ (d i : Nat), i + d = q.length → Ev (fun k => laws_FnPlaces.l1 k q (bords (fn q) q.length) (dd : Int) (i : Int)) true := by
      intro d
      induction d with
      | zero =>
        intro i h
        refine ev_succ ?_
        simp only [laws_FnPlaces.l1]
        exact ev_neg (by rw [bords_length]; omega) (ev_neg (by omega) (l3 (q.length - dd) dd (by omega) (Nat.le_refl _)))
      | succ d ih =>
        intro i h
        refine ev_succ ?_
        have lg := bord_lg (fn q) (i := i + 1) (by omega)
        have hk := lg.1.1
        have hr : rd (bords (fn q) q.length) (i : Int) = (bord (fn q) (i + 1) : Int) := by rw [rd_at (l := bords (fn q) q.length) (by rw [bords_length]; omega), bords_get]
        have w1 : wrap64 ((i : Int) + 1) = ((i + 1 : Nat) : Int) := by rw [w64 (by omega) (by omega)]; omega
        have w2 : wrap64 (((i + 1 : Nat) : Int) - (bord (fn q) (i + 1) : Int)) = ((i + 1 - bord (fn q) (i + 1) : Nat) : Int) := by rw [w64 (by omega) (by omega)]; omega
        simp only [laws_FnPlaces.l1, hr, w1, w2, Int.toNat_natCast]
        refine ev_pos (by rw [bords_length]; omega) (ev_pos (by omega) (ev_neg (by omega) (ev_pos (by omega) (ev_pos (by omega) (ev_pos (by omega) (ev_pos (by omega) (ev_pos (by omega) ?_)))))))
        refine Ev.bind (ev_eq (laws_likeInts_ev _ _ (by rw [List.length_take]; omega)) (decide_eq_true ((cut_bd q i _ (by omega) (by omega)).mpr lg.1))) ?_
        refine ev_succ ?_
        simp only [laws_FnPlaces.j5, Bool.not_true]
        refine ev_neg (by simp) ?_
        have l2 : ∀ (e j : Nat), j + e = i + 1 → bord (fn q) (i + 1) < j → Ev (fun k => laws_FnPlaces.l2 k q (bords (fn q) q.length) (dd : Int) (i : Int) (j : Int)) true := by
          intro e
          induction e with
          | zero =>
            intro j hj hlt
            refine ev_succ ?_
            simp only [laws_FnPlaces.l2, w1]
            exact ev_neg (by omega) (ih (i + 1) (by omega))
          | succ e ihe =>
            intro j hj hlt
            refine ev_succ ?_
            have w3 : wrap64 (((i + 1 : Nat) : Int) - (j : Int)) = ((i + 1 - j : Nat) : Int) := by rw [w64 (by omega) (by omega)]; omega
            simp only [laws_FnPlaces.l2, w1, w3, Int.toNat_natCast, w64 (x := (j : Int) + 1) (by omega) (by omega)]
            refine ev_pos (by omega) (ev_pos (by omega) (ev_pos (by omega) (ev_pos (by omega) (ev_pos (by omega) (ev_pos (by omega) ?_)))))
            refine Ev.bind (ev_eq (laws_likeInts_ev _ _ (by rw [List.length_take]; omega)) (decide_eq_false (fun x => ?_))) (ev_neg (by simp) (ihe (j + 1) (by omega) (by omega)))
            have := lg.2 j ((cut_bd q i j (by omega) (by omega)).mp x)
            omega
        have := l2 (i - bord (fn q) (i + 1)) (bord (fn q) (i + 1) + 1) (by omega) (by omega)
        rw [w64 (by omega) (by omega)]
        exact this
    exact l1 q.length 0 (by omega)
theorem places_head (t p q : List Int) (ht : t.length ≤ 5000) (hp1 : 1 ≤ p.length) (hp : p.length ≤ 4) (hq : q.length ≤ 101) :
    Ev (fun k => laws_FnPlaces.l0 k t p (occ (fn t) (fn p) p.length t.length) q (bordersv q) (periodv q) 0 0) true := by
  have ol := occ_length (fn t) (fn p) p.length t.length
  have fin : Ev (fun k => laws_FnPlaces.j3 k q (bordersv q) (periodv q)) true := places_tail q hq
  have go : ∀ (d s : Nat), (s + d = t.length + 1 - p.length ∨ (t.length + 1 < p.length ∧ s = 0 ∧ d = 0)) →
      Ev (fun k => laws_FnPlaces.l0 k t p (occ (fn t) (fn p) p.length t.length) q (bordersv q) (periodv q) ((occ (fn t) (fn p) p.length (s + p.length - 1)).length : Int) (s : Int)) true := by
    intro d
    induction d with
    | zero =>
      intro s h
      refine ev_succ ?_
      simp only [laws_FnPlaces.l0]
      refine ev_neg (by rw [w64 (by omega) (by omega)]; omega) (ev_pos ?_ fin)
      by_cases hz : t.length + 1 ≤ p.length
      · rw [occ_small _ _ _ (by omega), occ_small _ _ _ (by omega)]
      · rw [show s + p.length - 1 = t.length by omega]
    | succ d ih =>
      intro s h
      have o1 := occ_length (fn t) (fn p) p.length (s + p.length - 1)
      refine ev_succ ?_
      have ws : wrap64 ((s : Int) + (p.length : Int)) = ((s + p.length : Nat) : Int) := by rw [w64 (by omega) (by omega)]; omega
      simp only [laws_FnPlaces.l0, ws, w64 (x := (s : Int) + 1) (by omega) (by omega), Int.toNat_natCast]
      refine ev_pos (by omega) (ev_pos (by omega) (ev_pos (by omega) ?_))
      refine Ev.bind (laws_likeInts_ev _ p (by rw [List.length_drop, List.length_take]; omega)) ?_
      have hi := ih (s + 1) (by omega)
      rw [show s + 1 + p.length - 1 = (s + p.length - 1) + 1 by omega, occ_succ] at hi
      have hm := cut_mt t p s (by omega)
      rw [show s + p.length - 1 + 1 = s + p.length by omega, show s + p.length - p.length = s by omega] at hi
      by_cases c : (t.take (s + p.length)).drop s = p
      · rw [if_pos (hm.mp c), List.length_append, List.length_singleton] at hi
        obtain ⟨r, hr⟩ := occ_prefix (fn t) (fn p) p.length (t.length - (s + p.length)) (s + p.length)
        rw [show s + p.length + (t.length - (s + p.length)) = t.length by omega] at hr
        have hs : occ (fn t) (fn p) p.length (s + p.length) = occ (fn t) (fn p) p.length (s + p.length - 1) ++ [(s : Int)] := by
          have := occ_succ (fn t) (fn p) p.length (s + p.length - 1)
          rw [show s + p.length - 1 + 1 = s + p.length by omega, if_pos (hm.mp c), show s + p.length - p.length = s by omega] at this
          exact this
        have hlt : (occ (fn t) (fn p) p.length (s + p.length - 1)).length < (occ (fn t) (fn p) p.length t.length).length := by rw [hr, hs]; simp
        have hv : rd (occ (fn t) (fn p) p.length t.length) ((occ (fn t) (fn p) p.length (s + p.length - 1)).length : Int) = (s : Int) := by
          rw [rd_nat, hr, hs, List.append_assoc, List.getD_eq_getElem?_getD, List.getElem?_append_right (Nat.le_refl _)]
          simp
        refine ev_pos (decide_eq_true c) (ev_neg (by omega) (ev_pos (by omega) (ev_pos (by omega) (ev_pos hv ?_))))
        rw [w64 (by omega) (by omega)]
        exact hi
      · rw [if_neg (fun x => c (hm.mpr x))] at hi
        exact ev_neg (by simpa using c) hi
  have := go (t.length + 1 - p.length) 0 (by omega)
  have e0 : occ (fn t) (fn p) p.length (0 + p.length - 1) = [] := occ_small _ _ _ (by omega)
  rw [e0] at this
  exact this
theorem FnPlaces : laws_FnPlaces.Pure := by
  intro l hm hl hw
  refine Ev.rounds ?_
  simp only [laws_FnPlaces.f, laws_big.f, Option.bind_some]
  by_cases hbig : (l.length : Int) > 4096
  · exact ev_pos (decide_eq_true hbig) (Ev.now _)
  refine ev_neg (by simpa using hbig) ?_
  obtain ⟨t, p, e1, ht, hp⟩ := spec_DrawPlaces_some l (by omega)
  obtain ⟨q, e2, hq⟩ := spec_DrawBorders_some l (by omega)
  obtain ⟨sp, ip⟩ := periods_ev q (by omega)
  have pl : (placesv t p).length ≤ 5001 := by
    unfold placesv
    split
    · simp
    · have := occ_length (fn t) (fn p) p.length t.length; omega
  have bl : (bordersv q).length ≤ 101 := by
    unfold bordersv
    split
    · simp
    · rw [bords_length]; omega
  refine Ev.bind e1 (Ev.bind (impl_Places_ev t p) (Ev.bind e2 (Ev.bind (impl_Borders_ev q) (Ev.bind ip (Ev.bind (spec_Places_ev t p) (Ev.bind (laws_likeInts_self _ (by omega)) (ev_pos rfl ?_)))))))
  refine Ev.bind (spec_Borders_ev q) (Ev.bind (laws_likeInts_self _ (by omega)) (ev_pos rfl (Ev.bind sp ?_)))
  rw [show (periodv q != periodv q) = false by simp]
  refine ev_succ ?_
  simp only [laws_FnPlaces.j0]
  refine ev_neg (by simp) ?_
  have jf : Ev (fun k => laws_FnPlaces.j1 k t p (placesv t p) q (bordersv q) (periodv q) false) true := by
    refine ev_succ ?_
    simp only [laws_FnPlaces.j1]
    exact ev_neg (by simp) (places_tail q hq)
  by_cases h1 : (p.length : Int) ≥ 1
  · refine ev_pos h1 ?_
    by_cases h2 : (t.length : Int) ≤ 5000
    · rw [decide_eq_true h2]
      refine ev_succ ?_
      simp only [laws_FnPlaces.j1]
      refine ev_pos (by simp) ?_
      have e : placesv t p = occ (fn t) (fn p) p.length t.length := by unfold placesv; rw [if_neg (by omega)]
      rw [e]
      exact places_head t p q (by omega) (by omega) hp hq
    · rw [decide_eq_false h2]; exact jf
  · exact ev_neg h1 jf

end Go.Proofs.Ytlbdegpjgonnnab.Pure
