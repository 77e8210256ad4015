/- The law FnExactLooked answers true at every history and every word. -/
import Derived.Test.YtkljnfinjacejaaPEx12
import Derived.Test.YtkljnfinjacejaaAimFnExactLooked
import Derived.Lib.IndexMore
namespace Go.Proofs.Ytkljnfinjacejaa.Pure
open Go.RowKit Go.Proofs.Ytkljnfinjacejaa.PE Go.Proofs.YtkljnfinjacejaaW.PrintWords Go.Proofs.YtkljnfinjacejaaW.PrintLast
set_option linter.unusedVariables false
set_option linter.unusedSimpArgs false

theorem w64 {x : Int} (h0 : -9223372036854775808 ≤ x) (h1 : x ≤ 9223372036854775807) : wrap64 x = x := by unfold wrap64; omega
theorem wf64 {x : Int} : (Lit.int .i64 x).wf = true ↔ -9223372036854775808 ≤ x ∧ x ≤ 9223372036854775807 := by
  simp [Lit.wf, IntKind.min, IntKind.max, IntKind.signed, IntKind.bits]
theorem wf8 {x : Int} : (Lit.int .u8 x).wf = true ↔ 0 ≤ x ∧ x ≤ 255 := by
  simp [Lit.wf, IntKind.min, IntKind.max, IntKind.signed, IntKind.bits]
theorem ev_succ {α : Type} {g : Nat → Option α} {r : α} (h : Ev (fun k => g (k + 1)) r) : Ev g r := by
  obtain ⟨K, h⟩ := h
  refine ⟨K + 1, fun k hk => ?_⟩
  obtain ⟨m, rfl⟩ : ∃ m, k = m + 1 := ⟨k - 1, by omega⟩
  exact h m (by omega)
theorem ev_fixed {α : Type} {x : Option α} {r : α} (h : x = some r) : Ev (fun _ => x) r := ⟨0, fun _ _ => h⟩
theorem ev_eq {α : Type} {g : Nat → Option α} {r s : α} (h : Ev g r) (e : r = s) : Ev g s := e ▸ h
/-- Never keep an equation 'wrap64 .. = ..' in the context where omega runs: it compares them by unfolding. -/
theorem wN {x : Int} {n : Nat} (e : x = (n : Int)) (h : n < 4611686018427387904) : wrap64 x = (n : Int) := by rw [e]; exact w64 (by omega) (by omega)

theorem ev_pos {α : Type} {c : Prop} [Decidable c] {a b : Nat → Option α} {r : α} (hc : c) (h : Ev a r) : Ev (fun k => if c then a k else b k) r := by
  obtain ⟨K, h⟩ := h
  exact ⟨K, fun k hk => by show (if c then a k else b k) = some r; rw [if_pos hc]; exact h k hk⟩
theorem ev_neg {α : Type} {c : Prop} [Decidable c] {a b : Nat → Option α} {r : α} (hc : ¬ c) (h : Ev b r) : Ev (fun k => if c then a k else b k) r := by
  obtain ⟨K, h⟩ := h
  exact ⟨K, fun k hk => by show (if c then a k else b k) = some r; rw [if_neg hc]; exact h k hk⟩
theorem ev_bind_some {α β : Type} {a : α} {f : Nat → α → Option β} {r : β} (h : Ev (fun k => f k a) r) : Ev (fun k => (some a).bind (f k)) r := h
theorem ev_bind_of {α β : Type} {x : Option α} {a : α} {f : Nat → α → Option β} {r : β} (hx : x = some a) (h : Ev (fun k => f k a) r) : Ev (fun k => x.bind (f k)) r := by
  subst hx; exact h

theorem rd_nat (l : List Int) (i : Nat) : rd l (i : Int) = l.getD i 0 := by simp [rd]
theorem rd_at {l : List Int} {i : Nat} (h : i < l.length) : rd l (i : Int) = l[i] := by rw [rd_nat, List.getD_eq_getElem?_getD, List.getElem?_eq_getElem h]; rfl
theorem take_set_succ {α : Type} (l : List α) (i : Nat) (a : α) (h : i < l.length) : (l.set i a).take (i + 1) = l.take i ++ [a] := by
  rw [List.take_succ_eq_append_getElem (by simpa using h), List.take_set, List.set_eq_of_length_le (by rw [List.length_take]; omega)]
  simp

theorem rdOf_at {α : Type} (d : α) {l : List α} {i : Nat} (h : i < l.length) : rdOf d l (i : Int) = l[i] := by
  unfold rdOf; rw [Int.toNat_natCast, List.getD_eq_getElem?_getD, List.getElem?_eq_getElem h]; rfl
theorem maxLen_eq : maxLen = 9223372036854775807 := rfl

theorem laws_szStringS_ev (l : List ByteArray) (a : Int) (h0 : 0 ≤ a) (h1 : a ≤ 1048576) (hl : l.length ≤ maxLen) (hw : ∀ x ∈ l, x.size ≤ maxLen) :
    ∃ r, Ev (fun k => laws_szStringS.f k l a) r ∧ (r < 0 ∨ (0 ≤ r ∧ r ≤ 1048576 ∧ l.length ≤ 1048576)) := by
  rw [maxLen_eq] at hl
  have hw' : ∀ x ∈ l, x.size ≤ 9223372036854775807 := hw
  have go : ∀ (d i : Nat) (x : Int), i + d = l.length → 0 ≤ x → x ≤ 1048576 → ∃ r, Ev (fun k => laws_szStringS.l0 k l x (i : Int)) r ∧ (r < 0 ∨ (0 ≤ r ∧ r ≤ 1048576)) := by
    intro d
    induction d with
    | zero =>
      intro i x h hx0 hx1
      refine ⟨x, ev_succ ?_, .inr ⟨hx0, hx1⟩⟩
      simp only [laws_szStringS.l0]
      exact ev_neg (by omega) (Ev.now _)
    | succ d ih =>
      intro i x h hx0 hx1
      have hs := hw' l[i] (List.getElem_mem _)
      have w1 : ∀ _ : Unit, wrap64 (x - (l[i].size : Int)) = x - (l[i].size : Int) := fun _ => w64 (by omega) (by omega)
      have w2 : ∀ _ : Unit, wrap64 ((i : Int) + 1) = ((i + 1 : Nat) : Int) := fun _ => by rw [w64 (by omega) (by omega)]; omega
      by_cases c : x - (l[i].size : Int) < 0
      · refine ⟨-1, ev_succ ?_, .inl (by omega)⟩
        simp only [laws_szStringS.l0, rdOf_at ByteArray.empty (show i < l.length by omega), w1 ()]
        exact ev_pos (by omega) (ev_pos (by omega) (ev_pos c (Ev.now _)))
      · obtain ⟨r, e, hr⟩ := ih (i + 1) (x - (l[i].size : Int)) (by omega) (by omega) (by omega)
        refine ⟨r, ev_succ ?_, hr⟩
        simp only [laws_szStringS.l0, rdOf_at ByteArray.empty (show i < l.length by omega), w1 (), w2 ()]
        exact ev_pos (by omega) (ev_pos (by omega) (ev_neg c e))
  unfold laws_szStringS.f
  rw [w64 (by omega) (by omega)]
  by_cases c : a - (l.length : Int) < 0
  · exact ⟨-1, ev_pos c (Ev.now _), .inl (by omega)⟩
  · obtain ⟨r, e, hr⟩ := go l.length 0 (a - (l.length : Int)) (by omega) (by omega) (by omega)
    exact ⟨r, ev_neg c e, by omega⟩

theorem laws_toStringS_ev (l : List ByteArray) (hl : l.length ≤ 1048576) : Ev (fun k => laws_toStringS.f k l) l := by
  have go : ∀ (d i : Nat) (m : List ByteArray), i + d = l.length → m.length = l.length → Ev (fun k => laws_toStringS.l0 k l m (i : Int)) (m.take i ++ l.drop i) := by
    intro d
    induction d with
    | zero =>
      intro i m h hm
      refine ev_succ ?_
      simp only [laws_toStringS.l0]
      refine ev_neg (by omega) ?_
      rw [List.take_of_length_le (by omega), List.drop_of_length_le (by omega), List.append_nil]
      exact Ev.now _
    | succ d ih =>
      intro i m h hm
      refine ev_succ ?_
      simp only [laws_toStringS.l0, w64 (x := (i : Int) + 1) (by omega) (by omega)]
      refine ev_pos (by omega) (ev_pos (by omega) (ev_pos (by omega) ?_))
      have := ih (i + 1) (m.set (i : Int).toNat (rdOf ByteArray.empty l (i : Int))) (by omega) (by simpa using hm)
      refine ev_eq this ?_
      rw [show (i : Int).toNat = i by omega, take_set_succ _ _ _ (by omega), rdOf_at _ (by omega), List.append_assoc, List.singleton_append, ← List.drop_eq_getElem_cons (by omega)]
  unfold laws_toStringS.f
  refine ev_pos (by omega) (ev_pos (by omega) ?_)
  have := go l.length 0 (List.replicate l.length ⟨#[]⟩) (by omega) (by simp)
  simpa using this

theorem laws_eqStringS_ev (l : List ByteArray) (hl : l.length < 9223372036854775807) : Ev (fun k => laws_eqStringS.f k l l) true := by
  have go : ∀ (d i : Nat), i + d = l.length → Ev (fun k => laws_eqStringS.l0 k l l (i : Int)) true := by
    intro d
    induction d with
    | zero =>
      intro i h
      refine ev_succ ?_
      simp only [laws_eqStringS.l0]
      exact ev_neg (by omega) (Ev.now _)
    | succ d ih =>
      intro i h
      refine ev_succ ?_
      simp only [laws_eqStringS.l0, w64 (x := (i : Int) + 1) (by omega) (by omega)]
      exact ev_pos (by omega) (ev_pos (by omega) (ev_pos (by omega) (ev_pos (by first | rfl | trivial) (ih (i + 1) (by omega)))))
  unfold laws_eqStringS.f
  exact ev_pos rfl (go l.length 0 (by omega))

theorem laws_eqHistory_ev (a : Int) (l : List ByteArray) (b : Int) (hl : l.length < 9223372036854775807) : Ev (fun k => laws_eqHistory.f k a l b a l b) true := by
  unfold laws_eqHistory.f
  exact ev_pos rfl (Ev.bind (laws_eqStringS_ev l hl) (ev_pos rfl (ev_pos rfl (Ev.now _))))

theorem laws_szHistory_ev (a : Int) (l : List ByteArray) (c : Int) (hl : l.length ≤ maxLen) (hw : ∀ x ∈ l, x.size ≤ maxLen) :
    ∃ r, Ev (fun k => laws_szHistory.f k a l c 1048576) r ∧ (r < 0 ∨ (0 ≤ r ∧ l.length ≤ 1048576)) := by
  obtain ⟨r, e, hr⟩ := laws_szStringS_ev l 1048576 (by omega) (by omega) hl hw
  unfold laws_szHistory.f
  by_cases h : r < 0
  · exact ⟨-1, Ev.bind e (ev_pos h (Ev.now _)), .inl (by omega)⟩
  · exact ⟨r, Ev.bind e (ev_neg h (Ev.now _)), by omega⟩
theorem laws_toHistory_ev (a : Int) (l : List ByteArray) (c : Int) (hl : l.length ≤ 1048576) : Ev (fun k => laws_toHistory.f k a l c) (a, l, c) := by
  unfold laws_toHistory.f
  exact Ev.bind (laws_toStringS_ev l hl) (Ev.now _)

def Bd (p : Nat → Int) (i k : Nat) : Prop := k < i ∧ ∀ j, j < k → p j = p (i - k + j)
theorem bd_zero {p : Nat → Int} {i : Nat} (h : 0 < i) : Bd p i 0 := ⟨h, fun j hj => absurd hj (by omega)⟩
theorem bd_down {p : Nat → Int} {i k k' : Nat} (h : Bd p i k) (h' : Bd p i k') (hlt : k' < k) : Bd p k k' := by
  refine ⟨hlt, fun j hj => ?_⟩
  have a := h'.2 j hj
  have b := h.2 (k - k' + j) (by omega)
  rw [a, b]
  have := h.1; have := h'.1
  rw [show i - k + (k - k' + j) = i - k' + j by omega]
theorem bd_up {p : Nat → Int} {i k k' : Nat} (h : Bd p i k) (h' : Bd p k k') : Bd p i k' := by
  refine ⟨by have := h.1; have := h'.1; omega, fun j hj => ?_⟩
  have a := h'.2 j hj
  have := h.1; have := h'.1
  have b := h.2 (k - k' + j) (by omega)
  rw [a, b, show i - k + (k - k' + j) = i - k' + j by omega]
theorem bd_succ {p : Nat → Int} {i k : Nat} (h : Bd p i k) (e : p k = p i) : Bd p (i + 1) (k + 1) := by
  refine ⟨by have := h.1; omega, fun j hj => ?_⟩
  have := h.1
  rw [show i + 1 - (k + 1) + j = i - k + j by omega]
  by_cases hjk : j < k
  · exact h.2 j hjk
  · obtain rfl : j = k := by omega
    rw [e, show i - j + j = i by omega]
theorem bd_pred {p : Nat → Int} {i k : Nat} (hi : 0 < i) (h : Bd p (i + 1) (k + 1)) : Bd p i k ∧ p k = p i := by
  have h1 := h.1
  refine ⟨⟨by omega, fun j hj => ?_⟩, ?_⟩
  · have := h.2 j (by omega)
    rw [this, show i + 1 - (k + 1) + j = i - k + j by omega]
  · have := h.2 k (by omega)
    rw [this, show i + 1 - (k + 1) + k = i by omega]
/-- The longest border. -/
def Lg (p : Nat → Int) (i k : Nat) : Prop := Bd p i k ∧ ∀ k', Bd p i k' → k' ≤ k
theorem lg_unique {p : Nat → Int} {i k k' : Nat} (h : Lg p i k) (h' : Lg p i k') : k = k' := Nat.le_antisymm (h'.2 _ h.1) (h.2 _ h'.1)
theorem lg_one (p : Nat → Int) : Lg p 1 0 := ⟨bd_zero (by omega), fun k' h => by have := h.1; omega⟩

theorem lg_search (p : Nat → Int) (i : Nat) (hi : 0 < i) : ∀ N : Nat, (∀ k, Bd p i k → k ≤ N) → ∃ k, Lg p i k := by
  intro N
  induction N with
  | zero => intro h; exact ⟨0, bd_zero hi, h⟩
  | succ N ih =>
    intro h
    by_cases c : Bd p i (N + 1)
    · exact ⟨N + 1, c, h⟩
    · refine ih fun k hk => ?_
      have := h k hk
      by_cases e : k = N + 1
      · subst e; exact absurd hk c
      · omega
theorem lg_exists (p : Nat → Int) {i : Nat} (hi : 0 < i) : ∃ k, Lg p i k := lg_search p i hi i fun k h => by have := h.1; omega
noncomputable def bord (p : Nat → Int) (i : Nat) : Nat := if h : 0 < i then Classical.choose (lg_exists p h) else 0
theorem bord_lg (p : Nat → Int) {i : Nat} (hi : 0 < i) : Lg p i (bord p i) := by
  unfold bord; rw [dif_pos hi]; exact Classical.choose_spec (lg_exists p hi)
theorem bord_eq {p : Nat → Int} {i k : Nat} (h : Lg p i k) : bord p i = k := lg_unique (bord_lg p (by have := h.1.1; omega)) h
theorem bord_lt (p : Nat → Int) {i : Nat} (hi : 0 < i) : bord p i < i := (bord_lg p hi).1.1
theorem bord_zero (p : Nat → Int) : bord p 0 = 0 := by unfold bord; rw [dif_neg (by omega)]
theorem bord_one (p : Nat → Int) : bord p 1 = 0 := bord_eq (lg_one p)
noncomputable def bords (p : Nat → Int) (n : Nat) : List Int := (List.range n).map fun i => (bord p (i + 1) : Int)
theorem bords_length (p : Nat → Int) (n : Nat) : (bords p n).length = n := by simp [bords]
theorem bords_succ (p : Nat → Int) (n : Nat) : bords p (n + 1) = bords p n ++ [(bord p (n + 1) : Int)] := by simp [bords, List.range_succ]
theorem bords_get (p : Nat → Int) (n i : Nat) (h : i < (bords p n).length) : (bords p n)[i] = (bord p (i + 1) : Int) := by simp [bords]
/-- A place of the search for the next border: all longer ones fail. -/
def Try (p : Nat → Int) (i k : Nat) : Prop := Bd p i k ∧ ∀ k', Bd p i k' → k < k' → p k' ≠ p i
theorem try_first (p : Nat → Int) {i : Nat} (hi : 0 < i) : Try p i (bord p i) := ⟨(bord_lg p hi).1, fun k' h hlt => by have := (bord_lg p hi).2 k' h; omega⟩
theorem try_hit {p : Nat → Int} {i k : Nat} (h : Try p i k) (e : p k = p i) : bord p (i + 1) = k + 1 := by
  refine bord_eq ⟨bd_succ h.1 e, fun k' hk' => ?_⟩
  cases k' with
  | zero => omega
  | succ k' =>
    obtain ⟨a, b⟩ := bd_pred (by have := h.1.1; omega) hk'
    by_cases c : k < k'
    · exact absurd b (h.2 k' a c)
    · omega
theorem try_next {p : Nat → Int} {i k : Nat} (h : Try p i k) (hk : 0 < k) (e : p k ≠ p i) : Try p i (bord p k) := by
  have l := bord_lg p hk
  refine ⟨bd_up h.1 l.1, fun k' hk' hlt => ?_⟩
  by_cases c : k < k'
  · exact h.2 k' hk' c
  · by_cases c2 : k' = k
    · subst c2; exact e
    · have := l.2 k' (bd_down h.1 hk' (by omega)); omega
theorem try_miss {p : Nat → Int} {i : Nat} (h : Try p i 0) (e : p 0 ≠ p i) : bord p (i + 1) = 0 := by
  refine bord_eq ⟨bd_zero (by omega), fun k' hk' => ?_⟩
  cases k' with
  | zero => omega
  | succ k' =>
    obtain ⟨a, b⟩ := bd_pred (by have := h.1.1; omega) hk'
    by_cases c : 0 < k'
    · exact absurd b (h.2 k' a c)
    · obtain rfl : k' = 0 := by omega
      exact absurd b e
def fn (l : List Int) : Nat → Int := fun i => rd l (i : Int)

theorem spec_l11Borders_ev (l : List Int) (hl : l.length < 17592186044416) : Ev (fun k => spec_l11Borders.f k l) (bords (fn l) l.length) := by
  have inner : ∀ (N k i : Nat) (r : List Int), k ≤ N → 0 < i → i < l.length → Try (fn l) i k → Ev (fun f => spec_l11Borders.l0 f l (bords (fn l) (i + 1)) (bord (fn l) (i + 1) : Int) ((i + 1 : Nat) : Int)) r →
      Ev (fun f => spec_l11Borders.l1 f l (bords (fn l) i) (k : Int) (i : Int)) r := by
    intro N
    induction N with
    | zero =>
      intro k i r hk hi hil ht hr
      obtain rfl : k = 0 := by omega
      refine ev_succ ?_
      simp only [spec_l11Borders.l1, w64 (x := ((0 : Nat) : Int) + 1) (by omega) (by omega), w64 (x := (i : Int) + 1) (by omega) (by omega)]
      refine ev_pos (by omega) (ev_neg (by omega) (ev_pos (by omega) (ev_pos (by omega) (ev_pos (by omega) (ev_pos (by omega) ?_)))))
      by_cases e : rd l ((0 : Nat) : Int) = rd l (i : Int)
      · refine ev_pos e (ev_pos (by rw [bords_length]; omega) ?_)
        rw [bords_succ, try_hit ht e] at hr
        exact hr
      · refine ev_neg e (ev_pos (by rw [bords_length]; omega) ?_)
        rw [bords_succ, try_miss ht e] at hr
        exact hr
    | succ N ih =>
      intro k i r hk hi hil ht hr
      by_cases hk0 : k = 0
      · exact ih k i r (by omega) hi hil ht hr
      · have hki := ht.1.1
        have wk : wrap64 ((k : Int) - 1) = ((k - 1 : Nat) : Int) := by rw [w64 (by omega) (by omega)]; omega
        refine ev_succ ?_
        simp only [spec_l11Borders.l1, wk, w64 (x := (k : Int) + 1) (by omega) (by omega), w64 (x := (i : Int) + 1) (by omega) (by omega)]
        refine ev_pos (by omega) (ev_pos (by omega) (ev_pos (by omega) (ev_pos (by omega) (ev_pos (by omega) (ev_pos (by omega) ?_)))))
        by_cases e : rd l (k : Int) = rd l (i : Int)
        · refine ev_pos e (ev_pos (by rw [bords_length]; omega) ?_)
          rw [bords_succ, try_hit ht e] at hr
          exact hr
        · refine ev_neg e (ev_pos (by omega) (ev_pos (by rw [bords_length]; omega) ?_))
          rw [rd_at (l := bords (fn l) i) (by rw [bords_length]; omega), bords_get, show k - 1 + 1 = k by omega]
          exact ih _ i r (by have := bord_lt (fn l) (i := k) (by omega); omega) hi hil (try_next ht (by omega) e) hr
  have outer : ∀ (d i : Nat), i + d = l.length → Ev (fun f => spec_l11Borders.l0 f l (bords (fn l) i) (bord (fn l) i : Int) (i : Int)) (bords (fn l) l.length) := by
    intro d
    induction d with
    | zero =>
      intro i h
      refine ev_succ ?_
      simp only [spec_l11Borders.l0]
      refine ev_neg (by omega) ?_
      rw [show i = l.length by omega]
      exact Ev.now _
    | succ d ih =>
      intro i h
      refine ev_succ ?_
      simp only [spec_l11Borders.l0]
      refine ev_pos (by omega) ?_
      by_cases hi : i = 0
      · subst hi
        refine ev_succ ?_
        simp only [spec_l11Borders.l1, show wrap64 (((0 : Nat) : Int) + 1) = ((1 : Nat) : Int) from w64 (by omega) (by omega)]
        refine ev_neg (by omega) (ev_pos (by rw [bords_length]; omega) ?_)
        have := ih 1 (by omega)
        rw [bords_succ, bord_one] at this
        rw [bord_zero]
        exact this
      · exact inner _ _ i _ (Nat.le_refl _) (by omega) (by omega) (try_first _ (by omega)) (ih (i + 1) (by omega))
  have := outer l.length 0 (by omega)
  rw [bord_zero] at this
  exact this

/-- The beginning of p of length k stands ahead of place i of t. -/
def Mt (t p : Nat → Int) (m i k : Nat) : Prop := k ≤ i ∧ k ≤ m ∧ ∀ j, j < k → p j = t (i - k + j)
theorem mt_zero (t p : Nat → Int) (m i : Nat) : Mt t p m i 0 := ⟨by omega, by omega, fun j hj => absurd hj (by omega)⟩
theorem mt_down {t p : Nat → Int} {m i k k' : Nat} (h : Mt t p m i k) (h' : Mt t p m i k') (hlt : k' < k) : Bd p k k' := by
  refine ⟨hlt, fun j hj => ?_⟩
  have a := h'.2.2 j hj
  have b := h.2.2 (k - k' + j) (by omega)
  have := h.1
  rw [a, b, show i - k + (k - k' + j) = i - k' + j by omega]
theorem mt_up {t p : Nat → Int} {m i k k' : Nat} (h : Mt t p m i k) (h' : Bd p k k') : Mt t p m i k' := by
  have h1 := h'.1; have h2 := h.1; have h3 := h.2.1
  refine ⟨by omega, by omega, fun j hj => ?_⟩
  have a := h'.2 j hj
  have b := h.2.2 (k - k' + j) (by omega)
  rw [a, b, show i - k + (k - k' + j) = i - k' + j by omega]
theorem mt_succ {t p : Nat → Int} {m i k : Nat} (h : Mt t p m i k) (hk : k < m) (e : p k = t i) : Mt t p m (i + 1) (k + 1) := by
  have h2 := h.1
  refine ⟨by omega, by omega, fun j hj => ?_⟩
  rw [show i + 1 - (k + 1) + j = i - k + j by omega]
  by_cases hjk : j < k
  · exact h.2.2 j hjk
  · obtain rfl : j = k := by omega
    rw [e, show i - j + j = i by omega]
theorem mt_pred {t p : Nat → Int} {m i k : Nat} (h : Mt t p m (i + 1) (k + 1)) : Mt t p m i k ∧ k < m ∧ p k = t i := by
  have h1 := h.1; have h2 := h.2.1
  refine ⟨⟨by omega, by omega, fun j hj => ?_⟩, by omega, ?_⟩
  · have := h.2.2 j (by omega)
    rw [this, show i + 1 - (k + 1) + j = i - k + j by omega]
  · have := h.2.2 k (by omega)
    rw [this, show i + 1 - (k + 1) + k = i by omega]
def Most (t p : Nat → Int) (m i k : Nat) : Prop := Mt t p m i k ∧ ∀ k', Mt t p m i k' → k' ≤ k
def Seek (t p : Nat → Int) (m i k : Nat) : Prop := Mt t p m i k ∧ ∀ k', Mt t p m i k' → k < k' → k' = m ∨ p k' ≠ t i
theorem seek_first {t p : Nat → Int} {m i k : Nat} (h : Most t p m i k) : Seek t p m i k := ⟨h.1, fun k' hk' hlt => by have := h.2 k' hk'; omega⟩
theorem seek_next {t p : Nat → Int} {m i k : Nat} (h : Seek t p m i k) (hk : 0 < k) (e : k = m ∨ p k ≠ t i) : Seek t p m i (bord p k) := by
  have l := bord_lg p hk
  refine ⟨mt_up h.1 l.1, fun k' hk' hlt => ?_⟩
  by_cases c : k < k'
  · exact h.2 k' hk' c
  · by_cases c2 : k' = k
    · subst c2; exact e
    · have := l.2 k' (mt_down h.1 hk' (by omega)); omega
theorem seek_hit {t p : Nat → Int} {m i k : Nat} (h : Seek t p m i k) (hk : k < m) (e : p k = t i) : Most t p m (i + 1) (k + 1) := by
  refine ⟨mt_succ h.1 hk e, fun k' hk' => ?_⟩
  cases k' with
  | zero => omega
  | succ k' =>
    obtain ⟨a, b, c⟩ := mt_pred hk'
    by_cases d : k < k'
    · rcases h.2 k' a d with x | x
      · omega
      · exact absurd c x
    · omega
theorem seek_miss {t p : Nat → Int} {m i : Nat} (h : Seek t p m i 0) (e : p 0 ≠ t i) : Most t p m (i + 1) 0 := by
  refine ⟨mt_zero _ _ _ _, fun k' hk' => ?_⟩
  cases k' with
  | zero => omega
  | succ k' =>
    obtain ⟨a, b, c⟩ := mt_pred hk'
    by_cases d : 0 < k'
    · rcases h.2 k' a d with x | x
      · omega
      · exact absurd c x
    · obtain rfl : k' = 0 := by omega
      exact absurd c e
theorem most_full {t p : Nat → Int} {m i k : Nat} (h : Most t p m i k) : k = m ↔ Mt t p m i m :=
  ⟨fun e => e ▸ h.1, fun x => Nat.le_antisymm h.1.2.1 (h.2 m x)⟩
open Classical in
/-- Where p stands in the first i of t. -/
noncomputable def occ (t p : Nat → Int) (m : Nat) : Nat → List Int
  | 0 => []
  | i + 1 => if Mt t p m (i + 1) m then occ t p m i ++ [((i + 1 - m : Nat) : Int)] else occ t p m i
open Classical in
theorem occ_succ (t p : Nat → Int) (m i : Nat) : occ t p m (i + 1) = if Mt t p m (i + 1) m then occ t p m i ++ [((i + 1 - m : Nat) : Int)] else occ t p m i := rfl
theorem occ_length (t p : Nat → Int) (m : Nat) : ∀ i, (occ t p m i).length ≤ i
  | 0 => by simp [occ]
  | i + 1 => by
    have := occ_length t p m i
    unfold occ
    split
    · simp; omega
    · omega
theorem occ_small (t p : Nat → Int) {m : Nat} : ∀ i, i < m → occ t p m i = []
  | 0, _ => by simp [occ]
  | i + 1, h => by
    unfold occ
    rw [if_neg (fun x => by have := x.1; omega)]
    exact occ_small t p i (by omega)

theorem spec_l11Places_ev (t p : List Int) (ht : t.length < 17592186044416) (hp : p.length < 17592186044416) (hp1 : 1 ≤ p.length) :
    Ev (fun k => spec_l11Places.f k t p) (occ (fn t) (fn p) p.length t.length) := by
  have ol := occ_length (fn t) (fn p) p.length
  have j2 : ∀ (k i : Nat) (r : List Int), i < t.length → k < p.length → Seek (fn t) (fn p) p.length i k → (k = 0 ∨ rd p (k : Int) = rd t (i : Int)) →
      (∀ k', Most (fn t) (fn p) p.length (i + 1) k' → Ev (fun f => spec_l11Places.l0 f t p (occ (fn t) (fn p) p.length (i + 1)) (bords (fn p) p.length) (k' : Int) ((i + 1 : Nat) : Int)) r) →
      Ev (fun f => spec_l11Places.j2 f t p (occ (fn t) (fn p) p.length i) (bords (fn p) p.length) (k : Int) (i : Int)) r := by
    intro k i r hi hk hs hd hr
    have o := ol i
    have hki := hs.1.1
    refine ev_succ ?_
    simp only [spec_l11Places.j2, w64 (x := (k : Int) + 1) (by omega) (by omega), w64 (x := (i : Int) + 1) (by omega) (by omega)]
    refine ev_pos (by omega) (ev_pos (by omega) (ev_pos (by omega) (ev_pos (by omega) ?_)))
    by_cases e : rd p (k : Int) = rd t (i : Int)
    · refine ev_pos e ?_
      have hm := seek_hit hs hk e
      have hr' := hr _ hm
      by_cases c : k + 1 = p.length
      · refine ev_pos (by omega) (ev_pos (by omega) ?_)
        rw [w64 (x := (i : Int) - ((k : Int) + 1)) (by omega) (by omega), w64 (x := (i : Int) - ((k : Int) + 1) + 1) (by omega) (by omega)]
        unfold occ at hr'
        rw [if_pos ((most_full hm).mp c), ← c, show ((i + 1 - (k + 1) : Nat) : Int) = (i : Int) - ((k : Int) + 1) + 1 by omega] at hr'
        rw [← c]; exact hr'
      · refine ev_neg (by omega) ?_
        unfold occ at hr'
        rw [if_neg (fun x => c ((most_full hm).mpr x))] at hr'
        exact hr'
    · obtain rfl : k = 0 := by rcases hd with h | h; exact h; exact absurd h e
      refine ev_neg e (ev_neg (by omega) ?_)
      have hm := seek_miss hs e
      have hr' := hr _ hm
      unfold occ at hr'
      rw [if_neg (fun x => by have := (most_full hm).mpr x; omega)] at hr'
      exact hr'
  have l1 : ∀ (N k i : Nat) (r : List Int), k ≤ N → i < t.length → Seek (fn t) (fn p) p.length i k →
      (∀ k', Most (fn t) (fn p) p.length (i + 1) k' → Ev (fun f => spec_l11Places.l0 f t p (occ (fn t) (fn p) p.length (i + 1)) (bords (fn p) p.length) (k' : Int) ((i + 1 : Nat) : Int)) r) →
      Ev (fun f => spec_l11Places.l1 f t p (occ (fn t) (fn p) p.length i) (bords (fn p) p.length) (k : Int) (i : Int)) r := by
    intro N
    induction N with
    | zero =>
      intro k i r hk hi hs hr
      obtain rfl : k = 0 := by omega
      refine ev_succ ?_
      simp only [spec_l11Places.l1]
      exact ev_neg (by omega) (j2 0 i r hi (by omega) hs (.inl rfl) hr)
    | succ N ih =>
      intro k i r hk hi hs hr
      by_cases hk0 : k = 0
      · exact ih k i r (by omega) hi hs hr
      · have hkp := hs.1.2.1
        have wk : wrap64 ((k : Int) - 1) = ((k - 1 : Nat) : Int) := by rw [w64 (by omega) (by omega)]; omega
        have nx : (k = p.length ∨ fn p k ≠ fn t i) → Ev (fun f => spec_l11Places.l1 f t p (occ (fn t) (fn p) p.length i) (bords (fn p) p.length) (rd (bords (fn p) p.length) ((k - 1 : Nat) : Int)) (i : Int)) r := fun hx => by
          rw [rd_at (l := bords (fn p) p.length) (by rw [bords_length]; omega), bords_get, show k - 1 + 1 = k by omega]
          exact ih _ i r (by have := bord_lt (fn p) (i := k) (by omega); omega) hi (seek_next hs (by omega) hx) hr
        refine ev_succ ?_
        simp only [spec_l11Places.l1, wk]
        refine ev_pos (by omega) ?_
        by_cases c : k = p.length
        · exact ev_pos (by omega) (ev_pos (by omega) (ev_pos (by rw [bords_length]; omega) (nx (.inl c))))
        · refine ev_neg (by omega) (ev_pos (by omega) (ev_pos (by omega) (ev_pos (by omega) (ev_pos (by omega) ?_))))
          by_cases e : rd p (k : Int) = rd t (i : Int)
          · exact ev_pos e (j2 k i r hi (by omega) hs (.inr e) hr)
          · exact ev_neg e (ev_pos (by omega) (ev_pos (by rw [bords_length]; omega) (nx (.inr e))))
  have l0 : ∀ (d i k : Nat), i + d = t.length → Most (fn t) (fn p) p.length i k → Ev (fun f => spec_l11Places.l0 f t p (occ (fn t) (fn p) p.length i) (bords (fn p) p.length) (k : Int) (i : Int)) (occ (fn t) (fn p) p.length t.length) := by
    intro d
    induction d with
    | zero =>
      intro i k h hm
      refine ev_succ ?_
      simp only [spec_l11Places.l0]
      refine ev_neg (by omega) ?_
      rw [show i = t.length by omega]
      exact Ev.now _
    | succ d ih =>
      intro i k h hm
      refine ev_succ ?_
      simp only [spec_l11Places.l0]
      exact ev_pos (by omega) (l1 _ k i _ (Nat.le_refl _) (by omega) (seek_first hm) (fun k' hk' => ih (i + 1) k' (by omega) hk'))
  unfold spec_l11Places.f
  refine Ev.bind (spec_l11Borders_ev p hp) ?_
  exact l0 t.length 0 0 (by omega) ⟨mt_zero _ _ _ _, fun k' h => h.1⟩

theorem spec_l1In_eq (a b c : Int) : spec_l1In.f a b c = some (decide (b ≤ a) && decide (a ≤ c)) := by
  unfold spec_l1In.f
  by_cases h : a ≥ b
  · rw [if_pos h]; simp [h]
  · rw [if_neg h]; simp [show ¬ b ≤ a from h]

theorem impl_in_eq (a b c : Int) : impl_in.f a b c = some (decide (b ≤ a) && decide (a ≤ c)) := by
  unfold impl_in.f
  by_cases h : b ≤ a
  · rw [if_pos h]; simp [h]
  · rw [if_neg h]; simp [h]

def hokv (a : Int) (l : List ByteArray) (c : Int) : Bool := (decide (1 ≤ a) && decide (a ≤ 200)) && decide ((l.length : Int) ≤ a) && (decide (0 ≤ c) && decide (c ≤ 1000000)) && l.all (fun s => decide (s.size ≤ 300))
theorem drop_all {α : Type} (p : α → Bool) (l : List α) (i : Nat) (h : i < l.length) : (l.drop i).all p = (p l[i] && (l.drop (i + 1)).all p) := by
  rw [List.drop_eq_getElem_cons h, List.all_cons]
theorem spec_HistoryOk_ev (a : Int) (l : List ByteArray) (c : Int) (hl : l.length ≤ 1048576) : Ev (fun k => spec_HistoryOk.f k a l c) (hokv a l c) := by
  have go : ∀ (d i : Nat), i + d = l.length → Ev (fun k => spec_HistoryOk.l0 k (i : Int) a l c) ((l.drop i).all (fun s => decide (s.size ≤ 300))) := by
    intro d
    induction d with
    | zero =>
      intro i h
      refine ev_succ ?_
      simp only [spec_HistoryOk.l0]
      rw [List.drop_of_length_le (by omega)]
      exact ev_neg (by omega) (Ev.now _)
    | succ d ih =>
      intro i h
      refine ev_succ ?_
      simp only [spec_HistoryOk.l0, rdOf_at ByteArray.empty (show i < l.length by omega), w64 (x := (i : Int) + 1) (by omega) (by omega)]
      refine ev_pos (by omega) (ev_pos (by omega) ?_)
      rw [drop_all _ _ _ (show i < l.length by omega)]
      by_cases e : (l[i].size : Int) > 300
      · exact ev_pos e (ev_eq (Ev.now _) (by rw [decide_eq_false (by omega)]; rfl))
      · exact ev_neg e (ev_eq (ih (i + 1) (by omega)) (by rw [decide_eq_true (p := l[i].size ≤ 300) (by omega)]; rfl))
  have jt : Ev (fun k => spec_HistoryOk.j0 k true a l c) false := by
    refine ev_succ ?_
    simp only [spec_HistoryOk.j0]
    exact ev_pos (by trivial) (Ev.now _)
  have jf : Ev (fun k => spec_HistoryOk.j0 k false a l c) (l.all (fun s => decide (s.size ≤ 300))) := by
    refine ev_succ ?_
    simp only [spec_HistoryOk.j0]
    exact ev_neg (by simp) (go l.length 0 (by omega))
  unfold spec_HistoryOk.f hokv
  refine ev_bind_of (spec_l1In_eq _ _ _) ?_
  cases e1 : (decide (1 ≤ a) && decide (a ≤ 200)) with
  | false => exact ev_neg (by simp) (ev_eq jt (by simp))
  | true =>
    refine ev_pos rfl ?_
    by_cases h2 : (l.length : Int) > a
    · exact ev_pos h2 (ev_eq jt (by rw [decide_eq_false (by omega)]; simp))
    · refine ev_neg h2 (ev_bind_of (spec_l1In_eq _ _ _) ?_)
      rw [decide_eq_true (p := (l.length : Int) ≤ a) (by omega)]
      cases e2 : (decide (0 ≤ c) && decide (c ≤ 1000000)) with
      | false => exact ev_eq jt (by simp)
      | true => exact ev_eq jf (by simp)
theorem impl_ContainsLong_ev (l : List ByteArray) (hl : l.length ≤ 1048576) : Ev (fun k => slices_ContainsFunc_string_string_impl_HistoryOk_lit1.f k l) (!l.all (fun s => decide (s.size ≤ 300))) := by
  have go : ∀ (d i : Nat), i + d = l.length → ∃ r, Ev (fun k => slices_IndexFunc_string_string_impl_HistoryOk_lit1.l0 k l (l.length : Int) (i : Int)) r ∧ decide (r ≥ 0) = !(l.drop i).all (fun s => decide (s.size ≤ 300)) := by
    intro d
    induction d with
    | zero =>
      intro i h
      refine ⟨-1, ev_succ ?_, ?_⟩
      · simp only [slices_IndexFunc_string_string_impl_HistoryOk_lit1.l0]
        exact ev_neg (by omega) (Ev.now _)
      · rw [List.drop_of_length_le (by omega)]; rfl
    | succ d ih =>
      intro i h
      rw [drop_all _ _ _ (show i < l.length by omega)]
      by_cases e : (l[i].size : Int) > 300
      · refine ⟨(i : Int), ev_succ ?_, ?_⟩
        · simp only [slices_IndexFunc_string_string_impl_HistoryOk_lit1.l0, rdOf_at ByteArray.empty (show i < l.length by omega), impl_HistoryOk_1.f, Option.bind_some]
          exact ev_pos (by omega) (ev_pos (by omega) (ev_pos (by omega) (ev_pos (decide_eq_true e) (Ev.now _))))
        · rw [decide_eq_false (p := l[i].size ≤ 300) (by omega)]
          simp
      · obtain ⟨r, er, hr⟩ := ih (i + 1) (by omega)
        refine ⟨r, ev_succ ?_, ?_⟩
        · simp only [slices_IndexFunc_string_string_impl_HistoryOk_lit1.l0, rdOf_at ByteArray.empty (show i < l.length by omega), impl_HistoryOk_1.f, Option.bind_some, w64 (x := (i : Int) + 1) (by omega) (by omega)]
          exact ev_pos (by omega) (ev_pos (by omega) (ev_pos (by omega) (ev_neg (by simp; omega) er)))
        · rw [hr, decide_eq_true (p := l[i].size ≤ 300) (by omega)]; rfl
  unfold slices_ContainsFunc_string_string_impl_HistoryOk_lit1.f slices_IndexFunc_string_string_impl_HistoryOk_lit1.f
  obtain ⟨r, e, hr⟩ := go l.length 0 (by omega)
  exact Ev.bind e (ev_eq (Ev.now _) hr)
theorem impl_HistoryOk_ev (a : Int) (l : List ByteArray) (c : Int) (hl : l.length ≤ 1048576) : Ev (fun k => impl_HistoryOk.f k a l c) (hokv a l c) := by
  unfold impl_HistoryOk.f hokv
  refine ev_bind_of (impl_in_eq _ _ _) ?_
  cases e1 : (decide (1 ≤ a) && decide (a ≤ 200)) with
  | false => exact ev_neg (by simp) (ev_eq (Ev.now _) (by simp))
  | true =>
    refine ev_pos rfl ?_
    by_cases h2 : (l.length : Int) ≤ a
    · refine ev_pos h2 (ev_bind_of (impl_in_eq _ _ _) ?_)
      rw [decide_eq_true h2]
      cases e2 : (decide (0 ≤ c) && decide (c ≤ 1000000)) with
      | false => exact ev_neg (by simp) (ev_eq (Ev.now _) (by simp))
      | true => exact ev_pos rfl (Ev.bind (impl_ContainsLong_ev l hl) (ev_eq (Ev.now _) (by simp)))
    · exact ev_neg h2 (ev_eq (Ev.now _) (by rw [decide_eq_false h2]; simp))

theorem hokv_true {a : Int} {l : List ByteArray} {c : Int} (h : hokv a l c = true) : 1 ≤ a ∧ a ≤ 200 ∧ (l.length : Int) ≤ a ∧ 0 ≤ c ∧ c ≤ 1000000 ∧ ∀ s ∈ l, s.size ≤ 300 := by
  unfold hokv at h
  simp only [Bool.and_eq_true, decide_eq_true_eq, List.all_eq_true] at h
  obtain ⟨⟨⟨⟨h1, h2⟩, h3⟩, h4, h5⟩, h6⟩ := h
  exact ⟨h1, h2, h3, h4, h5, h6⟩

def bsv (s : ByteArray) : List Int := (List.range s.size).map fun (i : Nat) => bt s (i : Int)
theorem bsv_length (s : ByteArray) : (bsv s).length = s.size := by simp [bsv]
theorem bt_list (s : ByteArray) (i : Nat) (h : i < s.data.toList.length) : bt s (i : Int) = ((s.data.toList[i]).toNat : Int) := by
  have hs : i < s.size := by rw [Array.length_toList] at h; exact h
  unfold bt
  have e : (i : Int).toNat = i := Int.toNat_natCast i
  rw [dif_pos (by rw [e]; exact hs)]
  have : ∀ j (hj : j < s.size), j = i → ((s[j]).toNat : Int) = ((s.data.toList[i]).toNat : Int) := fun j hj e => by subst e; rw [Array.getElem_toList]; rfl
  exact this _ _ e
theorem bt_byte (s : ByteArray) (i : Int) : 0 ≤ bt s i ∧ bt s i ≤ 255 := bt_range s i
theorem bsv_take (s : ByteArray) (i : Nat) (h : i < s.size) : (bsv s).take (i + 1) = (bsv s).take i ++ [bt s (i : Int)] := by
  rw [List.take_succ_eq_append_getElem (by rw [bsv_length]; exact h)]
  simp [bsv]
theorem spec_l12Bytes_ev (s : ByteArray) (hs : s.size < 17592186044416) : Ev (fun k => spec_l12Bytes.f k s) (bsv s) := by
  have go : ∀ (d i : Nat), i + d = s.size → Ev (fun k => spec_l12Bytes.l0 k s ((bsv s).take i) (i : Int)) (bsv s) := by
    intro d
    induction d with
    | zero =>
      intro i h
      refine ev_succ ?_
      simp only [spec_l12Bytes.l0]
      rw [List.take_of_length_le (by rw [bsv_length]; omega)]
      exact ev_neg (by omega) (Ev.now _)
    | succ d ih =>
      intro i h
      have hb := bt_byte s (i : Int)
      have hi := ih (i + 1) (by omega)
      rw [bsv_take s i (by omega)] at hi
      refine ev_succ ?_
      simp only [spec_l12Bytes.l0, w64 (x := bt s (i : Int)) (by omega) (by omega), show wrap64 ((i : Int) + 1) = ((i + 1 : Nat) : Int) by rw [w64 (by omega) (by omega)]; omega]
      exact ev_pos (by omega) (ev_pos (by omega) (ev_pos (by rw [List.length_take, bsv_length]; omega) hi))
  exact go s.size 0 (by omega)
theorem fn_bsv (s : ByteArray) (j : Nat) (h : j < s.data.toList.length) : fn (bsv s) j = ((s.data.toList[j]).toNat : Int) := by
  have hs : j < (bsv s).length := by rw [bsv_length]; rw [Array.length_toList] at h; exact h
  unfold fn
  rw [rd_at hs, ← bt_list s j h]
  simp [bsv]
theorem occ_pos (t p : Nat → Int) (m : Nat) : ∀ n, (occ t p m n).length ≠ 0 ↔ ∃ i, 1 ≤ i ∧ i ≤ n ∧ Mt t p m i m
  | 0 => by
    unfold occ
    refine ⟨fun h => absurd rfl h, fun ⟨i, h1, h2, _⟩ => by omega⟩
  | n + 1 => by
    have ih := occ_pos t p m n
    unfold occ
    by_cases h : Mt t p m (n + 1) m
    · rw [if_pos h]
      exact ⟨fun _ => ⟨n + 1, by omega, by omega, h⟩, fun _ => by rw [List.length_append]; simp⟩
    · rw [if_neg h, ih]
      refine ⟨fun ⟨i, h1, h2, h3⟩ => ⟨i, h1, by omega, h3⟩, fun ⟨i, h1, h2, h3⟩ => ⟨i, h1, ?_, h3⟩⟩
      have : i ≠ n + 1 := fun e => h (e ▸ h3)
      omega
theorem occAt_iff (L W : List UInt8) (q : Nat) (hW : 1 ≤ W.length) : Lib.occAt L W q = true ↔ q + W.length ≤ L.length ∧ ∀ j (h1 : j < W.length) (h2 : q + j < L.length), W[j] = L[q + j] := by
  unfold Lib.occAt
  rw [List.isPrefixOf_iff_prefix, List.prefix_iff_eq_take]
  constructor
  · intro h
    have hl := congrArg List.length h
    rw [List.length_take, List.length_drop] at hl
    refine ⟨by omega, fun j h1 h2 => ?_⟩
    have : ∀ (l : List UInt8) (e : W = l) (h3 : j < l.length), W[j] = l[j] := fun l e h3 => by subst e; rfl
    rw [this _ h (by rw [List.length_take, List.length_drop]; omega), List.getElem_take, List.getElem_drop]
  · rintro ⟨h1, h2⟩
    refine List.ext_getElem (by rw [List.length_take, List.length_drop]; omega) fun j h3 h4 => ?_
    rw [List.getElem_take, List.getElem_drop]
    exact h2 j h3 (by omega)
theorem contains_occ (s w : ByteArray) (hw : 1 ≤ w.size) : Lib.contains s.data.toList w.data.toList = true ↔ (occ (fn (bsv s)) (fn (bsv w)) w.size s.size).length ≠ 0 := by
  have hsl : s.data.toList.length = s.size := by rw [Array.length_toList]; rfl
  have hwl : w.data.toList.length = w.size := by rw [Array.length_toList]; rfl
  rw [occ_pos]
  unfold Lib.contains
  rw [decide_eq_true_eq]
  have key : ∀ q, Lib.occAt s.data.toList w.data.toList q = true ↔ (q + w.size ≤ s.size ∧ Mt (fn (bsv s)) (fn (bsv w)) w.size (q + w.size) w.size) := by
    intro q
    rw [occAt_iff _ _ _ (by omega)]
    constructor
    · rintro ⟨h1, h2⟩
      refine ⟨by omega, by omega, by omega, fun j hj => ?_⟩
      rw [show q + w.size - w.size + j = q + j by omega, fn_bsv w j (by omega), fn_bsv s (q + j) (by omega), h2 j (by omega) (by omega)]
    · rintro ⟨h1, _, _, h2⟩
      refine ⟨by omega, fun j hj hq => ?_⟩
      have := h2 j (by omega)
      rw [show q + w.size - w.size + j = q + j by omega, fn_bsv w j (by omega), fn_bsv s (q + j) (by omega)] at this
      exact UInt8.toNat_inj.mp (by omega)
  constructor
  · intro h
    rcases Lib.index_spec s.data.toList w.data.toList with ⟨h1, _⟩ | ⟨i, h1, h2, h3, _⟩
    · omega
    · have := (key i).mp h3
      exact ⟨i + w.size, by omega, this.1, this.2⟩
  · rintro ⟨i, h1, h2, h3⟩
    rcases Lib.index_spec s.data.toList w.data.toList with ⟨_, h5⟩ | ⟨j, h4, _⟩
    · have hm := h3.1
      have h6 := h5 (i - w.size) (by omega)
      have h7 := (key (i - w.size)).mpr ⟨by omega, by rw [show i - w.size + w.size = i by omega]; exact h3⟩
      rw [h6] at h7
      cases h7
    · omega
theorem looked_same (a : Int) (l : List ByteArray) (c : Int) (w : ByteArray) (hok : hokv a l c = true) (hw : 1 ≤ w.size ∧ w.size ≤ 100) : ∀ (d i : Nat) (o : List Int), i + d = l.length → o.length ≤ i →
    ∃ r, r.length ≤ l.length ∧ Ev (fun k => spec_Looked.l0 k w o (i : Int) a l c) r ∧ Ev (fun k => impl_Looked.l0 k w o l (l.length : Int) (i : Int) a l c) r := by
  obtain ⟨h1, h2, h3, h4, h5, h6⟩ := hokv_true hok
  intro d
  induction d with
  | zero =>
    intro i o h ho
    refine ⟨o, by omega, ev_succ ?_, ev_succ ?_⟩
    · simp only [spec_Looked.l0]; exact ev_neg (by omega) (Ev.now _)
    · simp only [impl_Looked.l0]; exact ev_neg (by omega) (Ev.now _)
  | succ d ih =>
    intro i o h ho
    have hi : i < l.length := by omega
    have hrd : rdOf ByteArray.empty l (i : Int) = l[i] := rdOf_at _ hi
    have hsz := h6 l[i] (List.getElem_mem hi)
    have wi : ∀ _ : Unit, wrap64 ((i : Int) + 1) = ((i + 1 : Nat) : Int) := fun _ => by rw [w64 (by omega) (by omega)]; omega
    have hco := contains_occ l[i] w hw.1
    have e1 := spec_l12Bytes_ev l[i] (by omega)
    have e2 := spec_l12Bytes_ev w (by omega)
    have e3 := spec_l11Places_ev (bsv l[i]) (bsv w) (by rw [bsv_length]; omega) (by rw [bsv_length]; omega) (by rw [bsv_length]; omega)
    rw [bsv_length, bsv_length] at e3
    have e4 : strings_Contains.f l[i] w = some (Lib.contains l[i].data.toList w.data.toList) := by unfold strings_Contains.f; rw [if_pos (by omega)]
    by_cases q : Lib.contains l[i].data.toList w.data.toList = true
    · obtain ⟨r, hr, f1, f2⟩ := ih (i + 1) (o ++ [wrap64 (c + (i : Int))]) (by omega) (by rw [List.length_append]; simp only [List.length_cons, List.length_nil]; omega)
      have := hco.mp q
      refine ⟨r, hr, ev_succ ?_, ev_succ ?_⟩
      · simp only [spec_Looked.l0, hrd, wi ()]
        exact ev_pos (by omega) (ev_pos (by omega) (Ev.bind e1 (Ev.bind e2 (Ev.bind e3 (ev_pos (by omega) (ev_pos (by omega) f1))))))
      · simp only [impl_Looked.l0, hrd, wi ()]
        exact ev_pos (by omega) (ev_pos (by omega) (ev_pos (by omega) (ev_bind_of e4 (ev_pos q (ev_pos (by omega) f2)))))
    · obtain ⟨r, hr, f1, f2⟩ := ih (i + 1) o (by omega) (by omega)
      have : ¬ (occ (fn (bsv l[i])) (fn (bsv w)) w.size l[i].size).length ≠ 0 := fun x => q (hco.mpr x)
      refine ⟨r, hr, ev_succ ?_, ev_succ ?_⟩
      · simp only [spec_Looked.l0, hrd, wi ()]
        exact ev_pos (by omega) (ev_pos (by omega) (Ev.bind e1 (Ev.bind e2 (Ev.bind e3 (ev_neg (by omega) f1)))))
      · simp only [impl_Looked.l0, hrd, wi ()]
        exact ev_pos (by omega) (ev_pos (by omega) (ev_pos (by omega) (ev_bind_of e4 (ev_neg q f2))))
theorem Looked_evs (a : Int) (l : List ByteArray) (c : Int) (w : ByteArray) (hl : l.length ≤ 1048576) : ∃ r, r.length ≤ l.length ∧ Ev (fun k => spec_Looked.f k a l c w) r ∧ Ev (fun k => impl_Looked.f k a l c w) r := by
  have hs := spec_HistoryOk_ev a l c hl
  have hi := impl_HistoryOk_ev a l c hl
  by_cases hok : hokv a l c = true
  · by_cases h1 : (w.size : Int) < 1
    · refine ⟨[], by simp, ev_bind_some (Ev.bind hs (ev_pos hok (ev_pos h1 (ev_succ ?_)))), ev_bind_some (Ev.bind hi (ev_pos hok (ev_pos h1 (ev_succ ?_))))⟩
      · simp only [spec_Looked.j0]; exact ev_pos (by trivial) (Ev.now _)
      · simp only [impl_Looked.j0]; exact ev_pos (by trivial) (Ev.now _)
    · by_cases h2 : (w.size : Int) > 100
      · refine ⟨[], by simp, ev_bind_some (Ev.bind hs (ev_pos hok (ev_neg h1 (ev_succ ?_)))), ev_bind_some (Ev.bind hi (ev_pos hok (ev_neg h1 (ev_succ ?_))))⟩
        · simp only [spec_Looked.j0]; exact ev_pos (decide_eq_true h2) (Ev.now _)
        · simp only [impl_Looked.j0]; exact ev_pos (decide_eq_true h2) (Ev.now _)
      · obtain ⟨r, hr, f1, f2⟩ := looked_same a l c w hok (by omega) l.length 0 [] (by omega) (by simp)
        refine ⟨r, hr, ev_bind_some (Ev.bind hs (ev_pos hok (ev_neg h1 (ev_succ ?_)))), ev_bind_some (Ev.bind hi (ev_pos hok (ev_neg h1 (ev_succ ?_))))⟩
        · simp only [spec_Looked.j0]; exact ev_neg (by simpa using h2) f1
        · simp only [impl_Looked.j0]; exact ev_neg (by simpa using h2) f2
  · refine ⟨[], by simp, ev_bind_some (Ev.bind hs (ev_neg hok (ev_succ ?_))), ev_bind_some (Ev.bind hi (ev_neg hok (ev_succ ?_)))⟩
    · simp only [spec_Looked.j0]; exact ev_pos (by trivial) (Ev.now _)
    · simp only [impl_Looked.j0]; exact ev_pos (by trivial) (Ev.now _)

theorem laws_markText_some (a : Nat) (ha : a ≤ 4611686018427387900) : ∃ v, Ev (fun k => laws_markText.f k (a : Int)) v := by
  have go : ∀ (n : Nat) (s : ByteArray), n + s.size ≤ 4611686018427387904 → ∃ v, Ev (fun k => laws_markText.l0 k (n : Int) s) v := by
    intro n
    induction n using Nat.strongRecOn with
    | ind n ih =>
      intro s hs
      by_cases h : n = 0
      · subst h
        refine ⟨_, ev_succ (g := fun k => laws_markText.l0 k ((0 : Nat) : Int) s) (r := (⟨#[109]⟩ : ByteArray) ++ s) ?_⟩
        simp only [laws_markText.l0]
        exact ev_neg (by omega) (ev_pos (by omega) (Ev.now _))
      · have hd : ∀ _ : Unit, wrap64 (Int.tdiv (n : Int) 10) = ((n / 10 : Nat) : Int) := fun _ => by rw [Int.tdiv_eq_ediv_of_nonneg (by omega), w64 (by omega) (by omega)]; omega
        have hz : ∀ x : Int, (strOfNums [x]).size = 1 := fun x => by rw [strOfNums_size]; rfl
        obtain ⟨v, e⟩ := ih (n / 10) (by omega) (strOfNums [(wrap64 (48 + (Int.tmod (n : Int) 10))) % 256] ++ s) (by rw [ByteArray.size_append, hz]; omega)
        refine ⟨v, ev_succ ?_⟩
        simp only [laws_markText.l0, hd ()]
        exact ev_pos (by omega) (ev_bind_some (ev_pos (by rw [hz]; omega) e))
  unfold laws_markText.f
  by_cases h : (a : Int) ≤ 0
  · exact ⟨_, ev_pos h (Ev.now _)⟩
  · obtain ⟨v, e⟩ := go a (⟨#[]⟩ : ByteArray) (by rw [show (⟨#[]⟩ : ByteArray).size = 0 from rfl]; omega)
    exact ⟨v, ev_neg h e⟩
theorem laws_markStringS_some (l : List ByteArray) (hl : l.length ≤ 1048576) : ∃ m, Ev (fun k => laws_markStringS.f k l 1) (1 + (l.length : Int), m) := by
  have go : ∀ (d i : Nat) (m : List ByteArray) (a : Nat), a + d ≤ 4611686018427387900 → i + d = l.length → m.length = l.length → ∃ m', Ev (fun k => laws_markStringS.l0 k m (a : Int) (i : Int)) ((a : Int) + d, m') := by
    intro d
    induction d with
    | zero =>
      intro i m a ha h hm
      refine ⟨m, ev_succ ?_⟩
      simp only [laws_markStringS.l0]
      exact ev_neg (by omega) (ev_eq (Ev.now _) (by simp))
    | succ d ih =>
      intro i m a ha h hm
      obtain ⟨v, e⟩ := laws_markText_some a (by omega)
      obtain ⟨m', e'⟩ := ih (i + 1) (m.set i v) (a + 1) (by omega) (by omega) (by rw [List.length_set]; exact hm)
      have wi : ∀ _ : Unit, wrap64 ((i : Int) + 1) = ((i + 1 : Nat) : Int) := fun _ => by rw [w64 (by omega) (by omega)]; omega
      have wa : ∀ _ : Unit, wrap64 ((a : Int) + 1) = ((a + 1 : Nat) : Int) := fun _ => by rw [w64 (by omega) (by omega)]; omega
      refine ⟨m', ev_succ ?_⟩
      simp only [laws_markStringS.l0, wi (), wa (), Int.toNat_natCast]
      refine ev_pos (by omega) (Ev.bind e (ev_pos (by omega) (ev_eq e' ?_)))
      rw [show ((a + 1 : Nat) : Int) + (d : Int) = (a : Int) + ((d + 1 : Nat) : Int) by omega]
  unfold laws_markStringS.f
  have := go l.length 0 l 1 (by omega) (by omega) rfl
  exact this

theorem laws_eqInt64S_ev (l : List Int) (hl : l.length < 9223372036854775807) : Ev (fun k => laws_eqInt64S.f k l l) true := by
  have go : ∀ (d i : Nat), i + d = l.length → Ev (fun k => laws_eqInt64S.l0 k l l (i : Int)) true := by
    intro d
    induction d with
    | zero =>
      intro i h
      refine ev_succ ?_
      simp only [laws_eqInt64S.l0]
      exact ev_neg (by omega) (Ev.now _)
    | succ d ih =>
      intro i h
      refine ev_succ ?_
      simp only [laws_eqInt64S.l0, w64 (x := (i : Int) + 1) (by omega) (by omega)]
      exact ev_pos (by omega) (ev_pos (by omega) (ev_pos (by omega) (ev_pos (by first | rfl | trivial) (ih (i + 1) (by omega)))))
  unfold laws_eqInt64S.f
  exact ev_pos rfl (go l.length 0 (by omega))

def mks : Nat → Int → List Int
  | 0, _ => []
  | n + 1, a => a :: mks n (a + 1)
theorem mks_length : ∀ (n : Nat) (a : Int), (mks n a).length = n
  | 0, _ => rfl
  | n + 1, a => by simp [mks, mks_length n]
theorem mks_get : ∀ (n : Nat) (a : Int) (i : Nat) (h : i < (mks n a).length), (mks n a)[i] = a + i
  | n + 1, a, 0, _ => by simp [mks]
  | n + 1, a, i + 1, h => by
    simp only [mks, List.getElem_cons_succ]
    rw [mks_get n (a + 1) i]; omega

theorem laws_markInt64S_ev (l : List Int) (a : Int) (ha : 0 ≤ a) (hl : a + l.length < 9223372036854775807) : Ev (fun k => laws_markInt64S.f k l a) (a + l.length, mks l.length a) := by
  have go : ∀ (d i : Nat) (m : List Int) (a : Int), 0 ≤ a → a + d < 9223372036854775807 → i + d = l.length → m.length = l.length → Ev (fun k => laws_markInt64S.l0 k m a (i : Int)) (a + d, m.take i ++ mks d a) := by
    intro d
    induction d with
    | zero =>
      intro i m a h0 h1 h hm
      refine ev_succ ?_
      simp only [laws_markInt64S.l0]
      refine ev_neg (by omega) ?_
      rw [List.take_of_length_le (by omega)]
      simp only [mks, List.append_nil, Int.natCast_zero, Int.add_zero]
      exact Ev.now _
    | succ d ih =>
      intro i m a h0 h1 h hm
      refine ev_succ ?_
      simp only [laws_markInt64S.l0, w64 (x := (i : Int) + 1) (by omega) (by omega), w64 (x := a + 1) (by omega) (by omega)]
      refine ev_pos (by omega) (ev_pos (by omega) ?_)
      have := ih (i + 1) (m.set (i : Int).toNat a) (a + 1) (by omega) (by omega) (by omega) (by simpa using hm)
      refine ev_eq this ?_
      rw [show (i : Int).toNat = i by omega, take_set_succ _ _ _ (by omega), List.append_assoc, List.singleton_append]
      simp only [mks, Prod.mk.injEq, and_true]; omega
  unfold laws_markInt64S.f
  have := go l.length 0 l a ha (by omega) (by omega) rfl
  simpa using this

theorem laws_heldInt64S_ev (n : Nat) (a : Int) (ha : 0 ≤ a) (hl : a + n < 9223372036854775807) : Ev (fun k => laws_heldInt64S.f k (mks n a) a) (a + n) := by
  have go : ∀ (d i : Nat), i + d = n → Ev (fun k => laws_heldInt64S.l0 k (mks n a) (a + i) (i : Int)) (a + n) := by
    intro d
    induction d with
    | zero =>
      intro i h
      refine ev_succ ?_
      simp only [laws_heldInt64S.l0]
      refine ev_neg (by rw [mks_length]; omega) ?_
      rw [show i = n by omega]
      exact Ev.now _
    | succ d ih =>
      intro i h
      refine ev_succ ?_
      simp only [laws_heldInt64S.l0, w64 (x := (i : Int) + 1) (by omega) (by omega), w64 (x := a + i + 1) (by omega) (by omega)]
      refine ev_pos (by rw [mks_length]; omega) (ev_pos (by omega) (ev_pos (by rw [rd_at (by rw [mks_length]; omega), mks_get]) ?_))
      have := ih (i + 1) (by omega)
      rw [show a + ((i + 1 : Nat) : Int) = a + i + 1 by omega] at this
      exact this
  unfold laws_heldInt64S.f
  have := go n 0 (by omega)
  simpa using this

theorem FnExactLooked : laws_FnExactLooked.Aim := by
  intro a l c w ha hl hc hw
  refine Ev.rounds ?_
  unfold laws_FnExactLooked.f
  by_cases hbig : (w.size : Int) > 1048576
  · exact ev_pos hbig (Ev.now _)
  refine ev_neg hbig ?_
  obtain ⟨r, er, hr⟩ := laws_szHistory_ev a l c hl.1 hl.2
  refine Ev.bind er ?_
  by_cases h : r < 0
  · exact ev_pos h (Ev.now _)
  refine ev_neg h ?_
  have h1 : l.length ≤ 1048576 := by omega
  have ht := laws_toHistory_ev a l c h1
  obtain ⟨v, hv, e1, e2⟩ := Looked_evs a l c w h1
  have he := laws_eqInt64S_ev v (by omega)
  have hh := laws_heldInt64S_ev v.length 1 (by omega) (by omega)
  have hm := laws_markInt64S_ev v 1 (by omega) (by omega)
  obtain ⟨m, em⟩ := laws_markStringS_some l h1
  have eh : Ev (fun k => laws_markHistory.f k a l c 1) (1 + (l.length : Int), m) := by
    unfold laws_markHistory.f
    exact Ev.bind em (Ev.now _)
  refine Ev.bind ht (Ev.bind e1 (Ev.bind ht (Ev.bind e2 (Ev.bind he (ev_pos rfl (Ev.bind ht (Ev.bind (laws_eqHistory_ev a l c (by omega)) (ev_pos rfl (Ev.bind eh (ev_neg (by simp; omega) (Ev.bind he (ev_succ ?_))))))))))))
  simp only [laws_FnExactLooked.j0]
  exact ev_neg (by simp) (Ev.bind hm (Ev.bind hh (ev_neg (by omega) (ev_pos rfl (Ev.bind ht (Ev.bind e2 (Ev.bind he (ev_pos rfl (Ev.bind hh (ev_neg (by omega) (ev_pos rfl (Ev.now _))))))))))))

end Go.Proofs.Ytkljnfinjacejaa.Pure
