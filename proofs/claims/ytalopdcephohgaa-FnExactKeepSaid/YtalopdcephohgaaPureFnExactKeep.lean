/- The law FnExactKeep answers true at every history and every line. -/
import Derived.Test.YtalopdcephohgaaRAx23
import Derived.Test.YtalopdcephohgaaAimFnExactKeep
namespace Go.Proofs.Ytalopdcephohgaa.Pure
open Go.RowKit Go.Proofs.Ytalopdcephohgaa.RA Go.Proofs.YtalopdcephohgaaW.PrintWords Go.Proofs.YtalopdcephohgaaW.PrintLast
set_option linter.unusedVariables false
set_option linter.unusedSimpArgs false

theorem w64 {x : Int} (h0 : -9223372036854775808 ≤ x) (h1 : x ≤ 9223372036854775807) : wrap64 x = x := by unfold wrap64; omega
theorem wf64 {x : Int} : (Lit.int .i64 x).wf = true ↔ -9223372036854775808 ≤ x ∧ x ≤ 9223372036854775807 := by
  simp [Lit.wf, IntKind.min, IntKind.max, IntKind.signed, IntKind.bits]
theorem wf8 {x : Int} : (Lit.int .u8 x).wf = true ↔ 0 ≤ x ∧ x ≤ 255 := by
  simp [Lit.wf, IntKind.min, IntKind.max, IntKind.signed, IntKind.bits]
theorem ev_succ {α : Type} {g : Nat → Option α} {r : α} (h : Ev (fun k => g (k + 1)) r) : Ev g r := by
  obtain ⟨K, h⟩ := h
  refine ⟨K + 1, fun k hk => ?_⟩
  obtain ⟨m, rfl⟩ : ∃ m, k = m + 1 := ⟨k - 1, by omega⟩
  exact h m (by omega)
theorem ev_fixed {α : Type} {x : Option α} {r : α} (h : x = some r) : Ev (fun _ => x) r := ⟨0, fun _ _ => h⟩
theorem ev_eq {α : Type} {g : Nat → Option α} {r s : α} (h : Ev g r) (e : r = s) : Ev g s := e ▸ h
/-- Never keep an equation 'wrap64 .. = ..' in the context where omega runs: it compares them by unfolding. -/
theorem wN {x : Int} {n : Nat} (e : x = (n : Int)) (h : n < 4611686018427387904) : wrap64 x = (n : Int) := by rw [e]; exact w64 (by omega) (by omega)

theorem ev_pos {α : Type} {c : Prop} [Decidable c] {a b : Nat → Option α} {r : α} (hc : c) (h : Ev a r) : Ev (fun k => if c then a k else b k) r := by
  obtain ⟨K, h⟩ := h
  exact ⟨K, fun k hk => by show (if c then a k else b k) = some r; rw [if_pos hc]; exact h k hk⟩
theorem ev_neg {α : Type} {c : Prop} [Decidable c] {a b : Nat → Option α} {r : α} (hc : ¬ c) (h : Ev b r) : Ev (fun k => if c then a k else b k) r := by
  obtain ⟨K, h⟩ := h
  exact ⟨K, fun k hk => by show (if c then a k else b k) = some r; rw [if_neg hc]; exact h k hk⟩
theorem ev_bind_some {α β : Type} {a : α} {f : Nat → α → Option β} {r : β} (h : Ev (fun k => f k a) r) : Ev (fun k => (some a).bind (f k)) r := h
theorem ev_bind_of {α β : Type} {x : Option α} {a : α} {f : Nat → α → Option β} {r : β} (hx : x = some a) (h : Ev (fun k => f k a) r) : Ev (fun k => x.bind (f k)) r := by
  subst hx; exact h

theorem rd_nat (l : List Int) (i : Nat) : rd l (i : Int) = l.getD i 0 := by simp [rd]
theorem rd_at {l : List Int} {i : Nat} (h : i < l.length) : rd l (i : Int) = l[i] := by rw [rd_nat, List.getD_eq_getElem?_getD, List.getElem?_eq_getElem h]; rfl
theorem take_set_succ {α : Type} (l : List α) (i : Nat) (a : α) (h : i < l.length) : (l.set i a).take (i + 1) = l.take i ++ [a] := by
  rw [List.take_succ_eq_append_getElem (by simpa using h), List.take_set, List.set_eq_of_length_le (by rw [List.length_take]; omega)]
  simp

theorem rdOf_at {α : Type} (d : α) {l : List α} {i : Nat} (h : i < l.length) : rdOf d l (i : Int) = l[i] := by
  unfold rdOf; rw [Int.toNat_natCast, List.getD_eq_getElem?_getD, List.getElem?_eq_getElem h]; rfl
theorem maxLen_eq : maxLen = 9223372036854775807 := rfl

theorem spec_l1In_eq (a b c : Int) : spec_l1In.f a b c = some (decide (b ≤ a) && decide (a ≤ c)) := by
  unfold spec_l1In.f
  by_cases h : a ≥ b
  · rw [if_pos h]; simp [h]
  · rw [if_neg h]; simp [show ¬ b ≤ a from h]

theorem impl_in_eq (a b c : Int) : impl_in.f a b c = some (decide (b ≤ a) && decide (a ≤ c)) := by
  unfold impl_in.f
  by_cases h : b ≤ a
  · rw [if_pos h]; simp [h]
  · rw [if_neg h]; simp [h]

def hokv (a : Int) (l : List ByteArray) (c : Int) : Bool := (decide (1 ≤ a) && decide (a ≤ 200)) && decide ((l.length : Int) ≤ a) && (decide (0 ≤ c) && decide (c ≤ 1000000)) && l.all (fun s => decide (s.size ≤ 300))
theorem drop_all {α : Type} (p : α → Bool) (l : List α) (i : Nat) (h : i < l.length) : (l.drop i).all p = (p l[i] && (l.drop (i + 1)).all p) := by
  rw [List.drop_eq_getElem_cons h, List.all_cons]
theorem spec_HistoryOk_ev (a : Int) (l : List ByteArray) (c : Int) (hl : l.length ≤ 1048576) : Ev (fun k => spec_HistoryOk.f k a l c) (hokv a l c) := by
  have go : ∀ (d i : Nat), i + d = l.length → Ev (fun k => spec_HistoryOk.l0 k (i : Int) a l c) ((l.drop i).all (fun s => decide (s.size ≤ 300))) := by
    intro d
    induction d with
    | zero =>
      intro i h
      refine ev_succ ?_
      simp only [spec_HistoryOk.l0]
      rw [List.drop_of_length_le (by omega)]
      exact ev_neg (by omega) (Ev.now _)
    | succ d ih =>
      intro i h
      refine ev_succ ?_
      simp only [spec_HistoryOk.l0, rdOf_at ByteArray.empty (show i < l.length by omega), w64 (x := (i : Int) + 1) (by omega) (by omega)]
      refine ev_pos (by omega) (ev_pos (by omega) ?_)
      rw [drop_all _ _ _ (show i < l.length by omega)]
      by_cases e : (l[i].size : Int) > 300
      · exact ev_pos e (ev_eq (Ev.now _) (by rw [decide_eq_false (by omega)]; rfl))
      · exact ev_neg e (ev_eq (ih (i + 1) (by omega)) (by rw [decide_eq_true (p := l[i].size ≤ 300) (by omega)]; rfl))
  have jt : Ev (fun k => spec_HistoryOk.j0 k true a l c) false := by
    refine ev_succ ?_
    simp only [spec_HistoryOk.j0]
    exact ev_pos (by trivial) (Ev.now _)
  have jf : Ev (fun k => spec_HistoryOk.j0 k false a l c) (l.all (fun s => decide (s.size ≤ 300))) := by
    refine ev_succ ?_
    simp only [spec_HistoryOk.j0]
    exact ev_neg (by simp) (go l.length 0 (by omega))
  unfold spec_HistoryOk.f hokv
  refine ev_bind_of (spec_l1In_eq _ _ _) ?_
  cases e1 : (decide (1 ≤ a) && decide (a ≤ 200)) with
  | false => exact ev_neg (by simp) (ev_eq jt (by simp))
  | true =>
    refine ev_pos rfl ?_
    by_cases h2 : (l.length : Int) > a
    · exact ev_pos h2 (ev_eq jt (by rw [decide_eq_false (by omega)]; simp))
    · refine ev_neg h2 (ev_bind_of (spec_l1In_eq _ _ _) ?_)
      rw [decide_eq_true (p := (l.length : Int) ≤ a) (by omega)]
      cases e2 : (decide (0 ≤ c) && decide (c ≤ 1000000)) with
      | false => exact ev_eq jt (by simp)
      | true => exact ev_eq jf (by simp)
theorem impl_ContainsLong_ev (l : List ByteArray) (hl : l.length ≤ 1048576) : Ev (fun k => slices_ContainsFunc_string_string_impl_HistoryOk_lit1.f k l) (!l.all (fun s => decide (s.size ≤ 300))) := by
  have go : ∀ (d i : Nat), i + d = l.length → ∃ r, Ev (fun k => slices_IndexFunc_string_string_impl_HistoryOk_lit1.l0 k l (l.length : Int) (i : Int)) r ∧ decide (r ≥ 0) = !(l.drop i).all (fun s => decide (s.size ≤ 300)) := by
    intro d
    induction d with
    | zero =>
      intro i h
      refine ⟨-1, ev_succ ?_, ?_⟩
      · simp only [slices_IndexFunc_string_string_impl_HistoryOk_lit1.l0]
        exact ev_neg (by omega) (Ev.now _)
      · rw [List.drop_of_length_le (by omega)]; rfl
    | succ d ih =>
      intro i h
      rw [drop_all _ _ _ (show i < l.length by omega)]
      by_cases e : (l[i].size : Int) > 300
      · refine ⟨(i : Int), ev_succ ?_, ?_⟩
        · simp only [slices_IndexFunc_string_string_impl_HistoryOk_lit1.l0, rdOf_at ByteArray.empty (show i < l.length by omega), impl_HistoryOk_1.f, Option.bind_some]
          exact ev_pos (by omega) (ev_pos (by omega) (ev_pos (by omega) (ev_pos (decide_eq_true e) (Ev.now _))))
        · rw [decide_eq_false (p := l[i].size ≤ 300) (by omega)]
          simp
      · obtain ⟨r, er, hr⟩ := ih (i + 1) (by omega)
        refine ⟨r, ev_succ ?_, ?_⟩
        · simp only [slices_IndexFunc_string_string_impl_HistoryOk_lit1.l0, rdOf_at ByteArray.empty (show i < l.length by omega), impl_HistoryOk_1.f, Option.bind_some, w64 (x := (i : Int) + 1) (by omega) (by omega)]
          exact ev_pos (by omega) (ev_pos (by omega) (ev_pos (by omega) (ev_neg (by simp; omega) er)))
        · rw [hr, decide_eq_true (p := l[i].size ≤ 300) (by omega)]; rfl
  unfold slices_ContainsFunc_string_string_impl_HistoryOk_lit1.f slices_IndexFunc_string_string_impl_HistoryOk_lit1.f
  obtain ⟨r, e, hr⟩ := go l.length 0 (by omega)
  exact Ev.bind e (ev_eq (Ev.now _) hr)
theorem impl_HistoryOk_ev (a : Int) (l : List ByteArray) (c : Int) (hl : l.length ≤ 1048576) : Ev (fun k => impl_HistoryOk.f k a l c) (hokv a l c) := by
  unfold impl_HistoryOk.f hokv
  refine ev_bind_of (impl_in_eq _ _ _) ?_
  cases e1 : (decide (1 ≤ a) && decide (a ≤ 200)) with
  | false => exact ev_neg (by simp) (ev_eq (Ev.now _) (by simp))
  | true =>
    refine ev_pos rfl ?_
    by_cases h2 : (l.length : Int) ≤ a
    · refine ev_pos h2 (ev_bind_of (impl_in_eq _ _ _) ?_)
      rw [decide_eq_true h2]
      cases e2 : (decide (0 ≤ c) && decide (c ≤ 1000000)) with
      | false => exact ev_neg (by simp) (ev_eq (Ev.now _) (by simp))
      | true => exact ev_pos rfl (Ev.bind (impl_ContainsLong_ev l hl) (ev_eq (Ev.now _) (by simp)))
    · exact ev_neg h2 (ev_eq (Ev.now _) (by rw [decide_eq_false h2]; simp))

theorem hokv_true {a : Int} {l : List ByteArray} {c : Int} (h : hokv a l c = true) : 1 ≤ a ∧ a ≤ 200 ∧ (l.length : Int) ≤ a ∧ 0 ≤ c ∧ c ≤ 1000000 ∧ ∀ s ∈ l, s.size ≤ 300 := by
  unfold hokv at h
  simp only [Bool.and_eq_true, decide_eq_true_eq, List.all_eq_true] at h
  obtain ⟨⟨⟨⟨h1, h2⟩, h3⟩, h4, h5⟩, h6⟩ := h
  exact ⟨h1, h2, h3, h4, h5, h6⟩

/-- What is kept: the lines and one more, the first one gone where they are too many. -/
def keepv (a : Int) (l : List ByteArray) (c : Int) (s : ByteArray) : Int × List ByteArray × Int × Bool :=
  if hokv a l c = true ∧ s.size ≤ 300 then (if (l.length : Int) + 1 > a then (if c + 1 > 1000000 then (0, [], 0, false) else (a, (l ++ [s]).drop 1, c + 1, true)) else (a, l ++ [s], c, true)) else (0, [], 0, false)
theorem keepv_length (a : Int) (l : List ByteArray) (c : Int) (s : ByteArray) : (keepv a l c s).2.1.length ≤ 200 := by
  unfold keepv
  by_cases h : hokv a l c = true ∧ s.size ≤ 300
  · rw [if_pos h]
    obtain ⟨h1, h2, h3, _⟩ := hokv_true h.1
    by_cases q : (l.length : Int) + 1 > a
    · rw [if_pos q]
      by_cases q2 : c + 1 > 1000000
      · rw [if_pos q2]; simp
      · rw [if_neg q2]; simp; omega
    · rw [if_neg q]; simp; omega
  · rw [if_neg h]; simp
theorem spec_Keep_ev (a : Int) (l : List ByteArray) (c : Int) (s : ByteArray) (hl : l.length ≤ 1048576) : Ev (fun k => spec_Keep.f k a l c s) (keepv a l c s) := by
  have none_ : Ev (fun k => spec_Keep.j0 k s true a l c) (0, [], 0, false) := by
    refine ev_succ ?_
    simp only [spec_Keep.j0]
    exact ev_pos (by trivial) (Ev.now _)
  unfold spec_Keep.f keepv
  refine Ev.bind (spec_HistoryOk_ev a l c hl) ?_
  by_cases h : hokv a l c = true
  case neg => rw [if_neg (fun q => h q.1)]; exact ev_neg h none_
  refine ev_pos h ?_
  by_cases h2 : s.size ≤ 300
  case neg => rw [if_neg (fun q => h2 q.2), decide_eq_true (by omega)]; exact none_
  rw [if_pos ⟨h, h2⟩, decide_eq_false (by omega)]
  obtain ⟨g1, g2, g3, g4, g5, _⟩ := hokv_true h
  have ln : ((l ++ [s]).length : Int) = (l.length : Int) + 1 := by simp
  have wc : ∀ _ : Unit, wrap64 (c + 1) = c + 1 := fun _ => w64 (by omega) (by omega)
  refine ev_succ ?_
  simp only [spec_Keep.j0, Option.bind_some, List.nil_append, ln, wc ()]
  refine ev_neg (by simp) (ev_pos (by simp; omega) (ev_pos (by simp; omega) ?_))
  by_cases q : (l.length : Int) + 1 > a
  · rw [if_pos q, if_pos q]
    refine ev_pos (by omega) ?_
    by_cases q2 : c + 1 > 1000000
    · rw [if_pos q2, if_pos q2]; exact Ev.now _
    · rw [if_neg q2, if_neg q2]; exact Ev.now _
  · rw [if_neg q, if_neg q]
    exact ev_neg (by omega) (Ev.now _)
theorem impl_Keep_ev (a : Int) (l : List ByteArray) (c : Int) (s : ByteArray) (hl : l.length ≤ 1048576) : Ev (fun k => impl_Keep.f k a l c s) (keepv a l c s) := by
  have none_ : Ev (fun k => impl_Keep.j0 k s true a l c) (0, [], 0, false) := by
    refine ev_succ ?_
    simp only [impl_Keep.j0]
    exact ev_pos (by trivial) (Ev.now _)
  have cl : ∀ _ : Unit, ∀ x : List ByteArray, x.length ≤ 1048577 → slices_Clone_string_string.f x = some x := fun _ x hx => by
    simp only [slices_Clone_string_string.f, Option.bind_some, List.nil_append]
    rw [if_pos (by simp; omega)]
  unfold impl_Keep.f keepv
  refine Ev.bind (impl_HistoryOk_ev a l c hl) ?_
  by_cases h : hokv a l c = true
  case neg => rw [if_neg (fun q => h q.1)]; exact ev_neg h none_
  refine ev_pos h ?_
  by_cases h2 : s.size ≤ 300
  case neg => rw [if_neg (fun q => h2 q.2), decide_eq_true (by omega)]; exact none_
  rw [if_pos ⟨h, h2⟩, decide_eq_false (by omega)]
  obtain ⟨g1, g2, g3, g4, g5, _⟩ := hokv_true h
  have ln : ((l ++ [s]).length : Int) = (l.length : Int) + 1 := by simp
  have wc : ∀ _ : Unit, wrap64 (c + 1) = c + 1 := fun _ => w64 (by omega) (by omega)
  refine ev_succ ?_
  simp only [impl_Keep.j0, cl () l (by omega), cl () ((l ++ [s]).drop 1) (by simp; omega), Option.bind_some, ln, wc ()]
  refine ev_neg (by simp) (ev_pos (by simp; omega) ?_)
  by_cases q : (l.length : Int) + 1 > a
  · rw [if_pos q, if_pos q]
    refine ev_pos (by omega) ?_
    by_cases q2 : c + 1 > 1000000
    · rw [if_pos q2, if_pos q2]; exact Ev.now _
    · rw [if_neg q2, if_neg q2]; exact Ev.now _
  · rw [if_neg q, if_neg q]
    exact ev_neg (by omega) (Ev.now _)

theorem laws_szStringS_ev (l : List ByteArray) (a : Int) (h0 : 0 ≤ a) (h1 : a ≤ 1048576) (hl : l.length ≤ maxLen) (hw : ∀ x ∈ l, x.size ≤ maxLen) :
    ∃ r, Ev (fun k => laws_szStringS.f k l a) r ∧ (r < 0 ∨ (0 ≤ r ∧ r ≤ 1048576 ∧ l.length ≤ 1048576)) := by
  rw [maxLen_eq] at hl
  have hw' : ∀ x ∈ l, x.size ≤ 9223372036854775807 := hw
  have go : ∀ (d i : Nat) (x : Int), i + d = l.length → 0 ≤ x → x ≤ 1048576 → ∃ r, Ev (fun k => laws_szStringS.l0 k l x (i : Int)) r ∧ (r < 0 ∨ (0 ≤ r ∧ r ≤ 1048576)) := by
    intro d
    induction d with
    | zero =>
      intro i x h hx0 hx1
      refine ⟨x, ev_succ ?_, .inr ⟨hx0, hx1⟩⟩
      simp only [laws_szStringS.l0]
      exact ev_neg (by omega) (Ev.now _)
    | succ d ih =>
      intro i x h hx0 hx1
      have hs := hw' l[i] (List.getElem_mem _)
      have w1 : ∀ _ : Unit, wrap64 (x - (l[i].size : Int)) = x - (l[i].size : Int) := fun _ => w64 (by omega) (by omega)
      have w2 : ∀ _ : Unit, wrap64 ((i : Int) + 1) = ((i + 1 : Nat) : Int) := fun _ => by rw [w64 (by omega) (by omega)]; omega
      by_cases c : x - (l[i].size : Int) < 0
      · refine ⟨-1, ev_succ ?_, .inl (by omega)⟩
        simp only [laws_szStringS.l0, rdOf_at ByteArray.empty (show i < l.length by omega), w1 ()]
        exact ev_pos (by omega) (ev_pos (by omega) (ev_pos c (Ev.now _)))
      · obtain ⟨r, e, hr⟩ := ih (i + 1) (x - (l[i].size : Int)) (by omega) (by omega) (by omega)
        refine ⟨r, ev_succ ?_, hr⟩
        simp only [laws_szStringS.l0, rdOf_at ByteArray.empty (show i < l.length by omega), w1 (), w2 ()]
        exact ev_pos (by omega) (ev_pos (by omega) (ev_neg c e))
  unfold laws_szStringS.f
  rw [w64 (by omega) (by omega)]
  by_cases c : a - (l.length : Int) < 0
  · exact ⟨-1, ev_pos c (Ev.now _), .inl (by omega)⟩
  · obtain ⟨r, e, hr⟩ := go l.length 0 (a - (l.length : Int)) (by omega) (by omega) (by omega)
    exact ⟨r, ev_neg c e, by omega⟩

theorem laws_toStringS_ev (l : List ByteArray) (hl : l.length ≤ 1048576) : Ev (fun k => laws_toStringS.f k l) l := by
  have go : ∀ (d i : Nat) (m : List ByteArray), i + d = l.length → m.length = l.length → Ev (fun k => laws_toStringS.l0 k l m (i : Int)) (m.take i ++ l.drop i) := by
    intro d
    induction d with
    | zero =>
      intro i m h hm
      refine ev_succ ?_
      simp only [laws_toStringS.l0]
      refine ev_neg (by omega) ?_
      rw [List.take_of_length_le (by omega), List.drop_of_length_le (by omega), List.append_nil]
      exact Ev.now _
    | succ d ih =>
      intro i m h hm
      refine ev_succ ?_
      simp only [laws_toStringS.l0, w64 (x := (i : Int) + 1) (by omega) (by omega)]
      refine ev_pos (by omega) (ev_pos (by omega) (ev_pos (by omega) ?_))
      have := ih (i + 1) (m.set (i : Int).toNat (rdOf ByteArray.empty l (i : Int))) (by omega) (by simpa using hm)
      refine ev_eq this ?_
      rw [show (i : Int).toNat = i by omega, take_set_succ _ _ _ (by omega), rdOf_at _ (by omega), List.append_assoc, List.singleton_append, ← List.drop_eq_getElem_cons (by omega)]
  unfold laws_toStringS.f
  refine ev_pos (by omega) (ev_pos (by omega) ?_)
  have := go l.length 0 (List.replicate l.length ⟨#[]⟩) (by omega) (by simp)
  simpa using this

theorem laws_eqStringS_ev (l : List ByteArray) (hl : l.length < 9223372036854775807) : Ev (fun k => laws_eqStringS.f k l l) true := by
  have go : ∀ (d i : Nat), i + d = l.length → Ev (fun k => laws_eqStringS.l0 k l l (i : Int)) true := by
    intro d
    induction d with
    | zero =>
      intro i h
      refine ev_succ ?_
      simp only [laws_eqStringS.l0]
      exact ev_neg (by omega) (Ev.now _)
    | succ d ih =>
      intro i h
      refine ev_succ ?_
      simp only [laws_eqStringS.l0, w64 (x := (i : Int) + 1) (by omega) (by omega)]
      exact ev_pos (by omega) (ev_pos (by omega) (ev_pos (by omega) (ev_pos (by first | rfl | trivial) (ih (i + 1) (by omega)))))
  unfold laws_eqStringS.f
  exact ev_pos rfl (go l.length 0 (by omega))

theorem laws_eqHistory_ev (a : Int) (l : List ByteArray) (b : Int) (hl : l.length < 9223372036854775807) : Ev (fun k => laws_eqHistory.f k a l b a l b) true := by
  unfold laws_eqHistory.f
  exact ev_pos rfl (Ev.bind (laws_eqStringS_ev l hl) (ev_pos rfl (ev_pos rfl (Ev.now _))))

theorem laws_szHistory_ev (a : Int) (l : List ByteArray) (c : Int) (hl : l.length ≤ maxLen) (hw : ∀ x ∈ l, x.size ≤ maxLen) :
    ∃ r, Ev (fun k => laws_szHistory.f k a l c 1048576) r ∧ (r < 0 ∨ (0 ≤ r ∧ l.length ≤ 1048576)) := by
  obtain ⟨r, e, hr⟩ := laws_szStringS_ev l 1048576 (by omega) (by omega) hl hw
  unfold laws_szHistory.f
  by_cases h : r < 0
  · exact ⟨-1, Ev.bind e (ev_pos h (Ev.now _)), .inl (by omega)⟩
  · exact ⟨r, Ev.bind e (ev_neg h (Ev.now _)), by omega⟩
theorem laws_toHistory_ev (a : Int) (l : List ByteArray) (c : Int) (hl : l.length ≤ 1048576) : Ev (fun k => laws_toHistory.f k a l c) (a, l, c) := by
  unfold laws_toHistory.f
  exact Ev.bind (laws_toStringS_ev l hl) (Ev.now _)

theorem laws_markText_some (a : Nat) (ha : a ≤ 4611686018427387900) : ∃ v, Ev (fun k => laws_markText.f k (a : Int)) v := by
  have go : ∀ (n : Nat) (s : ByteArray), n + s.size ≤ 4611686018427387904 → ∃ v, Ev (fun k => laws_markText.l0 k (n : Int) s) v := by
    intro n
    induction n using Nat.strongRecOn with
    | ind n ih =>
      intro s hs
      by_cases h : n = 0
      · subst h
        refine ⟨_, ev_succ (g := fun k => laws_markText.l0 k ((0 : Nat) : Int) s) (r := (⟨#[109]⟩ : ByteArray) ++ s) ?_⟩
        simp only [laws_markText.l0]
        exact ev_neg (by omega) (ev_pos (by omega) (Ev.now _))
      · have hd : ∀ _ : Unit, wrap64 (Int.tdiv (n : Int) 10) = ((n / 10 : Nat) : Int) := fun _ => by rw [Int.tdiv_eq_ediv_of_nonneg (by omega), w64 (by omega) (by omega)]; omega
        have hz : ∀ x : Int, (strOfNums [x]).size = 1 := fun x => by rw [strOfNums_size]; rfl
        obtain ⟨v, e⟩ := ih (n / 10) (by omega) (strOfNums [(wrap64 (48 + (Int.tmod (n : Int) 10))) % 256] ++ s) (by rw [ByteArray.size_append, hz]; omega)
        refine ⟨v, ev_succ ?_⟩
        simp only [laws_markText.l0, hd ()]
        exact ev_pos (by omega) (ev_bind_some (ev_pos (by rw [hz]; omega) e))
  unfold laws_markText.f
  by_cases h : (a : Int) ≤ 0
  · exact ⟨_, ev_pos h (Ev.now _)⟩
  · obtain ⟨v, e⟩ := go a (⟨#[]⟩ : ByteArray) (by rw [show (⟨#[]⟩ : ByteArray).size = 0 from rfl]; omega)
    exact ⟨v, ev_neg h e⟩
theorem laws_markStringS_some (l : List ByteArray) (hl : l.length ≤ 1048576) : ∃ m, Ev (fun k => laws_markStringS.f k l 1) (1 + (l.length : Int), m) := by
  have go : ∀ (d i : Nat) (m : List ByteArray) (a : Nat), a + d ≤ 4611686018427387900 → i + d = l.length → m.length = l.length → ∃ m', Ev (fun k => laws_markStringS.l0 k m (a : Int) (i : Int)) ((a : Int) + d, m') := by
    intro d
    induction d with
    | zero =>
      intro i m a ha h hm
      refine ⟨m, ev_succ ?_⟩
      simp only [laws_markStringS.l0]
      exact ev_neg (by omega) (ev_eq (Ev.now _) (by simp))
    | succ d ih =>
      intro i m a ha h hm
      obtain ⟨v, e⟩ := laws_markText_some a (by omega)
      obtain ⟨m', e'⟩ := ih (i + 1) (m.set i v) (a + 1) (by omega) (by omega) (by rw [List.length_set]; exact hm)
      have wi : ∀ _ : Unit, wrap64 ((i : Int) + 1) = ((i + 1 : Nat) : Int) := fun _ => by rw [w64 (by omega) (by omega)]; omega
      have wa : ∀ _ : Unit, wrap64 ((a : Int) + 1) = ((a + 1 : Nat) : Int) := fun _ => by rw [w64 (by omega) (by omega)]; omega
      refine ⟨m', ev_succ ?_⟩
      simp only [laws_markStringS.l0, wi (), wa (), Int.toNat_natCast]
      refine ev_pos (by omega) (Ev.bind e (ev_pos (by omega) (ev_eq e' ?_)))
      rw [show ((a + 1 : Nat) : Int) + (d : Int) = (a : Int) + ((d + 1 : Nat) : Int) by omega]
  unfold laws_markStringS.f
  have := go l.length 0 l 1 (by omega) (by omega) rfl
  exact this

theorem ev_unique {α : Type} {g : Nat → Option α} {a b : α} (h1 : Ev g a) (h2 : Ev g b) : a = b := by
  obtain ⟨K, h1⟩ := h1
  obtain ⟨L, h2⟩ := h2
  exact Option.some.inj ((h1 (K + L) (by omega)).symm.trans (h2 (K + L) (by omega)))
theorem no_bytes : ((⟨#[]⟩ : ByteArray).toList != ([] : List UInt8)) = false := by first | rfl | decide | (unfold ByteArray.toList ByteArray.toList.loop; rw [if_neg (by decide)]; rfl)

theorem laws_markHeldS (l : List ByteArray) (hl : l.length ≤ 1048576) : ∃ m : List ByteArray, m.length = l.length ∧ Ev (fun k => laws_markStringS.f k l 1) (1 + (l.length : Int), m) ∧ Ev (fun k => laws_heldStringS.f k m 1) (1 + (l.length : Int)) := by
  have go : ∀ (d i : Nat) (m : List ByteArray) (a : Nat), a + d ≤ 4611686018427387900 → i + d = l.length → m.length = l.length → ∃ m' : List ByteArray, m'.length = l.length ∧ (∀ j, j < i → m'[j]? = m[j]?) ∧
      (∀ (j : Nat) (v : ByteArray), i ≤ j → j < l.length → Ev (fun k => laws_markText.f k ((a + (j - i) : Nat) : Int)) v → m'[j]? = some v) ∧ Ev (fun k => laws_markStringS.l0 k m (a : Int) (i : Int)) ((a : Int) + d, m') := by
    intro d
    induction d with
    | zero =>
      intro i m a ha h hm
      refine ⟨m, hm, fun _ _ => rfl, fun j v h1 h2 => absurd h2 (by omega), ev_succ ?_⟩
      simp only [laws_markStringS.l0]
      exact ev_neg (by omega) (ev_eq (Ev.now _) (by simp))
    | succ d ih =>
      intro i m a ha h hm
      obtain ⟨v, e⟩ := laws_markText_some a (by omega)
      obtain ⟨m', hl', hlo, hhi, e'⟩ := ih (i + 1) (m.set i v) (a + 1) (by omega) (by omega) (by rw [List.length_set]; exact hm)
      have wi : ∀ _ : Unit, wrap64 ((i : Int) + 1) = ((i + 1 : Nat) : Int) := fun _ => by rw [w64 (by omega) (by omega)]; omega
      have wa : ∀ _ : Unit, wrap64 ((a : Int) + 1) = ((a + 1 : Nat) : Int) := fun _ => by rw [w64 (by omega) (by omega)]; omega
      refine ⟨m', hl', fun j hj => ?_, fun j u h1 h2 he => ?_, ev_succ ?_⟩
      · rw [hlo j (by omega), List.getElem?_set_ne (by omega)]
      · by_cases q : j = i
        · subst q
          rw [hlo j (by omega), List.getElem?_set_self (by omega)]
          rw [Nat.sub_self, Nat.add_zero] at he
          rw [ev_unique e he]
        · exact hhi j u (by omega) h2 (by rw [show a + 1 + (j - (i + 1)) = a + (j - i) by omega]; exact he)
      · simp only [laws_markStringS.l0, wi (), wa (), Int.toNat_natCast]
        refine ev_pos (by omega) (Ev.bind e (ev_pos (by omega) (ev_eq e' ?_)))
        rw [show ((a + 1 : Nat) : Int) + (d : Int) = (a : Int) + ((d + 1 : Nat) : Int) by omega]
  obtain ⟨m, hm, _, hhi, e⟩ := go l.length 0 l 1 (by omega) (by omega) rfl
  refine ⟨m, hm, by unfold laws_markStringS.f; exact e, ?_⟩
  have held : ∀ (d i : Nat), i + d = l.length → Ev (fun k => laws_heldStringS.l0 k m ((1 + i : Nat) : Int) (i : Int)) (1 + (l.length : Int)) := by
    intro d
    induction d with
    | zero =>
      intro i h
      refine ev_succ ?_
      simp only [laws_heldStringS.l0]
      exact ev_neg (by omega) (ev_eq (Ev.now _) (by omega))
    | succ d ih =>
      intro i h
      obtain ⟨v, ev⟩ := laws_markText_some (1 + i) (by omega)
      have hv := hhi i v (by omega) (by omega) (by rw [Nat.sub_zero]; exact ev)
      have rdv : ∀ _ : Unit, rdOf ByteArray.empty m (i : Int) = v := fun _ => by unfold rdOf; rw [Int.toNat_natCast, List.getD_eq_getElem?_getD, hv]; rfl
      have wi : ∀ _ : Unit, wrap64 ((i : Int) + 1) = ((i + 1 : Nat) : Int) := fun _ => by rw [w64 (by omega) (by omega)]; omega
      have wa : ∀ _ : Unit, wrap64 (((1 + i : Nat) : Int) + 1) = ((1 + (i + 1) : Nat) : Int) := fun _ => by rw [w64 (by omega) (by omega)]; omega
      refine ev_succ ?_
      simp only [laws_heldStringS.l0, wi (), wa (), rdv ()]
      exact ev_pos (by omega) (ev_pos (by omega) (Ev.bind ev (ev_pos rfl (ih (i + 1) (by omega)))))
  have := held l.length 0 (by omega)
  unfold laws_heldStringS.f
  simpa using this

theorem FnExactKeep : laws_FnExactKeep.Aim := by
  intro a l c w _ hl _ _
  refine Ev.rounds ?_
  unfold laws_FnExactKeep.f
  by_cases hbig : (w.size : Int) > 1048576
  · exact ev_pos hbig (Ev.now _)
  refine ev_neg hbig ?_
  obtain ⟨r, er, hr⟩ := laws_szHistory_ev a l c hl.1 hl.2
  refine Ev.bind er ?_
  by_cases h : r < 0
  · exact ev_pos h (Ev.now _)
  refine ev_neg h ?_
  have h1 : l.length ≤ 1048576 := by omega
  have ht := laws_toHistory_ev a l c h1
  have e1 := spec_Keep_ev a l c w h1
  have e2 := impl_Keep_ev a l c w h1
  have kl := keepv_length a l c w
  obtain ⟨⟨x, m, y, g⟩, hk⟩ : ∃ q, q = keepv a l c w := ⟨_, rfl⟩
  rw [← hk] at e1 e2 kl
  have kl' : m.length ≤ 200 := kl
  obtain ⟨m1, _, em1, _⟩ := laws_markHeldS l h1
  obtain ⟨m2, _, em2, eh2⟩ := laws_markHeldS m (by omega)
  have eq := laws_eqHistory_ev x m y (by omega)
  have eq2 := laws_eqHistory_ev a l c (by omega)
  have k1 : Ev (fun k => laws_markHistory.f k a l c 1) (1 + (l.length : Int), m1) := by
    unfold laws_markHistory.f
    exact Ev.bind em1 (Ev.now _)
  have k2 : Ev (fun k => laws_markHistory.f k x m y 1) (1 + (m.length : Int), m2) := by
    unfold laws_markHistory.f
    exact Ev.bind em2 (Ev.now _)
  have hh : Ev (fun k => laws_heldHistory.f k x m2 y 1) (1 + (m.length : Int)) := by
    unfold laws_heldHistory.f
    exact Ev.bind eh2 (ev_neg (by omega) (Ev.now _))
  refine Ev.bind ht (Ev.bind e1 (Ev.bind ht (Ev.bind e2 (Ev.bind eq (ev_pos rfl (ev_neg (by simp) (Ev.bind ht (Ev.bind eq2 (ev_pos rfl (Ev.bind k1 (ev_neg (by show ¬ ((1 : Int) + _ < 0); omega) (Ev.bind eq (ev_pos rfl (Ev.bind k2 (Ev.bind hh (ev_neg (by omega) (ev_pos rfl ?_)))))))))))))))))
  exact Ev.bind ht (Ev.bind e2 (Ev.bind eq (ev_pos rfl (ev_neg (by simp) (Ev.bind hh (ev_neg (by omega) (ev_pos rfl (Ev.now _))))))))

end Go.Proofs.Ytalopdcephohgaa.Pure
