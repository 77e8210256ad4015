/- The law FnExactBlank answers true at every number of columns and every style. -/
import Derived.Test.YtnkoppgbbmeknaaMFnExactBlankx3
import Derived.Test.YtnkoppgbbmeknaaAimFnExactBlank
namespace Go.Proofs.Ytnkoppgbbmeknaa.Pure
open Go.RowKit Go.Proofs.Ytnkoppgbbmeknaa.PFnExactBlank Go.Proofs.YtnkoppgbbmeknaaW.PrintWords Go.Proofs.YtnkoppgbbmeknaaW.PrintLast
set_option linter.unusedVariables false
set_option linter.unusedSimpArgs false

theorem w64 {x : Int} (h0 : -9223372036854775808 ≤ x) (h1 : x ≤ 9223372036854775807) : wrap64 x = x := by unfold wrap64; omega
theorem wf64 {x : Int} : (Lit.int .i64 x).wf = true ↔ -9223372036854775808 ≤ x ∧ x ≤ 9223372036854775807 := by
  simp [Lit.wf, IntKind.min, IntKind.max, IntKind.signed, IntKind.bits]
theorem wf8 {x : Int} : (Lit.int .u8 x).wf = true ↔ 0 ≤ x ∧ x ≤ 255 := by
  simp [Lit.wf, IntKind.min, IntKind.max, IntKind.signed, IntKind.bits]
theorem ev_succ {α : Type} {g : Nat → Option α} {r : α} (h : Ev (fun k => g (k + 1)) r) : Ev g r := by
  obtain ⟨K, h⟩ := h
  refine ⟨K + 1, fun k hk => ?_⟩
  obtain ⟨m, rfl⟩ : ∃ m, k = m + 1 := ⟨k - 1, by omega⟩
  exact h m (by omega)
theorem ev_fixed {α : Type} {x : Option α} {r : α} (h : x = some r) : Ev (fun _ => x) r := ⟨0, fun _ _ => h⟩
theorem ev_eq {α : Type} {g : Nat → Option α} {r s : α} (h : Ev g r) (e : r = s) : Ev g s := e ▸ h
theorem bt0 (s : ByteArray) (i : Int) : 0 ≤ bt s i := (bt_range s i).1
theorem bt255 (s : ByteArray) (i : Int) : bt s i ≤ 255 := (bt_range s i).2
/-- Never keep an equation 'wrap64 .. = ..' in the context where omega runs: it compares them by unfolding. -/
theorem wN {x : Int} {n : Nat} (e : x = (n : Int)) (h : n < 4611686018427387904) : wrap64 x = (n : Int) := by rw [e]; exact w64 (by omega) (by omega)

theorem ev_pos {α : Type} {c : Prop} [Decidable c] {a b : Nat → Option α} {r : α} (hc : c) (h : Ev a r) : Ev (fun k => if c then a k else b k) r := by
  obtain ⟨K, h⟩ := h
  exact ⟨K, fun k hk => by show (if c then a k else b k) = some r; rw [if_pos hc]; exact h k hk⟩
theorem ev_neg {α : Type} {c : Prop} [Decidable c] {a b : Nat → Option α} {r : α} (hc : ¬ c) (h : Ev b r) : Ev (fun k => if c then a k else b k) r := by
  obtain ⟨K, h⟩ := h
  exact ⟨K, fun k hk => by show (if c then a k else b k) = some r; rw [if_neg hc]; exact h k hk⟩
theorem ev_bind_some {α β : Type} {a : α} {f : Nat → α → Option β} {r : β} (h : Ev (fun k => f k a) r) : Ev (fun k => (some a).bind (f k)) r := h
theorem ev_bind_of {α β : Type} {x : Option α} {a : α} {f : Nat → α → Option β} {r : β} (hx : x = some a) (h : Ev (fun k => f k a) r) : Ev (fun k => x.bind (f k)) r := by
  subst hx; exact h

theorem rd_nat (l : List Int) (i : Nat) : rd l (i : Int) = l.getD i 0 := by simp [rd]
theorem rd_at {l : List Int} {i : Nat} (h : i < l.length) : rd l (i : Int) = l[i] := by rw [rd_nat, List.getD_eq_getElem?_getD, List.getElem?_eq_getElem h]; rfl
theorem take_set_succ {α : Type} (l : List α) (i : Nat) (a : α) (h : i < l.length) : (l.set i a).take (i + 1) = l.take i ++ [a] := by
  rw [List.take_succ_eq_append_getElem (by simpa using h), List.take_set, List.set_eq_of_length_le (by rw [List.length_take]; omega)]
  simp

theorem rdOf_at {α : Type} (d : α) {l : List α} {i : Nat} (h : i < l.length) : rdOf d l (i : Int) = l[i] := by
  unfold rdOf; rw [Int.toNat_natCast, List.getD_eq_getElem?_getD, List.getElem?_eq_getElem h]; rfl
theorem maxLen_eq : maxLen = 9223372036854775807 := rfl

theorem rdc {l : List S116} {i : Nat} (h : i < l.length) : rd_T116 l (i : Int) = l[i] := by
  unfold rd_T116; rw [Int.toNat_natCast, List.getD_eq_getElem?_getD, List.getElem?_eq_getElem h]; rfl
theorem style_ne (a b : S59) : ((!(a.f0 == b.f0) || (!(a.f1 == b.f1) || (!(a.f2 == b.f2) || (!(a.f3 == b.f3) || (!(a.f4 == b.f4)))))) = true) ↔ a ≠ b := by
  obtain ⟨a0, a1, a2, a3, a4⟩ := a
  obtain ⟨b0, b1, b2, b3, b4⟩ := b
  constructor
  · intro h e
    injection e with e0 e1 e2 e3 e4
    subst e0; subst e1; subst e2; subst e3; subst e4
    simp at h
  · intro h
    by_cases q0 : a0 = b0
    · by_cases q1 : a1 = b1
      · by_cases q2 : a2 = b2
        · by_cases q3 : a3 = b3
          · by_cases q4 : a4 = b4
            · subst q0; subst q1; subst q2; subst q3; subst q4; exact absurd rfl h
            · simp [q4]
          · simp [q3]
        · simp [q2]
      · simp [q1]
    · simp [q0]
theorem laws_eqCell_self (x : S116) : laws_eqCell.f x.f0 x.f1.f0 x.f1.f1 x.f1.f2 x.f1.f3 x.f1.f4 x.f2 x.f0 x.f1.f0 x.f1.f1 x.f1.f2 x.f1.f3 x.f1.f4 x.f2 = some true := by
  simp [laws_eqCell.f, laws_eqStyle.f]
theorem laws_eqCellS_ev (l : List S116) (hl : l.length < 9223372036854775807) : Ev (fun k => laws_eqCellS.f k l l) true := by
  have go : ∀ (d i : Nat), i + d = l.length → Ev (fun k => laws_eqCellS.l0 k l l (i : Int)) true := by
    intro d
    induction d with
    | zero =>
      intro i h
      refine ev_succ ?_
      simp only [laws_eqCellS.l0]
      exact ev_neg (by omega) (Ev.now _)
    | succ d ih =>
      intro i h
      refine ev_succ ?_
      simp only [laws_eqCellS.l0, w64 (x := (i : Int) + 1) (by omega) (by omega), laws_eqCell_self, Option.bind_some]
      exact ev_pos (by omega) (ev_pos (by omega) (ev_pos (by omega) (ev_pos (by first | rfl | trivial) (ih (i + 1) (by omega)))))
  unfold laws_eqCellS.f
  exact ev_pos rfl (go l.length 0 (by omega))

theorem spec_l1In_eq (a b c : Int) : spec_l1In.f a b c = some (decide (b ≤ a) && decide (a ≤ c)) := by
  unfold spec_l1In.f
  by_cases h : a ≥ b
  · rw [if_pos h]; simp [h]
  · rw [if_neg h]; simp [show ¬ b ≤ a from h]

theorem impl_in_eq (a b c : Int) : impl_in.f a b c = some (decide (b ≤ a) && decide (a ≤ c)) := by
  unfold impl_in.f
  by_cases h : b ≤ a
  · rw [if_pos h]; simp [h]
  · rw [if_neg h]; simp [h]

def sokv (a b : Int) : Bool := (decide (0 ≤ a) && decide (a ≤ 8)) && (decide (0 ≤ b) && decide (b ≤ 8))
theorem spec_StyleOk_eq (a b : Int) (c d e : Bool) : spec_StyleOk.f a b c d e = some (sokv a b) := by
  simp only [spec_StyleOk.f, spec_l1In_eq, Option.bind_some, sokv]
  by_cases h : (decide (0 ≤ a) && decide (a ≤ 8)) = true
  · simp [h]
  · simp [h]
theorem impl_StyleOk_eq (a b : Int) (c d e : Bool) : impl_StyleOk.f a b c d e = some (sokv a b) := by
  simp only [impl_StyleOk.f, impl_in_eq, Option.bind_some, sokv]
  by_cases h : (decide (0 ≤ a) && decide (a ≤ 8)) = true
  · simp [h]
  · simp [h]

/-- A blank cell in a style, its row. -/
def blk (s : S59) : S116 := ⟨32, s, 0⟩
theorem spec_l4Row_ev (n : Nat) (a b : Int) (c d e : Bool) (hn : n ≤ 1000000) : Ev (fun k => spec_l4Row.f k (n : Int) a b c d e) (List.replicate n (blk ⟨a, b, c, d, e⟩)) := by
  have go : ∀ (q i : Nat), i + q = n → Ev (fun k => spec_l4Row.l0 k (n : Int) (List.replicate i (blk ⟨a, b, c, d, e⟩)) (i : Int) a b c d e) (List.replicate n (blk ⟨a, b, c, d, e⟩)) := by
    intro q
    induction q with
    | zero =>
      intro i h
      obtain rfl : i = n := by omega
      refine ev_succ ?_
      simp only [spec_l4Row.l0]
      exact ev_neg (by omega) (Ev.now _)
    | succ q ih =>
      intro i h
      have := ih (i + 1) (by omega)
      have wi : ∀ _ : Unit, wrap64 ((i : Int) + 1) = ((i + 1 : Nat) : Int) := fun _ => by rw [w64 (by omega) (by omega)]; omega
      refine ev_succ ?_
      simp only [spec_l4Row.l0, spec_l4Blank.f, Option.bind_some, wi ()]
      refine ev_pos (by omega) (ev_pos (by rw [List.length_replicate]; omega) ?_)
      rw [List.replicate_succ'] at this
      exact this
  unfold spec_l4Row.f
  exact go n 0 (by omega)
/-- What both answer. -/
def blankOf (n : Int) (s : S59) : List S116 := if (decide (1 ≤ n) && decide (n ≤ 60)) = true ∧ sokv s.f0 s.f1 = true then List.replicate n.toNat (blk s) else []
theorem blankOf_length (n : Int) (s : S59) : (blankOf n s).length ≤ 60 := by
  unfold blankOf
  by_cases h : (decide (1 ≤ n) && decide (n ≤ 60)) = true ∧ sokv s.f0 s.f1 = true
  · rw [if_pos h, List.length_replicate]
    have := h.1
    simp only [Bool.and_eq_true, decide_eq_true_eq] at this
    omega
  · rw [if_neg h]; simp
theorem spec_Blank_ev (n : Int) (a b : Int) (c d e : Bool) : Ev (fun k => spec_Blank.f k n a b c d e) (blankOf n ⟨a, b, c, d, e⟩) := by
  simp only [spec_Blank.f, spec_l1In_eq, spec_StyleOk_eq, Option.bind_some]
  by_cases h : (decide (1 ≤ n) && decide (n ≤ 60)) = true
  · refine ev_pos h ?_
    by_cases q : sokv a b = true
    · refine ev_pos q ?_
      have h2 := h
      simp only [Bool.and_eq_true, decide_eq_true_eq] at h2
      obtain ⟨m, rfl⟩ := Int.eq_ofNat_of_zero_le (show 0 ≤ n by omega)
      refine Ev.bind (spec_l4Row_ev m a b c d e (by omega)) (ev_eq (Ev.now _) ?_)
      unfold blankOf; rw [if_pos ⟨h, q⟩, Int.toNat_natCast]
    · refine ev_neg q (ev_eq (Ev.now _) ?_)
      unfold blankOf; rw [if_neg (fun x => q x.2)]
  · refine ev_neg h (ev_eq (Ev.now _) ?_)
    unfold blankOf; rw [if_neg (fun x => h x.1)]
theorem impl_Blank_ev (n : Int) (a b : Int) (c d e : Bool) : Ev (fun k => impl_Blank.f k n a b c d e) (blankOf n ⟨a, b, c, d, e⟩) := by
  simp only [impl_Blank.f, impl_in_eq, impl_StyleOk_eq, Option.bind_some]
  by_cases h : (decide (1 ≤ n) && decide (n ≤ 60)) = true
  · refine ev_pos h (ev_succ ?_)
    simp only [impl_Blank.j0, impl_blank.f, Option.bind_some]
    by_cases q : sokv a b = true
    · refine ev_neg (by rw [q]; simp) ?_
      have h2 := h
      simp only [Bool.and_eq_true, decide_eq_true_eq] at h2
      have e1 : ∀ x : S116, impl_Cell.f [x] n = some (List.replicate n.toNat x) := by
        intro x
        unfold impl_Cell.f
        rw [if_pos ⟨rfl, by omega, by omega⟩]
        rfl
      rw [e1]
      refine ev_eq (Ev.now _) ?_
      unfold blankOf; rw [if_pos ⟨h, q⟩]; rfl
    · refine ev_pos (by simp [q]) (ev_eq (Ev.now _) ?_)
      unfold blankOf; rw [if_neg (fun x => q x.2)]
  · refine ev_neg h (ev_succ ?_)
    simp only [impl_Blank.j0]
    refine ev_pos (by trivial) (ev_eq (Ev.now _) ?_)
    unfold blankOf; rw [if_neg (fun x => h x.1)]

def tm3 (x : Int) : Bool := (Int.tmod x 3 == 0)
def mkC (a : Int) : S116 := ⟨a, ⟨a + 1, a + 2, tm3 (a + 3), tm3 (a + 4), tm3 (a + 5)⟩, a + 6⟩
def mksC : Nat → Int → List S116
  | 0, _ => []
  | n + 1, a => mkC a :: mksC n (a + 7)
theorem mksC_length : ∀ (n : Nat) (a : Int), (mksC n a).length = n
  | 0, _ => rfl
  | n + 1, a => by simp [mksC, mksC_length n]
theorem mksC_get : ∀ (n : Nat) (a : Int) (i : Nat) (h : i < (mksC n a).length), (mksC n a)[i] = mkC (a + 7 * i)
  | n + 1, a, 0, _ => by simp [mksC]
  | n + 1, a, i + 1, h => by
    simp only [mksC, List.getElem_cons_succ]
    rw [mksC_get n (a + 7) i]
    have e : a + 7 + 7 * (i : Int) = a + 7 * ((i + 1 : Nat) : Int) := by omega
    rw [e]
theorem laws_markCellS_ev (l : List S116) (a0 : Int) (h0 : 0 ≤ a0) (hl : a0 + 7 * l.length < 9007199254740992) : Ev (fun k => laws_markCellS.f k l a0) (a0 + 7 * (l.length : Int), mksC l.length a0) := by
  have go : ∀ (d i : Nat) (m : List S116) (a : Int), 0 ≤ a → a + 7 * d < 9007199254740992 → i + d = l.length → m.length = l.length → l.length < 9007199254740992 → Ev (fun k => laws_markCellS.l0 k m a (i : Int)) (a + 7 * d, m.take i ++ mksC d a) := by
    intro d
    induction d with
    | zero =>
      intro i m a h0 h1 h hm hlm
      refine ev_succ ?_
      simp only [laws_markCellS.l0]
      refine ev_neg (by omega) (ev_eq (Ev.now _) ?_)
      rw [List.take_of_length_le (by omega)]
      simp [mksC]
    | succ d ih =>
      intro i m a h0 h1 h hm hlm
      have w1 : ∀ _ : Unit, wrap64 (a + 1) = a + 1 := fun _ => w64 (by omega) (by omega)
      have w2 : ∀ _ : Unit, wrap64 (a + 1 + 1) = a + 2 := fun _ => by rw [w64 (by omega) (by omega)]; omega
      have w3 : ∀ _ : Unit, wrap64 (a + 2 + 1) = a + 3 := fun _ => by rw [w64 (by omega) (by omega)]; omega
      have w4 : ∀ _ : Unit, wrap64 (a + 3 + 1) = a + 4 := fun _ => by rw [w64 (by omega) (by omega)]; omega
      have w5 : ∀ _ : Unit, wrap64 (a + 4 + 1) = a + 5 := fun _ => by rw [w64 (by omega) (by omega)]; omega
      have w6 : ∀ _ : Unit, wrap64 (a + 5 + 1) = a + 6 := fun _ => by rw [w64 (by omega) (by omega)]; omega
      have w7 : ∀ _ : Unit, wrap64 (a + 6 + 1) = a + 7 := fun _ => by rw [w64 (by omega) (by omega)]; omega
      have wi : ∀ _ : Unit, wrap64 ((i : Int) + 1) = ((i + 1 : Nat) : Int) := fun _ => by rw [w64 (by omega) (by omega)]; omega
      have hr : ∀ v : S116, rd_T116 (m.set i v) (i : Int) = v := fun v => by rw [rdc (by rw [List.length_set]; omega), List.getElem_set_self]
      refine ev_succ ?_
      simp only [laws_markCellS.l0, w1 (), w2 (), w3 (), w4 (), w5 (), w6 (), w7 (), wi (), Int.toNat_natCast, Option.bind_some, hr, List.set_set]
      refine ev_pos (by omega) (ev_pos (by omega) ?_)
      have := ih (i + 1) (m.set i (mkC a)) (a + 7) (by omega) (by omega) (by omega) (by simpa using hm) hlm
      refine ev_eq this ?_
      rw [take_set_succ _ _ _ (by omega), List.append_assoc, List.singleton_append]
      have e : a + 7 + 7 * (d : Int) = a + 7 * ((d + 1 : Nat) : Int) := by omega
      rw [e]; rfl
  unfold laws_markCellS.f
  have := go l.length 0 l a0 (by omega) (by omega) (by omega) rfl (by omega)
  simpa using this
theorem laws_heldCellS_ev (n : Nat) (a0 : Int) (h0 : 0 ≤ a0) (hn : a0 + 7 * n < 9007199254740992) : Ev (fun k => laws_heldCellS.f k (mksC n a0) a0) (a0 + 7 * (n : Int)) := by
  have go : ∀ (d i : Nat), i + d = n → Ev (fun k => laws_heldCellS.l0 k (mksC n a0) (a0 + 7 * (i : Int)) (i : Int)) (a0 + 7 * (n : Int)) := by
    intro d
    induction d with
    | zero =>
      intro i h
      obtain rfl : i = n := by omega
      refine ev_succ ?_
      simp only [laws_heldCellS.l0]
      exact ev_neg (by rw [mksC_length]; omega) (Ev.now _)
    | succ d ih =>
      intro i h
      have hr : rd_T116 (mksC n a0) (i : Int) = mkC (a0 + 7 * i) := by rw [rdc (by rw [mksC_length]; omega), mksC_get]
      obtain ⟨a, ha⟩ : ∃ a, a = a0 + 7 * (i : Int) := ⟨_, rfl⟩
      have hb : 0 ≤ a ∧ a + 7 < 9007199254740992 := by omega
      have hn2 : ((i + 1 : Nat) : Int) < 9007199254740992 := by omega
      have hnext : a + 7 = a0 + 7 * ((i + 1 : Nat) : Int) := by omega
      rw [← ha] at hr ⊢
      have := ih (i + 1) (by omega)
      rw [← hnext] at this
      have w1 : ∀ _ : Unit, wrap64 (a + 1) = a + 1 := fun _ => w64 (by omega) (by omega)
      have w2 : ∀ _ : Unit, wrap64 (a + 1 + 1) = a + 2 := fun _ => by rw [w64 (by omega) (by omega)]; omega
      have w3 : ∀ _ : Unit, wrap64 (a + 2 + 1) = a + 3 := fun _ => by rw [w64 (by omega) (by omega)]; omega
      have w4 : ∀ _ : Unit, wrap64 (a + 3 + 1) = a + 4 := fun _ => by rw [w64 (by omega) (by omega)]; omega
      have w5 : ∀ _ : Unit, wrap64 (a + 4 + 1) = a + 5 := fun _ => by rw [w64 (by omega) (by omega)]; omega
      have w6 : ∀ _ : Unit, wrap64 (a + 5 + 1) = a + 6 := fun _ => by rw [w64 (by omega) (by omega)]; omega
      have w7 : ∀ _ : Unit, wrap64 (a + 6 + 1) = a + 7 := fun _ => by rw [w64 (by omega) (by omega)]; omega
      have wi : ∀ _ : Unit, wrap64 ((i : Int) + 1) = ((i + 1 : Nat) : Int) := fun _ => by rw [w64 (by omega) (by omega)]; omega
      refine ev_succ ?_
      simp only [laws_heldCellS.l0, hr, mkC, tm3, w1 (), w2 (), w3 (), w4 (), w5 (), w6 (), w7 (), wi (), bne_self_eq_false]
      exact ev_pos (by rw [mksC_length]; omega) (ev_pos (by omega) (ev_pos (by trivial) (ev_pos (by trivial) (ev_pos (by trivial) (ev_neg (by simp) (ev_neg (by simp) (ev_neg (by simp) (ev_pos (by trivial) this))))))))
  unfold laws_heldCellS.f
  have := go n 0 (by omega)
  simpa using this

theorem FnExactBlank : laws_FnExactBlank.Aim := by
  intro n a b c d e _ _ _
  refine Ev.rounds ?_
  simp only [laws_FnExactBlank.f, laws_toStyle.f, Option.bind_some]
  have hl := blankOf_length n ⟨a, b, c, d, e⟩
  have e1 := spec_Blank_ev n a b c d e
  have e2 := impl_Blank_ev n a b c d e
  generalize blankOf n ⟨a, b, c, d, e⟩ = l at *
  have eq := laws_eqCellS_ev l (by omega)
  have hh := laws_heldCellS_ev l.length 1 (by omega) (by omega)
  refine Ev.bind e1 (Ev.bind e2 (Ev.bind eq (ev_pos rfl (Ev.bind (laws_markCellS_ev l 1 (by omega) (by omega)) (Ev.bind hh (ev_neg (by omega) (ev_pos rfl (Ev.bind e2 (Ev.bind eq (ev_pos rfl (Ev.bind hh (ev_neg (by omega) (ev_pos rfl (Ev.now _))))))))))))))

end Go.Proofs.Ytnkoppgbbmeknaa.Pure
