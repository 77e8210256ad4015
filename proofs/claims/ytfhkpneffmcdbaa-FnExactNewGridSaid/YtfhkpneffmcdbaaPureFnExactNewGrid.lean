/- The law FnExactNewGrid answers true at every number of columns and rows. -/
import Derived.Test.YtfhkpneffmcdbaaQEx11
namespace Go.Proofs.Ytfhkpneffmcdbaa.Pure
open Go.RowKit Go.Proofs.Ytfhkpneffmcdbaa.QE Go.Proofs.YtfhkpneffmcdbaaW.PrintWords Go.Proofs.YtfhkpneffmcdbaaW.PrintLast
set_option linter.unusedVariables false
set_option linter.unusedSimpArgs false

theorem w64 {x : Int} (h0 : -9223372036854775808 ≤ x) (h1 : x ≤ 9223372036854775807) : wrap64 x = x := by unfold wrap64; omega
theorem wf64 {x : Int} : (Lit.int .i64 x).wf = true ↔ -9223372036854775808 ≤ x ∧ x ≤ 9223372036854775807 := by
  simp [Lit.wf, IntKind.min, IntKind.max, IntKind.signed, IntKind.bits]
theorem wf8 {x : Int} : (Lit.int .u8 x).wf = true ↔ 0 ≤ x ∧ x ≤ 255 := by
  simp [Lit.wf, IntKind.min, IntKind.max, IntKind.signed, IntKind.bits]
theorem ev_succ {α : Type} {g : Nat → Option α} {r : α} (h : Ev (fun k => g (k + 1)) r) : Ev g r := by
  obtain ⟨K, h⟩ := h
  refine ⟨K + 1, fun k hk => ?_⟩
  obtain ⟨m, rfl⟩ : ∃ m, k = m + 1 := ⟨k - 1, by omega⟩
  exact h m (by omega)
theorem ev_fixed {α : Type} {x : Option α} {r : α} (h : x = some r) : Ev (fun _ => x) r := ⟨0, fun _ _ => h⟩
theorem ev_eq {α : Type} {g : Nat → Option α} {r s : α} (h : Ev g r) (e : r = s) : Ev g s := e ▸ h
/-- Never keep an equation 'wrap64 .. = ..' in the context where omega runs: it compares them by unfolding. -/
theorem wN {x : Int} {n : Nat} (e : x = (n : Int)) (h : n < 4611686018427387904) : wrap64 x = (n : Int) := by rw [e]; exact w64 (by omega) (by omega)

theorem ev_pos {α : Type} {c : Prop} [Decidable c] {a b : Nat → Option α} {r : α} (hc : c) (h : Ev a r) : Ev (fun k => if c then a k else b k) r := by
  obtain ⟨K, h⟩ := h
  exact ⟨K, fun k hk => by show (if c then a k else b k) = some r; rw [if_pos hc]; exact h k hk⟩
theorem ev_neg {α : Type} {c : Prop} [Decidable c] {a b : Nat → Option α} {r : α} (hc : ¬ c) (h : Ev b r) : Ev (fun k => if c then a k else b k) r := by
  obtain ⟨K, h⟩ := h
  exact ⟨K, fun k hk => by show (if c then a k else b k) = some r; rw [if_neg hc]; exact h k hk⟩
theorem ev_bind_some {α β : Type} {a : α} {f : Nat → α → Option β} {r : β} (h : Ev (fun k => f k a) r) : Ev (fun k => (some a).bind (f k)) r := h
theorem ev_bind_of {α β : Type} {x : Option α} {a : α} {f : Nat → α → Option β} {r : β} (hx : x = some a) (h : Ev (fun k => f k a) r) : Ev (fun k => x.bind (f k)) r := by
  subst hx; exact h

theorem rd_nat (l : List Int) (i : Nat) : rd l (i : Int) = l.getD i 0 := by simp [rd]
theorem rd_at {l : List Int} {i : Nat} (h : i < l.length) : rd l (i : Int) = l[i] := by rw [rd_nat, List.getD_eq_getElem?_getD, List.getElem?_eq_getElem h]; rfl
theorem take_set_succ {α : Type} (l : List α) (i : Nat) (a : α) (h : i < l.length) : (l.set i a).take (i + 1) = l.take i ++ [a] := by
  rw [List.take_succ_eq_append_getElem (by simpa using h), List.take_set, List.set_eq_of_length_le (by rw [List.length_take]; omega)]
  simp

theorem rdOf_at {α : Type} (d : α) {l : List α} {i : Nat} (h : i < l.length) : rdOf d l (i : Int) = l[i] := by
  unfold rdOf; rw [Int.toNat_natCast, List.getD_eq_getElem?_getD, List.getElem?_eq_getElem h]; rfl
theorem maxLen_eq : maxLen = 9223372036854775807 := rfl

theorem rdc {l : List S40} {i : Nat} (h : i < l.length) : rd_T40 l (i : Int) = l[i] := by
  unfold rd_T40; rw [Int.toNat_natCast, List.getD_eq_getElem?_getD, List.getElem?_eq_getElem h]; rfl
theorem style_ne (a b : S29) : ((!(a.f0 == b.f0) || (!(a.f1 == b.f1) || (!(a.f2 == b.f2) || (!(a.f3 == b.f3) || (!(a.f4 == b.f4)))))) = true) ↔ a ≠ b := by
  obtain ⟨a0, a1, a2, a3, a4⟩ := a
  obtain ⟨b0, b1, b2, b3, b4⟩ := b
  constructor
  · intro h e
    injection e with e0 e1 e2 e3 e4
    subst e0; subst e1; subst e2; subst e3; subst e4
    simp at h
  · intro h
    by_cases q0 : a0 = b0
    · by_cases q1 : a1 = b1
      · by_cases q2 : a2 = b2
        · by_cases q3 : a3 = b3
          · by_cases q4 : a4 = b4
            · subst q0; subst q1; subst q2; subst q3; subst q4; exact absurd rfl h
            · simp [q4]
          · simp [q3]
        · simp [q2]
      · simp [q1]
    · simp [q0]

def tm3 (x : Int) : Bool := (Int.tmod x 3 == 0)
def mkC (a : Int) : S40 := ⟨a, ⟨a + 1, a + 2, tm3 (a + 3), tm3 (a + 4), tm3 (a + 5)⟩, a + 6⟩
def mksC : Nat → Int → List S40
  | 0, _ => []
  | n + 1, a => mkC a :: mksC n (a + 7)
theorem mksC_length : ∀ (n : Nat) (a : Int), (mksC n a).length = n
  | 0, _ => rfl
  | n + 1, a => by simp [mksC, mksC_length n]
theorem mksC_get : ∀ (n : Nat) (a : Int) (i : Nat) (h : i < (mksC n a).length), (mksC n a)[i] = mkC (a + 7 * i)
  | n + 1, a, 0, _ => by simp [mksC]
  | n + 1, a, i + 1, h => by
    simp only [mksC, List.getElem_cons_succ]
    rw [mksC_get n (a + 7) i]
    have e : a + 7 + 7 * (i : Int) = a + 7 * ((i + 1 : Nat) : Int) := by omega
    rw [e]
theorem laws_markCellS_ev (l : List S40) (a0 : Int) (h0 : 0 ≤ a0) (hl : a0 + 7 * l.length < 9007199254740992) : Ev (fun k => laws_markCellS.f k l a0) (a0 + 7 * (l.length : Int), mksC l.length a0) := by
  have go : ∀ (d i : Nat) (m : List S40) (a : Int), 0 ≤ a → a + 7 * d < 9007199254740992 → i + d = l.length → m.length = l.length → l.length < 9007199254740992 → Ev (fun k => laws_markCellS.l0 k m a (i : Int)) (a + 7 * d, m.take i ++ mksC d a) := by
    intro d
    induction d with
    | zero =>
      intro i m a h0 h1 h hm hlm
      refine ev_succ ?_
      simp only [laws_markCellS.l0]
      refine ev_neg (by omega) (ev_eq (Ev.now _) ?_)
      rw [List.take_of_length_le (by omega)]
      simp [mksC]
    | succ d ih =>
      intro i m a h0 h1 h hm hlm
      have w1 : ∀ _ : Unit, wrap64 (a + 1) = a + 1 := fun _ => w64 (by omega) (by omega)
      have w2 : ∀ _ : Unit, wrap64 (a + 1 + 1) = a + 2 := fun _ => by rw [w64 (by omega) (by omega)]; omega
      have w3 : ∀ _ : Unit, wrap64 (a + 2 + 1) = a + 3 := fun _ => by rw [w64 (by omega) (by omega)]; omega
      have w4 : ∀ _ : Unit, wrap64 (a + 3 + 1) = a + 4 := fun _ => by rw [w64 (by omega) (by omega)]; omega
      have w5 : ∀ _ : Unit, wrap64 (a + 4 + 1) = a + 5 := fun _ => by rw [w64 (by omega) (by omega)]; omega
      have w6 : ∀ _ : Unit, wrap64 (a + 5 + 1) = a + 6 := fun _ => by rw [w64 (by omega) (by omega)]; omega
      have w7 : ∀ _ : Unit, wrap64 (a + 6 + 1) = a + 7 := fun _ => by rw [w64 (by omega) (by omega)]; omega
      have wi : ∀ _ : Unit, wrap64 ((i : Int) + 1) = ((i + 1 : Nat) : Int) := fun _ => by rw [w64 (by omega) (by omega)]; omega
      have hr : ∀ v : S40, rd_T40 (m.set i v) (i : Int) = v := fun v => by rw [rdc (by rw [List.length_set]; omega), List.getElem_set_self]
      refine ev_succ ?_
      simp only [laws_markCellS.l0, w1 (), w2 (), w3 (), w4 (), w5 (), w6 (), w7 (), wi (), Int.toNat_natCast, Option.bind_some, hr, List.set_set]
      refine ev_pos (by omega) (ev_pos (by omega) ?_)
      have := ih (i + 1) (m.set i (mkC a)) (a + 7) (by omega) (by omega) (by omega) (by simpa using hm) hlm
      refine ev_eq this ?_
      rw [take_set_succ _ _ _ (by omega), List.append_assoc, List.singleton_append]
      have e : a + 7 + 7 * (d : Int) = a + 7 * ((d + 1 : Nat) : Int) := by omega
      rw [e]; rfl
  unfold laws_markCellS.f
  have := go l.length 0 l a0 (by omega) (by omega) (by omega) rfl (by omega)
  simpa using this
theorem laws_heldCellS_ev (n : Nat) (a0 : Int) (h0 : 0 ≤ a0) (hn : a0 + 7 * n < 9007199254740992) : Ev (fun k => laws_heldCellS.f k (mksC n a0) a0) (a0 + 7 * (n : Int)) := by
  have go : ∀ (d i : Nat), i + d = n → Ev (fun k => laws_heldCellS.l0 k (mksC n a0) (a0 + 7 * (i : Int)) (i : Int)) (a0 + 7 * (n : Int)) := by
    intro d
    induction d with
    | zero =>
      intro i h
      obtain rfl : i = n := by omega
      refine ev_succ ?_
      simp only [laws_heldCellS.l0]
      exact ev_neg (by rw [mksC_length]; omega) (Ev.now _)
    | succ d ih =>
      intro i h
      have hr : rd_T40 (mksC n a0) (i : Int) = mkC (a0 + 7 * i) := by rw [rdc (by rw [mksC_length]; omega), mksC_get]
      obtain ⟨a, ha⟩ : ∃ a, a = a0 + 7 * (i : Int) := ⟨_, rfl⟩
      have hb : 0 ≤ a ∧ a + 7 < 9007199254740992 := by omega
      have hn2 : ((i + 1 : Nat) : Int) < 9007199254740992 := by omega
      have hnext : a + 7 = a0 + 7 * ((i + 1 : Nat) : Int) := by omega
      rw [← ha] at hr ⊢
      have := ih (i + 1) (by omega)
      rw [← hnext] at this
      have w1 : ∀ _ : Unit, wrap64 (a + 1) = a + 1 := fun _ => w64 (by omega) (by omega)
      have w2 : ∀ _ : Unit, wrap64 (a + 1 + 1) = a + 2 := fun _ => by rw [w64 (by omega) (by omega)]; omega
      have w3 : ∀ _ : Unit, wrap64 (a + 2 + 1) = a + 3 := fun _ => by rw [w64 (by omega) (by omega)]; omega
      have w4 : ∀ _ : Unit, wrap64 (a + 3 + 1) = a + 4 := fun _ => by rw [w64 (by omega) (by omega)]; omega
      have w5 : ∀ _ : Unit, wrap64 (a + 4 + 1) = a + 5 := fun _ => by rw [w64 (by omega) (by omega)]; omega
      have w6 : ∀ _ : Unit, wrap64 (a + 5 + 1) = a + 6 := fun _ => by rw [w64 (by omega) (by omega)]; omega
      have w7 : ∀ _ : Unit, wrap64 (a + 6 + 1) = a + 7 := fun _ => by rw [w64 (by omega) (by omega)]; omega
      have wi : ∀ _ : Unit, wrap64 ((i : Int) + 1) = ((i + 1 : Nat) : Int) := fun _ => by rw [w64 (by omega) (by omega)]; omega
      refine ev_succ ?_
      simp only [laws_heldCellS.l0, hr, mkC, tm3, w1 (), w2 (), w3 (), w4 (), w5 (), w6 (), w7 (), wi (), bne_self_eq_false]
      exact ev_pos (by rw [mksC_length]; omega) (ev_pos (by omega) (ev_pos (by trivial) (ev_pos (by trivial) (ev_pos (by trivial) (ev_neg (by simp) (ev_neg (by simp) (ev_neg (by simp) (ev_pos (by trivial) this))))))))
  unfold laws_heldCellS.f
  have := go n 0 (by omega)
  simpa using this

theorem laws_eqCell_self (x : S40) : laws_eqCell.f x.f0 x.f1.f0 x.f1.f1 x.f1.f2 x.f1.f3 x.f1.f4 x.f2 x.f0 x.f1.f0 x.f1.f1 x.f1.f2 x.f1.f3 x.f1.f4 x.f2 = some true := by
  simp [laws_eqCell.f, laws_eqStyle.f]
theorem laws_eqCellS_ev (l : List S40) (hl : l.length < 9223372036854775807) : Ev (fun k => laws_eqCellS.f k l l) true := by
  have go : ∀ (d i : Nat), i + d = l.length → Ev (fun k => laws_eqCellS.l0 k l l (i : Int)) true := by
    intro d
    induction d with
    | zero =>
      intro i h
      refine ev_succ ?_
      simp only [laws_eqCellS.l0]
      exact ev_neg (by omega) (Ev.now _)
    | succ d ih =>
      intro i h
      refine ev_succ ?_
      simp only [laws_eqCellS.l0, w64 (x := (i : Int) + 1) (by omega) (by omega), laws_eqCell_self, Option.bind_some]
      exact ev_pos (by omega) (ev_pos (by omega) (ev_pos (by omega) (ev_pos (by first | rfl | trivial) (ih (i + 1) (by omega)))))
  unfold laws_eqCellS.f
  exact ev_pos rfl (go l.length 0 (by omega))

theorem rdLi (l : List (List S40)) (i : Nat) (h : i < l.length) : rd_L4 l (i : Int) = l[i] := by
  unfold rd_L4; rw [Int.toNat_natCast, List.getD_eq_getElem?_getD, List.getElem?_eq_getElem h]; rfl
theorem laws_eqCellSS_ev (l : List (List S40)) (hl : l.length < 9223372036854775807) (hw : ∀ x ∈ l, x.length < 9223372036854775807) : Ev (fun k => laws_eqCellSS.f k l l) true := by
  have go : ∀ (d i : Nat), i + d = l.length → Ev (fun k => laws_eqCellSS.l0 k l l (i : Int)) true := by
    intro d
    induction d with
    | zero =>
      intro i h
      refine ev_succ ?_
      simp only [laws_eqCellSS.l0]
      exact ev_neg (by omega) (Ev.now _)
    | succ d ih =>
      intro i h
      refine ev_succ ?_
      simp only [laws_eqCellSS.l0, rdLi l i (by omega), w64 (x := (i : Int) + 1) (by omega) (by omega)]
      exact ev_pos (by omega) (ev_pos (by omega) (ev_pos (by omega) (Ev.bind (laws_eqCellS_ev _ (hw _ (List.getElem_mem _))) (ev_pos (by trivial) (ih (i + 1) (by omega))))))
  unfold laws_eqCellSS.f
  exact ev_pos rfl (go l.length 0 (by omega))
theorem laws_eqGrid_ev (c : Int) (l : List (List S40)) (hl : l.length < 9223372036854775807) (hw : ∀ x ∈ l, x.length < 9223372036854775807) : Ev (fun k => laws_eqGrid.f k c l c l) true := by
  unfold laws_eqGrid.f
  exact ev_pos rfl (Ev.bind (laws_eqCellSS_ev l hl hw) (ev_pos (by trivial) (Ev.now _)))

/-- Rows of marks, one behind the other. -/
def mksCC : List Nat → Int → List (List S40)
  | [], _ => []
  | n :: ns, a => mksC n a :: mksCC ns (a + 7 * (n : Int))
def sumN : List Nat → Nat
  | [] => 0
  | n :: ns => n + sumN ns
theorem mksCC_length : ∀ (ns : List Nat) (a : Int), (mksCC ns a).length = ns.length
  | [], _ => rfl
  | n :: ns, a => by simp [mksCC, mksCC_length ns]
theorem laws_markCellSS_ev (l : List (List S40)) (a0 : Int) (h0 : 0 ≤ a0) (hl : l.length < 1000000) (hs : a0 + 7 * (sumN (l.map List.length) : Int) < 9007199254740992) :
    Ev (fun k => laws_markCellSS.f k l a0) (a0 + 7 * (sumN (l.map List.length) : Int), mksCC (l.map List.length) a0) := by
  have go : ∀ (r : List (List S40)) (p : List (List S40)) (a : Int), 0 ≤ a → p.length + r.length < 1000000 → a + 7 * (sumN (r.map List.length) : Int) < 9007199254740992 →
      Ev (fun k => laws_markCellSS.l0 k (p ++ r) a (p.length : Int)) (a + 7 * (sumN (r.map List.length) : Int), p ++ mksCC (r.map List.length) a) := by
    intro r
    induction r with
    | nil =>
      intro p a _ _ _
      refine ev_succ ?_
      simp only [laws_markCellSS.l0, List.append_nil]
      refine ev_neg (by omega) (ev_eq (Ev.now _) ?_)
      simp [sumN, mksCC]
    | cons x r ih =>
      intro p a ha hn hb
      simp only [List.map_cons, sumN, List.length_cons] at hb hn
      have e := ih (p ++ [mksC x.length a]) (a + 7 * (x.length : Int)) (by omega) (by simp; omega) (by omega)
      have wi : ∀ _ : Unit, wrap64 ((p.length : Int) + 1) = ((p.length + 1 : Nat) : Int) := fun _ => by rw [w64 (by omega) (by omega)]; omega
      have gd : (p ++ x :: r).getD p.length [] = x := by simp
      have sd : (p ++ x :: r).set p.length (mksC x.length a) = p ++ [mksC x.length a] ++ r := by simp
      refine ev_succ ?_
      simp only [laws_markCellSS.l0, wi (), Int.toNat_natCast, gd]
      refine ev_pos (by simp; omega) (ev_pos (by omega) (Ev.bind (laws_markCellS_ev x a ha (by omega)) ?_))
      simp only [sd]
      rw [show (p ++ [mksC x.length a]).length = p.length + 1 by simp] at e
      refine ev_eq e ?_
      simp only [List.map_cons, sumN, mksCC, List.append_assoc, List.singleton_append, Prod.mk.injEq, and_true]
      omega
  have := go l [] a0 h0 (by simpa using hl) hs
  unfold laws_markCellSS.f
  simpa using this
theorem laws_heldCellSS_ev (ns : List Nat) (a0 : Int) (h0 : 0 ≤ a0) (hl : ns.length < 1000000) (hs : a0 + 7 * (sumN ns : Int) < 9007199254740992) : Ev (fun k => laws_heldCellSS.f k (mksCC ns a0) a0) (a0 + 7 * (sumN ns : Int)) := by
  have go : ∀ (r : List Nat) (p : List (List S40)) (a : Int), 0 ≤ a → p.length + r.length < 1000000 → a + 7 * (sumN r : Int) < 9007199254740992 →
      Ev (fun k => laws_heldCellSS.l0 k (p ++ mksCC r a) a (p.length : Int)) (a + 7 * (sumN r : Int)) := by
    intro r
    induction r with
    | nil =>
      intro p a _ _ _
      refine ev_succ ?_
      simp only [laws_heldCellSS.l0, mksCC, List.append_nil]
      refine ev_neg (by omega) (ev_eq (Ev.now _) ?_)
      simp [sumN]
    | cons x r ih =>
      intro p a ha hn hb
      simp only [sumN, List.length_cons] at hb hn
      have e := ih (p ++ [mksC x a]) (a + 7 * (x : Int)) (by omega) (by simp; omega) (by omega)
      have wi : ∀ _ : Unit, wrap64 ((p.length : Int) + 1) = ((p.length + 1 : Nat) : Int) := fun _ => by rw [w64 (by omega) (by omega)]; omega
      have gd : rd_L4 (p ++ mksC x a :: mksCC r (a + 7 * (x : Int))) (p.length : Int) = mksC x a := by rw [rdLi _ _ (by simp)]; simp
      refine ev_succ ?_
      simp only [laws_heldCellSS.l0, wi (), mksCC, gd]
      refine ev_pos (by simp; omega) (ev_pos (by omega) (Ev.bind (laws_heldCellS_ev x a ha (by omega)) (ev_neg (by omega) ?_)))
      rw [show (p ++ [mksC x a]).length = p.length + 1 by simp, List.append_assoc, List.singleton_append] at e
      refine ev_eq e ?_
      simp only [sumN]
      omega
  have := go ns [] a0 h0 (by simpa using hl) hs
  unfold laws_heldCellSS.f
  simpa using this
theorem laws_markGrid_ev (c : Int) (l : List (List S40)) (a0 : Int) (h0 : 0 ≤ a0) (hl : l.length < 1000000) (hs : a0 + 7 * (sumN (l.map List.length) : Int) < 9007199254740992) :
    Ev (fun k => laws_markGrid.f k c l a0) (a0 + 7 * (sumN (l.map List.length) : Int), mksCC (l.map List.length) a0) := by
  unfold laws_markGrid.f
  exact Ev.bind (laws_markCellSS_ev l a0 h0 hl hs) (Ev.now _)
theorem laws_heldGrid_ev (c : Int) (ns : List Nat) (a0 : Int) (h0 : 0 ≤ a0) (hl : ns.length < 1000000) (hs : a0 + 7 * (sumN ns : Int) < 9007199254740992) : Ev (fun k => laws_heldGrid.f k c (mksCC ns a0) a0) (a0 + 7 * (sumN ns : Int)) := by
  unfold laws_heldGrid.f
  exact Ev.bind (laws_heldCellSS_ev ns a0 h0 hl hs) (ev_neg (by omega) (Ev.now _))
theorem sumN_le (ns : List Nat) (b : Nat) (h : ∀ n ∈ ns, n ≤ b) : sumN ns ≤ b * ns.length := by
  induction ns with
  | nil => simp [sumN]
  | cons x r ih =>
    have h1 := h x (by simp)
    have h2 := ih (fun n hn => h n (by simp [hn]))
    simp only [sumN, List.length_cons, Nat.mul_succ]
    omega

theorem impl_in_eq (a b c : Int) : impl_in.f a b c = some (decide (b ≤ a) && decide (a ≤ c)) := by
  unfold impl_in.f
  by_cases h : b ≤ a
  · rw [if_pos h]; simp [h]
  · rw [if_neg h]; simp [h]

def sokv (a b : Int) : Bool := (decide (0 ≤ a) && decide (a ≤ 8)) && (decide (0 ≤ b) && decide (b ≤ 8))
theorem impl_StyleOk_eq (a b : Int) (c d e : Bool) : impl_StyleOk.f a b c d e = some (sokv a b) := by
  simp only [impl_StyleOk.f, impl_in_eq, Option.bind_some, sokv]
  by_cases h : (decide (0 ≤ a) && decide (a ≤ 8)) = true
  · simp [h]
  · simp [h]

/-- A blank cell in a style. -/
def blk (s : S29) : S40 := ⟨32, s, 0⟩

/-- What both answer. -/
def blankOf (n : Int) (s : S29) : List S40 := if (decide (1 ≤ n) && decide (n ≤ 60)) = true ∧ sokv s.f0 s.f1 = true then List.replicate n.toNat (blk s) else []
theorem blankOf_length (n : Int) (s : S29) : (blankOf n s).length ≤ 60 := by
  unfold blankOf
  by_cases h : (decide (1 ≤ n) && decide (n ≤ 60)) = true ∧ sokv s.f0 s.f1 = true
  · rw [if_pos h, List.length_replicate]
    have := h.1
    simp only [Bool.and_eq_true, decide_eq_true_eq] at this
    omega
  · rw [if_neg h]; simp
theorem impl_Blank_ev (n : Int) (a b : Int) (c d e : Bool) : Ev (fun k => impl_Blank.f k n a b c d e) (blankOf n ⟨a, b, c, d, e⟩) := by
  simp only [impl_Blank.f, impl_in_eq, impl_StyleOk_eq, Option.bind_some]
  by_cases h : (decide (1 ≤ n) && decide (n ≤ 60)) = true
  · refine ev_pos h (ev_succ ?_)
    simp only [impl_Blank.j0, impl_blank.f, Option.bind_some]
    by_cases q : sokv a b = true
    · refine ev_neg (by rw [q]; simp) ?_
      have h2 := h
      simp only [Bool.and_eq_true, decide_eq_true_eq] at h2
      have e1 : ∀ x : S40, impl_Cell_66.f [x] n = some (List.replicate n.toNat x) := by
        intro x
        unfold impl_Cell_66.f
        rw [if_pos ⟨rfl, by omega, by omega⟩]
        rfl
      rw [e1]
      refine ev_eq (Ev.now _) ?_
      unfold blankOf; rw [if_pos ⟨h, q⟩]; rfl
    · refine ev_pos (by simp [q]) (ev_eq (Ev.now _) ?_)
      unfold blankOf; rw [if_neg (fun x => q x.2)]
  · refine ev_neg h (ev_succ ?_)
    simp only [impl_Blank.j0]
    refine ev_pos (by trivial) (ev_eq (Ev.now _) ?_)
    unfold blankOf; rw [if_neg (fun x => h x.1)]

theorem spec_l4Row_ev (n : Nat) (a b : Int) (c d e : Bool) (hn : n ≤ 1000000) : Ev (fun k => spec_l4Row.f k (n : Int) a b c d e) (List.replicate n (blk ⟨a, b, c, d, e⟩)) := by
  have go : ∀ (q i : Nat), i + q = n → Ev (fun k => spec_l4Row.l0 k (n : Int) (List.replicate i (blk ⟨a, b, c, d, e⟩)) (i : Int) a b c d e) (List.replicate n (blk ⟨a, b, c, d, e⟩)) := by
    intro q
    induction q with
    | zero =>
      intro i h
      obtain rfl : i = n := by omega
      refine ev_succ ?_
      simp only [spec_l4Row.l0]
      exact ev_neg (by omega) (Ev.now _)
    | succ q ih =>
      intro i h
      have := ih (i + 1) (by omega)
      have wi : ∀ _ : Unit, wrap64 ((i : Int) + 1) = ((i + 1 : Nat) : Int) := fun _ => by rw [w64 (by omega) (by omega)]; omega
      refine ev_succ ?_
      simp only [spec_l4Row.l0, spec_l4Blank.f, Option.bind_some, wi ()]
      refine ev_pos (by omega) (ev_pos (by rw [List.length_replicate]; omega) ?_)
      rw [List.replicate_succ'] at this
      exact this
  unfold spec_l4Row.f
  exact go n 0 (by omega)

theorem spec_l1In_eq (a b c : Int) : spec_l1In.f a b c = some (decide (b ≤ a) && decide (a ≤ c)) := by
  unfold spec_l1In.f
  by_cases h : a ≥ b
  · rw [if_pos h]; simp [h]
  · rw [if_neg h]; simp [show ¬ b ≤ a from h]

theorem spec_l5New_ev (c n : Nat) (hc : c ≤ 60) (hn : n ≤ 1000) : Ev (fun k => spec_l5New.f k (c : Int) (n : Int)) ((c : Int), List.replicate n (List.replicate c (blk ⟨0, 0, false, false, false⟩))) := by
  have go : ∀ (q i : Nat), i + q = n → Ev (fun k => spec_l5New.l0 k (c : Int) (n : Int) (i : Int) (c : Int) (List.replicate i (List.replicate c (blk ⟨0, 0, false, false, false⟩)))) ((c : Int), List.replicate n (List.replicate c (blk ⟨0, 0, false, false, false⟩))) := by
    intro q
    induction q with
    | zero =>
      intro i h
      obtain rfl : i = n := by omega
      refine ev_succ ?_
      simp only [spec_l5New.l0]
      exact ev_neg (by omega) (Ev.now _)
    | succ q ih =>
      intro i h
      have e := ih (i + 1) (by omega)
      have wi : ∀ _ : Unit, wrap64 ((i : Int) + 1) = ((i + 1 : Nat) : Int) := fun _ => by rw [w64 (by omega) (by omega)]; omega
      refine ev_succ ?_
      simp only [spec_l5New.l0, wi ()]
      refine ev_pos (by omega) (Ev.bind (spec_l4Row_ev c 0 0 false false false (by omega)) (ev_pos (by rw [List.length_replicate]; omega) ?_))
      rw [List.replicate_succ'] at e
      exact e
  unfold spec_l5New.f
  exact go n 0 (by omega)
theorem impl_NewGrid_l0 (c n : Nat) (h1 : 1 ≤ c) (hc : c ≤ 60) (hn : n ≤ 1000) : ∀ (q i : Nat), i + q = n → Ev (fun k => impl_NewGrid.l0 k (c : Int) (n : Int) (i : Int) (c : Int) (List.replicate i (List.replicate c (blk ⟨0, 0, false, false, false⟩)))) ((c : Int), List.replicate n (List.replicate c (blk ⟨0, 0, false, false, false⟩)), true) := by
  have eb : Ev (fun k => impl_Blank.f k (c : Int) 0 0 false false false) (List.replicate c (blk ⟨0, 0, false, false, false⟩)) := by
    refine ev_eq (impl_Blank_ev (c : Int) 0 0 false false false) ?_
    unfold blankOf
    rw [if_pos ⟨by simp; omega, by decide⟩, Int.toNat_natCast]
  intro q
  induction q with
  | zero =>
    intro i h
    obtain rfl : i = n := by omega
    refine ev_succ ?_
    simp only [impl_NewGrid.l0]
    exact ev_neg (by omega) (Ev.now _)
  | succ q ih =>
    intro i h
    have e := ih (i + 1) (by omega)
    have wi : ∀ _ : Unit, wrap64 ((i : Int) + 1) = ((i + 1 : Nat) : Int) := fun _ => by rw [w64 (by omega) (by omega)]; omega
    refine ev_succ ?_
    simp only [impl_NewGrid.l0, wi ()]
    refine ev_pos (by omega) (Ev.bind eb (ev_pos (by rw [List.length_replicate]; omega) ?_))
    rw [List.replicate_succ'] at e
    exact e
theorem NewGrid_some (a b : Int) : ∃ (c : Int) (l : List (List S40)) (g : Bool), l.length ≤ 30 ∧ (∀ x ∈ l, x.length ≤ 60) ∧ Ev (fun k => spec_NewGrid.f k a b) (c, l, g) ∧ Ev (fun k => impl_NewGrid.f k a b) (c, l, g) := by
  have none_ : Ev (fun k => impl_NewGrid.j0 k a b true) (0, [], false) := by
    refine ev_succ ?_
    simp only [impl_NewGrid.j0]
    exact ev_pos (by trivial) (Ev.now _)
  simp only [spec_NewGrid.f, impl_NewGrid.f, spec_l1In_eq, impl_in_eq, Option.bind_some]
  by_cases c1 : (decide (1 ≤ a) && decide (a ≤ 60)) = true
  case neg => exact ⟨0, [], false, by simp, by simp, ev_neg c1 (Ev.now _), ev_neg c1 none_⟩
  by_cases c2 : (decide (1 ≤ b) && decide (b ≤ 30)) = true
  case neg => exact ⟨0, [], false, by simp, by simp, ev_pos c1 (ev_neg c2 (Ev.now _)), ev_pos c1 (by rw [Bool.not_eq_true] at c2; rw [c2]; exact none_)⟩
  have d1 := c1
  have d2 := c2
  simp only [Bool.and_eq_true, decide_eq_true_eq] at d1 d2
  obtain ⟨c, rfl⟩ := Int.eq_ofNat_of_zero_le (show 0 ≤ a by omega)
  obtain ⟨n, rfl⟩ := Int.eq_ofNat_of_zero_le (show 0 ≤ b by omega)
  refine ⟨(c : Int), List.replicate n (List.replicate c (blk ⟨0, 0, false, false, false⟩)), true, by rw [List.length_replicate]; omega, ?_, ev_pos c1 (ev_pos c2 (Ev.bind (spec_l5New_ev c n (by omega) (by omega)) (Ev.now _))), ev_pos c1 ?_⟩
  · intro x hx
    obtain ⟨_, rfl⟩ := List.mem_replicate.mp hx
    rw [List.length_replicate]; omega
  · rw [c2]
    refine ev_succ ?_
    simp only [impl_NewGrid.j0]
    exact ev_neg (by simp) (impl_NewGrid_l0 c n (by omega) (by omega) (by omega) n 0 (by omega))
theorem FnExactNewGrid : laws_FnExactNewGrid.Pure := by
  intro a b _ _
  refine Ev.rounds ?_
  unfold laws_FnExactNewGrid.f
  obtain ⟨c, l, g, hl, hw, e1, e2⟩ := NewGrid_some a b
  have eq := laws_eqGrid_ev c l (by omega) (fun x hx => by have := hw x hx; omega)
  have hs : sumN (l.map List.length) ≤ 60 * (l.map List.length).length := sumN_le _ 60 (fun n hn => by obtain ⟨x, hx, rfl⟩ := List.mem_map.mp hn; exact hw x hx)
  rw [List.length_map] at hs
  have mk := laws_markGrid_ev c l 1 (by omega) (by omega) (by omega)
  have hh := laws_heldGrid_ev c (l.map List.length) 1 (by omega) (by rw [List.length_map]; omega) (by omega)
  exact Ev.bind e1 (Ev.bind e2 (Ev.bind eq (ev_pos rfl (ev_neg (by simp) (Ev.bind mk (Ev.bind hh (ev_neg (by omega) (ev_pos rfl (Ev.bind e2 (Ev.bind eq (ev_pos rfl (ev_neg (by simp) (Ev.bind hh (ev_neg (by omega) (ev_pos rfl (Ev.now _))))))))))))))))

end Go.Proofs.Ytfhkpneffmcdbaa.Pure
