/- The law FnExactReadPatch answers true at every text. -/
import Derived.Test.YtalopdcephohgaaDoorSBx23
namespace Go.Proofs.YtalopdcephohgaaDoor.Pure
open Go.RowKit Go.Proofs.YtalopdcephohgaaDoor.SB Go.Proofs.YtalopdcephohgaaDoorW.PrintWords Go.Proofs.YtalopdcephohgaaDoorW.PrintLast
set_option linter.unusedVariables false
set_option linter.unusedSimpArgs false

theorem w64 {x : Int} (h0 : -9223372036854775808 ≤ x) (h1 : x ≤ 9223372036854775807) : wrap64 x = x := by unfold wrap64; omega
theorem wf64 {x : Int} : (Lit.int .i64 x).wf = true ↔ -9223372036854775808 ≤ x ∧ x ≤ 9223372036854775807 := by
  simp [Lit.wf, IntKind.min, IntKind.max, IntKind.signed, IntKind.bits]
theorem wf8 {x : Int} : (Lit.int .u8 x).wf = true ↔ 0 ≤ x ∧ x ≤ 255 := by
  simp [Lit.wf, IntKind.min, IntKind.max, IntKind.signed, IntKind.bits]
theorem ev_succ {α : Type} {g : Nat → Option α} {r : α} (h : Ev (fun k => g (k + 1)) r) : Ev g r := by
  obtain ⟨K, h⟩ := h
  refine ⟨K + 1, fun k hk => ?_⟩
  obtain ⟨m, rfl⟩ : ∃ m, k = m + 1 := ⟨k - 1, by omega⟩
  exact h m (by omega)
theorem ev_fixed {α : Type} {x : Option α} {r : α} (h : x = some r) : Ev (fun _ => x) r := ⟨0, fun _ _ => h⟩
theorem ev_eq {α : Type} {g : Nat → Option α} {r s : α} (h : Ev g r) (e : r = s) : Ev g s := e ▸ h
/-- Never keep an equation 'wrap64 .. = ..' in the context where omega runs: it compares them by unfolding. -/
theorem wN {x : Int} {n : Nat} (e : x = (n : Int)) (h : n < 4611686018427387904) : wrap64 x = (n : Int) := by rw [e]; exact w64 (by omega) (by omega)

theorem ev_pos {α : Type} {c : Prop} [Decidable c] {a b : Nat → Option α} {r : α} (hc : c) (h : Ev a r) : Ev (fun k => if c then a k else b k) r := by
  obtain ⟨K, h⟩ := h
  exact ⟨K, fun k hk => by show (if c then a k else b k) = some r; rw [if_pos hc]; exact h k hk⟩
theorem ev_neg {α : Type} {c : Prop} [Decidable c] {a b : Nat → Option α} {r : α} (hc : ¬ c) (h : Ev b r) : Ev (fun k => if c then a k else b k) r := by
  obtain ⟨K, h⟩ := h
  exact ⟨K, fun k hk => by show (if c then a k else b k) = some r; rw [if_neg hc]; exact h k hk⟩
theorem ev_bind_some {α β : Type} {a : α} {f : Nat → α → Option β} {r : β} (h : Ev (fun k => f k a) r) : Ev (fun k => (some a).bind (f k)) r := h
theorem ev_bind_of {α β : Type} {x : Option α} {a : α} {f : Nat → α → Option β} {r : β} (hx : x = some a) (h : Ev (fun k => f k a) r) : Ev (fun k => x.bind (f k)) r := by
  subst hx; exact h

theorem rd_nat (l : List Int) (i : Nat) : rd l (i : Int) = l.getD i 0 := by simp [rd]
theorem rd_at {l : List Int} {i : Nat} (h : i < l.length) : rd l (i : Int) = l[i] := by rw [rd_nat, List.getD_eq_getElem?_getD, List.getElem?_eq_getElem h]; rfl
theorem take_set_succ {α : Type} (l : List α) (i : Nat) (a : α) (h : i < l.length) : (l.set i a).take (i + 1) = l.take i ++ [a] := by
  rw [List.take_succ_eq_append_getElem (by simpa using h), List.take_set, List.set_eq_of_length_le (by rw [List.length_take]; omega)]
  simp

theorem rdOf_at {α : Type} (d : α) {l : List α} {i : Nat} (h : i < l.length) : rdOf d l (i : Int) = l[i] := by
  unfold rdOf; rw [Int.toNat_natCast, List.getD_eq_getElem?_getD, List.getElem?_eq_getElem h]; rfl
theorem maxLen_eq : maxLen = 9223372036854775807 := rfl

theorem rdc {l : List S45} {i : Nat} (h : i < l.length) : rd_T45 l (i : Int) = l[i] := by
  unfold rd_T45; rw [Int.toNat_natCast, List.getD_eq_getElem?_getD, List.getElem?_eq_getElem h]; rfl
theorem style_ne (a b : S43) : ((!(a.f0 == b.f0) || (!(a.f1 == b.f1) || (!(a.f2 == b.f2) || (!(a.f3 == b.f3) || (!(a.f4 == b.f4)))))) = true) ↔ a ≠ b := by
  obtain ⟨a0, a1, a2, a3, a4⟩ := a
  obtain ⟨b0, b1, b2, b3, b4⟩ := b
  constructor
  · intro h e
    injection e with e0 e1 e2 e3 e4
    subst e0; subst e1; subst e2; subst e3; subst e4
    simp at h
  · intro h
    by_cases q0 : a0 = b0
    · by_cases q1 : a1 = b1
      · by_cases q2 : a2 = b2
        · by_cases q3 : a3 = b3
          · by_cases q4 : a4 = b4
            · subst q0; subst q1; subst q2; subst q3; subst q4; exact absurd rfl h
            · simp [q4]
          · simp [q3]
        · simp [q2]
      · simp [q1]
    · simp [q0]

def tm3 (x : Int) : Bool := (Int.tmod x 3 == 0)
def mkC (a : Int) : S45 := ⟨a, ⟨a + 1, a + 2, tm3 (a + 3), tm3 (a + 4), tm3 (a + 5)⟩, a + 6⟩
def mksC : Nat → Int → List S45
  | 0, _ => []
  | n + 1, a => mkC a :: mksC n (a + 7)
theorem mksC_length : ∀ (n : Nat) (a : Int), (mksC n a).length = n
  | 0, _ => rfl
  | n + 1, a => by simp [mksC, mksC_length n]
theorem mksC_get : ∀ (n : Nat) (a : Int) (i : Nat) (h : i < (mksC n a).length), (mksC n a)[i] = mkC (a + 7 * i)
  | n + 1, a, 0, _ => by simp [mksC]
  | n + 1, a, i + 1, h => by
    simp only [mksC, List.getElem_cons_succ]
    rw [mksC_get n (a + 7) i]
    have e : a + 7 + 7 * (i : Int) = a + 7 * ((i + 1 : Nat) : Int) := by omega
    rw [e]
theorem laws_markCellS_ev (l : List S45) (a0 : Int) (h0 : 0 ≤ a0) (hl : a0 + 7 * l.length < 9007199254740992) : Ev (fun k => laws_markCellS.f k l a0) (a0 + 7 * (l.length : Int), mksC l.length a0) := by
  have go : ∀ (d i : Nat) (m : List S45) (a : Int), 0 ≤ a → a + 7 * d < 9007199254740992 → i + d = l.length → m.length = l.length → l.length < 9007199254740992 → Ev (fun k => laws_markCellS.l0 k m a (i : Int)) (a + 7 * d, m.take i ++ mksC d a) := by
    intro d
    induction d with
    | zero =>
      intro i m a h0 h1 h hm hlm
      refine ev_succ ?_
      simp only [laws_markCellS.l0]
      refine ev_neg (by omega) (ev_eq (Ev.now _) ?_)
      rw [List.take_of_length_le (by omega)]
      simp [mksC]
    | succ d ih =>
      intro i m a h0 h1 h hm hlm
      have w1 : ∀ _ : Unit, wrap64 (a + 1) = a + 1 := fun _ => w64 (by omega) (by omega)
      have w2 : ∀ _ : Unit, wrap64 (a + 1 + 1) = a + 2 := fun _ => by rw [w64 (by omega) (by omega)]; omega
      have w3 : ∀ _ : Unit, wrap64 (a + 2 + 1) = a + 3 := fun _ => by rw [w64 (by omega) (by omega)]; omega
      have w4 : ∀ _ : Unit, wrap64 (a + 3 + 1) = a + 4 := fun _ => by rw [w64 (by omega) (by omega)]; omega
      have w5 : ∀ _ : Unit, wrap64 (a + 4 + 1) = a + 5 := fun _ => by rw [w64 (by omega) (by omega)]; omega
      have w6 : ∀ _ : Unit, wrap64 (a + 5 + 1) = a + 6 := fun _ => by rw [w64 (by omega) (by omega)]; omega
      have w7 : ∀ _ : Unit, wrap64 (a + 6 + 1) = a + 7 := fun _ => by rw [w64 (by omega) (by omega)]; omega
      have wi : ∀ _ : Unit, wrap64 ((i : Int) + 1) = ((i + 1 : Nat) : Int) := fun _ => by rw [w64 (by omega) (by omega)]; omega
      have hr : ∀ v : S45, rd_T45 (m.set i v) (i : Int) = v := fun v => by rw [rdc (by rw [List.length_set]; omega), List.getElem_set_self]
      refine ev_succ ?_
      simp only [laws_markCellS.l0, w1 (), w2 (), w3 (), w4 (), w5 (), w6 (), w7 (), wi (), Int.toNat_natCast, Option.bind_some, hr, List.set_set]
      refine ev_pos (by omega) (ev_pos (by omega) ?_)
      have := ih (i + 1) (m.set i (mkC a)) (a + 7) (by omega) (by omega) (by omega) (by simpa using hm) hlm
      refine ev_eq this ?_
      rw [take_set_succ _ _ _ (by omega), List.append_assoc, List.singleton_append]
      have e : a + 7 + 7 * (d : Int) = a + 7 * ((d + 1 : Nat) : Int) := by omega
      rw [e]; rfl
  unfold laws_markCellS.f
  have := go l.length 0 l a0 (by omega) (by omega) (by omega) rfl (by omega)
  simpa using this
theorem laws_heldCellS_ev (n : Nat) (a0 : Int) (h0 : 0 ≤ a0) (hn : a0 + 7 * n < 9007199254740992) : Ev (fun k => laws_heldCellS.f k (mksC n a0) a0) (a0 + 7 * (n : Int)) := by
  have go : ∀ (d i : Nat), i + d = n → Ev (fun k => laws_heldCellS.l0 k (mksC n a0) (a0 + 7 * (i : Int)) (i : Int)) (a0 + 7 * (n : Int)) := by
    intro d
    induction d with
    | zero =>
      intro i h
      obtain rfl : i = n := by omega
      refine ev_succ ?_
      simp only [laws_heldCellS.l0]
      exact ev_neg (by rw [mksC_length]; omega) (Ev.now _)
    | succ d ih =>
      intro i h
      have hr : rd_T45 (mksC n a0) (i : Int) = mkC (a0 + 7 * i) := by rw [rdc (by rw [mksC_length]; omega), mksC_get]
      obtain ⟨a, ha⟩ : ∃ a, a = a0 + 7 * (i : Int) := ⟨_, rfl⟩
      have hb : 0 ≤ a ∧ a + 7 < 9007199254740992 := by omega
      have hn2 : ((i + 1 : Nat) : Int) < 9007199254740992 := by omega
      have hnext : a + 7 = a0 + 7 * ((i + 1 : Nat) : Int) := by omega
      rw [← ha] at hr ⊢
      have := ih (i + 1) (by omega)
      rw [← hnext] at this
      have w1 : ∀ _ : Unit, wrap64 (a + 1) = a + 1 := fun _ => w64 (by omega) (by omega)
      have w2 : ∀ _ : Unit, wrap64 (a + 1 + 1) = a + 2 := fun _ => by rw [w64 (by omega) (by omega)]; omega
      have w3 : ∀ _ : Unit, wrap64 (a + 2 + 1) = a + 3 := fun _ => by rw [w64 (by omega) (by omega)]; omega
      have w4 : ∀ _ : Unit, wrap64 (a + 3 + 1) = a + 4 := fun _ => by rw [w64 (by omega) (by omega)]; omega
      have w5 : ∀ _ : Unit, wrap64 (a + 4 + 1) = a + 5 := fun _ => by rw [w64 (by omega) (by omega)]; omega
      have w6 : ∀ _ : Unit, wrap64 (a + 5 + 1) = a + 6 := fun _ => by rw [w64 (by omega) (by omega)]; omega
      have w7 : ∀ _ : Unit, wrap64 (a + 6 + 1) = a + 7 := fun _ => by rw [w64 (by omega) (by omega)]; omega
      have wi : ∀ _ : Unit, wrap64 ((i : Int) + 1) = ((i + 1 : Nat) : Int) := fun _ => by rw [w64 (by omega) (by omega)]; omega
      refine ev_succ ?_
      simp only [laws_heldCellS.l0, hr, mkC, tm3, w1 (), w2 (), w3 (), w4 (), w5 (), w6 (), w7 (), wi (), bne_self_eq_false]
      exact ev_pos (by rw [mksC_length]; omega) (ev_pos (by omega) (ev_pos (by trivial) (ev_pos (by trivial) (ev_pos (by trivial) (ev_neg (by simp) (ev_neg (by simp) (ev_neg (by simp) (ev_pos (by trivial) this))))))))
  unfold laws_heldCellS.f
  have := go n 0 (by omega)
  simpa using this

theorem laws_eqCell_self (x : S45) : laws_eqCell.f x.f0 x.f1.f0 x.f1.f1 x.f1.f2 x.f1.f3 x.f1.f4 x.f2 x.f0 x.f1.f0 x.f1.f1 x.f1.f2 x.f1.f3 x.f1.f4 x.f2 = some true := by
  simp [laws_eqCell.f, laws_eqStyle.f]
theorem laws_eqCellS_ev (l : List S45) (hl : l.length < 9223372036854775807) : Ev (fun k => laws_eqCellS.f k l l) true := by
  have go : ∀ (d i : Nat), i + d = l.length → Ev (fun k => laws_eqCellS.l0 k l l (i : Int)) true := by
    intro d
    induction d with
    | zero =>
      intro i h
      refine ev_succ ?_
      simp only [laws_eqCellS.l0]
      exact ev_neg (by omega) (Ev.now _)
    | succ d ih =>
      intro i h
      refine ev_succ ?_
      simp only [laws_eqCellS.l0, w64 (x := (i : Int) + 1) (by omega) (by omega), laws_eqCell_self, Option.bind_some]
      exact ev_pos (by omega) (ev_pos (by omega) (ev_pos (by omega) (ev_pos (by first | rfl | trivial) (ih (i + 1) (by omega)))))
  unfold laws_eqCellS.f
  exact ev_pos rfl (go l.length 0 (by omega))

theorem rdch (l : List S40) (i : Nat) (h : i < l.length) : rd_T40 l (i : Int) = l[i] := by
  unfold rd_T40; rw [Int.toNat_natCast, List.getD_eq_getElem?_getD, List.getElem?_eq_getElem h]; rfl
theorem laws_eqChangeS_ev (l : List S40) (hl : l.length < 4611686018427387904) (hw : ∀ x ∈ l, x.f2.length < 4611686018427387904) : Ev (fun k => laws_eqChangeS.f k l l) true := by
  have go : ∀ (d i : Nat), i + d = l.length → Ev (fun k => laws_eqChangeS.l0 k l l (i : Int)) true := by
    intro d
    induction d with
    | zero =>
      intro i h
      refine ev_succ ?_
      simp only [laws_eqChangeS.l0]
      exact ev_neg (by omega) (Ev.now _)
    | succ d ih =>
      intro i h
      refine ev_succ ?_
      have wi : ∀ _ : Unit, wrap64 ((i : Int) + 1) = ((i + 1 : Nat) : Int) := fun _ => by rw [w64 (by omega) (by omega)]; omega
      simp only [laws_eqChangeS.l0, rdch l i (by omega), wi (), laws_eqChange.f]
      refine ev_pos (by omega) (ev_pos (by omega) (ev_pos (by omega) (Ev.bind (a := true) ?_ (ev_pos (by trivial) (ih (i + 1) (by omega))))))
      exact ev_pos (by trivial) (ev_pos (by trivial) (Ev.bind (laws_eqCellS_ev _ (by have := hw _ (List.getElem_mem (l := l) (n := i) (by omega)); omega)) (ev_pos (by trivial) (Ev.now _))))
  unfold laws_eqChangeS.f
  exact ev_pos (by trivial) (go l.length 0 (by omega))
theorem laws_eqPatch_ev (c n : Int) (l : List S40) (hl : l.length < 4611686018427387904) (hw : ∀ x ∈ l, x.f2.length < 4611686018427387904) : Ev (fun k => laws_eqPatch.f k c n l c n l) true := by
  unfold laws_eqPatch.f
  exact ev_pos (by trivial) (ev_pos (by trivial) (Ev.bind (laws_eqChangeS_ev l hl hw) (ev_pos (by trivial) (Ev.now _))))
/-- Changes, marked. -/
def mksP : List Nat → Int → List S40
  | [], _ => []
  | n :: ns, a => ⟨a, a + 1, mksC n (a + 2)⟩ :: mksP ns (a + 2 + 7 * (n : Int))
def sumP : List Nat → Nat
  | [] => 0
  | n :: ns => 2 + 7 * n + sumP ns
theorem mksP_length : ∀ (ns : List Nat) (a : Int), (mksP ns a).length = ns.length
  | [], _ => rfl
  | n :: ns, a => by simp [mksP, mksP_length ns]
theorem sumP_le (ns : List Nat) (b : Nat) (h : ∀ n ∈ ns, n ≤ b) : sumP ns ≤ (2 + 7 * b) * ns.length := by
  induction ns with
  | nil => simp [sumP]
  | cons x r ih =>
    have h1 := h x (by simp)
    have h2 := ih (fun n hn => h n (by simp [hn]))
    simp only [sumP, List.length_cons, Nat.mul_succ]
    omega
theorem laws_markChangeS_ev (l : List S40) (a0 : Int) (h0 : 0 ≤ a0) (hl : l.length < 4611686018427387904) (hs : a0 + (sumP (l.map fun x => x.f2.length) : Int) < 9007199254740992) :
    Ev (fun k => laws_markChangeS.f k l a0) (a0 + (sumP (l.map fun x => x.f2.length) : Int), mksP (l.map fun x => x.f2.length) a0) := by
  have go : ∀ (r : List S40) (p : List S40) (a : Int), 0 ≤ a → p.length + r.length < 4611686018427387904 → a + (sumP (r.map fun x => x.f2.length) : Int) < 9007199254740992 →
      Ev (fun k => laws_markChangeS.l0 k (p ++ r) a (p.length : Int)) (a + (sumP (r.map fun x => x.f2.length) : Int), p ++ mksP (r.map fun x => x.f2.length) a) := by
    intro r
    induction r with
    | nil =>
      intro p a _ _ _
      refine ev_succ ?_
      simp only [laws_markChangeS.l0, List.append_nil]
      refine ev_neg (by omega) (ev_eq (Ev.now _) ?_)
      simp [sumP, mksP]
    | cons x r ih =>
      intro p a ha hn hb
      simp only [List.map_cons, sumP, List.length_cons] at hb hn
      have e := ih (p ++ [⟨a, a + 1, mksC x.f2.length (a + 2)⟩]) (a + 2 + 7 * (x.f2.length : Int)) (by omega) (by simp; omega) (by omega)
      have wi : ∀ _ : Unit, wrap64 ((p.length : Int) + 1) = ((p.length + 1 : Nat) : Int) := fun _ => by rw [w64 (by omega) (by omega)]; omega
      have w1 : ∀ _ : Unit, wrap64 (a + 1) = a + 1 := fun _ => w64 (by omega) (by omega)
      have w2 : ∀ _ : Unit, wrap64 (a + 1 + 1) = a + 2 := fun _ => by rw [w64 (by omega) (by omega)]; omega
      have gd : ∀ z : S40, (p ++ x :: r).getD p.length z = x := fun z => by simp
      have sd : ∀ y : S40, (p ++ x :: r).set p.length y = p ++ [y] ++ r := fun y => by simp
      refine ev_succ ?_
      simp only [laws_markChangeS.l0, wi (), w1 (), w2 (), Int.toNat_natCast, gd]
      refine ev_pos (by simp; omega) (ev_pos (by omega) (Ev.bind (laws_markCellS_ev x.f2 (a + 2) (by omega) (by omega)) ?_))
      simp only [sd]
      rw [show (p ++ [(⟨a, a + 1, mksC x.f2.length (a + 2)⟩ : S40)]).length = p.length + 1 by simp] at e
      refine ev_eq e ?_
      simp only [List.map_cons, sumP, mksP, List.append_assoc, List.singleton_append, Prod.mk.injEq, and_true]
      omega
  have := go l [] a0 h0 (by simpa using hl) hs
  unfold laws_markChangeS.f
  simpa using this
theorem laws_heldChangeS_ev (ns : List Nat) (a0 : Int) (h0 : 0 ≤ a0) (hl : ns.length < 4611686018427387904) (hs : a0 + (sumP ns : Int) < 9007199254740992) : Ev (fun k => laws_heldChangeS.f k (mksP ns a0) a0) (a0 + (sumP ns : Int)) := by
  have go : ∀ (r : List Nat) (p : List S40) (a : Int), 0 ≤ a → p.length + r.length < 4611686018427387904 → a + (sumP r : Int) < 9007199254740992 →
      Ev (fun k => laws_heldChangeS.l0 k (p ++ mksP r a) a (p.length : Int)) (a + (sumP r : Int)) := by
    intro r
    induction r with
    | nil =>
      intro p a _ _ _
      refine ev_succ ?_
      simp only [laws_heldChangeS.l0, mksP, List.append_nil]
      refine ev_neg (by omega) (ev_eq (Ev.now _) ?_)
      simp [sumP]
    | cons x r ih =>
      intro p a ha hn hb
      simp only [sumP, List.length_cons] at hb hn
      have e := ih (p ++ [⟨a, a + 1, mksC x (a + 2)⟩]) (a + 2 + 7 * (x : Int)) (by omega) (by simp; omega) (by omega)
      have wi : ∀ _ : Unit, wrap64 ((p.length : Int) + 1) = ((p.length + 1 : Nat) : Int) := fun _ => by rw [w64 (by omega) (by omega)]; omega
      have w1 : ∀ _ : Unit, wrap64 (a + 1) = a + 1 := fun _ => w64 (by omega) (by omega)
      have w2 : ∀ _ : Unit, wrap64 (a + 1 + 1) = a + 2 := fun _ => by rw [w64 (by omega) (by omega)]; omega
      have gd : ∀ _ : Unit, rd_T40 (p ++ (⟨a, a + 1, mksC x (a + 2)⟩ : S40) :: mksP r (a + 2 + 7 * (x : Int))) (p.length : Int) = ⟨a, a + 1, mksC x (a + 2)⟩ := fun _ => by rw [rdch _ _ (by simp)]; simp
      refine ev_succ ?_
      simp only [laws_heldChangeS.l0, wi (), mksP, gd (), w1 (), w2 ()]
      refine ev_pos (by simp; omega) (ev_pos (by omega) (ev_pos (by trivial) (ev_pos (by trivial) (Ev.bind (laws_heldCellS_ev x (a + 2) (by omega) (by omega)) (ev_neg (by omega) ?_)))))
      rw [show (p ++ [(⟨a, a + 1, mksC x (a + 2)⟩ : S40)]).length = p.length + 1 by simp, List.append_assoc, List.singleton_append] at e
      refine ev_eq e ?_
      simp only [sumP]
      omega
  have := go ns [] a0 h0 (by simpa using hl) hs
  unfold laws_heldChangeS.f
  simpa using this
theorem laws_markPatch_ev (c n : Int) (l : List S40) (a0 : Int) (h0 : 0 ≤ a0) (hl : l.length < 4611686018427387904) (hs : a0 + (sumP (l.map fun x => x.f2.length) : Int) < 9007199254740992) :
    Ev (fun k => laws_markPatch.f k c n l a0) (a0 + (sumP (l.map fun x => x.f2.length) : Int), mksP (l.map fun x => x.f2.length) a0) := by
  unfold laws_markPatch.f
  exact Ev.bind (laws_markChangeS_ev l a0 h0 hl hs) (Ev.now _)
theorem laws_heldPatch_ev (c n : Int) (ns : List Nat) (a0 : Int) (h0 : 0 ≤ a0) (hl : ns.length < 4611686018427387904) (hs : a0 + (sumP ns : Int) < 9007199254740992) : Ev (fun k => laws_heldPatch.f k c n (mksP ns a0) a0) (a0 + (sumP ns : Int)) := by
  unfold laws_heldPatch.f
  exact Ev.bind (laws_heldChangeS_ev ns a0 h0 hl hs) (ev_neg (by omega) (Ev.now _))

theorem spec_l1In_eq (a b c : Int) : spec_l1In.f a b c = some (decide (b ≤ a) && decide (a ≤ c)) := by
  unfold spec_l1In.f
  by_cases h : a ≥ b
  · rw [if_pos h]; simp [h]
  · rw [if_neg h]; simp [show ¬ b ≤ a from h]

theorem impl_in_eq (a b c : Int) : impl_in.f a b c = some (decide (b ≤ a) && decide (a ≤ c)) := by
  unfold impl_in.f
  by_cases h : b ≤ a
  · rw [if_pos h]; simp [h]
  · rw [if_neg h]; simp [h]

def sokv (a b : Int) : Bool := (decide (0 ≤ a) && decide (a ≤ 8)) && (decide (0 ≤ b) && decide (b ≤ 8))
theorem impl_StyleOk_eq (a b : Int) (c d e : Bool) : impl_StyleOk.f a b c d e = some (sokv a b) := by
  simp only [impl_StyleOk.f, impl_in_eq, Option.bind_some, sokv]
  by_cases h : (decide (0 ≤ a) && decide (a ≤ 8)) = true
  · simp [h]
  · simp [h]

theorem spec_StyleOk_eq (a b : Int) (c d e : Bool) : spec_StyleOk.f a b c d e = some (sokv a b) := by
  simp only [spec_StyleOk.f, spec_l1In_eq, Option.bind_some, sokv]
  by_cases h : (decide (0 ≤ a) && decide (a ≤ 8)) = true
  · simp [h]
  · simp [h]

theorem sh_nil (s : ByteArray) : s.toList = [] ↔ s.size = 0 := by
  rw [Lib.toList_data]
  constructor
  · intro h
    have := congrArg List.length h
    simpa using this
  · intro h
    exact List.eq_nil_of_length_eq_zero (by simpa using h)
theorem sh_ext {a b : ByteArray} (h : a.data.toList = b.data.toList) : a = b := ByteArray.ext (Array.toList_inj.mp h)
theorem sh_append (a b : ByteArray) : (a ++ b).data.toList = a.data.toList ++ b.data.toList := by rw [ByteArray.data_append, Array.toList_append]
theorem sh_size (a : ByteArray) : a.size = a.data.toList.length := by rw [Array.length_toList]; rfl
theorem sh_bytes (s : ByteArray) : strOfNums (bytesOf s) = s := by
  refine sh_ext ?_
  rw [strOfNums_data]
  unfold bytesOf
  rw [List.map_map]
  conv => rhs; rw [← List.map_id s.data.toList]
  refine List.map_congr_left (fun b _ => ?_)
  simp
/-- A number's decimal digits. -/
def dig (n : Int) : List UInt8 := Lib.decDigits n.toNat
theorem dec_length : ∀ (d m : Nat), m < 10 ^ (d + 1) → (Lib.decDigits m).length ≤ d + 1
  | 0, m, h => by rw [Lib.decDigits_one (by omega)]; simp
  | d + 1, m, h => by
    rw [Lib.decDigits]
    by_cases q : m < 10
    · rw [dif_pos q]; simp
    · rw [dif_neg q, List.length_append]
      have := dec_length d (m / 10) (by rw [Nat.div_lt_iff_lt_mul (by omega)]; rw [Nat.pow_succ] at h; omega)
      simp only [List.length_cons, List.length_nil]; omega
theorem dig_length (n : Int) (h0 : 0 ≤ n) (h1 : n ≤ 9999999) : (dig n).length ≤ 7 := dec_length 6 n.toNat (by omega)
theorem l3Int_go : ∀ (b m : Nat) (s : ByteArray), m ≤ b → m + s.size < 1000000000 → Ev (fun k => spec_l3Int.j1 k (m : Int) s false true) ⟨(Lib.decDigits m ++ s.data.toList).toArray⟩ := by
  intro b
  induction b with
  | zero =>
    intro m s hb hs
    obtain rfl : m = 0 := by omega
    have hz : ∀ _ : Unit, (strOfNums [((48 : Nat) : Int)] ++ s).size ≠ 0 := fun _ => by rw [ByteArray.size_append, strOfNums_size]; simp only [List.length_cons, List.length_nil]; omega
    have hm : ∀ _ : Unit, Int.tmod ((0 : Nat) : Int) 10 = 0 := fun _ => by decide
    have hd : ∀ _ : Unit, wrap64 (Int.tdiv ((0 : Nat) : Int) 10) = 0 := fun _ => by rw [show Int.tdiv ((0 : Nat) : Int) 10 = 0 from by decide, w64 (by omega) (by omega)]
    have hw : ∀ _ : Unit, wrap64 (48 + (0 : Int)) % 256 = ((48 : Nat) : Int) := fun _ => by rw [w64 (by omega) (by omega)]; omega
    refine ev_succ ?_
    simp only [spec_l3Int.j1, hm (), hd (), hw ()]
    refine ev_pos (by trivial) (ev_neg (by omega) (ev_bind_some (ev_pos (by rw [strOfNums_size]; simp only [List.length_cons, List.length_nil]; omega) (ev_succ ?_))))
    simp only [spec_l3Int.l0]
    refine ev_neg (fun x => hz () ((sh_nil _).mp x)) (ev_succ ?_)
    simp only [spec_l3Int.j1]
    refine ev_neg (by simp) (ev_neg (by simp) (ev_eq (Ev.now _) (sh_ext ?_)))
    rw [sh_append, strOfNums_data, Lib.decDigits_one (by omega)]
    rfl
  | succ b ih =>
    intro m s hb hs
    have hz : ∀ _ : Unit, (strOfNums [((48 + m % 10 : Nat) : Int)] ++ s).size = 1 + s.size := fun _ => by rw [ByteArray.size_append, strOfNums_size]; rfl
    have hm : ∀ _ : Unit, Int.tmod (m : Int) 10 = ((m % 10 : Nat) : Int) := fun _ => by rw [Int.tmod_eq_emod_of_nonneg (by omega)]; omega
    have hd : ∀ _ : Unit, wrap64 (Int.tdiv (m : Int) 10) = ((m / 10 : Nat) : Int) := fun _ => by rw [Int.tdiv_eq_ediv_of_nonneg (by omega), w64 (by omega) (by omega)]; omega
    have hw : ∀ _ : Unit, wrap64 (48 + ((m % 10 : Nat) : Int)) % 256 = ((48 + m % 10 : Nat) : Int) := fun _ => by rw [w64 (by omega) (by omega)]; omega
    have hdat : (strOfNums [((48 + m % 10 : Nat) : Int)] ++ s).data.toList = UInt8.ofNat (48 + m % 10) :: s.data.toList := by
      rw [sh_append, strOfNums_data]
      rfl
    refine ev_succ ?_
    simp only [spec_l3Int.j1, hm (), hd (), hw ()]
    refine ev_pos (by trivial) (ev_neg (by omega) (ev_bind_some (ev_pos (by rw [strOfNums_size]; simp only [List.length_cons, List.length_nil]; omega) (ev_succ ?_))))
    simp only [spec_l3Int.l0]
    refine ev_neg (fun x => by have := (sh_nil _).mp x; rw [hz ()] at this; omega) ?_
    by_cases q : m < 10
    · rw [show m / 10 = 0 by omega]
      refine ev_succ ?_
      simp only [spec_l3Int.j1]
      refine ev_neg (by simp) (ev_neg (by simp) (ev_eq (Ev.now _) (sh_ext ?_)))
      rw [hdat, Lib.decDigits_one q, show m % 10 = m by omega]
      rfl
    · have e := ih (m / 10) (strOfNums [((48 + m % 10 : Nat) : Int)] ++ s) (by omega) (by rw [hz ()]; omega)
      have hne : (((m / 10 : Nat) : Int) != 0) = true := by simp; omega
      rw [hne]
      refine ev_eq e (sh_ext ?_)
      rw [hdat]
      conv => rhs; rw [Lib.decDigits, dif_neg q]
      simp
theorem spec_l3Int_ev (n : Int) (h0 : 0 ≤ n) (h1 : n ≤ 9999999) : Ev (fun k => spec_l3Int.f k n) ⟨(dig n).toArray⟩ := by
  obtain ⟨m, rfl⟩ : ∃ m : Nat, n = (m : Int) := ⟨n.toNat, by omega⟩
  unfold spec_l3Int.f
  rw [decide_eq_false (by omega)]
  refine ev_succ ?_
  simp only [spec_l3Int.l0]
  refine ev_pos (by rw [Lib.toList_data]) ?_
  refine ev_eq (l3Int_go m m ⟨#[]⟩ (Nat.le_refl _) (by show m + 0 < _; omega)) ?_
  unfold dig
  rw [Int.toNat_natCast]
  simp
theorem impl_decimal_eq (n : Int) (h0 : 0 ≤ n) (h1 : n ≤ 9999999) : impl_decimal.f n = some ⟨(dig n).toArray⟩ := by
  unfold impl_decimal.f strconv_FormatInt_49.f
  rw [if_pos ⟨⟨by omega, by omega⟩, rfl⟩]
  unfold Lib.itoa dig
  rw [if_neg (by omega)]; rfl
/-- The numbers, a blank between two. -/
def joined (l : List Int) : List UInt8 := Lib.join (l.map dig) [32]
theorem joined_one (x : Int) : joined [x] = dig x := Lib.join_one _ _
theorem joined_more (l : List Int) (x : Int) (h : l ≠ []) : joined (l ++ [x]) = joined l ++ 32 :: dig x := by
  cases l with
  | nil => exact absurd rfl h
  | cons a l =>
    unfold joined
    rw [List.cons_append, List.map_cons, List.map_cons, Lib.join_cons, Lib.join_cons, List.map_append]
    simp [Lib.joinTail]
theorem joined_length (l : List Int) (h : ∀ x ∈ l, 0 ≤ x ∧ x ≤ 9999999) : (joined l).length ≤ 8 * l.length := by
  unfold joined
  cases l with
  | nil => simp [Lib.join_nil]
  | cons a l =>
    rw [List.map_cons, Lib.join_cons, List.length_append]
    have ha := dig_length a (h a (by simp)).1 (h a (by simp)).2
    have : ∀ l : List Int, (∀ x ∈ l, 0 ≤ x ∧ x ≤ 9999999) → (Lib.joinTail [32] (l.map dig)).length ≤ 8 * l.length := by
      intro l
      induction l with
      | nil => intro _; simp [Lib.joinTail]
      | cons b l ih =>
        intro hb
        have h1 := dig_length b (hb b (by simp)).1 (hb b (by simp)).2
        have h2 := ih (fun x hx => hb x (by simp [hx]))
        simp only [Lib.joinTail, List.map_cons, List.flatten_cons, List.length_append, List.length_cons, List.length_nil] at h2 ⊢
        omega
    have := this l (fun x hx => h x (by simp [hx]))
    simp only [List.length_cons]; omega
/-- The numbers of a patch. -/
def flagv (y : S45) : Int := (if y.f1.f2 = true then 1 else 0) + (if y.f1.f3 = true then 2 else 0) + (if y.f1.f4 = true then 4 else 0)
def celln (y : S45) : List Int := [y.f0, y.f1.f0, y.f1.f1, flagv y, y.f2]
def chn (x : S40) : List Int := [x.f0, x.f1, (x.f2.length : Int)] ++ x.f2.flatMap celln
def nums (c n : Int) (ch : List S40) : List Int := [c, n] ++ ch.flatMap chn
theorem cellns_length (l : List S45) : (l.flatMap celln).length = 5 * l.length := by
  induction l with
  | nil => rfl
  | cons x l ih => rw [List.flatMap_cons, List.length_append, ih]; simp only [celln, List.length_cons, List.length_nil]; omega
theorem chn_length (x : S40) : (chn x).length = 3 + 5 * x.f2.length := by unfold chn; rw [List.length_append, cellns_length]; simp only [List.length_cons, List.length_nil]
def OkCh (x : S40) : Prop := 1 ≤ x.f2.length ∧ x.f2.length ≤ 60 ∧ ∀ y ∈ x.f2, sokv y.f1.f0 y.f1.f1 = true
theorem chns_length (l : List S40) (h : ∀ x ∈ l, x.f2.length ≤ 60) : (l.flatMap chn).length ≤ 303 * l.length := by
  induction l with
  | nil => simp
  | cons x l ih =>
    rw [List.flatMap_cons, List.length_append, chn_length]
    have := h x (by simp)
    have := ih (fun y hy => h y (by simp [hy]))
    simp only [List.length_cons]; omega
theorem l3F (a : Bool) (x : Int) : spec_l3Flag.f a x 0 = some (if a = true then x else 0) := by
  unfold spec_l3Flag.f
  split <;> rfl
theorem spec_l10Flags_eq (a b : Int) (c d e : Bool) : spec_l10Flags.f a b c d e = some ((if c = true then 1 else 0) + (if d = true then 2 else 0) + (if e = true then 4 else 0)) := by
  unfold spec_l10Flags.f
  simp only [l3F, Option.bind_some]
  have b1 : 0 ≤ (if c = true then (1 : Int) else 0) ∧ (if c = true then (1 : Int) else 0) ≤ 1 := by split <;> omega
  have b2 : 0 ≤ (if d = true then (2 : Int) else 0) ∧ (if d = true then (2 : Int) else 0) ≤ 2 := by split <;> omega
  have b3 : 0 ≤ (if e = true then (4 : Int) else 0) ∧ (if e = true then (4 : Int) else 0) ≤ 4 := by split <;> omega
  obtain ⟨x, hx⟩ : ∃ x, x = (if c = true then (1 : Int) else 0) := ⟨_, rfl⟩
  obtain ⟨y, hy⟩ : ∃ y, y = (if d = true then (2 : Int) else 0) := ⟨_, rfl⟩
  obtain ⟨z, hz⟩ : ∃ z, z = (if e = true then (4 : Int) else 0) := ⟨_, rfl⟩
  rw [← hx, ← hy, ← hz]
  rw [← hx] at b1
  rw [← hy] at b2
  rw [← hz] at b3
  rw [w64 (x := x + y) (by omega) (by omega), w64 (by omega) (by omega)]
section
variable (c n : Int) (ch : List S40) (hch : ch.length ≤ 400)
include hch
set_option linter.unusedSectionVars false
theorem spec_l10_l1 (i : Nat) (u v : Int) (cs : List S45) (hcs : cs.length ≤ 60) (r : List Int) : ∀ (d j : Nat) (acc : List Int), j + d = cs.length → acc.length + 5 * d < 1000000 →
    Ev (fun k => spec_l10Numbers.l0 k (acc ++ (cs.drop j).flatMap celln) ((i + 1 : Nat) : Int) c n ch) r → (i : Int) < 1000000 → Ev (fun k => spec_l10Numbers.l1 k acc (i : Int) (j : Int) c n ch u v cs) r := by
  intro d
  induction d with
  | zero =>
    intro j acc hj ha he hi
    have wi : ∀ _ : Unit, wrap64 ((i : Int) + 1) = ((i + 1 : Nat) : Int) := fun _ => by rw [w64 (by omega) (by omega)]; omega
    refine ev_succ ?_
    simp only [spec_l10Numbers.l1, wi ()]
    rw [List.drop_of_length_le (by omega), List.flatMap_nil, List.append_nil] at he
    exact ev_neg (by omega) he
  | succ d ih =>
    intro j acc hj ha he hi
    have wj : ∀ _ : Unit, wrap64 ((j : Int) + 1) = ((j + 1 : Nat) : Int) := fun _ => by rw [w64 (by omega) (by omega)]; omega
    have rc : ∀ _ : Unit, rd_T45 cs (j : Int) = cs[j] := fun _ => rdc (by omega)
    rw [List.drop_eq_getElem_cons (by omega), List.flatMap_cons, ← List.append_assoc] at he
    refine ev_succ ?_
    simp only [spec_l10Numbers.l1, wj (), rc (), spec_l10Flags_eq, Option.bind_some]
    refine ev_pos (by omega) (ev_pos (by omega) (ev_pos (by simp only [List.length_cons, List.length_nil]; omega) ?_))
    exact ih (j + 1) (acc ++ celln cs[j]) (by omega) (by rw [List.length_append]; simp only [celln, List.length_cons, List.length_nil]; omega) he hi
theorem spec_l10_l0 (hw : ∀ x ∈ ch, x.f2.length ≤ 60) : ∀ (d i : Nat) (acc : List Int), i + d = ch.length → acc.length + 303 * d < 500000 →
    Ev (fun k => spec_l10Numbers.l0 k acc (i : Int) c n ch) (acc ++ (ch.drop i).flatMap chn) := by
  intro d
  induction d with
  | zero =>
    intro i acc hi ha
    refine ev_succ ?_
    simp only [spec_l10Numbers.l0]
    rw [List.drop_of_length_le (by omega), List.flatMap_nil, List.append_nil]
    exact ev_neg (by omega) (Ev.now _)
  | succ d ih =>
    intro i acc hi ha
    have hx := hw ch[i] (List.getElem_mem (by omega))
    have rc : ∀ _ : Unit, rd_T40 ch (i : Int) = ch[i] := fun _ => rdch ch i (by omega)
    rw [List.drop_eq_getElem_cons (by omega), List.flatMap_cons, ← List.append_assoc]
    refine ev_succ ?_
    simp only [spec_l10Numbers.l0, rc (), Option.bind_some]
    refine ev_pos (by omega) (ev_pos (by omega) (ev_pos (by simp only [List.length_cons, List.length_nil]; omega) ?_))
    refine spec_l10_l1 c n ch hch i _ _ ch[i].f2 hx _ ch[i].f2.length 0 _ (by omega) (by rw [List.length_append]; simp only [List.length_cons, List.length_nil]; omega) ?_ (by omega)
    have e := ih (i + 1) (acc ++ chn ch[i]) (by omega) (by rw [List.length_append, chn_length]; omega)
    rw [List.drop_zero, List.append_assoc]
    exact e
theorem spec_l10Numbers_ev (hw : ∀ x ∈ ch, x.f2.length ≤ 60) : Ev (fun k => spec_l10Numbers.f k c n ch) (nums c n ch) := by
  unfold spec_l10Numbers.f
  have := spec_l10_l0 c n ch hch hw ch.length 0 [c, n] (by omega) (by simp only [List.length_cons, List.length_nil]; omega)
  rw [List.drop_zero] at this
  exact this
/-- What is written of numbers. -/
theorem spec_show_l2 (l : List Int) (hl : l.length ≤ 200000) (hr : ∀ x ∈ l, 0 ≤ x ∧ x ≤ 9999999) : ∀ (d i : Nat), i + d = l.length →
    Ev (fun k => spec_ShowPatch.l2 k (bytesOf ⟨(joined (l.take i)).toArray⟩) l (i : Int)) ⟨(joined l).toArray⟩ := by
  have hsz : ∀ i, i ≤ l.length → (bytesOf ⟨(joined (l.take i)).toArray⟩).length ≤ 8 * i := by
    intro i hi
    rw [bytesOf_length, sh_size]
    have := joined_length (l.take i) (fun x hx => hr x (List.mem_of_mem_take hx))
    rw [List.length_take] at this
    simp only; omega
  intro d
  induction d with
  | zero =>
    intro i hi
    refine ev_succ ?_
    simp only [spec_ShowPatch.l2]
    refine ev_neg (by omega) (ev_eq (Ev.now _) ?_)
    rw [sh_bytes, List.take_of_length_le (by omega)]
  | succ d ih =>
    intro i hi
    have hi' : i < l.length := by omega
    have hs := hsz i (by omega)
    have hx := hr l[i] (List.getElem_mem hi')
    have hd := dig_length l[i] hx.1 hx.2
    have hds : (⟨(dig l[i]).toArray⟩ : ByteArray).size = (dig l[i]).length := by rw [sh_size]
    have ht : l.take (i + 1) = l.take i ++ [l[i]] := List.take_succ_eq_append_getElem hi'
    have hw : ∀ _ : Unit, wrap64 ((i : Int) + 1) = ((i + 1 : Nat) : Int) := fun _ => by rw [w64 (by omega) (by omega)]; omega
    have hrd : ∀ _ : Unit, rd l (i : Int) = l[i] := fun _ => rd_at hi'
    have hin : (decide (0 ≤ l[i]) && decide (l[i] ≤ 9999999)) = true := by simp; exact hx
    have e := ih (i + 1) (by omega)
    refine ev_succ ?_
    simp only [spec_ShowPatch.l2, hw (), hrd (), spec_l1In_eq, Option.bind_some]
    refine ev_pos (by omega) (ev_pos (by omega) (ev_pos hin ?_))
    by_cases hi0 : i = 0
    · subst hi0
      refine ev_neg (by omega) (Ev.bind (spec_l3Int_ev _ hx.1 hx.2) (ev_pos (by omega) ?_))
      have : bytesOf ⟨(joined (l.take 0)).toArray⟩ ++ bytesOf ⟨(dig l[0]).toArray⟩ = bytesOf ⟨(joined (l.take (0 + 1))).toArray⟩ := by
        rw [ht, List.take_zero, List.nil_append, joined_one]
        rfl
      rw [this]; exact e
    · refine ev_pos (by omega) (ev_pos (by omega) (Ev.bind (spec_l3Int_ev _ hx.1 hx.2) (ev_pos ?_ ?_)))
      · rw [List.length_append, hds]; simp only [List.length_cons, List.length_nil]; omega
      · have hne : l.take i ≠ [] := fun x => by have := congrArg List.length x; rw [List.length_take, List.length_nil] at this; omega
        have : (bytesOf ⟨(joined (l.take i)).toArray⟩ ++ [32]) ++ bytesOf ⟨(dig l[i]).toArray⟩ = bytesOf ⟨(joined (l.take (i + 1))).toArray⟩ := by
          rw [ht, joined_more _ _ hne]
          unfold bytesOf
          simp
        rw [this]; exact e
theorem spec_show_bad (l : List Int) (hl : l.length ≤ 200000) (m : Nat) (hm : m < l.length) (hb : ¬ (0 ≤ l[m] ∧ l[m] ≤ 9999999)) (hr : ∀ j (h : j < m), 0 ≤ l[j] ∧ l[j] ≤ 9999999) : ∀ (d i : Nat) (acc : List Int), i + d = m → acc.length ≤ 8 * i →
    Ev (fun k => spec_ShowPatch.l2 k acc l (i : Int)) ⟨#[]⟩ := by
  intro d
  induction d with
  | zero =>
    intro i acc hi ha
    obtain rfl : i = m := by omega
    have hrd : ∀ _ : Unit, rd l (i : Int) = l[i] := fun _ => rd_at hm
    refine ev_succ ?_
    simp only [spec_ShowPatch.l2, hrd (), spec_l1In_eq, Option.bind_some]
    exact ev_pos (by omega) (ev_pos (by omega) (ev_neg (by simp; omega) (Ev.now _)))
  | succ d ih =>
    intro i acc hi ha
    have hi' : i < l.length := by omega
    have hx := hr i (by omega)
    have hd := dig_length l[i] hx.1 hx.2
    have hds : (⟨(dig l[i]).toArray⟩ : ByteArray).size = (dig l[i]).length := by rw [sh_size]
    have hbl := bytesOf_length ⟨(dig l[i]).toArray⟩
    have hw : ∀ _ : Unit, wrap64 ((i : Int) + 1) = ((i + 1 : Nat) : Int) := fun _ => by rw [w64 (by omega) (by omega)]; omega
    have hrd : ∀ _ : Unit, rd l (i : Int) = l[i] := fun _ => rd_at hi'
    have hin : (decide (0 ≤ l[i]) && decide (l[i] ≤ 9999999)) = true := by simp; exact hx
    refine ev_succ ?_
    simp only [spec_ShowPatch.l2, hw (), hrd (), spec_l1In_eq, Option.bind_some]
    refine ev_pos (by omega) (ev_pos (by omega) (ev_pos hin ?_))
    by_cases hi0 : i = 0
    · subst hi0
      exact ev_neg (by omega) (Ev.bind (spec_l3Int_ev _ hx.1 hx.2) (ev_pos (by omega) (ih (0 + 1) _ (by omega) (by rw [List.length_append]; omega))))
    · refine ev_pos (by omega) (ev_pos (by omega) (Ev.bind (spec_l3Int_ev _ hx.1 hx.2) (ev_pos ?_ (ih (i + 1) _ (by omega) ?_))))
      · rw [List.length_append, hds]; simp only [List.length_cons, List.length_nil]; omega
      · rw [List.length_append, List.length_append]; simp only [List.length_cons, List.length_nil]; omega
theorem spec_show_l1 (i : Nat) (cs : List S45) (hcs : cs.length ≤ 60) (r : ByteArray) : ∀ (d j : Nat), j + d = cs.length → (i : Int) < 1000000 →
    ((∀ y ∈ cs.drop j, sokv y.f1.f0 y.f1.f1 = true) → Ev (fun k => spec_ShowPatch.l0 k ((i + 1 : Nat) : Int) c n ch) r) → (¬ (∀ y ∈ cs.drop j, sokv y.f1.f0 y.f1.f1 = true) → r = ⟨#[]⟩) →
    Ev (fun k => spec_ShowPatch.l1 k (i : Int) cs (j : Int) c n ch) r := by
  intro d
  induction d with
  | zero =>
    intro j hj hi h1 h2
    have wi : ∀ _ : Unit, wrap64 ((i : Int) + 1) = ((i + 1 : Nat) : Int) := fun _ => by rw [w64 (by omega) (by omega)]; omega
    refine ev_succ ?_
    simp only [spec_ShowPatch.l1, wi ()]
    exact ev_neg (by omega) (h1 (fun y hy => by rw [List.drop_of_length_le (by omega)] at hy; cases hy))
  | succ d ih =>
    intro j hj hi h1 h2
    have wj : ∀ _ : Unit, wrap64 ((j : Int) + 1) = ((j + 1 : Nat) : Int) := fun _ => by rw [w64 (by omega) (by omega)]; omega
    have rc : ∀ _ : Unit, rd_T45 cs (j : Int) = cs[j] := fun _ => rdc (by omega)
    rw [List.drop_eq_getElem_cons (by omega)] at h1 h2
    refine ev_succ ?_
    simp only [spec_ShowPatch.l1, wj (), rc (), spec_StyleOk_eq, Option.bind_some]
    refine ev_pos (by omega) (ev_pos (by omega) ?_)
    by_cases q : sokv cs[j].f1.f0 cs[j].f1.f1 = true
    · refine ev_pos q (ih (j + 1) (by omega) hi (fun hh => h1 (fun y hy => ?_)) (fun hh => h2 (fun hk => hh (fun y hy => hk y (List.mem_cons_of_mem _ hy)))))
      rcases List.mem_cons.mp hy with rfl | hy
      · exact q
      · exact hh y hy
    · rw [h2 (fun hk => q (hk _ List.mem_cons_self))]
      exact ev_neg q (Ev.now _)
theorem spec_show_l0 (r : ByteArray) : ∀ (d i : Nat), i + d = ch.length → ((∀ x ∈ ch.drop i, OkCh x) → Ev (fun k => (spec_l10Numbers.f k c n ch).bind fun t => spec_ShowPatch.l2 k [] t 0) r) → (¬ (∀ x ∈ ch.drop i, OkCh x) → r = ⟨#[]⟩) →
    Ev (fun k => spec_ShowPatch.l0 k (i : Int) c n ch) r := by
  intro d
  induction d with
  | zero =>
    intro i hi h1 h2
    refine ev_succ ?_
    simp only [spec_ShowPatch.l0]
    exact ev_neg (by omega) (h1 (fun x hx => by rw [List.drop_of_length_le (by omega)] at hx; cases hx))
  | succ d ih =>
    intro i hi h1 h2
    have rc : ∀ _ : Unit, rd_T40 ch (i : Int) = ch[i] := fun _ => rdch ch i (by omega)
    rw [List.drop_eq_getElem_cons (by omega)] at h1 h2
    have jt : ∀ u : List S45, Ev (fun k => spec_ShowPatch.j1 k (i : Int) u true c n ch) ⟨#[]⟩ := fun u => by
      refine ev_succ ?_
      simp only [spec_ShowPatch.j1]
      exact ev_pos (by trivial) (Ev.now _)
    refine ev_succ ?_
    simp only [spec_ShowPatch.l0, rc ()]
    refine ev_pos (by omega) (ev_pos (by omega) ?_)
    by_cases z1 : (ch[i].f2.length : Int) < 1
    · rw [h2 (fun hk => by have := (hk _ List.mem_cons_self).1; omega)]
      exact ev_pos z1 (jt _)
    refine ev_neg z1 ?_
    by_cases z2 : (ch[i].f2.length : Int) > 60
    · rw [h2 (fun hk => by have := (hk _ List.mem_cons_self).2.1; omega), decide_eq_true z2]
      exact jt _
    rw [decide_eq_false z2]
    refine ev_succ ?_
    simp only [spec_ShowPatch.j1]
    refine ev_neg (by decide) (spec_show_l1 c n ch hch i ch[i].f2 (by omega) r ch[i].f2.length 0 (by omega) (by omega) (fun hh => ?_) (fun hh => ?_))
    · rw [List.drop_zero] at hh
      refine ih (i + 1) (by omega) (fun hk => h1 (fun x hx => ?_)) (fun hk => h2 (fun hq => hk (fun x hx => hq x (List.mem_cons_of_mem _ hx))))
      rcases List.mem_cons.mp hx with rfl | hx
      · exact ⟨by omega, by omega, hh⟩
      · exact hk x hx
    · rw [List.drop_zero] at hh
      exact h2 (fun hq => hh (hq _ List.mem_cons_self).2.2)
theorem index_ev (l : List Int) (hl : l.length ≤ 200000) : ∀ (d i : Nat), i + d = l.length → ∃ b : Int, Ev (fun k => slices_IndexFunc_int64_int64_impl_Patch_numbers_lit1.l0 k l (l.length : Int) (i : Int)) b ∧ (b ≥ 0 ↔ ¬ ∀ x ∈ l.drop i, 0 ≤ x ∧ x ≤ 9999999) := by
  intro d
  induction d with
  | zero =>
    intro i hi
    refine ⟨-1, ev_succ ?_, by rw [List.drop_of_length_le (by omega)]; simp⟩
    simp only [slices_IndexFunc_int64_int64_impl_Patch_numbers_lit1.l0]
    exact ev_neg (by omega) (Ev.now _)
  | succ d ih =>
    intro i hi
    have hi' : i < l.length := by omega
    have hw : ∀ _ : Unit, wrap64 ((i : Int) + 1) = ((i + 1 : Nat) : Int) := fun _ => by rw [w64 (by omega) (by omega)]; omega
    have hrd : ∀ _ : Unit, rd l (i : Int) = l[i] := fun _ => rd_at hi'
    by_cases q : 0 ≤ l[i] ∧ l[i] ≤ 9999999
    · obtain ⟨b, e, hb⟩ := ih (i + 1) (by omega)
      refine ⟨b, ev_succ ?_, ?_⟩
      · simp only [slices_IndexFunc_int64_int64_impl_Patch_numbers_lit1.l0, impl_Patch_numbers_1.f, hw (), hrd (), impl_in_eq, Option.bind_some]
        exact ev_pos (by omega) (ev_pos (by omega) (ev_pos (by omega) (ev_neg (by simp; exact q) e)))
      · rw [hb, List.drop_eq_getElem_cons hi']
        constructor
        · intro h1 h2; exact h1 (fun x hx => h2 x (List.mem_cons_of_mem _ hx))
        · intro h1 h2
          refine h1 (fun x hx => ?_)
          rcases List.mem_cons.mp hx with rfl | hx
          · exact q
          · exact h2 x hx
    · refine ⟨(i : Int), ev_succ ?_, ?_⟩
      · simp only [slices_IndexFunc_int64_int64_impl_Patch_numbers_lit1.l0, impl_Patch_numbers_1.f, hw (), hrd (), impl_in_eq, Option.bind_some]
        exact ev_pos (by omega) (ev_pos (by omega) (ev_pos (by omega) (ev_pos (by simp; omega) (Ev.now _))))
      · rw [List.drop_eq_getElem_cons hi']
        exact ⟨fun _ h => q (h _ List.mem_cons_self), fun _ => by omega⟩
theorem contains_ev (l : List Int) (hl : l.length ≤ 200000) : ∃ b, Ev (fun k => slices_ContainsFunc_int64_int64_impl_Patch_numbers_lit1.f k l) b ∧ (b = false ↔ ∀ x ∈ l, 0 ≤ x ∧ x ≤ 9999999) := by
  obtain ⟨b, e, hb⟩ := index_ev ch hch l hl l.length 0 (by omega)
  refine ⟨decide (b ≥ 0), ?_, ?_⟩
  · unfold slices_ContainsFunc_int64_int64_impl_Patch_numbers_lit1.f slices_IndexFunc_int64_int64_impl_Patch_numbers_lit1.f
    exact Ev.bind e (Ev.now _)
  · rw [List.drop_zero] at hb
    rw [decide_eq_false_iff_not, hb, Classical.not_not]
theorem impl_nums_l1 (i : Nat) (cs : List S45) (hcs : cs.length ≤ 60) (r : List Int × Bool) : ∀ (d j : Nat) (acc : List Int), j + d = cs.length → acc.length + 5 * d < 1000000 → (i : Int) < 1000000 →
    ((∀ y ∈ cs.drop j, sokv y.f1.f0 y.f1.f1 = true) → Ev (fun k => impl_Patch_numbers.l0 k (acc ++ (cs.drop j).flatMap celln) ch (ch.length : Int) ((i + 1 : Nat) : Int)) r) → (¬ (∀ y ∈ cs.drop j, sokv y.f1.f0 y.f1.f1 = true) → r = ([], false)) →
    Ev (fun k => impl_Patch_numbers.l1 k acc ch (ch.length : Int) (i : Int) cs (cs.length : Int) (j : Int)) r := by
  intro d
  induction d with
  | zero =>
    intro j acc hj ha hi h1 h2
    have wi : ∀ _ : Unit, wrap64 ((i : Int) + 1) = ((i + 1 : Nat) : Int) := fun _ => by rw [w64 (by omega) (by omega)]; omega
    refine ev_succ ?_
    simp only [impl_Patch_numbers.l1, wi ()]
    have hd : cs.drop j = [] := List.drop_of_length_le (by omega)
    rw [hd] at h1
    have := h1 (fun y hy => by cases hy)
    rw [List.flatMap_nil, List.append_nil] at this
    exact ev_neg (by omega) this
  | succ d ih =>
    intro j acc hj ha hi h1 h2
    have wj : ∀ _ : Unit, wrap64 ((j : Int) + 1) = ((j + 1 : Nat) : Int) := fun _ => by rw [w64 (by omega) (by omega)]; omega
    have rc : ∀ _ : Unit, rd_T45 cs (j : Int) = cs[j] := fun _ => rdc (by omega)
    rw [List.drop_eq_getElem_cons (by omega)] at h1 h2
    rw [List.flatMap_cons, ← List.append_assoc] at h1
    refine ev_succ ?_
    simp only [impl_Patch_numbers.l1, wj (), rc (), impl_StyleOk_eq, impl_Style_flags.f, Option.bind_some]
    refine ev_pos (by omega) (ev_pos (by omega) (ev_pos (by omega) ?_))
    by_cases q : sokv cs[j].f1.f0 cs[j].f1.f1 = true
    · refine ev_pos q (ev_pos (by simp only [List.length_cons, List.length_nil]; omega) ?_)
      refine ih (j + 1) (acc ++ celln cs[j]) (by omega) (by rw [List.length_append]; simp only [celln, List.length_cons, List.length_nil]; omega) hi (fun hh => h1 (fun y hy => ?_)) (fun hh => h2 (fun hk => hh (fun y hy => hk y (List.mem_cons_of_mem _ hy))))
      rcases List.mem_cons.mp hy with rfl | hy
      · exact q
      · exact hh y hy
    · rw [h2 (fun hk => q (hk _ List.mem_cons_self))]
      exact ev_neg q (Ev.now _)
theorem impl_nums_l0 (r : List Int × Bool) : ∀ (d i : Nat) (acc : List Int), i + d = ch.length → acc.length + 303 * d < 500000 →
    ((∀ x ∈ ch.drop i, OkCh x) → Ev (fun k => (slices_ContainsFunc_int64_int64_impl_Patch_numbers_lit1.f k (acc ++ (ch.drop i).flatMap chn)).bind fun t => some (acc ++ (ch.drop i).flatMap chn, !t)) r) → (¬ (∀ x ∈ ch.drop i, OkCh x) → r = ([], false)) →
    Ev (fun k => impl_Patch_numbers.l0 k acc ch (ch.length : Int) (i : Int)) r := by
  intro d
  induction d with
  | zero =>
    intro i acc hi ha h1 h2
    have hd : ch.drop i = [] := List.drop_of_length_le (by omega)
    rw [hd] at h1
    have := h1 (fun y hy => by cases hy)
    rw [List.flatMap_nil, List.append_nil] at this
    refine ev_succ ?_
    simp only [impl_Patch_numbers.l0]
    exact ev_neg (by omega) this
  | succ d ih =>
    intro i acc hi ha h1 h2
    have rc : ∀ _ : Unit, rd_T40 ch (i : Int) = ch[i] := fun _ => rdch ch i (by omega)
    rw [List.drop_eq_getElem_cons (by omega)] at h1 h2
    rw [List.flatMap_cons, ← List.append_assoc] at h1
    refine ev_succ ?_
    simp only [impl_Patch_numbers.l0, rc (), impl_in_eq, Option.bind_some]
    refine ev_pos (by omega) (ev_pos (by omega) (ev_pos (by omega) ?_))
    by_cases z : (decide (1 ≤ (ch[i].f2.length : Int)) && decide ((ch[i].f2.length : Int) ≤ 60)) = true
    · refine ev_pos z (ev_pos (by simp only [List.length_cons, List.length_nil]; omega) ?_)
      simp only [Bool.and_eq_true, decide_eq_true_eq] at z
      refine impl_nums_l1 ch hch i ch[i].f2 (by omega) r ch[i].f2.length 0 _ (by omega) (by rw [List.length_append]; simp only [List.length_cons, List.length_nil]; omega) (by omega) (fun hh => ?_) (fun hh => ?_)
      · rw [List.drop_zero] at hh ⊢
        rw [List.append_assoc]
        refine ih (i + 1) (acc ++ chn ch[i]) (by omega) (by rw [List.length_append, chn_length]; omega) (fun hk => h1 (fun x hx => ?_)) (fun hk => h2 (fun hq => hk (fun x hx => hq x (List.mem_cons_of_mem _ hx))))
        rcases List.mem_cons.mp hx with rfl | hx
        · exact ⟨by omega, by omega, hh⟩
        · exact hk x hx
      · rw [List.drop_zero] at hh
        exact h2 (fun hq => hh (hq _ List.mem_cons_self).2.2)
    · rw [h2 (fun hk => z (by have := hk _ List.mem_cons_self; simp only [Bool.and_eq_true, decide_eq_true_eq]; exact ⟨by have := this.1; omega, by have := this.2.1; omega⟩))]
      exact ev_neg z (Ev.now _)
theorem impl_spaced_loop (l : List Int) (hl : l.length ≤ 200000) (hr : ∀ x ∈ l, 0 ≤ x ∧ x ≤ 9999999) : ∀ (d i : Nat), i + d = l.length →
    Ev (fun k => impl_spaced.l0 k ((l.take i).map fun x => (⟨(dig x).toArray⟩ : ByteArray)) l (l.length : Int) (i : Int)) ⟨(joined l).toArray⟩ := by
  intro d
  induction d with
  | zero =>
    intro i hi
    have hj := joined_length l hr
    have hm : ((l.map fun x => (⟨(dig x).toArray⟩ : ByteArray)).map fun x => x.data.toList) = l.map dig := by rw [List.map_map]; rfl
    have hmm : Lib.join ((l.map fun x => (⟨(dig x).toArray⟩ : ByteArray)).map fun x => x.data.toList) (⟨#[32]⟩ : ByteArray).data.toList = joined l := by rw [hm]; rfl
    refine ev_succ ?_
    simp only [impl_spaced.l0]
    rw [List.take_of_length_le (by omega)]
    refine ev_neg (by omega) (ev_bind_of (a := ⟨(joined l).toArray⟩) ?_ (Ev.now _))
    unfold strings_Join.f
    rw [hmm, if_pos ⟨by rw [List.length_map]; omega, by omega⟩]
  | succ d ih =>
    intro i hi
    have hi' : i < l.length := by omega
    have hx := hr l[i] (List.getElem_mem hi')
    have ht : l.take (i + 1) = l.take i ++ [l[i]] := List.take_succ_eq_append_getElem hi'
    have hw : ∀ _ : Unit, wrap64 ((i : Int) + 1) = ((i + 1 : Nat) : Int) := fun _ => by rw [w64 (by omega) (by omega)]; omega
    have hrd : ∀ _ : Unit, rd l (i : Int) = l[i] := fun _ => rd_at hi'
    have e := ih (i + 1) (by omega)
    rw [ht, List.map_append] at e
    refine ev_succ ?_
    simp only [impl_spaced.l0, hw (), hrd ()]
    exact ev_pos (by omega) (ev_pos (by omega) (ev_pos (by omega) (ev_bind_of (impl_decimal_eq _ hx.1 hx.2) (ev_pos (by rw [List.length_map, List.length_take]; omega) e))))
end
theorem first_bad (l : List Int) (h : ¬ ∀ x ∈ l, 0 ≤ x ∧ x ≤ 9999999) : ∃ m, ∃ hm : m < l.length, ¬ (0 ≤ l[m] ∧ l[m] ≤ 9999999) ∧ ∀ j (hj : j < m), 0 ≤ l[j]'(by omega) ∧ l[j]'(by omega) ≤ 9999999 := by
  induction l with
  | nil => exact absurd (fun x hx => by cases hx) h
  | cons a l ih =>
    by_cases q : 0 ≤ a ∧ a ≤ 9999999
    · obtain ⟨m, hm, hb, hr⟩ := ih (fun hh => h (fun x hx => by
        rcases List.mem_cons.mp hx with rfl | hx
        · exact q
        · exact hh x hx))
      refine ⟨m + 1, by simp; omega, by simpa using hb, fun j hj => ?_⟩
      cases j with
      | zero => simpa using q
      | succ j => simpa using hr j (by omega)
    · exact ⟨0, by simp, by simpa using q, fun j hj => absurd hj (by omega)⟩
/-- Both answer alike: nothing, or numbers with blanks between. -/
theorem ShowPatch_all (c n : Int) (ch : List S40) : ∃ v : ByteArray, Ev (fun k => spec_ShowPatch.f k c n ch) v ∧ Ev (fun k => impl_ShowPatch.f k c n ch) v ∧ (v = ⟨#[]⟩ ∨ ∃ l : List Int, (∀ x ∈ l, 0 ≤ x ∧ x ≤ 9999999) ∧ v = ⟨(joined l).toArray⟩) := by
  unfold spec_ShowPatch.f impl_ShowPatch.f
  by_cases h4 : (ch.length : Int) > 400
  · exact ⟨⟨#[]⟩, ev_pos h4 (Ev.now _), ev_pos h4 (Ev.now _), .inl rfl⟩
  have hch : ch.length ≤ 400 := by omega
  by_cases hok : ∀ x ∈ ch, OkCh x
  · have hw : ∀ x ∈ ch, x.f2.length ≤ 60 := fun x hx => (hok x hx).2.1
    have hnl : (nums c n ch).length ≤ 200000 := by
      unfold nums
      rw [List.length_append]
      have := chns_length ch hw
      simp only [List.length_cons, List.length_nil]; omega
    obtain ⟨b, eb, hb⟩ := contains_ev ch hch (nums c n ch) hnl
    have en := spec_l10Numbers_ev c n ch hch hw
    have ei : ∀ r, r = (nums c n ch, !b) → Ev (fun k => impl_Patch_numbers.f k c n ch) r := fun r hr => by
      unfold impl_Patch_numbers.f
      refine impl_nums_l0 ch hch r ch.length 0 [c, n] (by omega) (by simp only [List.length_cons, List.length_nil]; omega) (fun _ => ?_) (fun hh => absurd (by rw [List.drop_zero]; exact hok) hh)
      rw [List.drop_zero, hr]
      exact Ev.bind eb (Ev.now _)
    by_cases hr : ∀ x ∈ nums c n ch, 0 ≤ x ∧ x ≤ 9999999
    · refine ⟨⟨(joined (nums c n ch)).toArray⟩, ev_neg h4 ?_, ev_neg h4 ?_, .inr ⟨_, hr, rfl⟩⟩
      · refine spec_show_l0 c n ch hch _ ch.length 0 (by omega) (fun _ => Ev.bind en ?_) (fun hh => absurd (by rw [List.drop_zero]; exact hok) hh)
        exact spec_show_l2 ch hch (nums c n ch) hnl hr (nums c n ch).length 0 (by omega)
      · refine Ev.bind (ei _ rfl) (ev_pos (by rw [hb.mpr hr]; rfl) (Ev.bind ?_ (Ev.now _)))
        unfold impl_spaced.f
        exact impl_spaced_loop ch hch (nums c n ch) hnl hr (nums c n ch).length 0 (by omega)
    · obtain ⟨m, hm, hbm, hrm⟩ := first_bad _ hr
      have hbt : b = true := by
        cases b with
        | true => rfl
        | false => exact absurd (hb.mp rfl) hr
      refine ⟨⟨#[]⟩, ev_neg h4 ?_, ev_neg h4 ?_, .inl rfl⟩
      · refine spec_show_l0 c n ch hch _ ch.length 0 (by omega) (fun _ => Ev.bind en ?_) (fun hh => absurd (by rw [List.drop_zero]; exact hok) hh)
        exact spec_show_bad ch hch (nums c n ch) hnl m hm hbm hrm m 0 [] (by omega) (by simp)
      · exact Ev.bind (ei _ rfl) (ev_neg (by rw [hbt]; simp) (Ev.now _))
  · refine ⟨⟨#[]⟩, ev_neg h4 ?_, ev_neg h4 ?_, .inl rfl⟩
    · exact spec_show_l0 c n ch hch _ ch.length 0 (by omega) (fun hh => absurd (by rw [List.drop_zero] at hh; exact hh) hok) (fun _ => rfl)
    · refine Ev.bind (a := ([], false)) ?_ (ev_neg (by decide) (Ev.now _))
      unfold impl_Patch_numbers.f
      exact impl_nums_l0 ch hch _ ch.length 0 [c, n] (by omega) (by simp only [List.length_cons, List.length_nil]; omega) (fun hh => absurd (by rw [List.drop_zero] at hh; exact hh) hok) (fun _ => rfl)
/-- Both answer alike. -/
theorem ShowPatch_both (c n : Int) (ch : List S40) : ∃ v, Ev (fun k => spec_ShowPatch.f k c n ch) v ∧ Ev (fun k => impl_ShowPatch.f k c n ch) v := by
  obtain ⟨v, e1, e2, _⟩ := ShowPatch_all c n ch
  exact ⟨v, e1, e2⟩

theorem bt_here (s : ByteArray) (i : Nat) (h : i < s.data.toList.length) : bt s (i : Int) = ((s.data.toList[i]).toNat : Int) := by
  have hs : i < s.size := by rw [Array.length_toList] at h; exact h
  unfold bt
  have e : (i : Int).toNat = i := Int.toNat_natCast i
  rw [dif_pos (by rw [e]; exact hs)]
  have : ∀ j (hj : j < s.size), j = i → ((s[j]).toNat : Int) = ((s.data.toList[i]).toNat : Int) := fun j hj e => by subst e; rw [Array.getElem_toList]; rfl
  exact this _ _ e
def isd (b : UInt8) : Prop := 48 ≤ b.toNat ∧ b.toNat ≤ 57
def valn (a : Nat) : List UInt8 → Nat
  | [] => a
  | b :: l => valn (a * 10 + (b.toNat - 48)) l
theorem valn_append (l m : List UInt8) : ∀ a, valn a (l ++ m) = valn (valn a l) m := by
  induction l with
  | nil => intro a; rfl
  | cons b l ih => intro a; exact ih _
theorem valn_lt (l : List UInt8) : ∀ a, (∀ b ∈ l, isd b) → valn a l < (a + 1) * 10 ^ l.length := by
  induction l with
  | nil => intro a _; show a < (a + 1) * 1; omega
  | cons b l ih =>
    intro a h
    have h1 := h b (by simp)
    have h0 : a * 10 + (b.toNat - 48) + 1 ≤ (a + 1) * 10 := by unfold isd at h1; omega
    have h2 := ih (a * 10 + (b.toNat - 48)) (fun x hx => h x (by simp [hx]))
    have h3 : (a * 10 + (b.toNat - 48) + 1) * 10 ^ l.length ≤ ((a + 1) * 10) * 10 ^ l.length := Nat.mul_le_mul_right (10 ^ l.length) h0
    rw [List.length_cons, Nat.pow_succ]
    have h4 : (a + 1) * (10 ^ l.length * 10) = ((a + 1) * 10) * 10 ^ l.length := by rw [Nat.mul_assoc, Nat.mul_comm 10]
    rw [h4, show valn a (b :: l) = valn (a * 10 + (b.toNat - 48)) l from rfl]
    exact Nat.lt_of_lt_of_le h2 h3
theorem valn_ge (l : List UInt8) : ∀ a, a ≤ valn a l := by
  induction l with
  | nil => intro a; exact Nat.le_refl _
  | cons b l ih => intro a; exact Nat.le_trans (by omega) (ih (a * 10 + (b.toNat - 48)))
theorem dg_toNat {n : Nat} (h : n < 10) : (UInt8.ofNat (48 + n)).toNat = 48 + n := by
  rw [UInt8.toNat_ofNat']; omega
theorem dec_facts (n : Nat) : (∀ b ∈ Lib.decDigits n, isd b) ∧ valn 0 (Lib.decDigits n) = n ∧ ∃ b l, Lib.decDigits n = b :: l ∧ (b.toNat = 48 → n = 0) := by
  induction n using Nat.strongRecOn with
  | _ n ih =>
    by_cases h : n < 10
    · have e := dg_toNat h
      rw [Lib.decDigits_one h]
      refine ⟨fun b hb => ?_, ?_, _, _, rfl, fun hb => by omega⟩
      · rw [List.mem_singleton] at hb; subst hb; unfold isd; omega
      · show 0 * 10 + ((UInt8.ofNat (48 + n)).toNat - 48) = n
        omega
    · obtain ⟨h1, h2, b, l, h3, h4⟩ := ih (n / 10) (by omega)
      have e := dg_toNat (show n % 10 < 10 by omega)
      rw [Lib.decDigits, dif_neg h]
      refine ⟨fun x hx => ?_, ?_, b, l ++ [UInt8.ofNat (48 + n % 10)], by rw [h3]; rfl, fun hb => by have := h4 hb; omega⟩
      · rcases List.mem_append.mp hx with hx | hx
        · exact h1 x hx
        · rw [List.mem_singleton] at hx; subst hx; unfold isd; omega
      · rw [valn_append, h2]
        show n / 10 * 10 + ((UInt8.ofNat (48 + n % 10)).toNat - 48) = n
        omega
theorem dec_of (m : List UInt8) : ∀ l : List UInt8, l = m.reverse → (∀ b ∈ l, isd b) → ∀ b r, l = b :: r → (b.toNat ≠ 48 ∨ r = []) → Lib.decDigits (valn 0 l) = l := by
  induction m with
  | nil => intro l e _ b r hl _; rw [hl] at e; cases e
  | cons d m ih =>
    intro l e hd b r hl hb
    rw [List.reverse_cons] at e
    have hdd : isd d := hd d (by rw [e]; simp)
    have hof : UInt8.ofNat (48 + (d.toNat - 48)) = d := by
      unfold isd at hdd
      rw [show 48 + (d.toNat - 48) = d.toNat by omega]
      exact UInt8.ofNat_toNat
    unfold isd at hdd
    cases hm : m.reverse with
    | nil =>
      rw [hm] at e
      rw [e]
      show Lib.decDigits (0 * 10 + (d.toNat - 48)) = [d]
      rw [Lib.decDigits_one (by omega), show 0 * 10 + (d.toNat - 48) = d.toNat - 48 by omega, hof]
    | cons x y =>
      rw [hm] at e
      have hxb : x = b ∧ r = y ++ [d] := by
        rw [e] at hl
        injection hl with q1 q2
        exact ⟨q1, q2.symm⟩
      have hb' : x.toNat ≠ 48 := by
        rcases hb with hb | hb
        · rw [hxb.1]; exact hb
        · rw [hxb.2] at hb; simp at hb
      have hx := hd x (by rw [e]; simp)
      unfold isd at hx
      have i1 := ih (x :: y) hm.symm (fun z hz => hd z (by rw [e]; exact List.mem_append_left _ hz)) x y rfl (.inl hb')
      have hv : 1 ≤ valn 0 (x :: y) := Nat.le_trans (show 1 ≤ 0 * 10 + (x.toNat - 48) by omega) (valn_ge y _)
      have hval : valn 0 l = valn 0 (x :: y) * 10 + (d.toNat - 48) := by rw [e, valn_append]; rfl
      rw [hval, Lib.decDigits, dif_neg (by omega), show (valn 0 (x :: y) * 10 + (d.toNat - 48)) / 10 = valn 0 (x :: y) by omega, show (valn 0 (x :: y) * 10 + (d.toNat - 48)) % 10 = d.toNat - 48 by omega, i1, hof, e]
/-- A numeral's digits. -/
def dsv (s : List UInt8) : List UInt8 := Lib.trimPrefix s [45]
theorem dsv_nil : dsv [] = [] := rfl
theorem dsv_neg (r : List UInt8) : dsv (45 :: r) = r := by
  unfold dsv Lib.trimPrefix Lib.hasPrefix
  simp [List.isPrefixOf]
theorem dsv_pos (c : UInt8) (r : List UInt8) (h : c ≠ 45) : dsv (c :: r) = c :: r := by
  unfold dsv Lib.trimPrefix Lib.hasPrefix
  have : ((45 : UInt8) == c) = false := beq_eq_false_iff_ne.mpr (fun e => h e.symm)
  simp [List.isPrefixOf, this]
/-- A word is a number. -/
def GoodW (s : List UInt8) : Prop := 1 ≤ (dsv s).length ∧ (dsv s).length ≤ 9 ∧ (∀ b ∈ dsv s, isd b) ∧ ¬ ((dsv s).head? = some 48 ∧ (s.head? = some 45 ∨ 1 < s.length))
/-- The number. -/
def numW (s : List UInt8) : Int := if s.head? = some 45 then -(valn 0 (dsv s) : Int) else (valn 0 (dsv s) : Int)
theorem pow9 : ∀ n : Nat, n ≤ 9 → 10 ^ n ≤ 1000000000 := fun n h => Nat.le_trans (Nat.pow_le_pow_right (by omega) h) (by decide)
theorem good_lt {s : List UInt8} (h : GoodW s) : valn 0 (dsv s) < 1000000000 := by
  have := valn_lt (dsv s) 0 h.2.2.1
  have h2 := pow9 _ h.2.1
  omega
theorem numW_bound {s : List UInt8} (h : GoodW s) : -1000000000 < numW s ∧ numW s < 1000000000 := by
  have := good_lt h
  unfold numW
  split <;> omega
theorem parseU_ok (M : Nat) (hM : 10000000000 ≤ M) (l : List UInt8) : ∀ a, (∀ b ∈ l, isd b) → (a + 1) * 10 ^ l.length ≤ 10000000000 → Lib.parseUintM M a l = .ok (valn a l) := by
  induction l with
  | nil => intro a _ _; rfl
  | cons b l ih =>
    intro a h hp
    have h1 := h b (by simp)
    have h1' := h1
    unfold isd at h1'
    have hp2 : (a + 1) * 10 * 10 ^ l.length ≤ 10000000000 := by
      rw [List.length_cons, Nat.pow_succ, Nat.mul_comm (10 ^ l.length), ← Nat.mul_assoc] at hp; exact hp
    have hpos : 1 ≤ 10 ^ l.length := Nat.one_le_pow _ _ (by omega)
    have hp3 : (a + 1) * 10 ≤ 10000000000 := Nat.le_trans (Nat.le_mul_of_pos_right _ (by omega)) hp2
    have hp4 : (a * 10 + (b.toNat - 48) + 1) * 10 ^ l.length ≤ 10000000000 := Nat.le_trans (Nat.mul_le_mul_right _ (by omega)) hp2
    unfold Lib.parseUintM
    rw [if_pos h1', if_neg (by omega), if_neg (by omega)]
    exact ih _ (fun x hx => h x (by simp [hx])) hp4
theorem dec_ne45 (n : Nat) (r : List UInt8) : Lib.decDigits n ≠ 45 :: r := fun e => by
  have := (dec_facts n).1 45 (by rw [e]; simp)
  unfold isd at this
  exact absurd this.1 (by decide)
theorem itoa_good (v : Int) (s : List UInt8) (h : Lib.itoa v = s) (h9 : (dsv s).length ≤ 9) : GoodW s := by
  subst h
  unfold Lib.itoa at h9 ⊢
  by_cases hv : v < 0
  · rw [if_pos hv] at h9 ⊢
    obtain ⟨f1, f2, b, l, f3, f4⟩ := dec_facts v.natAbs
    unfold GoodW
    rw [dsv_neg] at h9 ⊢
    refine ⟨by rw [f3]; simp, h9, f1, fun hh => ?_⟩
    rw [f3] at hh
    have hb : b = 48 := by simpa using hh.1
    have := f4 (by rw [hb]; rfl)
    omega
  · rw [if_neg hv] at h9 ⊢
    obtain ⟨f1, f2, b, l, f3, f4⟩ := dec_facts v.toNat
    have hb45 : b ≠ 45 := fun e => dec_ne45 v.toNat l (by rw [f3, e])
    unfold GoodW
    rw [f3, dsv_pos b l hb45] at h9 ⊢
    rw [f3] at f1
    refine ⟨by simp, h9, f1, fun hh => ?_⟩
    have hb : b = 48 := by simpa using hh.1
    have hz := f4 (by rw [hb]; rfl)
    rw [hz, Lib.decDigits_one (by omega)] at f3
    injection f3 with g1 g2
    rcases hh.2 with q | q
    · have : b = 45 := by simpa using q
      exact hb45 this
    · rw [← g2] at q; simp at q
theorem good_itoa {s : List UInt8} (h : GoodW s) : Lib.itoa (numW s) = s ∧ Lib.parseIntB 64 s = .ok (numW s) := by
  have hlt := good_lt h
  obtain ⟨h1, h9, hd, hz⟩ := h
  cases s with
  | nil => simp [dsv_nil] at h1
  | cons c r =>
    have hM : 10000000000 ≤ 2 ^ 64 - 1 := by decide
    by_cases hc : c = 45
    · subst hc
      have hn : numW (45 :: r) = -(valn 0 r : Int) := by unfold numW; rw [dsv_neg]; rfl
      rw [dsv_neg] at h1 h9 hd hz hlt
      cases hr : r with
      | nil => rw [hr] at h1; simp at h1
      | cons b l =>
        have hb : b.toNat ≠ 48 := fun e => hz ⟨by rw [hr]; show some b = _; rw [← UInt8.ofNat_toNat (x := b), e]; rfl, .inl rfl⟩
        have hv : 1 ≤ valn 0 r := by
          have hbd := hd b (by rw [hr]; simp)
          unfold isd at hbd
          rw [hr]
          exact Nat.le_trans (show 1 ≤ 0 * 10 + (b.toNat - 48) by omega) (valn_ge l _)
        rw [← hr, hn]
        refine ⟨?_, ?_⟩
        · rw [Lib.itoa_neg _ hv, dec_of r.reverse r (by simp) hd b l hr (.inl hb)]
        · unfold Lib.parseIntB
          have e1 : Lib.parseUintB 64 r = .ok (valn 0 r) := by
            unfold Lib.parseUintB
            rw [if_neg (by rw [hr]; simp)]
            exact parseU_ok _ hM r 0 hd (by have := pow9 _ h9; omega)
          dsimp only
          rw [show (if (45 : UInt8).toNat = 43 ∨ (45 : UInt8).toNat = 45 then r else 45 :: r) = r from rfl, e1]
          dsimp only
          rw [if_neg (by rintro ⟨x, _⟩; exact x rfl), if_neg (by rintro ⟨_, x⟩; omega), if_pos (show (45 : UInt8).toNat = 45 from rfl)]
    · have hn : numW (c :: r) = (valn 0 (c :: r) : Int) := by
        unfold numW
        rw [dsv_pos c r hc, if_neg (by simpa using hc)]
      rw [dsv_pos c r hc] at h1 h9 hd hz hlt
      have hcd := hd c (by simp)
      unfold isd at hcd
      have hb : c.toNat ≠ 48 ∨ r = [] := by
        by_cases e : c.toNat = 48
        · refine .inr (Classical.byContradiction fun q => hz ⟨by show some c = _; rw [← UInt8.ofNat_toNat (x := c), e]; rfl, .inr ?_⟩)
          cases r with
          | nil => exact absurd rfl q
          | cons y z => simp
        · exact .inl e
      rw [hn]
      refine ⟨?_, ?_⟩
      · rw [Lib.itoa_nonneg, dec_of (c :: r).reverse (c :: r) (by simp) hd c r rfl hb]
      · unfold Lib.parseIntB
        have e1 : Lib.parseUintB 64 (c :: r) = .ok (valn 0 (c :: r)) := by
          unfold Lib.parseUintB
          rw [if_neg (by simp)]
          exact parseU_ok _ hM (c :: r) 0 hd (by have := pow9 _ h9; omega)
        have hc45 : c.toNat ≠ 45 := by omega
        dsimp only
        rw [show (if c.toNat = 43 ∨ c.toNat = 45 then r else c :: r) = c :: r from if_neg (by omega), e1]
        dsimp only
        rw [if_neg (by rintro ⟨_, x⟩; omega), if_neg (by rintro ⟨x, _⟩; exact hc45 x), if_neg hc45]
/-- numberOf. -/
theorem numberOf_ok (w : ByteArray) (hw : w.size ≤ 1048576) : ∃ v b, impl_numberOf.f w = some (v, b) ∧ (b = true ↔ GoodW w.data.toList) ∧ (b = true → v = numW w.data.toList) := by
  unfold impl_numberOf.f
  rw [if_pos (by omega)]
  by_cases hg : GoodW w.data.toList
  · obtain ⟨e1, e2⟩ := good_itoa hg
    have hb := numW_bound hg
    rw [e2]
    refine ⟨numW w.data.toList, true, ?_, ⟨fun _ => hg, fun _ => rfl⟩, fun _ => rfl⟩
    have hd : impl_decimal.f (numW w.data.toList) = some w := by
      unfold impl_decimal.f strconv_FormatInt_49.f
      rw [if_pos ⟨⟨by omega, by omega⟩, rfl⟩, e1]
      show some _ = some w
      exact congrArg some (sh_ext (by simp))
    show ((impl_decimal.f (numW w.data.toList)).bind _) = _
    rw [hd]
    show (if w.toList = w.toList then _ else _) = _
    rw [if_pos rfl, if_pos (show (Lib.trimPrefix w.data.toList [45]).length ≤ 9 from hg.2.1)]
  · cases hp : Lib.parseIntB 64 w.data.toList
    rotate_left
    · exact ⟨0, false, rfl, ⟨fun x => (by cases x), fun x => absurd x hg⟩, fun x => (by cases x)⟩
    · exact ⟨_, false, rfl, ⟨fun x => (by cases x), fun x => absurd x hg⟩, fun x => (by cases x)⟩
    · rename_i v
      refine ⟨v, false, ?_, ⟨fun x => (by cases x), fun x => absurd x hg⟩, fun x => (by cases x)⟩
      show ((impl_decimal.f v).bind _) = _
      have hv : -9223372036854775808 ≤ v ∧ v ≤ 9223372036854775807 := by
        unfold Lib.parseIntB at hp
        split at hp
        · cases hp
        · split at hp
          · cases hp
          · cases hp
          · dsimp only at hp
            split at hp
            · cases hp
            · split at hp
              · cases hp
              · injection hp with hp
                subst hp
                split <;> omega
      have hd : impl_decimal.f v = some ⟨(Lib.itoa v).toArray⟩ := by
        unfold impl_decimal.f strconv_FormatInt_49.f
        rw [if_pos ⟨hv, rfl⟩]; rfl
      rw [hd]
      show (if (⟨(Lib.itoa v).toArray⟩ : ByteArray).toList = w.toList then _ else _) = _
      by_cases q : (⟨(Lib.itoa v).toArray⟩ : ByteArray).toList = w.toList
      · rw [if_pos q]
        rw [Lib.toList_data, Lib.toList_data] at q
        by_cases q2 : (Lib.trimPrefix w.data.toList [45]).length ≤ 9
        · exact absurd (itoa_good v _ (by simpa using q) q2) hg
        · rw [if_neg q2]
      · rw [if_neg q]

section
variable (s : ByteArray) (p : Nat) (neg : Bool) (hp : p < s.data.toList.length) (h9 : s.data.toList.length - p ≤ 9) (hl : s.data.toList.length ≤ 1048576)
include h9 hl
def badHead : Prop := (s.data.toList[p]).toNat = 48 ∧ (neg = true ∨ 1 < s.data.toList.length)
theorem num_l0 (r : Int × Bool) (hv : (∀ b ∈ s.data.toList.drop p, isd b) → ¬ badHead s p neg hp → r = (if neg = true then -(valn 0 (s.data.toList.drop p) : Int) else (valn 0 (s.data.toList.drop p) : Int), true))
    (hn : ¬ ((∀ b ∈ s.data.toList.drop p, isd b) ∧ ¬ badHead s p neg hp) → r = (0, false)) : ∀ (d j : Nat), p + j + d = s.data.toList.length → (∀ b ∈ (s.data.toList.drop p).take j, isd b) →
    Ev (fun k => spec_l10Number.l0 k s (p : Int) neg ((valn 0 ((s.data.toList.drop p).take j) : Nat) : Int) ((p + j : Nat) : Int)) r := by
  have hsz := sh_size s
  intro d
  induction d with
  | zero =>
    intro j hj hd
    have hall : (s.data.toList.drop p).take j = s.data.toList.drop p := List.take_of_length_le (by rw [List.length_drop]; omega)
    rw [hall] at hd ⊢
    have hlt := valn_lt _ 0 hd
    have h10 := pow9 (s.data.toList.drop p).length (by rw [List.length_drop]; exact h9)
    have hb := bt_here s p hp
    have hw : ∀ _ : Unit, wrap64 (-((valn 0 (s.data.toList.drop p) : Nat) : Int)) = -((valn 0 (s.data.toList.drop p) : Nat) : Int) := fun _ => w64 (by omega) (by omega)
    clear hlt h10
    have j4t : Ev (fun k => spec_l10Number.j4 k neg ((valn 0 (s.data.toList.drop p) : Nat) : Int) true) (0, false) := ev_succ (by simp only [spec_l10Number.j4]; exact ev_pos (by trivial) (Ev.now _))
    have j4f : ¬ badHead s p neg hp → Ev (fun k => spec_l10Number.j4 k neg ((valn 0 (s.data.toList.drop p) : Nat) : Int) false) r := fun hh => by
      rw [hv hd hh]
      refine ev_succ ?_
      simp only [spec_l10Number.j4, hw ()]
      refine ev_neg (by decide) ?_
      cases neg with
      | true => exact ev_pos rfl (Ev.now _)
      | false => exact ev_neg (by decide) (Ev.now _)
    refine ev_succ ?_
    simp only [spec_l10Number.l0, hb]
    refine ev_neg (by omega) (ev_pos (by omega) (ev_pos (by omega) ?_))
    by_cases q : (s.data.toList[p]).toNat = 48
    · refine ev_pos (by omega) ?_
      by_cases hneg : neg = true
      · rw [hn (fun x => x.2 ⟨q, .inl hneg⟩)]
        exact ev_pos hneg j4t
      · refine ev_neg hneg ?_
        by_cases q2 : 1 < s.data.toList.length
        · rw [hn (fun x => x.2 ⟨q, .inr q2⟩), decide_eq_true (by omega)]
          exact j4t
        · rw [decide_eq_false (by omega)]
          exact j4f (fun x => by rcases x.2 with y | y; exact hneg y; exact q2 y)
    · exact ev_neg (by omega) (j4f (fun x => q x.1))
  | succ d ih =>
    intro j hj hd
    have hi : p + j < s.data.toList.length := by omega
    have hb := bt_here s (p + j) hi
    have hmem : s.data.toList[p + j] ∈ s.data.toList.drop p := List.mem_iff_getElem.mpr ⟨j, by rw [List.length_drop]; omega, by rw [List.getElem_drop]⟩
    obtain ⟨b, hbe⟩ : ∃ b, b = s.data.toList[p + j] := ⟨_, rfl⟩
    rw [← hbe] at hb hmem
    have ht : (s.data.toList.drop p).take (j + 1) = (s.data.toList.drop p).take j ++ [b] := by
      rw [List.take_succ_eq_append_getElem (by rw [List.length_drop]; omega), List.getElem_drop, hbe]
    have hlt := valn_lt _ 0 hd
    have h10 := pow9 ((s.data.toList.drop p).take j).length (by rw [List.length_take, List.length_drop]; omega)
    obtain ⟨a, ha⟩ : ∃ a, a = valn 0 ((s.data.toList.drop p).take j) := ⟨_, rfl⟩
    have hab : a < 1000000000 := by rw [ha]; omega
    clear hlt h10
    refine ev_succ ?_
    simp only [spec_l10Number.l0, hb]
    refine ev_pos (by omega) (ev_pos (by omega) ?_)
    by_cases q1 : ((b.toNat : Nat) : Int) < 48
    · rw [hn (fun x => by have := x.1 b hmem; unfold isd at this; omega)]
      exact ev_pos q1 (Ev.now _)
    by_cases q2 : ((b.toNat : Nat) : Int) > 57
    · rw [hn (fun x => by have := x.1 b hmem; unfold isd at this; omega)]
      exact ev_neg q1 (ev_pos q2 (Ev.now _))
    refine ev_neg q1 (ev_neg q2 ?_)
    rw [← ha, w64 (x := (a : Int) * 10) (by omega) (by omega), w64 (x := (a : Int) * 10 + _) (by omega) (by omega), w64 (x := ((p + j : Nat) : Int) + 1) (by omega) (by omega)]
    have e := ih (j + 1) (by omega) (fun x hx => by
      rw [ht] at hx
      rcases List.mem_append.mp hx with hx | hx
      · exact hd x hx
      · rw [List.mem_singleton] at hx; subst hx; unfold isd; omega)
    rw [ht, valn_append, ← ha, show valn a [b] = a * 10 + (b.toNat - 48) from rfl] at e
    rw [show ((a : Int) * 10 + (((b.toNat : Nat) : Int) - 48) % 256) = ((a * 10 + (b.toNat - 48) : Nat) : Int) by omega, show ((p + j : Nat) : Int) + 1 = ((p + (j + 1) : Nat) : Int) by omega]
    exact e
end
theorem num_j1 (s : ByteArray) (p : Nat) (neg : Bool) (hp : p ≤ s.data.toList.length) (hl : s.data.toList.length ≤ 1048576) (hds : dsv s.data.toList = s.data.toList.drop p) (hneg : s.data.toList.head? = some 45 ↔ neg = true) (r : Int × Bool)
    (hv : GoodW s.data.toList → r = (numW s.data.toList, true)) (hn : ¬ GoodW s.data.toList → r = (0, false)) : Ev (fun k => spec_l10Number.j1 k s (p : Int) neg) r := by
  have hsz := sh_size s
  have hw : ∀ _ : Unit, wrap64 ((s.size : Int) - (p : Int)) = ((s.size - p : Nat) : Int) := fun _ => by rw [w64 (by omega) (by omega)]; omega
  have hdl : (dsv s.data.toList).length = s.size - p := by rw [hds, List.length_drop, hsz]
  have j2t : Ev (fun k => spec_l10Number.j2 k s (p : Int) neg 0 true) (0, false) := ev_succ (by simp only [spec_l10Number.j2]; exact ev_pos (by trivial) (Ev.now _))
  refine ev_succ ?_
  simp only [spec_l10Number.j1, hw ()]
  by_cases q : s.size - p < 1
  · rw [hn (fun x => by have := x.1; omega)]
    exact ev_pos (by omega) j2t
  refine ev_neg (by omega) ?_
  by_cases q9 : s.size - p ≤ 9
  · rw [decide_eq_false (by omega)]
    refine ev_succ ?_
    simp only [spec_l10Number.j2]
    refine ev_neg (by decide) ?_
    have hp' : p < s.data.toList.length := by omega
    have hh : (dsv s.data.toList).head? = some s.data.toList[p] := by rw [hds, List.head?_drop, List.getElem?_eq_getElem hp']
    have key : GoodW s.data.toList ↔ (∀ b ∈ s.data.toList.drop p, isd b) ∧ ¬ badHead s p neg hp' := by
      unfold GoodW badHead
      rw [hh, hneg, hds] at *
      have h48 : (some s.data.toList[p] = some (48 : UInt8)) ↔ (s.data.toList[p]).toNat = 48 := by
        constructor
        · intro e; injection e with e; rw [e]; rfl
        · intro e; rw [← UInt8.ofNat_toNat (x := s.data.toList[p]), e]; rfl
      rw [h48]
      constructor
      · rintro ⟨_, _, x, y⟩; exact ⟨x, y⟩
      · rintro ⟨x, y⟩; exact ⟨by omega, by omega, x, y⟩
    refine num_l0 s p neg hp' (by omega) hl r (fun h1 h2 => ?_) (fun h1 => hn (fun x => h1 (key.mp x))) (s.data.toList.length - p) 0 (by omega) (fun b hb => by simp at hb)
    rw [hv (key.mpr ⟨h1, h2⟩)]
    unfold numW
    rw [hds]
    by_cases z : neg = true
    · rw [if_pos (hneg.mpr z), if_pos z]
    · rw [if_neg (fun x => z (hneg.mp x)), if_neg z]
  · rw [hn (fun x => by have := x.2.1; omega), decide_eq_true (by omega)]
    exact j2t
theorem spec_l10Number_ev (s : ByteArray) (hl : s.size ≤ 1048576) (r : Int × Bool)
    (hv : GoodW s.data.toList → r = (numW s.data.toList, true)) (hn : ¬ GoodW s.data.toList → r = (0, false)) : Ev (fun k => spec_l10Number.f k s) r := by
  have hsz := sh_size s
  unfold spec_l10Number.f
  rw [Lib.toList_data]
  cases hL : s.data.toList with
  | nil =>
    refine ev_pos rfl (ev_succ ?_)
    simp only [spec_l10Number.j0]
    refine ev_neg (by decide) ?_
    exact num_j1 s 0 false (Nat.zero_le _) (by omega) (by rw [hL]; rfl) (by rw [hL]; simp) r hv hn
  | cons c t =>
    have hb := bt_here s 0 (by rw [hL]; simp)
    have hb2 : bt s 0 = ((c.toNat : Nat) : Int) := by
      rw [show (0 : Int) = ((0 : Nat) : Int) from rfl, hb]
      simp only [hL, List.getElem_cons_zero]
    refine ev_neg (by simp) (ev_pos (by rw [hsz, hL, List.length_cons]; omega) (ev_succ ?_))
    simp only [spec_l10Number.j0, hb2]
    by_cases q : c = 45
    · subst q
      refine ev_pos (by rfl) ?_
      exact num_j1 s 1 true (by rw [hL]; simp) (by omega) (by rw [hL, dsv_neg]; rfl) (by rw [hL]; simp) r hv hn
    · have q' : c.toNat ≠ 45 := fun e => q (by rw [← UInt8.ofNat_toNat (x := c), e]; rfl)
      refine ev_neg (by simp; omega) ?_
      exact num_j1 s 0 false (Nat.zero_le _) (by omega) (by rw [hL, dsv_pos c t q]; rfl) (by rw [hL]; simpa using q) r hv hn

/-- A text's words: what stands between blanks; cur: what has been read of the first. -/
def wd (cur : List UInt8) : List UInt8 → List (List UInt8)
  | [] => [cur]
  | c :: r => if c = 32 then cur :: wd [] r else wd (cur ++ [c]) r
theorem wd_blank (cur r : List UInt8) : wd cur (32 :: r) = cur :: wd [] r := by
  show (if (32 : UInt8) = 32 then _ else _) = _
  rw [if_pos rfl]
theorem wd_more (cur r : List UInt8) (c : UInt8) (h : c ≠ 32) : wd cur (c :: r) = wd (cur ++ [c]) r := by
  show (if c = 32 then _ else _) = _
  rw [if_neg h]
theorem wd_mem (l : List UInt8) : ∀ cur w, w ∈ wd cur l → w.length ≤ cur.length + l.length ∧ ∀ b ∈ w, b ∈ cur ∨ b ∈ l := by
  induction l with
  | nil =>
    intro cur w hw
    have : w = cur := by simpa [wd] using hw
    subst this
    exact ⟨by simp, fun b hb => .inl hb⟩
  | cons c r ih =>
    intro cur w hw
    by_cases h : c = 32
    · subst h
      rw [wd_blank] at hw
      rcases List.mem_cons.mp hw with rfl | hw
      · exact ⟨by simp, fun b hb => .inl hb⟩
      · have := ih [] w hw
        refine ⟨by have := this.1; simp at this ⊢; omega, fun b hb => ?_⟩
        rcases this.2 b hb with q | q
        · cases q
        · exact .inr (List.mem_cons_of_mem _ q)
    · rw [wd_more cur r c h] at hw
      have := ih (cur ++ [c]) w hw
      refine ⟨by have := this.1; simp at this ⊢; omega, fun b hb => ?_⟩
      rcases this.2 b hb with q | q
      · rcases List.mem_append.mp q with q | q
        · exact .inl q
        · rw [List.mem_singleton] at q; subst q; exact .inr (by simp)
      · exact .inr (List.mem_cons_of_mem _ q)
theorem wd_length (l : List UInt8) : ∀ cur, (wd cur l).length ≤ l.length + 1 := by
  induction l with
  | nil => intro cur; simp [wd]
  | cons c r ih =>
    intro cur
    by_cases h : c = 32
    · subst h; rw [wd_blank]; have := ih []; simp; omega
    · rw [wd_more cur r c h]; have := ih (cur ++ [c]); simp; omega
theorem ix_at (cur r : List UInt8) (h : ∀ b ∈ cur, b ≠ 32) : Lib.index (cur ++ 32 :: r) [32] = (cur.length : Int) := by
  induction cur with
  | nil =>
    show Lib.index (32 :: r) [32] = 0
    rw [Lib.index]; simp [List.isPrefixOf]
  | cons b l ih =>
    have e := ih (fun x hx => h x (by simp [hx]))
    have hb := h b (by simp)
    have hp : ([32] : List UInt8).isPrefixOf (b :: (l ++ 32 :: r)) = false := by simp [List.isPrefixOf]; exact fun q => hb q.symm
    rw [List.cons_append, Lib.index, hp, e]
    have : ((l.length : Int) == -1) = false := beq_eq_false_iff_ne.mpr (by omega)
    simp [this]
theorem split_go (s : List UInt8) : ∀ cur, (∀ b ∈ cur, b ≠ 32) → Lib.splitK [32] 0 (Lib.count s [32]) (cur ++ s) = wd cur s := by
  induction s with
  | nil =>
    intro cur h
    rw [Lib.count_one]
    show Lib.splitK [32] 0 0 (cur ++ []) = [cur]
    rw [List.append_nil]; rfl
  | cons c r ih =>
    intro cur h
    by_cases hc : c = 32
    · subst hc
      rw [Lib.count_cons_eq, wd_blank, Nat.add_comm 1, Lib.splitK, ix_at cur r h]
      have : ((cur.length : Int) == -1) = false := beq_eq_false_iff_ne.mpr (by omega)
      rw [this, if_neg (by decide), Int.toNat_natCast, Nat.add_zero, List.take_left]
      have e := ih [] (by simp)
      rw [List.nil_append] at e
      have hd : (cur ++ 32 :: r).drop (cur.length + [(32 : UInt8)].length) = r := by
        rw [show cur ++ 32 :: r = (cur ++ [32]) ++ r by simp, show cur.length + [(32 : UInt8)].length = (cur ++ [(32 : UInt8)]).length by simp, List.drop_left]
      rw [hd, e]
    · rw [Lib.count_cons_ne _ _ _ hc, wd_more cur r c hc, ← ih (cur ++ [c]) (fun b hb => by
        rcases List.mem_append.mp hb with q | q
        · exact h b q
        · rw [List.mem_singleton] at q; subst q; exact hc)]
      rw [List.append_assoc, List.singleton_append]
theorem Split_words (s : ByteArray) (h : s.size ≤ 1048576) : ∃ ws : List ByteArray, strings_Split.f s (⟨#[32]⟩ : ByteArray) = some ws ∧ ws.map (fun x => x.data.toList) = wd [] s.data.toList := by
  unfold strings_Split.f
  refine ⟨_, if_pos ⟨by omega, by decide⟩, ?_⟩
  rw [Lib.splitB_data]
  exact split_go s.data.toList [] (by simp)
theorem cut_list (s : ByteArray) (a b : Nat) : (s.extract a b).data.toList = (s.data.toList.drop a).take (b - a) := by
  rw [ByteArray.data_extract, Array.toList_extract, List.extract_eq_take_drop]
section
variable (s : ByteArray) (hs : s.size ≤ 1048576)
include hs
theorem l10Read_go : ∀ (d i p : Nat) (acc : List Int), i + d = s.size → p ≤ i → acc.length ≤ i →
    ∃ r : List Int × Bool, Ev (fun k => spec_l10Read.l0 k s acc (p : Int) (i : Int)) r ∧ ((∀ w ∈ wd ((s.data.toList.drop p).take (i - p)) (s.data.toList.drop i), GoodW w) → r = (acc ++ (wd ((s.data.toList.drop p).take (i - p)) (s.data.toList.drop i)).map numW, true)) ∧
      (¬ (∀ w ∈ wd ((s.data.toList.drop p).take (i - p)) (s.data.toList.drop i), GoodW w) → r.2 = false) := by
  have hsz := sh_size s
  have num : ∀ p i : Nat, ∀ r : Int × Bool, (GoodW ((s.data.toList.drop p).take (i - p)) → r = (numW ((s.data.toList.drop p).take (i - p)), true)) → (¬ GoodW ((s.data.toList.drop p).take (i - p)) → r = (0, false)) → i ≤ s.size →
      Ev (fun k => spec_l10Number.f k (s.extract (p : Int).toNat (i : Int).toNat)) r := by
    intro p i r h1 h2 hi
    rw [Int.toNat_natCast, Int.toNat_natCast]
    have e := cut_list s p i
    refine spec_l10Number_ev _ ?_ r (by rw [e]; exact h1) (by rw [e]; exact h2)
    rw [sh_size, e, List.length_take, List.length_drop]; omega
  intro d
  induction d with
  | zero =>
    intro i p acc hi hp ha
    obtain rfl : i = s.size := by omega
    have hw : ∀ _ : Unit, wrap64 ((s.size : Int) + 1) = ((s.size + 1 : Nat) : Int) := fun _ => by rw [w64 (by omega) (by omega)]; omega
    have hnil : s.data.toList.drop s.size = [] := List.drop_of_length_le (by omega)
    rw [hnil]
    obtain ⟨cur, hcur⟩ : ∃ cur, cur = (s.data.toList.drop p).take (s.size - p) := ⟨_, rfl⟩
    have hn := num p s.size
    rw [← hcur] at hn ⊢
    show ∃ r : List Int × Bool, _ ∧ ((∀ w ∈ [cur], GoodW w) → r = (acc ++ [cur].map numW, true)) ∧ _
    by_cases hg : GoodW cur
    · refine ⟨(acc ++ [numW cur], true), ?_, fun _ => rfl, fun h => absurd (fun w hw => by have hw' : w ∈ [cur] := hw; rw [List.mem_singleton] at hw'; subst hw'; exact hg) h⟩
      refine ev_succ ?_
      simp only [spec_l10Read.l0]
      refine ev_pos (by omega) (ev_neg (by omega) (ev_succ ?_))
      simp only [spec_l10Read.j1, hw ()]
      refine ev_neg (by decide) (ev_pos (by omega) (ev_pos (by omega) (ev_pos (by omega) (Ev.bind (hn (numW cur, true) (fun _ => rfl) (fun h => absurd hg h) (Nat.le_refl _)) (ev_pos (by trivial) (ev_pos (by omega) (ev_succ ?_)))))))
      simp only [spec_l10Read.l0]
      exact ev_neg (by omega) (Ev.now _)
    · refine ⟨(acc, false), ?_, fun h => absurd (h cur (by simp)) hg, fun _ => rfl⟩
      refine ev_succ ?_
      simp only [spec_l10Read.l0]
      refine ev_pos (by omega) (ev_neg (by omega) (ev_succ ?_))
      simp only [spec_l10Read.j1, hw ()]
      exact ev_neg (by decide) (ev_pos (by omega) (ev_pos (by omega) (ev_pos (by omega) (Ev.bind (hn (0, false) (fun h => absurd h hg) (fun _ => rfl) (Nat.le_refl _)) (ev_neg (by decide) (Ev.now _))))))
  | succ d ih =>
    intro i p acc hi hp ha
    have hi' : i < s.data.toList.length := by omega
    have hw : ∀ _ : Unit, wrap64 ((i : Int) + 1) = ((i + 1 : Nat) : Int) := fun _ => by rw [w64 (by omega) (by omega)]; omega
    have hb := bt_here s i hi'
    obtain ⟨b, hbe⟩ : ∃ b, b = s.data.toList[i] := ⟨_, rfl⟩
    rw [List.drop_eq_getElem_cons hi', ← hbe]
    rw [← hbe] at hb
    obtain ⟨cur, hcur⟩ : ∃ cur, cur = (s.data.toList.drop p).take (i - p) := ⟨_, rfl⟩
    have hn := num p i
    by_cases q : b = 32
    · subst q
      obtain ⟨r, e, h1, h2⟩ := ih (i + 1) (i + 1) (acc ++ [numW cur]) (by omega) (Nat.le_refl _) (by rw [List.length_append]; simp; omega)
      rw [Nat.sub_self, List.take_zero] at h1 h2
      rw [← hcur] at hn ⊢
      rw [wd_blank]
      by_cases hg : GoodW cur
      · refine ⟨r, ?_, fun h => ?_, fun h => h2 (fun h' => h (fun w hw => ?_))⟩
        · refine ev_succ ?_
          simp only [spec_l10Read.l0, hb]
          refine ev_pos (by omega) (ev_pos (by omega) (ev_pos (by omega) (ev_succ ?_)))
          simp only [spec_l10Read.j1, hw ()]
          exact ev_neg (by decide) (ev_pos (by omega) (ev_pos (by omega) (ev_pos (by omega) (Ev.bind (hn (numW cur, true) (fun _ => rfl) (fun h => absurd hg h) (by omega)) (ev_pos (by trivial) (ev_pos (by omega) e))))))
        · rw [h1 (fun w hw => h w (List.mem_cons_of_mem _ hw))]
          simp
        · rcases List.mem_cons.mp hw with rfl | hw
          · exact hg
          · exact h' w hw
      · refine ⟨(acc, false), ?_, fun h => absurd (h cur (by simp)) hg, fun _ => rfl⟩
        refine ev_succ ?_
        simp only [spec_l10Read.l0, hb]
        refine ev_pos (by omega) (ev_pos (by omega) (ev_pos (by omega) (ev_succ ?_)))
        simp only [spec_l10Read.j1, hw ()]
        exact ev_neg (by decide) (ev_pos (by omega) (ev_pos (by omega) (ev_pos (by omega) (Ev.bind (hn (0, false) (fun h => absurd h hg) (fun _ => rfl) (by omega)) (ev_neg (by decide) (Ev.now _))))))
    · have hbn : b.toNat ≠ 32 := fun e => q (by rw [← UInt8.ofNat_toNat (x := b), e]; rfl)
      obtain ⟨r, e, h1, h2⟩ := ih (i + 1) p acc (by omega) (by omega) (by omega)
      have ht : (s.data.toList.drop p).take (i + 1 - p) = cur ++ [b] := by
        rw [show i + 1 - p = (i - p) + 1 by omega, List.take_succ_eq_append_getElem (by rw [List.length_drop]; omega), List.getElem_drop, hcur, hbe]
        congr 2
        congr 1
        omega
      rw [ht] at h1 h2
      rw [← hcur, wd_more cur _ b q]
      refine ⟨r, ?_, h1, h2⟩
      refine ev_succ ?_
      simp only [spec_l10Read.l0, hb]
      refine ev_pos (by omega) (ev_pos (by omega) (ev_pos (by omega) (ev_succ ?_)))
      simp only [spec_l10Read.j1, hw ()]
      exact ev_pos (by simp; omega) e
theorem l10Read_ev : ∃ r : List Int × Bool, Ev (fun k => spec_l10Read.f k s) r ∧ ((∀ w ∈ wd [] s.data.toList, GoodW w) → r = ((wd [] s.data.toList).map numW, true)) ∧ (¬ (∀ w ∈ wd [] s.data.toList, GoodW w) → r.2 = false) := by
  have := l10Read_go s hs s.size 0 0 [] (by omega) (Nat.le_refl _) (Nat.le_refl _)
  rw [List.drop_zero, Nat.sub_self, List.take_zero] at this
  exact this
end

/-- The i-th word: is it a number, which. -/
def wt (ws : List ByteArray) (i : Nat) : List UInt8 := (ws.getD i ByteArray.empty).data.toList
def wg (ws : List ByteArray) (i : Nat) : Prop := GoodW (wt ws i)
def wv (ws : List ByteArray) (i : Nat) : Int := numW (wt ws i)
theorem wg_lt {ws : List ByteArray} {i : Nat} (h : wg ws i) : i < ws.length := by
  rcases Nat.lt_or_ge i ws.length with q | q
  · exact q
  · have e : wt ws i = [] := by
      unfold wt
      rw [List.getD_eq_getElem?_getD, List.getElem?_eq_none q]; rfl
    unfold wg at h
    rw [e] at h
    exact absurd h.1 (by decide)
def wgs (ws : List ByteArray) (i n : Nat) : Prop := ∀ t, t < n → wg ws (i + t)
/-- A cell out of five words. -/
def icell (ws : List ByteArray) (i : Nat) : S45 := ⟨wv ws i, ⟨wv ws (i + 1), wv ws (i + 2), decide (Go.bits .and .i64 (wv ws (i + 3)) 1 > 0), decide (Go.bits .and .i64 (wv ws (i + 3)) 2 > 0), decide (Go.bits .and .i64 (wv ws (i + 3)) 4 > 0)⟩, wv ws (i + 4)⟩
def icells (ws : List ByteArray) : Nat → Nat → List S45
  | _, 0 => []
  | i, m + 1 => icell ws i :: icells ws (i + 5) m
theorem icells_length (ws : List ByteArray) : ∀ m i, (icells ws i m).length = m
  | 0, _ => rfl
  | m + 1, i => by rw [icells, List.length_cons, icells_length]
abbrev noP : Int × Int × List S40 × Bool := (0, 0, [], false)
section
variable (s : ByteArray) (ws : List ByteArray) (hw : ∀ x ∈ ws, x.size ≤ 1048576) (hl : ws.length ≤ 1048577)
include hw hl
set_option linter.unusedSectionVars false
theorem take_ev (i : Nat) (hi : i ≤ ws.length) (b : Bool) : ∃ (v : Int) (j : Nat) (b' : Bool), impl_taker_take.f (i : Int) b ws = some (v, (j : Int), b') ∧ i ≤ j ∧ j ≤ ws.length ∧ (b' = false ↔ b = false ∧ wg ws i) ∧ (b' = false → j = i + 1 ∧ v = wv ws i) := by
  unfold impl_taker_take.f
  cases b with
  | true => exact ⟨0, i, true, if_pos rfl, Nat.le_refl _, hi, ⟨fun h => (by cases h), fun h => (by cases h.1)⟩, fun h => (by cases h)⟩
  | false =>
    rw [if_neg (by decide), if_pos (by omega)]
    rcases Nat.lt_or_ge i ws.length with q | q
    · have er : rdOf ByteArray.empty ws (i : Int) = ws.getD i ByteArray.empty := by unfold rdOf; rw [Int.toNat_natCast]
      have em : ws.getD i ByteArray.empty = ws[i] := by rw [List.getD_eq_getElem?_getD, List.getElem?_eq_getElem q]; rfl
      obtain ⟨v, g, e1, e2, e3⟩ := numberOf_ok (ws.getD i ByteArray.empty) (by rw [em]; exact hw _ (List.getElem_mem q))
      refine ⟨v, i + 1, !g, ?_, by omega, by omega, ?_, ?_⟩
      · rw [if_pos (by omega), er, e1]; rfl
      · cases g with
        | true => exact ⟨fun _ => ⟨rfl, e2.mp rfl⟩, fun _ => rfl⟩
        | false => exact ⟨fun h => (by cases h), fun h => (by have := e2.mpr h.2; cases this)⟩
      · cases g with
        | true => exact fun _ => ⟨rfl, e3 rfl⟩
        | false => exact fun h => (by cases h)
    · have he : i = ws.length := by omega
      refine ⟨0, i, true, ?_, Nat.le_refl _, hi, ⟨fun h => (by cases h), fun h => absurd (wg_lt h.2) (by omega)⟩, fun h => (by cases h)⟩
      rw [if_neg (by omega), if_pos (by omega)]
theorem cell_ev (i : Nat) (hi : i ≤ ws.length) : ∃ (c : S45) (j : Nat) (b' : Bool), impl_taker_cell.f (i : Int) false ws = some (c.f0, c.f1.f0, c.f1.f1, c.f1.f2, c.f1.f3, c.f1.f4, c.f2, (j : Int), b') ∧ j ≤ ws.length ∧ (b' = false ↔ wgs ws i 5) ∧ (b' = false → j = i + 5 ∧ c = icell ws i) := by
  obtain ⟨v0, j0, b0, e0, l0, m0, g0, r0⟩ := take_ev ws hw hl i hi false
  obtain ⟨v1, j1, b1, e1, l1, m1, g1, r1⟩ := take_ev ws hw hl j0 m0 b0
  obtain ⟨v2, j2, b2, e2, l2, m2, g2, r2⟩ := take_ev ws hw hl j1 m1 b1
  obtain ⟨v3, j3, b3, e3, l3, m3, g3, r3⟩ := take_ev ws hw hl j2 m2 b2
  obtain ⟨v4, j4, b4, e4, l4, m4, g4, r4⟩ := take_ev ws hw hl j3 m3 b3
  refine ⟨⟨v0, ⟨v1, v2, decide (Go.bits .and .i64 v3 1 > 0), decide (Go.bits .and .i64 v3 2 > 0), decide (Go.bits .and .i64 v3 4 > 0)⟩, v4⟩, j4, b4, ?_, m4, ?_, ?_⟩
  · unfold impl_taker_cell.f
    simp only [e0, e1, e2, e3, e4, Option.bind_some]
  · constructor
    · intro h4
      obtain ⟨h3, k4⟩ := g4.mp h4
      obtain ⟨h2, k3⟩ := g3.mp h3
      obtain ⟨h1, k2⟩ := g2.mp h2
      obtain ⟨h0, k1⟩ := g1.mp h1
      obtain ⟨_, k0⟩ := g0.mp h0
      obtain ⟨q0, _⟩ := r0 h0
      obtain ⟨q1, _⟩ := r1 h1
      obtain ⟨q2, _⟩ := r2 h2
      obtain ⟨q3, _⟩ := r3 h3
      subst q0 q1 q2 q3
      intro t ht
      rcases (show t = 0 ∨ t = 1 ∨ t = 2 ∨ t = 3 ∨ t = 4 by omega) with rfl | rfl | rfl | rfl | rfl
      · exact k0
      · exact k1
      · exact k2
      · exact k3
      · exact k4
    · intro h
      have h0 := g0.mpr ⟨rfl, h 0 (by omega)⟩
      obtain ⟨q0, _⟩ := r0 h0
      subst q0
      have h1 := g1.mpr ⟨h0, h 1 (by omega)⟩
      obtain ⟨q1, _⟩ := r1 h1
      subst q1
      have h2 := g2.mpr ⟨h1, h 2 (by omega)⟩
      obtain ⟨q2, _⟩ := r2 h2
      subst q2
      have h3 := g3.mpr ⟨h2, h 3 (by omega)⟩
      obtain ⟨q3, _⟩ := r3 h3
      subst q3
      exact g4.mpr ⟨h3, h 4 (by omega)⟩
  · intro h4
    obtain ⟨h3, k4⟩ := g4.mp h4
    obtain ⟨h2, k3⟩ := g3.mp h3
    obtain ⟨h1, k2⟩ := g2.mp h2
    obtain ⟨h0, k1⟩ := g1.mp h1
    obtain ⟨q0, p0⟩ := r0 h0
    obtain ⟨q1, p1⟩ := r1 h1
    obtain ⟨q2, p2⟩ := r2 h2
    obtain ⟨q3, p3⟩ := r3 h3
    obtain ⟨q4, p4⟩ := r4 h4
    subst q0 q1 q2 q3 q4
    refine ⟨rfl, ?_⟩
    rw [p0, p1, p2, p3, p4]
    rfl
variable (c n : Int)
theorem bad_l0 (i : Nat) (hi : i ≤ ws.length) (acc : List S40) : Ev (fun k => impl_ReadPatch.l0 k s ws (i : Int) true c n acc) noP := by
  have hd : ∀ _ : Unit, ((ws.drop (i : Int).toNat).length : Int) = ((ws.length - i : Nat) : Int) := fun _ => by rw [Int.toNat_natCast, List.length_drop]
  have j : Ev (fun k => impl_ReadPatch.j1 k s ws false (i : Int) true c n acc) noP := ev_succ (by simp only [impl_ReadPatch.j1]; exact ev_neg (by decide) (ev_pos (by trivial) (Ev.now _)))
  refine ev_succ ?_
  simp only [impl_ReadPatch.l0, hd ()]
  refine ev_pos (by omega) (ev_pos (by omega) ?_)
  by_cases q : ((ws.length - i : Nat) : Int) > 0
  · exact ev_pos q j
  · exact ev_neg q j
theorem bad_l1 (x7 : Int) (i : Nat) (hi : i ≤ ws.length) (acc : List S40) (ha : acc.length < 2097152) (u v : Int) (cs : List S45) : Ev (fun k => impl_ReadPatch.l1 k s x7 ws (i : Int) true c n acc u v cs) noP := by
  refine ev_succ ?_
  simp only [impl_ReadPatch.l1]
  by_cases q : x7 > 0
  · exact ev_pos q (ev_pos (by trivial) (ev_pos (by omega) (bad_l0 s ws hw hl c n i hi _)))
  · exact ev_neg q (ev_pos (by omega) (bad_l0 s ws hw hl c n i hi _))
theorem impl_cells (acc : List S40) (ha : acc.length < 2097152) (u v : Int) (r : Int × Int × List S40 × Bool) : ∀ (m i : Nat) (cs : List S45), i ≤ ws.length → cs.length + m ≤ 1000 →
    (wgs ws i (5 * m) → Ev (fun k => impl_ReadPatch.l0 k s ws ((i + 5 * m : Nat) : Int) false c n (acc ++ [⟨u, v, cs ++ icells ws i m⟩])) r) → (¬ wgs ws i (5 * m) → r = noP) →
    Ev (fun k => impl_ReadPatch.l1 k s (m : Int) ws (i : Int) false c n acc u v cs) r := by
  intro m
  induction m with
  | zero =>
    intro i cs hi hc h1 h2
    refine ev_succ ?_
    simp only [impl_ReadPatch.l1]
    refine ev_neg (by omega) (ev_pos (by omega) ?_)
    have := h1 (fun t ht => absurd ht (by omega))
    rw [Nat.mul_zero, Nat.add_zero, icells, List.append_nil] at this
    exact this
  | succ m ih =>
    intro i cs hi hc h1 h2
    obtain ⟨cc, j, b, e, hj, hb, hr⟩ := cell_ev ws hw hl i hi
    have hm : ∀ _ : Unit, wrap64 (((m + 1 : Nat) : Int) - 1) = (m : Int) := fun _ => by rw [w64 (by omega) (by omega)]; omega
    have hcons : (⟨cc.f0, (⟨cc.f1.f0, cc.f1.f1, cc.f1.f2, cc.f1.f3, cc.f1.f4⟩ : _), cc.f2⟩ : S45) = cc := rfl
    refine ev_succ ?_
    simp only [impl_ReadPatch.l1, hm (), e, Option.bind_some]
    refine ev_pos (by omega) (ev_neg (by decide) (ev_pos (by omega) ?_))
    cases b with
    | true =>
      rw [h2 (fun h => by have := hb.mpr (fun t ht => h t (by omega)); cases this)]
      exact bad_l1 s ws hw hl c n _ j hj acc ha _ _ _
    | false =>
      obtain ⟨q, rfl⟩ := hr rfl
      subst q
      have h5 := hb.mp rfl
      refine ih (i + 5) (cs ++ [icell ws i]) hj (by rw [List.length_append]; simp; omega) (fun h => ?_) (fun h => h2 (fun h' => h (fun t ht => by have := h' (5 + t) (by omega); rwa [← Nat.add_assoc] at this)))
      have := h1 (fun t ht => by
        by_cases q : t < 5
        · exact h5 t q
        · have := h (t - 5) (by omega)
          rwa [show i + 5 + (t - 5) = i + t by omega] at this)
      rw [show i + 5 + 5 * m = i + 5 * (m + 1) by omega, List.append_assoc, List.singleton_append]
      exact this
/-- One change read. -/
def StepOk (i : Nat) : Prop := wg ws i ∧ wg ws (i + 1) ∧ wg ws (i + 2) ∧ 1 ≤ wv ws (i + 2) ∧ wv ws (i + 2) ≤ 60 ∧ wgs ws (i + 3) (5 * (wv ws (i + 2)).toNat)
theorem impl_step (acc : List S40) (ha : acc.length < 2097152) (r : Int × Int × List S40 × Bool) (i : Nat) (hi : i < ws.length)
    (h1 : StepOk ws i → Ev (fun k => impl_ReadPatch.l0 k s ws ((i + 3 + 5 * (wv ws (i + 2)).toNat : Nat) : Int) false c n (acc ++ [⟨wv ws i, wv ws (i + 1), icells ws (i + 3) (wv ws (i + 2)).toNat⟩])) r) (h2 : ¬ StepOk ws i → r = noP) :
    Ev (fun k => impl_ReadPatch.l0 k s ws (i : Int) false c n acc) r := by
  have hd : ∀ _ : Unit, ((ws.drop (i : Int).toNat).length : Int) = ((ws.length - i : Nat) : Int) := fun _ => by rw [Int.toNat_natCast, List.length_drop]
  obtain ⟨v0, j0, b0, e0, l0, m0, g0, r0⟩ := take_ev ws hw hl i (by omega) false
  obtain ⟨v1, j1, b1, e1, l1, m1, g1, r1⟩ := take_ev ws hw hl j0 m0 b0
  obtain ⟨v2, j2, b2, e2, l2, m2, g2, r2⟩ := take_ev ws hw hl j1 m1 b1
  refine ev_succ ?_
  simp only [impl_ReadPatch.l0, hd ()]
  refine ev_pos (by omega) (ev_pos (by omega) (ev_pos (by omega) (ev_succ ?_)))
  simp only [impl_ReadPatch.j1, e0, e1, e2, Option.bind_some, impl_in_eq]
  refine ev_pos (by decide) ?_
  cases b2 with
  | true =>
    have hno : r = noP := h2 (fun h => by
      obtain ⟨k0, k1, k2, _⟩ := h
      have h0 := g0.mpr ⟨rfl, k0⟩
      obtain ⟨q0, _⟩ := r0 h0
      subst q0
      have h1 := g1.mpr ⟨h0, k1⟩
      obtain ⟨q1, _⟩ := r1 h1
      subst q1
      have h2 := g2.mpr ⟨h1, k2⟩
      cases h2)
    rw [hno]
    refine ev_pos (by trivial) (ev_succ ?_)
    simp only [impl_ReadPatch.j2]
    exact bad_l1 s ws hw hl c n _ j2 m2 acc ha _ _ _
  | false =>
    obtain ⟨hb1, k2⟩ := g2.mp rfl
    obtain ⟨hb0, k1⟩ := g1.mp hb1
    obtain ⟨_, k0⟩ := g0.mp hb0
    obtain ⟨q0, p0⟩ := r0 hb0
    obtain ⟨q1, p1⟩ := r1 hb1
    obtain ⟨q2, p2⟩ := r2 rfl
    subst q0 q1 q2
    rw [p0, p1, p2]
    refine ev_neg (by decide) (ev_succ ?_)
    simp only [impl_ReadPatch.j2]
    by_cases z : 1 ≤ wv ws (i + 2) ∧ wv ws (i + 2) ≤ 60
    · rw [show (!(decide (1 ≤ wv ws (i + 1 + 1)) && decide (wv ws (i + 1 + 1) ≤ 60))) = false by rw [decide_eq_true z.1, decide_eq_true z.2]; rfl]
      obtain ⟨m, hm⟩ : ∃ m : Nat, wv ws (i + 2) = (m : Int) := ⟨(wv ws (i + 2)).toNat, by omega⟩
      have hmn : (wv ws (i + 2)).toNat = m := by omega
      rw [show wv ws (i + 1 + 1) = (m : Int) from hm]
      unfold StepOk at h1 h2
      rw [hmn] at h1 h2
      exact impl_cells s ws hw hl c n acc ha _ _ r m (i + 3) [] (by omega) (by simp; omega) (fun h => h1 ⟨k0, k1, k2, z.1, z.2, h⟩) (fun h => h2 (fun h' => h h'.2.2.2.2.2))
    · have hno : r = noP := h2 (fun h => z ⟨h.2.2.2.1, h.2.2.2.2.1⟩)
      rw [hno, show (!(decide (1 ≤ wv ws (i + 1 + 1)) && decide (wv ws (i + 1 + 1) ≤ 60))) = true by
        by_cases z1 : 1 ≤ wv ws (i + 2)
        · rw [show decide (wv ws (i + 1 + 1) ≤ 60) = false from decide_eq_false (fun x => z ⟨z1, x⟩)]; simp
        · rw [show decide (1 ≤ wv ws (i + 1 + 1)) = false from decide_eq_false z1]; simp]
      exact bad_l1 s ws hw hl c n _ (i + 1 + 1 + 1) m2 acc ha _ _ _
end

theorem and64 (a b : Nat) (ha : a < 9223372036854775808) (hb : b < 9223372036854775808) : Go.bits .and .i64 (a : Int) (b : Int) = ((a &&& b : Nat) : Int) := by
  have hx : a &&& b ≤ a := Nat.and_le_left
  have h1 : (BitVec.ofInt 64 (a : Int)).toNat = a := by
    rw [BitVec.ofInt_natCast, BitVec.toNat_ofNat]; exact Nat.mod_eq_of_lt (by omega)
  have h2 : (BitVec.ofInt 64 (b : Int)).toNat = b := by
    rw [BitVec.ofInt_natCast, BitVec.toNat_ofNat]; exact Nat.mod_eq_of_lt (by omega)
  show IntKind.i64.wrap ((BitVec.ofInt 64 (a : Int) &&& BitVec.ofInt 64 (b : Int)).toNat : Int) = _
  rw [BitVec.toNat_and, h1, h2, IntKind.wrap_i64]
  omega
theorem and_two (n : Nat) : (n &&& 2 > 0) ↔ n / 2 % 2 = 1 := by
  have h1 : (n &&& 2) / 2 = n / 2 % 2 := by rw [Nat.and_div_two, ← Nat.and_one_is_mod]
  have h2 : (n &&& 2) % 2 = 0 := by
    have := Nat.and_mod_two_pow (a := n) (b := 2) (n := 1)
    simpa using this
  omega
theorem and_four (n : Nat) : (n &&& 4 > 0) ↔ n / 4 % 2 = 1 := by
  have h1 : (n &&& 4) / 2 / 2 = n / 2 / 2 % 2 := by rw [Nat.and_div_two, Nat.and_div_two, ← Nat.and_one_is_mod]
  have h2 : (n &&& 4) % 4 = 0 := by
    have := Nat.and_mod_two_pow (a := n) (b := 4) (n := 2)
    simpa using this
  omega
theorem flag1 (f : Int) (h0 : 0 ≤ f) (h1 : f < 1000000000) : decide (Go.bits .and .i64 f 1 > 0) = (Int.tmod f 2 == 1) := by
  obtain ⟨n, rfl⟩ := Int.eq_ofNat_of_zero_le h0
  have e := and64 n 1 (by omega) (by omega)
  rw [Nat.and_one_is_mod] at e
  rw [show Go.bits .and .i64 (n : Int) 1 = ((n % 2 : Nat) : Int) from e, Int.tmod_eq_emod_of_nonneg (by omega)]
  rw [Bool.eq_iff_iff, decide_eq_true_eq, beq_iff_eq]
  omega
theorem flag2 (f : Int) (h0 : 0 ≤ f) (h1 : f < 1000000000) : decide (Go.bits .and .i64 f 2 > 0) = (Int.tmod (wrap64 (Int.tdiv f 2)) 2 == 1) := by
  obtain ⟨n, rfl⟩ := Int.eq_ofNat_of_zero_le h0
  have e := and64 n 2 (by omega) (by omega)
  have e2 := and_two n
  rw [show Go.bits .and .i64 (n : Int) 2 = ((n &&& 2 : Nat) : Int) from e, Int.tdiv_eq_ediv_of_nonneg (by omega), w64 (by omega) (by omega), Int.tmod_eq_emod_of_nonneg (by omega)]
  rw [Bool.eq_iff_iff, decide_eq_true_eq, beq_iff_eq]
  omega
theorem flag4 (f : Int) (h0 : 0 ≤ f) (h1 : f < 1000000000) : decide (Go.bits .and .i64 f 4 > 0) = (Int.tmod (wrap64 (Int.tdiv f 4)) 2 == 1) := by
  obtain ⟨n, rfl⟩ := Int.eq_ofNat_of_zero_le h0
  have e := and64 n 4 (by omega) (by omega)
  have e2 := and_four n
  rw [show Go.bits .and .i64 (n : Int) 4 = ((n &&& 4 : Nat) : Int) from e, Int.tdiv_eq_ediv_of_nonneg (by omega), w64 (by omega) (by omega), Int.tmod_eq_emod_of_nonneg (by omega)]
  rw [Bool.eq_iff_iff, decide_eq_true_eq, beq_iff_eq]
  omega

/-- A cell out of five numbers, as the specification tells it. -/
def scell (ws : List ByteArray) (i : Nat) : S45 := ⟨wv ws i, ⟨wv ws (i + 1), wv ws (i + 2), (Int.tmod (wv ws (i + 3)) 2) == 1, (Int.tmod (wrap64 (Int.tdiv (wv ws (i + 3)) 2)) 2) == 1, (Int.tmod (wrap64 (Int.tdiv (wv ws (i + 3)) 4)) 2) == 1⟩, wv ws (i + 4)⟩
def scells (ws : List ByteArray) : Nat → Nat → List S45
  | _, 0 => []
  | i, m + 1 => scell ws i :: scells ws (i + 5) m
theorem scells_length (ws : List ByteArray) : ∀ m i, (scells ws i m).length = m
  | 0, _ => rfl
  | m + 1, i => by rw [scells, List.length_cons, scells_length]
theorem cells_same (ws : List ByteArray) (h : ∀ i, wg ws i → 0 ≤ wv ws i) : ∀ m i, wgs ws i (5 * m) → icells ws i m = scells ws i m
  | 0, _, _ => rfl
  | m + 1, i, hg => by
    have h3 := hg 3 (by omega)
    have h0 := h _ h3
    have hb : wv ws (i + 3) < 1000000000 := (numW_bound h3).2
    rw [icells, scells, cells_same ws h m (i + 5) (fun t ht => by have := hg (5 + t) (by omega); rwa [← Nat.add_assoc] at this)]
    congr 1
    unfold icell scell
    rw [flag1 _ h0 hb, flag2 _ h0 hb, flag4 _ h0 hb]
section
variable (s : ByteArray) (ws : List ByteArray) (hw : ∀ x ∈ ws, x.size ≤ 1048576) (hl : ws.length ≤ 1048577)
include hw hl
set_option linter.unusedSectionVars false
variable (c n : Int)
def vals (ws : List ByteArray) : List Int := (List.range ws.length).map (wv ws)
theorem vals_length : (vals ws).length = ws.length := by simp [vals]
theorem vals_drop (i : Nat) : ((vals ws).drop i).length = ws.length - i := by rw [List.length_drop, vals_length ws hw hl]
theorem vals_rd (i t : Nat) (h : i + t < ws.length) : rd ((vals ws).drop i) (t : Int) = wv ws (i + t) := by
  rw [rd_at (by rw [vals_drop ws hw hl]; omega), List.getElem_drop]
  simp [vals]
theorem spec_cells (acc : List S40) (ha : acc.length < 2097152) (u v : Int) (r : Int × Int × List S40 × Bool) : ∀ (m i : Nat) (cs : List S45), i + 5 * m ≤ ws.length → cs.length + m ≤ 1000 →
    Ev (fun k => spec_ReadPatch.l0 k s ((vals ws).drop (i + 5 * m)) c n (acc ++ [⟨u, v, cs ++ scells ws i m⟩])) r →
    Ev (fun k => spec_ReadPatch.l1 k s ((vals ws).drop i) (m : Int) c n acc u v cs) r := by
  intro m
  induction m with
  | zero =>
    intro i cs hi hc h1
    refine ev_succ ?_
    simp only [spec_ReadPatch.l1]
    refine ev_neg (by omega) (ev_pos (by omega) ?_)
    rw [Nat.mul_zero, Nat.add_zero, scells, List.append_nil] at h1
    exact h1
  | succ m ih =>
    intro i cs hi hc h1
    have hm : ∀ _ : Unit, wrap64 (((m + 1 : Nat) : Int) - 1) = (m : Int) := fun _ => by rw [w64 (by omega) (by omega)]; omega
    have hd := vals_drop ws hw hl i
    have r0 : ∀ _ : Unit, rd ((vals ws).drop i) 0 = wv ws i := fun _ => vals_rd ws hw hl i 0 (by omega)
    have r1 : ∀ _ : Unit, rd ((vals ws).drop i) 1 = wv ws (i + 1) := fun _ => vals_rd ws hw hl i 1 (by omega)
    have r2 : ∀ _ : Unit, rd ((vals ws).drop i) 2 = wv ws (i + 2) := fun _ => vals_rd ws hw hl i 2 (by omega)
    have r3 : ∀ _ : Unit, rd ((vals ws).drop i) 3 = wv ws (i + 3) := fun _ => vals_rd ws hw hl i 3 (by omega)
    have r4 : ∀ _ : Unit, rd ((vals ws).drop i) 4 = wv ws (i + 4) := fun _ => vals_rd ws hw hl i 4 (by omega)
    have h5 : ((vals ws).drop i).drop (5 : Int).toNat = (vals ws).drop (i + 5) := by rw [List.drop_drop]; rfl
    have e := ih (i + 5) (cs ++ [scell ws i]) (by omega) (by rw [List.length_append]; simp; omega) (by
      rw [show i + 5 + 5 * m = i + 5 * (m + 1) by omega, List.append_assoc, List.singleton_append]
      exact h1)
    refine ev_succ ?_
    simp only [spec_ReadPatch.l1, hm (), r0 (), r1 (), r2 (), r3 (), r4 (), h5, hd]
    exact ev_pos (by omega) (ev_pos (by omega) (ev_pos (by omega) (ev_pos (by omega) (ev_pos (by omega) (ev_pos (by omega) (ev_pos (by omega) (ev_pos (by omega) e)))))))
theorem spec_step (acc : List S40) (ha : acc.length < 2097152) (r : Int × Int × List S40 × Bool) (hall : ∀ i, i < ws.length → wg ws i) (i : Nat) (hi : i < ws.length)
    (h1 : StepOk ws i → Ev (fun k => spec_ReadPatch.l0 k s ((vals ws).drop (i + 3 + 5 * (wv ws (i + 2)).toNat)) c n (acc ++ [⟨wv ws i, wv ws (i + 1), scells ws (i + 3) (wv ws (i + 2)).toNat⟩])) r) (h2 : ¬ StepOk ws i → r = noP) :
    Ev (fun k => spec_ReadPatch.l0 k s ((vals ws).drop i) c n acc) r := by
  have hd := vals_drop ws hw hl i
  have jt : Ev (fun k => spec_ReadPatch.j2 k s ((vals ws).drop i) true c n acc) noP := ev_succ (by simp only [spec_ReadPatch.j2]; exact ev_pos (by trivial) (Ev.now _))
  by_cases q3 : ws.length - i < 3
  · refine ev_succ ?_
    simp only [spec_ReadPatch.l0, hd]
    rw [h2 (fun h => by have := wg_lt h.2.2.1; omega)]
    exact ev_pos (by omega) (ev_pos (by omega) jt)
  have r0 : ∀ _ : Unit, rd ((vals ws).drop i) 0 = wv ws i := fun _ => vals_rd ws hw hl i 0 (by omega)
  have r1 : ∀ _ : Unit, rd ((vals ws).drop i) 1 = wv ws (i + 1) := fun _ => vals_rd ws hw hl i 1 (by omega)
  have r2 : ∀ _ : Unit, rd ((vals ws).drop i) 2 = wv ws (i + 2) := fun _ => vals_rd ws hw hl i 2 (by omega)
  have hdd : ((vals ws).drop i).drop (3 : Int).toNat = (vals ws).drop (i + 3) := by rw [List.drop_drop]; rfl
  refine ev_succ ?_
  simp only [spec_ReadPatch.l0, hd, r2 (), spec_l1In_eq, Option.bind_some]
  refine ev_pos (by omega) (ev_neg (by omega) (ev_pos (by omega) ?_))
  by_cases z : 1 ≤ wv ws (i + 2) ∧ wv ws (i + 2) ≤ 60
  · obtain ⟨m, hm⟩ : ∃ m : Nat, wv ws (i + 2) = (m : Int) := ⟨(wv ws (i + 2)).toNat, by omega⟩
    have hmn : (wv ws (i + 2)).toNat = m := by omega
    have hwr : ∀ _ : Unit, wrap64 (3 + wrap64 (5 * wv ws (i + 2))) = ((3 + 5 * m : Nat) : Int) := fun _ => by rw [hm, w64 (x := 5 * (m : Int)) (by omega) (by omega), w64 (by omega) (by omega)]; omega
    refine ev_pos (by rw [decide_eq_true z.1, decide_eq_true z.2]; rfl) ?_
    simp only [hwr ()]
    unfold StepOk at h1 h2
    rw [hmn] at h1 h2
    by_cases y : ws.length - i < 3 + 5 * m
    · rw [decide_eq_true (by omega), h2 (fun h => by have := wg_lt (h.2.2.2.2.2 (5 * m - 1) (by omega)); omega)]
      exact jt
    · rw [decide_eq_false (by omega)]
      refine ev_succ ?_
      simp only [spec_ReadPatch.j2, hd, r0 (), r1 (), r2 (), hdd]
      refine ev_neg (by decide) (ev_pos (by omega) (ev_pos (by omega) (ev_pos (by omega) (ev_pos (by omega) ?_))))
      rw [hm]
      exact spec_cells s ws hw hl c n acc ha _ _ r m (i + 3) [] (by omega) (by simp; omega) (h1 ⟨hall _ (by omega), hall _ (by omega), hall _ (by omega), z.1, z.2, fun t ht => hall _ (by omega)⟩)
  · rw [h2 (fun h => z ⟨h.2.2.2.1, h.2.2.2.2.1⟩)]
    refine ev_neg (fun x => z ?_) jt
    simp only [Bool.and_eq_true, decide_eq_true_eq] at x
    exact x
/-- A text that bears a '-' is no patch's. -/
theorem no_minus {v : ByteArray} (h : v = ⟨#[]⟩ ∨ ∃ l : List Int, (∀ x ∈ l, 0 ≤ x ∧ x ≤ 9999999) ∧ v = ⟨(joined l).toArray⟩) : ∀ b ∈ v.data.toList, b ≠ 45 := by
  intro b hb
  rcases h with rfl | ⟨l, hl, rfl⟩
  · cases hb
  · have hb' : b ∈ joined l := by simpa using hb
    have key : ∀ l : List Int, b ∈ Lib.joinTail [32] (l.map dig) → b ≠ 45 := by
      intro l
      induction l with
      | nil => intro h; simp [Lib.joinTail] at h
      | cons x l ih =>
        intro h
        have h' : b ∈ [32] ++ dig x ∨ b ∈ Lib.joinTail [32] (l.map dig) := by
          simp only [Lib.joinTail, List.map_cons, List.flatten_cons, List.mem_append] at h ⊢
          exact h
        rcases h' with h' | h'
        · rcases List.mem_append.mp h' with q | q
          · rw [List.mem_singleton] at q; subst q; decide
          · have := (dec_facts x.toNat).1 b q
            unfold isd at this
            intro e; subst e; exact absurd this.1 (by decide)
        · exact ih h'
    cases l with
    | nil => unfold joined at hb'; simp [Lib.join_nil] at hb'
    | cons x l =>
      unfold joined at hb'
      rw [List.map_cons, Lib.join_cons] at hb'
      rcases List.mem_append.mp hb' with q | q
      · have := (dec_facts x.toNat).1 b q
        unfold isd at this
        intro e; subst e; exact absurd this.1 (by decide)
      · exact key l q
def Small (m : Nat) (l : List S40) : Prop := l.length ≤ m ∧ ∀ x ∈ l, x.f2.length ≤ 60
theorem both_go (hall : ∀ i, i < ws.length → wg ws i) (hn : (∀ i, wg ws i → 0 ≤ wv ws i) ∨ 45 ∈ s.data.toList) : ∀ (d i : Nat), i + d = ws.length → ∀ acc acc' : List S40,
    Small i acc → acc'.length ≤ i → ((∀ i, wg ws i → 0 ≤ wv ws i) → acc = acc') →
    ∃ r : Int × Int × List S40 × Bool, Ev (fun k => spec_ReadPatch.l0 k s ((vals ws).drop i) c n acc) r ∧ Ev (fun k => impl_ReadPatch.l0 k s ws (i : Int) false c n acc') r ∧ Small ws.length r.2.2.1 := by
  have sm0 : ∀ m, Small m ([] : List S40) := fun m => ⟨Nat.zero_le _, fun x hx => by cases hx⟩
  intro d
  induction d using Nat.strongRecOn with
  | _ d ih =>
    intro i hi acc acc' hs1 hs2 hsame
    cases d with
    | zero =>
      obtain rfl : i = ws.length := by omega
      have hd := vals_drop ws hw hl ws.length
      have hd2 : ∀ _ : Unit, ((ws.drop (((ws.length : Nat) : Int)).toNat).length : Int) = 0 := fun _ => by rw [Int.toNat_natCast, List.length_drop]; omega
      obtain ⟨v, e1, e2, ev⟩ := ShowPatch_all c n acc
      obtain ⟨v', e1', e2', ev'⟩ := ShowPatch_all c n acc'
      have hr : ∃ r : Int × Int × List S40 × Bool, (if v.toList = s.toList then (c, n, acc, true) else noP) = r ∧ (if v'.toList = s.toList then (c, n, acc', true) else noP) = r ∧ Small ws.length r.2.2.1 := by
        by_cases hp : ∀ i, wg ws i → 0 ≤ wv ws i
        · have ha := hsame hp
          subst ha
          have hv : v = v' := by
            obtain ⟨K1, h1⟩ := e1
            obtain ⟨K2, h2⟩ := e1'
            have a := h1 (max K1 K2) (Nat.le_max_left _ _)
            have b := h2 (max K1 K2) (Nat.le_max_right _ _)
            exact Option.some.inj (a.symm.trans b)
          subst hv
          refine ⟨_, rfl, rfl, ?_⟩
          split
          · exact hs1
          · exact sm0 _
        · have h45 : 45 ∈ s.data.toList := by
            rcases hn with q | q
            · exact absurd q hp
            · exact q
          have n1 : v.toList ≠ s.toList := fun e => by
            rw [Lib.toList_data, Lib.toList_data] at e
            exact no_minus ws hw hl ev 45 (by rw [e]; exact h45) rfl
          have n2 : v'.toList ≠ s.toList := fun e => by
            rw [Lib.toList_data, Lib.toList_data] at e
            exact no_minus ws hw hl ev' 45 (by rw [e]; exact h45) rfl
          exact ⟨noP, if_neg n1, if_neg n2, sm0 _⟩
      obtain ⟨r, hr1, hr2, hr3⟩ := hr
      refine ⟨r, ?_, ?_, hr3⟩
      · refine ev_succ ?_
        simp only [spec_ReadPatch.l0, hd]
        refine ev_neg (by omega) (Ev.bind e1 ?_)
        by_cases q : v.toList = s.toList
        · rw [if_pos q] at hr1; rw [← hr1]; exact ev_pos q (Ev.now _)
        · rw [if_neg q] at hr1; rw [← hr1]; exact ev_neg q (Ev.now _)
      · refine ev_succ ?_
        simp only [impl_ReadPatch.l0, hd2 ()]
        refine ev_pos (by omega) (ev_pos (by omega) (ev_neg (by omega) (ev_succ ?_)))
        simp only [impl_ReadPatch.j1]
        refine ev_neg (by decide) (ev_neg (by decide) (Ev.bind e2' ?_))
        by_cases q : v'.toList = s.toList
        · rw [if_pos q] at hr2; rw [← hr2]; exact ev_pos q (Ev.now _)
        · rw [if_neg q] at hr2; rw [← hr2]; exact ev_neg q (Ev.now _)
    | succ d =>
      have hi' : i < ws.length := by omega
      have l1 : acc.length < 2097152 := by have := hs1.1; omega
      have l2 : acc'.length < 2097152 := by omega
      by_cases h : StepOk ws i
      · have hg := h.2.2.2.2.2
        have h60 := h.2.2.2.2.1
        have h1m := h.2.2.2.1
        obtain ⟨m, hm⟩ : ∃ m, m = (wv ws (i + 2)).toNat := ⟨_, rfl⟩
        rw [← hm] at hg
        have hend : i + 3 + 5 * m ≤ ws.length := by have := wg_lt (hg (5 * m - 1) (by omega)); omega
        obtain ⟨r, e1, e2, e3⟩ := ih (ws.length - (i + 3 + 5 * m)) (by omega) (i + 3 + 5 * m) (by omega) (acc ++ [⟨wv ws i, wv ws (i + 1), scells ws (i + 3) m⟩]) (acc' ++ [⟨wv ws i, wv ws (i + 1), icells ws (i + 3) m⟩])
          ⟨by rw [List.length_append]; have := hs1.1; simp; omega, fun x hx => by
            rcases List.mem_append.mp hx with q | q
            · exact hs1.2 x q
            · rw [List.mem_singleton] at q; subst q; show (scells ws (i + 3) m).length ≤ 60; rw [scells_length]; omega⟩
          (by rw [List.length_append]; simp; omega) (fun hp => by rw [hsame hp, cells_same ws hp m (i + 3) hg])
        refine ⟨r, spec_step s ws hw hl c n acc l1 r hall i hi' (fun _ => by rw [← hm]; exact e1) (fun q => absurd h q), impl_step s ws hw hl c n acc' l2 r i hi' (fun _ => by rw [← hm]; exact e2) (fun q => absurd h q), e3⟩
      · exact ⟨noP, spec_step s ws hw hl c n acc l1 noP hall i hi' (fun q => absurd q h) (fun _ => rfl), impl_step s ws hw hl c n acc' l2 noP i hi' (fun q => absurd q h) (fun _ => rfl), sm0 _⟩
theorem bad_go (t : Nat) (ht : t < ws.length) (hb : ¬ wg ws t) : ∀ (d i : Nat), i + d = ws.length → i ≤ t → ∀ acc' : List S40, acc'.length ≤ i → Ev (fun k => impl_ReadPatch.l0 k s ws (i : Int) false c n acc') noP := by
  intro d
  induction d using Nat.strongRecOn with
  | _ d ih =>
    intro i hi hit acc' hs2
    refine impl_step s ws hw hl c n acc' (by omega) noP i (by omega) (fun h => ?_) (fun _ => rfl)
    have hg := h.2.2.2.2.2
    obtain ⟨m, hm⟩ : ∃ m, m = (wv ws (i + 2)).toNat := ⟨_, rfl⟩
    rw [← hm] at hg ⊢
    have h1m := h.2.2.2.1
    have hend : i + 3 + 5 * m ≤ ws.length := by have := wg_lt (hg (5 * m - 1) (by omega)); omega
    have hge : i + 3 + 5 * m ≤ t := by
      rcases Nat.lt_or_ge t (i + 3 + 5 * m) with q | q
      · exfalso
        rcases (show t = i ∨ t = i + 1 ∨ t = i + 2 ∨ i + 3 ≤ t by omega) with e | e | e | e
        · exact hb (e ▸ h.1)
        · exact hb (e ▸ h.2.1)
        · exact hb (e ▸ h.2.2.1)
        · have := hg (t - (i + 3)) (by omega)
          rw [show i + 3 + (t - (i + 3)) = t by omega] at this
          exact hb this
      · exact q
    exact ih (ws.length - (i + 3 + 5 * m)) (by omega) (i + 3 + 5 * m) (by omega) hge _ (by rw [List.length_append]; simp; omega)
end
/-- Both answer alike. -/
theorem ReadPatch_both (s : ByteArray) (hs : s.size ≤ 1048576) : ∃ r : Int × Int × List S40 × Bool, Ev (fun k => spec_ReadPatch.f k s) r ∧ Ev (fun k => impl_ReadPatch.f k s) r ∧ Small 1048577 r.2.2.1 := by
  obtain ⟨ws, hsp, hmap⟩ := Split_words s hs
  have hsz := sh_size s
  have hlen : ws.length ≤ 1048577 := by
    have := congrArg List.length hmap
    rw [List.length_map] at this
    have := wd_length s.data.toList []
    omega
  have hpos : 1 ≤ ws.length := by
    have e := congrArg List.length hmap
    rw [List.length_map] at e
    have : ∀ (l cur : List UInt8), 1 ≤ (wd cur l).length := by
      intro l
      induction l with
      | nil => intro cur; simp [wd]
      | cons c r ih =>
        intro cur
        by_cases h : c = 32
        · subst h; rw [wd_blank]; simp
        · rw [wd_more cur r c h]; exact ih _
    have := this s.data.toList []
    omega
  have hmem : ∀ x ∈ ws, x.data.toList ∈ wd [] s.data.toList := fun x hx => by rw [← hmap]; exact List.mem_map_of_mem hx
  have hw : ∀ x ∈ ws, x.size ≤ 1048576 := fun x hx => by
    have := (wd_mem s.data.toList [] _ (hmem x hx)).1
    rw [sh_size]; simp only [List.length_nil] at this; omega
  have hwt : ∀ i, (h : i < ws.length) → wt ws i = (wd [] s.data.toList)[i]'(by rw [← hmap, List.length_map]; exact h) := by
    intro i h
    unfold wt
    rw [List.getD_eq_getElem?_getD, List.getElem?_eq_getElem h]
    simp only [← hmap, List.getElem_map, Option.getD_some]
  have hgood : (∀ w ∈ wd [] s.data.toList, GoodW w) ↔ ∀ i, i < ws.length → wg ws i := by
    constructor
    · intro h i hi
      unfold wg
      rw [hwt i hi]
      exact h _ (List.getElem_mem _)
    · intro h w hw'
      obtain ⟨i, hi, rfl⟩ := List.mem_iff_getElem.mp hw'
      have hi' : i < ws.length := by rw [← hmap, List.length_map] at hi; exact hi
      have := h i hi'
      unfold wg at this
      rwa [hwt i hi'] at this
  have hvals : (wd [] s.data.toList).map numW = vals ws := by
    unfold vals
    refine List.ext_getElem (by rw [List.length_map, ← hmap, List.length_map, List.length_map, List.length_range]) (fun i h1 h2 => ?_)
    rw [List.getElem_map, List.getElem_map, List.getElem_range]
    unfold wv
    rw [hwt i (by rw [List.length_map, List.length_range] at h2; exact h2)]
  have hneg : (∀ i, wg ws i → 0 ≤ wv ws i) ∨ 45 ∈ s.data.toList := by
    by_cases q : 45 ∈ s.data.toList
    · exact .inr q
    · refine .inl (fun i hi => ?_)
      unfold wv numW
      split
      · rename_i hh
        exfalso
        have hm : (45 : UInt8) ∈ wt ws i := List.mem_of_mem_head? hh
        rw [hwt i (wg_lt hi)] at hm
        rcases (wd_mem s.data.toList [] _ (List.getElem_mem _)).2 45 hm with z | z
        · cases z
        · exact q z
      · omega
  obtain ⟨t, et, ht1, ht2⟩ := l10Read_ev s hs
  obtain ⟨v0, j0, b0, e0, l0, m0, g0, r0⟩ := take_ev ws hw hlen 0 (by omega) false
  obtain ⟨v1, j1, b1, e1, l1, m1, g1, r1⟩ := take_ev ws hw hlen j0 m0 b0
  have hin : impl_newTaker.f = some (0, false) := rfl
  have e0' : impl_taker_take.f 0 false ws = some (v0, (j0 : Int), b0) := e0
  have sm0 : Small 1048577 ([] : List S40) := ⟨Nat.zero_le _, fun x hx => by cases hx⟩
  have jt : ∀ l : List Int, Ev (fun k => spec_ReadPatch.j0 k s l true) noP := fun l => ev_succ (by simp only [spec_ReadPatch.j0]; exact ev_pos (by trivial) (Ev.now _))
  have hI : ∀ r, Ev (fun k => impl_ReadPatch.l0 k s ws (j1 : Int) b1 v0 v1 []) r → Ev (fun k => impl_ReadPatch.f k s) r := by
    intro r h
    unfold impl_ReadPatch.f
    simp only [hsp, hin, e0', e1, Option.bind_some]
    exact h
  by_cases hall : ∀ i, i < ws.length → wg ws i
  · have ht := ht1 (hgood.mpr hall)
    rw [hvals] at ht
    subst ht
    have vl := vals_length ws hw hlen
    by_cases q2 : ws.length < 2
    · refine ⟨noP, ?_, hI noP ?_, sm0⟩
      · unfold spec_ReadPatch.f
        refine Ev.bind et (ev_pos (by trivial) ?_)
        simp only []
        rw [decide_eq_true (by omega)]
        exact jt _
      · cases b1 with
        | true => exact bad_l0 s ws hw hlen _ _ j1 m1 _
        | false =>
          obtain ⟨h0, k1⟩ := g1.mp rfl
          obtain ⟨q0, _⟩ := r0 h0
          have := wg_lt k1
          omega
    · have h0 := g0.mpr ⟨rfl, hall 0 (by omega)⟩
      obtain ⟨q0, p0⟩ := r0 h0
      subst q0
      have h1 := g1.mpr ⟨h0, hall _ (by omega)⟩
      obtain ⟨q1, p1⟩ := r1 h1
      subst q1
      subst h1
      have rd0 : ∀ _ : Unit, rd (vals ws) 0 = v0 := fun _ => by rw [p0]; exact vals_rd ws hw hlen 0 0 (by omega)
      have rd1 : ∀ _ : Unit, rd (vals ws) 1 = v1 := fun _ => by rw [p1]; exact vals_rd ws hw hlen 0 1 (by omega)
      have hd2 : (vals ws).drop (2 : Int).toNat = (vals ws).drop (0 + 1 + 1) := rfl
      obtain ⟨r, x1, x2, x3⟩ := both_go s ws hw hlen v0 v1 hall hneg (ws.length - 2) (0 + 1 + 1) (by omega) [] [] ⟨Nat.zero_le _, fun x hx => by cases hx⟩ (Nat.zero_le _) (fun _ => rfl)
      refine ⟨r, ?_, hI r x2, ⟨by have := x3.1; omega, x3.2⟩⟩
      unfold spec_ReadPatch.f
      refine Ev.bind et (ev_pos (by trivial) ?_)
      simp only []
      rw [decide_eq_false (by omega)]
      refine ev_succ ?_
      simp only [spec_ReadPatch.j0, rd0 (), rd1 (), hd2]
      exact ev_neg (by decide) (ev_pos (by omega) (ev_pos (by omega) (ev_pos (by omega) x1)))
  · have ht := ht2 (fun h => hall (hgood.mp h))
    refine ⟨noP, ?_, hI noP ?_, sm0⟩
    · unfold spec_ReadPatch.f
      exact Ev.bind et (ev_neg (by rw [ht]; decide) (jt _))
    · obtain ⟨t, hn⟩ := Classical.not_forall.mp hall
      have ht : t < ws.length := Classical.byContradiction fun x => hn (fun y => absurd y x)
      have hb : ¬ wg ws t := fun x => hn (fun _ => x)
      cases b1 with
      | true => exact bad_l0 s ws hw hlen _ _ j1 m1 _
      | false =>
        obtain ⟨h0, k1⟩ := g1.mp rfl
        obtain ⟨_, k0⟩ := g0.mp h0
        obtain ⟨q0, p0⟩ := r0 h0
        obtain ⟨q1, p1⟩ := r1 rfl
        subst q0
        subst q1
        have h2 : 2 ≤ t := by
          rcases (show t = 0 ∨ t = 1 ∨ 2 ≤ t by omega) with e | e | e
          · exact absurd (e ▸ k0) hb
          · exact absurd (e ▸ k1) hb
          · exact e
        exact bad_go s ws hw hlen v0 v1 t ht hb (ws.length - 2) (0 + 1 + 1) (by omega) h2 [] (Nat.zero_le _)

theorem FnExactReadPatch : laws_FnExactReadPatch.Pure := by
  intro s _
  refine Ev.rounds ?_
  unfold laws_FnExactReadPatch.f
  by_cases h : (s.size : Int) > 1048576
  · exact ev_pos h (Ev.now _)
  refine ev_neg h ?_
  obtain ⟨⟨c, n, ch, g⟩, e1, e2, hc, hw⟩ := ReadPatch_both s (by omega)
  replace hc : ch.length ≤ 1048577 := hc
  replace hw : ∀ x ∈ ch, x.f2.length ≤ 60 := hw
  have eq := laws_eqPatch_ev c n ch (by omega) (fun x hx => by have := hw x hx; omega)
  have hsp : sumP (ch.map fun x => x.f2.length) ≤ (2 + 7 * 60) * (ch.map fun x => x.f2.length).length := sumP_le _ 60 (fun n hn => by obtain ⟨x, hx, rfl⟩ := List.mem_map.mp hn; exact hw x hx)
  rw [List.length_map] at hsp
  have mp := laws_markPatch_ev c n ch 1 (by omega) (by omega) (by omega)
  have hh := laws_heldPatch_ev c n (ch.map fun x => x.f2.length) 1 (by omega) (by rw [List.length_map]; omega) (by omega)
  refine Ev.bind e1 (Ev.bind e2 (Ev.bind eq (ev_pos rfl (ev_neg (by simp) (Ev.bind mp (Ev.bind hh (ev_neg (by omega) (ev_pos rfl ?_))))))))
  exact Ev.bind e2 (Ev.bind eq (ev_pos rfl (ev_neg (by simp) (Ev.bind hh (ev_neg (by omega) (ev_pos rfl (Ev.now _)))))))

end Go.Proofs.YtalopdcephohgaaDoor.Pure
