/- The law FnExactEdits answers true at every two lists of numbers. -/
import Derived.Test.YtnkoppgbbmeknaaMFnExactEditsx7
namespace Go.Proofs.Ytnkoppgbbmeknaa.Pure
open Go.RowKit Go.Proofs.Ytnkoppgbbmeknaa.PFnExactEdits Go.Proofs.YtnkoppgbbmeknaaW.PrintWords Go.Proofs.YtnkoppgbbmeknaaW.PrintLast
set_option linter.unusedVariables false
set_option linter.unusedSimpArgs false

def lev : List Int → List Int → Nat
  | [], ys => ys.length
  | _ :: xs, [] => xs.length + 1
  | x :: xs, y :: ys => if x = y then lev xs ys else 1 + min (lev xs ys) (min (lev xs (y :: ys)) (lev (x :: xs) ys))
termination_by xs ys => xs.length + ys.length
decreasing_by all_goals (simp only [List.length_cons]; omega)
theorem lev_nil (ys : List Int) : lev [] ys = ys.length := by unfold lev; rfl
theorem lev_nil' (xs : List Int) : lev xs [] = xs.length := by cases xs <;> simp [lev]
theorem lev_eq (x : Int) (xs ys : List Int) : lev (x :: xs) (x :: ys) = lev xs ys := by rw [lev, if_pos rfl]
theorem lev_ne {x y : Int} (h : x ≠ y) (xs ys : List Int) : lev (x :: xs) (y :: ys) = 1 + min (lev xs ys) (min (lev xs (y :: ys)) (lev (x :: xs) ys)) := by rw [lev, if_neg h]
theorem lev_comm : ∀ (n : Nat) (xs ys : List Int), xs.length + ys.length ≤ n → lev xs ys = lev ys xs := by
  intro n
  induction n with
  | zero =>
    intro xs ys h
    obtain rfl : xs = [] := List.length_eq_zero_iff.mp (by omega)
    obtain rfl : ys = [] := List.length_eq_zero_iff.mp (by omega)
    rfl
  | succ n ih =>
    intro xs ys h
    cases xs with
    | nil => rw [lev_nil, lev_nil']
    | cons x xs =>
      cases ys with
      | nil => rw [lev_nil, lev_nil']
      | cons y ys =>
        simp only [List.length_cons] at h
        by_cases e : x = y
        · subst e; rw [lev_eq, lev_eq]; exact ih _ _ (by omega)
        · rw [lev_ne e, lev_ne (Ne.symm e), ih xs ys (by omega), ih xs (y :: ys) (by simp only [List.length_cons]; omega), ih (x :: xs) ys (by simp only [List.length_cons]; omega)]
          omega
theorem lev_steps : ∀ (n : Nat), (∀ (x : Int) (xs ys : List Int), xs.length + ys.length ≤ n → lev (x :: xs) ys ≤ lev xs ys + 1) ∧ (∀ (y : Int) (xs ys : List Int), xs.length + ys.length ≤ n → lev xs ys ≤ lev xs (y :: ys) + 1) := by
  intro n
  induction n with
  | zero =>
    constructor
    · intro x xs ys h
      obtain rfl : ys = [] := List.length_eq_zero_iff.mp (by omega)
      rw [lev_nil', lev_nil']; simp
    · intro y xs ys h
      obtain rfl : xs = [] := List.length_eq_zero_iff.mp (by omega)
      rw [lev_nil, lev_nil]; simp; omega
  | succ n ih =>
    constructor
    · intro x xs ys h
      cases ys with
      | nil => rw [lev_nil', lev_nil']; simp
      | cons y ys =>
        simp only [List.length_cons] at h
        by_cases e : x = y
        · subst e; rw [lev_eq]; exact ih.2 x xs ys (by omega)
        · rw [lev_ne e]; omega
    · intro y xs ys h
      cases xs with
      | nil => rw [lev_nil, lev_nil]; simp; omega
      | cons x xs =>
        simp only [List.length_cons] at h
        have a1 := ih.1 x xs ys (by omega)
        by_cases e : x = y
        · subst e; rw [lev_eq]; exact a1
        · rw [lev_ne e]
          have a2 := ih.2 y xs ys (by omega)
          omega
theorem lev_cons_left (x : Int) (xs ys : List Int) : lev (x :: xs) ys ≤ lev xs ys + 1 := (lev_steps _).1 x xs ys (Nat.le_refl _)
theorem lev_cons_right (y : Int) (xs ys : List Int) : lev xs (y :: ys) ≤ lev xs ys + 1 := by
  rw [lev_comm _ xs (y :: ys) (Nat.le_refl _), lev_comm _ xs ys (Nat.le_refl _)]; exact lev_cons_left y ys xs
theorem lev_cons_both (x y : Int) (xs ys : List Int) : lev (x :: xs) (y :: ys) ≤ lev xs ys + 1 := by
  by_cases e : x = y
  · subst e; rw [lev_eq]; omega
  · rw [lev_ne e]; omega

inductive Al : List Int → List Int → Nat → Prop
  | nil : Al [] [] 0
  | keep (x : Int) {xs ys : List Int} {n : Nat} : Al xs ys n → Al (x :: xs) (x :: ys) n
  | turn (x y : Int) {xs ys : List Int} {n : Nat} : Al xs ys n → Al (x :: xs) (y :: ys) (n + 1)
  | take (x : Int) {xs ys : List Int} {n : Nat} : Al xs ys n → Al (x :: xs) ys (n + 1)
  | put (y : Int) {xs ys : List Int} {n : Nat} : Al xs ys n → Al xs (y :: ys) (n + 1)
theorem al_puts : ∀ ys : List Int, Al [] ys ys.length
  | [] => .nil
  | y :: ys => .put y (al_puts ys)
theorem al_takes : ∀ xs : List Int, Al xs [] xs.length
  | [] => .nil
  | x :: xs => .take x (al_takes xs)
theorem al_lev : ∀ (n : Nat) (xs ys : List Int), xs.length + ys.length ≤ n → Al xs ys (lev xs ys) := by
  intro n
  induction n with
  | zero =>
    intro xs ys h
    obtain rfl : xs = [] := List.length_eq_zero_iff.mp (by omega)
    rw [lev_nil]; exact al_puts ys
  | succ n ih =>
    intro xs ys h
    cases xs with
    | nil => rw [lev_nil]; exact al_puts ys
    | cons x xs =>
      cases ys with
      | nil => rw [lev_nil']; exact al_takes _
      | cons y ys =>
        simp only [List.length_cons] at h
        by_cases e : x = y
        · subst e; rw [lev_eq]; exact .keep x (ih _ _ (by omega))
        · rw [lev_ne e]
          have h1 := ih xs ys (by omega)
          have h2 := ih xs (y :: ys) (by simp only [List.length_cons]; omega)
          have h3 := ih (x :: xs) ys (by simp only [List.length_cons]; omega)
          by_cases c1 : lev xs ys ≤ lev xs (y :: ys) ∧ lev xs ys ≤ lev (x :: xs) ys
          · rw [show 1 + min (lev xs ys) (min (lev xs (y :: ys)) (lev (x :: xs) ys)) = lev xs ys + 1 by omega]; exact .turn x y h1
          · by_cases c2 : lev xs (y :: ys) ≤ lev (x :: xs) ys
            · rw [show 1 + min (lev xs ys) (min (lev xs (y :: ys)) (lev (x :: xs) ys)) = lev xs (y :: ys) + 1 by omega]; exact .take x h2
            · rw [show 1 + min (lev xs ys) (min (lev xs (y :: ys)) (lev (x :: xs) ys)) = lev (x :: xs) ys + 1 by omega]; exact .put y h3
theorem lev_le_of_al {xs ys : List Int} {n : Nat} (h : Al xs ys n) : lev xs ys ≤ n := by
  induction h with
  | nil => rw [lev_nil]; simp
  | keep x _ ih => rw [lev_eq]; exact ih
  | @turn x y xs ys n _ ih => have := lev_cons_both x y xs ys; omega
  | @take x xs ys n _ ih => have := lev_cons_left x xs ys; omega
  | @put y xs ys n _ ih => have := lev_cons_right y xs ys; omega
theorem al_trans : ∀ (N : Nat) (xs ys zs : List Int) (n m : Nat), xs.length + ys.length + zs.length ≤ N → Al xs ys n → Al ys zs m → ∃ k, k ≤ n + m ∧ Al xs zs k := by
  intro N
  induction N with
  | zero =>
    intro xs ys zs n m h h1 h2
    obtain rfl : xs = [] := List.length_eq_zero_iff.mp (by omega)
    obtain rfl : zs = [] := List.length_eq_zero_iff.mp (by omega)
    exact ⟨0, by omega, .nil⟩
  | succ N ih =>
    intro xs ys zs n m h h1 h2
    cases h2 with
    | put z h2 =>
      obtain ⟨k, hk, a⟩ := ih _ _ _ _ _ (by simp only [List.length_cons] at h; omega) h1 h2
      exact ⟨k + 1, by omega, .put z a⟩
    | nil =>
      cases h1 with
      | nil => exact ⟨0, by omega, .nil⟩
      | take x h1 =>
        obtain ⟨k, hk, a⟩ := ih _ _ _ _ _ (by simp only [List.length_cons] at h; omega) h1 .nil
        exact ⟨k + 1, by omega, .take x a⟩
    | keep y h2 =>
      cases h1 with
      | keep _ h1 =>
        obtain ⟨k, hk, a⟩ := ih _ _ _ _ _ (by simp only [List.length_cons] at h; omega) h1 h2
        exact ⟨k, by omega, .keep y a⟩
      | turn x _ h1 =>
        obtain ⟨k, hk, a⟩ := ih _ _ _ _ _ (by simp only [List.length_cons] at h; omega) h1 h2
        exact ⟨k + 1, by omega, .turn x y a⟩
      | take x h1 =>
        obtain ⟨k, hk, a⟩ := ih _ _ _ _ _ (by simp only [List.length_cons] at h ⊢; omega) h1 (.keep y h2)
        exact ⟨k + 1, by omega, .take x a⟩
      | put _ h1 =>
        obtain ⟨k, hk, a⟩ := ih _ _ _ _ _ (by simp only [List.length_cons] at h; omega) h1 h2
        exact ⟨k + 1, by omega, .put y a⟩
    | turn y z h2 =>
      cases h1 with
      | keep _ h1 =>
        obtain ⟨k, hk, a⟩ := ih _ _ _ _ _ (by simp only [List.length_cons] at h; omega) h1 h2
        exact ⟨k + 1, by omega, .turn y z a⟩
      | turn x _ h1 =>
        obtain ⟨k, hk, a⟩ := ih _ _ _ _ _ (by simp only [List.length_cons] at h; omega) h1 h2
        exact ⟨k + 1, by omega, .turn x z a⟩
      | take x h1 =>
        obtain ⟨k, hk, a⟩ := ih _ _ _ _ _ (by simp only [List.length_cons] at h ⊢; omega) h1 (.turn y z h2)
        exact ⟨k + 1, by omega, .take x a⟩
      | put _ h1 =>
        obtain ⟨k, hk, a⟩ := ih _ _ _ _ _ (by simp only [List.length_cons] at h; omega) h1 h2
        exact ⟨k + 1, by omega, .put z a⟩
    | take y h2 =>
      cases h1 with
      | keep _ h1 =>
        obtain ⟨k, hk, a⟩ := ih _ _ _ _ _ (by simp only [List.length_cons] at h; omega) h1 h2
        exact ⟨k + 1, by omega, .take y a⟩
      | turn x _ h1 =>
        obtain ⟨k, hk, a⟩ := ih _ _ _ _ _ (by simp only [List.length_cons] at h; omega) h1 h2
        exact ⟨k + 1, by omega, .take x a⟩
      | take x h1 =>
        obtain ⟨k, hk, a⟩ := ih _ _ _ _ _ (by simp only [List.length_cons] at h ⊢; omega) h1 (.take y h2)
        exact ⟨k + 1, by omega, .take x a⟩
      | put _ h1 =>
        obtain ⟨k, hk, a⟩ := ih _ _ _ _ _ (by simp only [List.length_cons] at h; omega) h1 h2
        exact ⟨k, by omega, a⟩
theorem lev_triangle (xs ys zs : List Int) : lev xs zs ≤ lev xs ys + lev ys zs := by
  obtain ⟨k, hk, a⟩ := al_trans _ xs ys zs _ _ (Nat.le_refl _) (al_lev _ xs ys (Nat.le_refl _)) (al_lev _ ys zs (Nat.le_refl _))
  exact Nat.le_trans (lev_le_of_al a) hk
theorem al_zero {xs ys : List Int} {n : Nat} (h : Al xs ys n) : n = 0 → xs = ys := by
  induction h with
  | nil => intro _; rfl
  | keep x _ ih => intro h; rw [ih h]
  | turn _ _ _ _ => intro h; omega
  | take _ _ _ => intro h; omega
  | put _ _ _ => intro h; omega
theorem lev_self : ∀ xs : List Int, lev xs xs = 0
  | [] => by rw [lev_nil]; rfl
  | x :: xs => by rw [lev_eq]; exact lev_self xs
theorem lev_zero {xs ys : List Int} : lev xs ys = 0 ↔ xs = ys :=
  ⟨fun h => al_zero (al_lev _ xs ys (Nat.le_refl _)) h, fun h => h ▸ lev_self xs⟩
theorem al_lengths {xs ys : List Int} {n : Nat} (h : Al xs ys n) : xs.length ≤ ys.length + n ∧ ys.length ≤ xs.length + n := by
  induction h with
  | nil => simp
  | keep x _ ih => simp only [List.length_cons]; omega
  | turn _ _ _ ih => simp only [List.length_cons]; omega
  | take _ _ ih => simp only [List.length_cons]; omega
  | put _ _ ih => simp only [List.length_cons]; omega
theorem lev_lengths (xs ys : List Int) : xs.length ≤ ys.length + lev xs ys ∧ ys.length ≤ xs.length + lev xs ys := al_lengths (al_lev _ xs ys (Nat.le_refl _))
theorem lev_most : ∀ xs ys : List Int, lev xs ys ≤ max xs.length ys.length
  | [], ys => by rw [lev_nil]; omega
  | x :: xs, [] => by rw [lev_nil']; omega
  | x :: xs, y :: ys => by
    have h1 := lev_cons_both x y xs ys
    have h2 := lev_most xs ys
    simp only [List.length_cons]; omega

def lcs : List Int → List Int → Nat
  | [], _ => 0
  | _ :: _, [] => 0
  | x :: xs, y :: ys => if x = y then lcs xs ys + 1 else max (lcs xs (y :: ys)) (lcs (x :: xs) ys)
termination_by xs ys => xs.length + ys.length
decreasing_by all_goals (simp only [List.length_cons]; omega)
theorem lcs_nil (ys : List Int) : lcs [] ys = 0 := by unfold lcs; rfl
theorem lcs_nil' (xs : List Int) : lcs xs [] = 0 := by cases xs <;> simp [lcs]
theorem lcs_eq (x : Int) (xs ys : List Int) : lcs (x :: xs) (x :: ys) = lcs xs ys + 1 := by rw [lcs, if_pos rfl]
theorem lcs_ne {x y : Int} (h : x ≠ y) (xs ys : List Int) : lcs (x :: xs) (y :: ys) = max (lcs xs (y :: ys)) (lcs (x :: xs) ys) := by rw [lcs, if_neg h]
theorem lcs_comm : ∀ (n : Nat) (xs ys : List Int), xs.length + ys.length ≤ n → lcs xs ys = lcs ys xs := by
  intro n
  induction n with
  | zero =>
    intro xs ys h
    obtain rfl : xs = [] := List.length_eq_zero_iff.mp (by omega)
    obtain rfl : ys = [] := List.length_eq_zero_iff.mp (by omega)
    rfl
  | succ n ih =>
    intro xs ys h
    cases xs with
    | nil => rw [lcs_nil, lcs_nil']
    | cons x xs =>
      cases ys with
      | nil => rw [lcs_nil, lcs_nil']
      | cons y ys =>
        simp only [List.length_cons] at h
        by_cases e : x = y
        · subst e; rw [lcs_eq, lcs_eq, ih _ _ (by omega)]
        · rw [lcs_ne e, lcs_ne (Ne.symm e), ih xs (y :: ys) (by simp only [List.length_cons]; omega), ih (x :: xs) ys (by simp only [List.length_cons]; omega)]
          omega
theorem lcs_steps : ∀ (n : Nat) (x : Int) (xs ys : List Int), xs.length + ys.length ≤ n → lcs xs ys ≤ lcs (x :: xs) ys ∧ lcs (x :: xs) ys ≤ lcs xs ys + 1 := by
  intro n
  induction n with
  | zero =>
    intro x xs ys h
    obtain rfl : ys = [] := List.length_eq_zero_iff.mp (by omega)
    rw [lcs_nil', lcs_nil']; omega
  | succ n ih =>
    intro x xs ys h
    cases ys with
    | nil => rw [lcs_nil', lcs_nil']; omega
    | cons y ys =>
      simp only [List.length_cons] at h
      have c := ih y ys xs (by omega)
      rw [lcs_comm _ ys xs (Nat.le_refl _), lcs_comm _ (y :: ys) xs (Nat.le_refl _)] at c
      by_cases e : x = y
      · subst e; rw [lcs_eq]; omega
      · rw [lcs_ne e]
        have a := ih x xs ys (by omega)
        omega
theorem lcs_left (x : Int) (xs ys : List Int) : lcs xs ys ≤ lcs (x :: xs) ys := (lcs_steps _ x xs ys (Nat.le_refl _)).1
theorem lcs_right (y : Int) (xs ys : List Int) : lcs xs ys ≤ lcs xs (y :: ys) := by
  rw [lcs_comm _ xs (y :: ys) (Nat.le_refl _), lcs_comm _ xs ys (Nat.le_refl _)]; exact lcs_left y ys xs
theorem lcs_most : ∀ (n : Nat) (xs ys : List Int), xs.length + ys.length ≤ n → lcs xs ys ≤ xs.length ∧ lcs xs ys ≤ ys.length := by
  intro n
  induction n with
  | zero =>
    intro xs ys h
    obtain rfl : xs = [] := List.length_eq_zero_iff.mp (by omega)
    rw [lcs_nil]; omega
  | succ n ih =>
    intro xs ys h
    cases xs with
    | nil => rw [lcs_nil]; omega
    | cons x xs =>
      cases ys with
      | nil => rw [lcs_nil']; omega
      | cons y ys =>
        simp only [List.length_cons] at h
        by_cases e : x = y
        · subst e; rw [lcs_eq]; have := ih xs ys (by omega); simp only [List.length_cons]; omega
        · rw [lcs_ne e]
          have a := ih xs (y :: ys) (by simp only [List.length_cons]; omega)
          have b := ih (x :: xs) ys (by simp only [List.length_cons]; omega)
          simp only [List.length_cons] at a b ⊢; omega
theorem al_lcs {xs ys : List Int} {n : Nat} (h : Al xs ys n) : xs.length ≤ lcs xs ys + n ∧ ys.length ≤ lcs xs ys + n := by
  induction h with
  | nil => simp
  | keep x _ ih => rw [lcs_eq]; simp only [List.length_cons]; omega
  | @turn x y xs ys n _ ih => have a := lcs_left x xs (y :: ys); have b := lcs_right y xs ys; simp only [List.length_cons]; omega
  | @take x xs ys n _ ih => have a := lcs_left x xs ys; simp only [List.length_cons]; omega
  | @put y xs ys n _ ih => have b := lcs_right y xs ys; simp only [List.length_cons]; omega
theorem lev_lcs (xs ys : List Int) : max xs.length ys.length ≤ lcs xs ys + lev xs ys := by
  have := al_lcs (al_lev _ xs ys (Nat.le_refl _)); omega
theorem lev_two_lcs : ∀ (n : Nat) (xs ys : List Int), xs.length + ys.length ≤ n → lev xs ys + 2 * lcs xs ys ≤ xs.length + ys.length := by
  intro n
  induction n with
  | zero =>
    intro xs ys h
    obtain rfl : xs = [] := List.length_eq_zero_iff.mp (by omega)
    rw [lev_nil, lcs_nil]; omega
  | succ n ih =>
    intro xs ys h
    cases xs with
    | nil => rw [lev_nil, lcs_nil]; omega
    | cons x xs =>
      cases ys with
      | nil => rw [lev_nil', lcs_nil']; omega
      | cons y ys =>
        simp only [List.length_cons] at h
        by_cases e : x = y
        · subst e; rw [lev_eq, lcs_eq]; have := ih xs ys (by omega); simp only [List.length_cons]; omega
        · rw [lcs_ne e]
          have a := ih xs (y :: ys) (by simp only [List.length_cons]; omega)
          have b := ih (x :: xs) ys (by simp only [List.length_cons]; omega)
          have c := lev_cons_left x xs (y :: ys)
          have d := lev_cons_right y (x :: xs) ys
          simp only [List.length_cons] at a b ⊢; omega

theorem w64 {x : Int} (h0 : -9223372036854775808 ≤ x) (h1 : x ≤ 9223372036854775807) : wrap64 x = x := by unfold wrap64; omega
theorem wf64 {x : Int} : (Lit.int .i64 x).wf = true ↔ -9223372036854775808 ≤ x ∧ x ≤ 9223372036854775807 := by
  simp [Lit.wf, IntKind.min, IntKind.max, IntKind.signed, IntKind.bits]
theorem wf8 {x : Int} : (Lit.int .u8 x).wf = true ↔ 0 ≤ x ∧ x ≤ 255 := by
  simp [Lit.wf, IntKind.min, IntKind.max, IntKind.signed, IntKind.bits]
theorem ev_succ {α : Type} {g : Nat → Option α} {r : α} (h : Ev (fun k => g (k + 1)) r) : Ev g r := by
  obtain ⟨K, h⟩ := h
  refine ⟨K + 1, fun k hk => ?_⟩
  obtain ⟨m, rfl⟩ : ∃ m, k = m + 1 := ⟨k - 1, by omega⟩
  exact h m (by omega)
theorem ev_fixed {α : Type} {x : Option α} {r : α} (h : x = some r) : Ev (fun _ => x) r := ⟨0, fun _ _ => h⟩
theorem ev_eq {α : Type} {g : Nat → Option α} {r s : α} (h : Ev g r) (e : r = s) : Ev g s := e ▸ h
theorem bt0 (s : ByteArray) (i : Int) : 0 ≤ bt s i := (bt_range s i).1
theorem bt255 (s : ByteArray) (i : Int) : bt s i ≤ 255 := (bt_range s i).2
/-- Never keep an equation 'wrap64 .. = ..' in the context where omega runs: it compares them by unfolding. -/
theorem wN {x : Int} {n : Nat} (e : x = (n : Int)) (h : n < 4611686018427387904) : wrap64 x = (n : Int) := by rw [e]; exact w64 (by omega) (by omega)

theorem ev_pos {α : Type} {c : Prop} [Decidable c] {a b : Nat → Option α} {r : α} (hc : c) (h : Ev a r) : Ev (fun k => if c then a k else b k) r := by
  obtain ⟨K, h⟩ := h
  exact ⟨K, fun k hk => by show (if c then a k else b k) = some r; rw [if_pos hc]; exact h k hk⟩
theorem ev_neg {α : Type} {c : Prop} [Decidable c] {a b : Nat → Option α} {r : α} (hc : ¬ c) (h : Ev b r) : Ev (fun k => if c then a k else b k) r := by
  obtain ⟨K, h⟩ := h
  exact ⟨K, fun k hk => by show (if c then a k else b k) = some r; rw [if_neg hc]; exact h k hk⟩
theorem ev_bind_some {α β : Type} {a : α} {f : Nat → α → Option β} {r : β} (h : Ev (fun k => f k a) r) : Ev (fun k => (some a).bind (f k)) r := h
theorem ev_bind_of {α β : Type} {x : Option α} {a : α} {f : Nat → α → Option β} {r : β} (hx : x = some a) (h : Ev (fun k => f k a) r) : Ev (fun k => x.bind (f k)) r := by
  subst hx; exact h

theorem rd_nat (l : List Int) (i : Nat) : rd l (i : Int) = l.getD i 0 := by simp [rd]
theorem rd_at {l : List Int} {i : Nat} (h : i < l.length) : rd l (i : Int) = l[i] := by rw [rd_nat, List.getD_eq_getElem?_getD, List.getElem?_eq_getElem h]; rfl
theorem take_set_succ {α : Type} (l : List α) (i : Nat) (a : α) (h : i < l.length) : (l.set i a).take (i + 1) = l.take i ++ [a] := by
  rw [List.take_succ_eq_append_getElem (by simpa using h), List.take_set, List.set_eq_of_length_le (by rw [List.length_take]; omega)]
  simp

/-- The first n numbers of a table of w columns, row by row. -/
def fl (T : Nat → Nat → Int) (w n : Nat) : List Int := (List.range n).map fun q => T (q / w) (q % w)
theorem fl_length (T : Nat → Nat → Int) (w n : Nat) : (fl T w n).length = n := by simp [fl]
theorem fl_succ (T : Nat → Nat → Int) (w n : Nat) : fl T w (n + 1) = fl T w n ++ [T (n / w) (n % w)] := by simp [fl, List.range_succ]
def st (T : Nat → Nat → Int) (w M n : Nat) : List Int := fl T w n ++ List.replicate (M - n) 0
theorem st_length (T : Nat → Nat → Int) (w M n : Nat) (h : n ≤ M) : (st T w M n).length = M := by simp [st, fl_length]; omega
theorem st_get (T : Nat → Nat → Int) (w M n q : Nat) (h : n ≤ M) (hq : q < n) : rd (st T w M n) (q : Int) = T (q / w) (q % w) := by
  rw [rd_at (by rw [st_length _ _ _ _ h]; omega)]
  unfold st
  rw [List.getElem_append_left (by rw [fl_length]; exact hq)]
  simp [fl]
theorem st_set (T : Nat → Nat → Int) (w M n : Nat) (h : n < M) : (st T w M n).set n (T (n / w) (n % w)) = st T w M (n + 1) := by
  unfold st
  rw [List.set_append_right _ _ (by rw [fl_length]; omega), fl_length, Nat.sub_self, fl_succ, show M - n = (M - (n + 1)) + 1 by omega, List.replicate_succ, List.set_cons_zero, List.append_assoc, List.singleton_append]
theorem st_skip (T : Nat → Nat → Int) (w M n : Nat) (h : n < M) (e : T (n / w) (n % w) = 0) : st T w M n = st T w M (n + 1) := by
  unfold st
  rw [fl_succ, e, show M - n = (M - (n + 1)) + 1 by omega, List.replicate_succ, List.append_assoc, List.singleton_append]
theorem st_zero (T : Nat → Nat → Int) (w M : Nat) : st T w M 0 = List.replicate M 0 := by simp [st, fl]
theorem at_div {i j w : Nat} (hj : j < w) : (i * w + j) / w = i := by
  rw [Nat.mul_comm, Nat.mul_add_div (by omega), Nat.div_eq_of_lt hj, Nat.add_zero]
theorem at_mod {i j w : Nat} (hj : j < w) : (i * w + j) % w = j := by
  rw [Nat.mul_comm, Nat.mul_add_mod, Nat.mod_eq_of_lt hj]
/-- A row's first n numbers. -/
def rowv (f : Nat → Int) (n : Nat) : List Int := (List.range n).map f
theorem rowv_length (f : Nat → Int) (n : Nat) : (rowv f n).length = n := by simp [rowv]
theorem rowv_succ (f : Nat → Int) (n : Nat) : rowv f (n + 1) = rowv f n ++ [f n] := by simp [rowv, List.range_succ]
theorem rowv_get (f : Nat → Int) (n i : Nat) (h : i < n) : rd (rowv f n) (i : Int) = f i := by
  rw [rd_at (by rw [rowv_length]; exact h)]; simp [rowv]

def dv (a b : List Int) (i j : Nat) : Int := (lev (a.take i).reverse (b.take j).reverse : Int)
def sv (a b : List Int) (i j : Nat) : Int := (lcs (a.take i).reverse (b.take j).reverse : Int)
theorem take_rev {l : List Int} {i : Nat} (h : i < l.length) : (l.take (i + 1)).reverse = rd l (i : Int) :: (l.take i).reverse := by
  rw [List.take_succ_eq_append_getElem h, List.reverse_append, rd_at h]; rfl
theorem dv_zero {a b : List Int} {j : Nat} (h : j ≤ b.length) : dv a b 0 j = j := by
  unfold dv; rw [List.take_zero, List.reverse_nil, lev_nil, List.length_reverse, List.length_take]; omega
theorem dv_zero' {a b : List Int} {i : Nat} (h : i ≤ a.length) : dv a b i 0 = i := by
  unfold dv; rw [List.take_zero, List.reverse_nil, lev_nil', List.length_reverse, List.length_take]; omega
theorem dv_eq {a b : List Int} {i j : Nat} (hi : i < a.length) (hj : j < b.length) (e : rd a (i : Int) = rd b (j : Int)) : dv a b (i + 1) (j + 1) = dv a b i j := by
  unfold dv; rw [take_rev hi, take_rev hj, e, lev_eq]
theorem dv_ne {a b : List Int} {i j : Nat} (hi : i < a.length) (hj : j < b.length) (e : rd a (i : Int) ≠ rd b (j : Int)) : dv a b (i + 1) (j + 1) = 1 + min (dv a b i j) (min (dv a b i (j + 1)) (dv a b (i + 1) j)) := by
  unfold dv; rw [take_rev hi, take_rev hj, lev_ne e]; omega
theorem dv_range {a b : List Int} (i j : Nat) : 0 ≤ dv a b i j ∧ dv a b i j ≤ a.length + b.length := by
  unfold dv
  have := lev_most (a.take i).reverse (b.take j).reverse
  simp only [List.length_reverse, List.length_take] at this
  omega
theorem sv_zero (a b : List Int) (j : Nat) : sv a b 0 j = 0 := by unfold sv; rw [List.take_zero, List.reverse_nil, lcs_nil]; rfl
theorem sv_zero' (a b : List Int) (i : Nat) : sv a b i 0 = 0 := by unfold sv; rw [List.take_zero, List.reverse_nil, lcs_nil']; rfl
theorem sv_eq {a b : List Int} {i j : Nat} (hi : i < a.length) (hj : j < b.length) (e : rd a (i : Int) = rd b (j : Int)) : sv a b (i + 1) (j + 1) = sv a b i j + 1 := by
  unfold sv; rw [take_rev hi, take_rev hj, e, lcs_eq]; omega
theorem sv_ne {a b : List Int} {i j : Nat} (hi : i < a.length) (hj : j < b.length) (e : rd a (i : Int) ≠ rd b (j : Int)) : sv a b (i + 1) (j + 1) = max (sv a b i (j + 1)) (sv a b (i + 1) j) := by
  unfold sv; rw [take_rev hi, take_rev hj, lcs_ne e]; omega
theorem sv_range {a b : List Int} (i j : Nat) : 0 ≤ sv a b i j ∧ sv a b i j ≤ a.length := by
  unfold sv
  have := lcs_most _ (a.take i).reverse (b.take j).reverse (Nat.le_refl _)
  simp only [List.length_reverse, List.length_take] at this
  omega

theorem spec_l1Min_mn (a b : Int) : spec_l1Min.f a b = some (min a b) := by
  unfold spec_l1Min.f
  split
  · rw [Int.min_eq_left (by omega)]
  · rw [Int.min_eq_right (by omega)]
def tablev (a b : List Int) : List Int := fl (dv a b) (b.length + 1) ((a.length + 1) * (b.length + 1))
theorem spec_l9Table_ev (a b : List Int) (ha : a.length ≤ 40) (hb : b.length ≤ 40) : Ev (fun k => spec_l9Table.f k a b) (tablev a b) := by
  unfold spec_l9Table.f tablev
  have hMle : (a.length + 1) * (b.length + 1) ≤ 41 * 41 := Nat.mul_le_mul (by omega) (by omega)
  have hwb : ∀ _ : Unit, wrap64 ((b.length : Int) + 1) = ((b.length + 1 : Nat) : Int) := fun _ => by rw [w64 (by omega) (by omega)]; omega
  have hwa : ∀ _ : Unit, wrap64 ((a.length : Int) + 1) = ((a.length + 1 : Nat) : Int) := fun _ => by rw [w64 (by omega) (by omega)]; omega
  have hwM : ∀ _ : Unit, wrap64 (((a.length + 1 : Nat) : Int) * ((b.length + 1 : Nat) : Int)) = (((a.length + 1) * (b.length + 1) : Nat) : Int) := fun _ => by rw [← Int.natCast_mul, w64 (by omega) (by omega)]
  rw [hwa (), hwb (), hwM ()]
  refine ev_pos (by omega) (ev_pos (by omega) ?_)
  rw [Int.toNat_natCast, ← st_zero (dv a b) (b.length + 1)]
  generalize hM : (a.length + 1) * (b.length + 1) = M at hMle
  have hrow : ∀ i, i ≤ a.length → i * (b.length + 1) + (b.length + 1) ≤ M := fun i hi => by
    rw [← hM, ← Nat.succ_mul]; exact Nat.mul_le_mul (by omega) (Nat.le_refl _)
  have fin : st (dv a b) (b.length + 1) M M = fl (dv a b) (b.length + 1) M := by simp [st]
  have l1 : ∀ (i : Nat), i ≤ a.length → (Ev (fun k => spec_l9Table.l0 k a b ((b.length + 1 : Nat) : Int) (st (dv a b) (b.length + 1) M ((i + 1) * (b.length + 1))) ((i + 1 : Nat) : Int)) (fl (dv a b) (b.length + 1) M)) →
      ∀ (d j : Nat), j + d = b.length + 1 → Ev (fun k => spec_l9Table.l1 k a b ((b.length + 1 : Nat) : Int) (st (dv a b) (b.length + 1) M (i * (b.length + 1) + j)) (i : Int) (j : Int)) (fl (dv a b) (b.length + 1) M) := by
    intro i hi hnext d
    induction d with
    | zero =>
      intro j h
      refine ev_succ ?_
      simp only [spec_l9Table.l1, show wrap64 ((i : Int) + 1) = ((i + 1 : Nat) : Int) by rw [w64 (by omega) (by omega)]; omega]
      refine ev_neg (by omega) ?_
      rw [show i * (b.length + 1) + j = (i + 1) * (b.length + 1) by rw [Nat.succ_mul i]; omega]
      exact hnext
    | succ d ih =>
      intro j h
      have hr1 := hrow i (by omega)
      have n9 : ∀ _ : Unit, wrap64 ((j : Int) + 1) = ((j + 1 : Nat) : Int) := fun _ => by rw [w64 (by omega) (by omega)]; omega
      have hl := st_length (dv a b) (b.length + 1) M (i * (b.length + 1) + j) (by omega)
      have hset := st_set (dv a b) (b.length + 1) M (i * (b.length + 1) + j) (by omega)
      rw [at_div (by omega), at_mod (by omega)] at hset
      have hi2 := ih (j + 1) (by omega)
      rw [show i * (b.length + 1) + (j + 1) = i * (b.length + 1) + j + 1 by omega, ← hset] at hi2
      refine ev_succ ?_
      by_cases i0 : i = 0
      · subst i0
        rw [dv_zero (by omega)] at hi2
        simp only [spec_l9Table.l1, n9 (), Int.toNat_natCast]
        refine ev_pos (by omega) (ev_pos (by omega) (ev_pos (by omega) (ev_pos (by omega) ?_)))
        rw [show 0 * (b.length + 1) + j = j by omega] at hi2 ⊢
        exact hi2
      obtain ⟨i, rfl⟩ : ∃ i', i = i' + 1 := ⟨i - 1, by omega⟩
      have hq : (i + 1) * (b.length + 1) = i * (b.length + 1) + (b.length + 1) := Nat.succ_mul _ _
      have n6 : ∀ _ : Unit, wrap64 (((i + 1 : Nat) : Int) * ((b.length + 1 : Nat) : Int)) = (((i + 1) * (b.length + 1) : Nat) : Int) := fun _ => by rw [← Int.natCast_mul, w64 (by omega) (by omega)]
      by_cases j0 : j = 0
      · subst j0
        rw [dv_zero' (by omega)] at hi2
        simp only [spec_l9Table.l1, n9 (), n6 (), Int.toNat_natCast]
        refine ev_pos (by omega) (ev_neg (by omega) (ev_pos (by omega) (ev_pos (by omega) (ev_pos (by omega) ?_))))
        rw [Nat.add_zero] at hi2 ⊢
        exact hi2
      obtain ⟨j, rfl⟩ : ∃ j', j = j' + 1 := ⟨j - 1, by omega⟩
      have n1 : ∀ _ : Unit, wrap64 (((i + 1 : Nat) : Int) - 1) = (i : Int) := fun _ => by rw [w64 (by omega) (by omega)]; omega
      have n2 : ∀ _ : Unit, wrap64 (((j + 1 : Nat) : Int) - 1) = (j : Int) := fun _ => by rw [w64 (by omega) (by omega)]; omega
      have n3 : ∀ _ : Unit, wrap64 ((i : Int) * ((b.length + 1 : Nat) : Int)) = ((i * (b.length + 1) : Nat) : Int) := fun _ => by rw [← Int.natCast_mul, w64 (by omega) (by omega)]
      have n4 : ∀ _ : Unit, wrap64 (((i * (b.length + 1) : Nat) : Int) + ((j + 1 : Nat) : Int)) = ((i * (b.length + 1) + (j + 1) : Nat) : Int) := fun _ => by rw [w64 (by omega) (by omega)]; omega
      have n5 : ∀ _ : Unit, wrap64 (((i * (b.length + 1) + (j + 1) : Nat) : Int) - 1) = ((i * (b.length + 1) + j : Nat) : Int) := fun _ => by rw [w64 (by omega) (by omega)]; omega
      have n7 : ∀ _ : Unit, wrap64 ((((i + 1) * (b.length + 1) : Nat) : Int) + ((j + 1 : Nat) : Int)) = (((i + 1) * (b.length + 1) + (j + 1) : Nat) : Int) := fun _ => by rw [w64 (by omega) (by omega)]; omega
      have n8 : ∀ _ : Unit, wrap64 ((((i + 1) * (b.length + 1) + (j + 1) : Nat) : Int) - 1) = (((i + 1) * (b.length + 1) + j : Nat) : Int) := fun _ => by rw [w64 (by omega) (by omega)]; omega
      have g1 : ∀ _ : Unit, rd (st (dv a b) (b.length + 1) M ((i + 1) * (b.length + 1) + (j + 1))) ((i * (b.length + 1) + j : Nat) : Int) = dv a b i j := fun _ => by
        rw [st_get _ _ _ _ _ (by omega) (by omega), at_div (by omega), at_mod (by omega)]
      have g2 : ∀ _ : Unit, rd (st (dv a b) (b.length + 1) M ((i + 1) * (b.length + 1) + (j + 1))) ((i * (b.length + 1) + (j + 1) : Nat) : Int) = dv a b i (j + 1) := fun _ => by
        rw [st_get _ _ _ _ _ (by omega) (by omega), at_div (by omega), at_mod (by omega)]
      have g3 : ∀ _ : Unit, rd (st (dv a b) (b.length + 1) M ((i + 1) * (b.length + 1) + (j + 1))) (((i + 1) * (b.length + 1) + j : Nat) : Int) = dv a b (i + 1) j := fun _ => by
        rw [st_get _ _ _ _ _ (by omega) (by omega), at_div (by omega), at_mod (by omega)]
      have rg := dv_range (a := a) (b := b) i j
      simp only [spec_l9Table.l1, n1 (), n2 (), n3 (), n4 (), n5 (), n6 (), n7 (), n8 (), n9 (), g1 (), g2 (), g3 (), Int.toNat_natCast]
      refine ev_pos (by omega) (ev_neg (by omega) (ev_neg (by omega) (ev_pos (by omega) (ev_pos (by omega) (ev_pos (by omega) (ev_pos (by omega) ?_))))))
      by_cases e : rd a (i : Int) = rd b (j : Int)
      · refine ev_pos e (ev_pos (by omega) (ev_pos (by omega) (ev_pos (by omega) (ev_pos (by omega) ?_))))
        rw [dv_eq (by omega) (by omega) e] at hi2
        exact hi2
      · refine ev_neg e (ev_pos (by omega) (ev_pos (by omega) (ev_pos (by omega) (ev_pos (by omega) (ev_pos (by omega) (ev_pos (by omega) (ev_bind_of (spec_l1Min_mn _ _) (ev_bind_of (spec_l1Min_mn _ _) (ev_pos (by omega) (ev_pos (by omega) ?_))))))))))
        rw [dv_ne (by omega) (by omega) e] at hi2
        have r2 := dv_range (a := a) (b := b) i (j + 1)
        have r3 := dv_range (a := a) (b := b) (i + 1) j
        rw [w64 (by omega) (by omega)]
        exact hi2
  have l0 : ∀ (d i : Nat), i + d = a.length + 1 → Ev (fun k => spec_l9Table.l0 k a b ((b.length + 1 : Nat) : Int) (st (dv a b) (b.length + 1) M (i * (b.length + 1))) (i : Int)) (fl (dv a b) (b.length + 1) M) := by
    intro d
    induction d with
    | zero =>
      intro i h
      obtain rfl : i = a.length + 1 := by omega
      refine ev_succ ?_
      simp only [spec_l9Table.l0]
      refine ev_neg (by omega) ?_
      rw [hM, fin]
      exact Ev.now _
    | succ d ih =>
      intro i h
      refine ev_succ ?_
      simp only [spec_l9Table.l0]
      refine ev_pos (by omega) ?_
      exact l1 i (by omega) (ih (i + 1) (by omega)) (b.length + 1) 0 (by omega)
  have := l0 (a.length + 1) 0 (by omega)
  rw [Nat.zero_mul] at this
  exact this

theorem spec_l9Two_eq (a b : List Int) : spec_l9Two.f a b = some (decide (a.length ≤ 40 ∧ b.length ≤ 40)) := by
  unfold spec_l9Two.f
  by_cases h : (a.length : Int) ≤ 40
  · rw [if_pos h]; exact congrArg some (decide_eq_decide.mpr (by omega))
  · rw [if_neg h, decide_eq_false (by omega)]

theorem impl_areLists_eq (a b : List Int) : impl_areLists.f a b = some (decide (a.length ≤ 40 ∧ b.length ≤ 40)) := by
  unfold impl_areLists.f
  by_cases h : (a.length : Int) ≤ 40
  · rw [if_pos h]; exact congrArg some (decide_eq_decide.mpr (by omega))
  · rw [if_neg h, decide_eq_false (by omega)]

def tabv (f : Nat → Nat → Int) (w n : Nat) : List (List Int) := (List.range n).map fun i => rowv (f i) w
theorem tabv_length (f : Nat → Nat → Int) (w n : Nat) : (tabv f w n).length = n := by simp [tabv]
theorem tabv_succ (f : Nat → Nat → Int) (w n : Nat) : tabv f w (n + 1) = tabv f w n ++ [rowv (f n) w] := by simp [tabv, List.range_succ]
theorem tabv_get (f : Nat → Nat → Int) (w n i : Nat) (h : i < n) : rd_L2 (tabv f w n) (i : Int) = rowv (f i) w := by
  unfold rd_L2
  rw [Int.toNat_natCast, List.getD_eq_getElem?_getD, List.getElem?_eq_getElem (by rw [tabv_length]; exact h)]
  simp [tabv]
theorem mn_min (a b : Int) : mn a b = min a b := by
  unfold mn
  split
  · rw [Int.min_eq_right (by omega)]
  · rw [Int.min_eq_left (by omega)]
theorem impl_distances_ev (a b : List Int) (ha : a.length ≤ 40) (hb : b.length ≤ 40) : Ev (fun k => impl_distances.f k a b) (tabv (dv a b) (b.length + 1) (a.length + 1)) := by
  unfold impl_distances.f
  have hwb : ∀ _ : Unit, wrap64 ((b.length : Int) + 1) = ((b.length + 1 : Nat) : Int) := fun _ => by rw [w64 (by omega) (by omega)]; omega
  have hwa : ∀ _ : Unit, wrap64 ((a.length : Int) + 1) = ((a.length + 1 : Nat) : Int) := fun _ => by rw [w64 (by omega) (by omega)]; omega
  rw [hwa ()]
  have l1 : ∀ (i : Nat), i ≤ a.length → (Ev (fun k => impl_distances.l0 k a b (tabv (dv a b) (b.length + 1) (i + 1)) ((a.length + 1 : Nat) : Int) ((i + 1 : Nat) : Int)) (tabv (dv a b) (b.length + 1) (a.length + 1))) →
      ∀ (d j : Nat), j + d = b.length + 1 → Ev (fun k => impl_distances.l1 k a b (tabv (dv a b) (b.length + 1) i) (i : Int) (rowv (dv a b i) j) ((a.length + 1 : Nat) : Int) (i : Int) ((b.length + 1 : Nat) : Int) (j : Int)) (tabv (dv a b) (b.length + 1) (a.length + 1)) := by
    intro i hi hnext d
    induction d with
    | zero =>
      intro j h
      refine ev_succ ?_
      simp only [impl_distances.l1, show wrap64 ((i : Int) + 1) = ((i + 1 : Nat) : Int) by rw [w64 (by omega) (by omega)]; omega]
      refine ev_neg (by omega) (ev_pos (by rw [tabv_length]; omega) ?_)
      rw [tabv_succ] at hnext
      rw [show j = b.length + 1 by omega]
      exact hnext
    | succ d ih =>
      intro j h
      have n9 : ∀ _ : Unit, wrap64 ((j : Int) + 1) = ((j + 1 : Nat) : Int) := fun _ => by rw [w64 (by omega) (by omega)]; omega
      have hi2 := ih (j + 1) (by omega)
      rw [rowv_succ (dv a b i) j] at hi2
      have edge : (i = 0 ∨ j = 0) → Ev (fun k => impl_distances.j2 k a b (tabv (dv a b) (b.length + 1) i) (i : Int) (rowv (dv a b i) j) (j : Int) ((a.length + 1 : Nat) : Int) (i : Int) ((b.length + 1 : Nat) : Int) (j : Int) true) (tabv (dv a b) (b.length + 1) (a.length + 1)) := fun hz => by
        refine ev_succ ?_
        simp only [impl_distances.j2, n9 ()]
        refine ev_pos (by first | rfl | trivial) (ev_pos (by rw [rowv_length]; omega) ?_)
        have e : dv a b i j = wrap64 ((i : Int) + (j : Int)) := by
          rw [w64 (by omega) (by omega)]
          rcases hz with h | h
          · subst h; rw [dv_zero (by omega)]; omega
          · subst h; rw [dv_zero' (by omega)]; omega
        rw [e] at hi2
        exact hi2
      refine ev_succ ?_
      simp only [impl_distances.l1]
      refine ev_pos (by omega) ?_
      by_cases i0 : i = 0
      · exact ev_pos (by omega) (edge (.inl i0))
      refine ev_neg (by omega) ?_
      by_cases j0 : j = 0
      · rw [show ((j : Int) == 0) = true by simp [j0]]; exact edge (.inr j0)
      rw [show ((j : Int) == 0) = false by simp; omega]
      obtain ⟨i, rfl⟩ : ∃ i', i = i' + 1 := ⟨i - 1, by omega⟩
      obtain ⟨j, rfl⟩ : ∃ j', j = j' + 1 := ⟨j - 1, by omega⟩
      have n1 : ∀ _ : Unit, wrap64 (((i + 1 : Nat) : Int) - 1) = (i : Int) := fun _ => by rw [w64 (by omega) (by omega)]; omega
      have n2 : ∀ _ : Unit, wrap64 (((j + 1 : Nat) : Int) - 1) = (j : Int) := fun _ => by rw [w64 (by omega) (by omega)]; omega
      have gr : rd_L2 (tabv (dv a b) (b.length + 1) (i + 1)) (i : Int) = rowv (dv a b i) (b.length + 1) := tabv_get _ _ _ _ (by omega)
      have g1 : ∀ _ : Unit, rd (rowv (dv a b i) (b.length + 1)) (j : Int) = dv a b i j := fun _ => rowv_get _ _ _ (by omega)
      have g2 : ∀ _ : Unit, rd (rowv (dv a b i) (b.length + 1)) ((j + 1 : Nat) : Int) = dv a b i (j + 1) := fun _ => rowv_get _ _ _ (by omega)
      have g3 : ∀ _ : Unit, rd (rowv (dv a b (i + 1)) (j + 1)) (j : Int) = dv a b (i + 1) j := fun _ => rowv_get _ _ _ (by omega)
      refine ev_succ ?_
      simp only [impl_distances.j2, n1 (), n2 (), n9 (), gr, g1 (), g2 (), g3 (), mn_min]
      refine ev_neg (by simp) (ev_pos (by omega) (ev_pos (by omega) (ev_pos (by omega) (ev_pos (by omega) ?_))))
      by_cases e : rd a (i : Int) = rd b (j : Int)
      · refine ev_pos e (ev_pos (by rw [tabv_length]; omega) (ev_pos (by rw [rowv_length]; omega) (ev_pos (by rw [rowv_length]; omega) ?_)))
        rw [dv_eq (by omega) (by omega) e] at hi2
        exact hi2
      · refine ev_neg e (ev_pos (by rw [tabv_length]; omega) (ev_pos (by rw [rowv_length]; omega) (ev_pos (by omega) (ev_pos (by rw [rowv_length]; omega) (ev_pos (by rw [rowv_length]; omega) (ev_pos (by rw [rowv_length]; omega) ?_))))))
        rw [dv_ne (by omega) (by omega) e] at hi2
        have r1 := dv_range (a := a) (b := b) i j
        have r2 := dv_range (a := a) (b := b) i (j + 1)
        have r3 := dv_range (a := a) (b := b) (i + 1) j
        rw [w64 (by omega) (by omega), Int.min_assoc]
        exact hi2
  have l0 : ∀ (d i : Nat), i + d = a.length + 1 → Ev (fun k => impl_distances.l0 k a b (tabv (dv a b) (b.length + 1) i) ((a.length + 1 : Nat) : Int) (i : Int)) (tabv (dv a b) (b.length + 1) (a.length + 1)) := by
    intro d
    induction d with
    | zero =>
      intro i h
      obtain rfl : i = a.length + 1 := by omega
      refine ev_succ ?_
      simp only [impl_distances.l0]
      exact ev_neg (by omega) (Ev.now _)
    | succ d ih =>
      intro i h
      refine ev_succ ?_
      simp only [impl_distances.l0, hwb ()]
      exact ev_pos (by omega) (l1 i (by omega) (ih (i + 1) (by omega)) (b.length + 1) 0 (by omega))
  exact l0 (a.length + 1) 0 (by omega)

theorem rdOf_at {α : Type} (d : α) {l : List α} {i : Nat} (h : i < l.length) : rdOf d l (i : Int) = l[i] := by
  unfold rdOf; rw [Int.toNat_natCast, List.getD_eq_getElem?_getD, List.getElem?_eq_getElem h]; rfl
theorem maxLen_eq : maxLen = 9223372036854775807 := rfl

theorem rde {l : List S126} {i : Nat} (h : i < l.length) : rd_T126 l (i : Int) = l[i] := by
  unfold rd_T126; rw [Int.toNat_natCast, List.getD_eq_getElem?_getD, List.getElem?_eq_getElem h]; rfl
theorem rde_set (l : List S126) (i : Nat) (v : S126) (h : i < l.length) : rd_T126 (l.set i v) (i : Int) = v := by
  rw [rde (by simpa using h), List.getElem_set_self]
def mksE : Nat → Int → List S126
  | 0, _ => []
  | n + 1, a => ⟨a, a + 1, a + 2⟩ :: mksE n (a + 3)
theorem mksE_length : ∀ (n : Nat) (a : Int), (mksE n a).length = n
  | 0, _ => rfl
  | n + 1, a => by simp [mksE, mksE_length n]
theorem mksE_get : ∀ (n : Nat) (a : Int) (i : Nat) (h : i < (mksE n a).length), (mksE n a)[i] = ⟨a + 3 * i, a + 3 * i + 1, a + 3 * i + 2⟩
  | n + 1, a, 0, _ => by simp [mksE]
  | n + 1, a, i + 1, h => by
    simp only [mksE, List.getElem_cons_succ]
    rw [mksE_get n (a + 3) i]
    have e : a + 3 + 3 * (i : Int) = a + 3 * ((i + 1 : Nat) : Int) := by omega
    rw [e]
theorem laws_eqEditS_ev (l : List S126) (hl : l.length < 4611686018427387904) : Ev (fun k => laws_eqEditS.f k l l) true := by
  have go : ∀ (d i : Nat), i + d = l.length → Ev (fun k => laws_eqEditS.l0 k l l (i : Int)) true := by
    intro d
    induction d with
    | zero =>
      intro i h
      refine ev_succ ?_
      simp only [laws_eqEditS.l0]
      exact ev_neg (by omega) (Ev.now _)
    | succ d ih =>
      intro i h
      refine ev_succ ?_
      have e : ∀ x : S126, laws_eqEdit.f x.f0 x.f1 x.f2 x.f0 x.f1 x.f2 = some true := fun x => by simp [laws_eqEdit.f]
      simp only [laws_eqEditS.l0, w64 (x := (i : Int) + 1) (by omega) (by omega), e, Option.bind_some]
      exact ev_pos (by omega) (ev_pos (by omega) (ev_pos (by omega) (ev_pos (by first | rfl | trivial) (ih (i + 1) (by omega)))))
  unfold laws_eqEditS.f
  exact ev_pos rfl (go l.length 0 (by omega))
theorem laws_markEditS_ev (l : List S126) (hl : l.length ≤ 1048576) : Ev (fun k => laws_markEditS.f k l 1) (1 + 3 * (l.length : Int), mksE l.length 1) := by
  have go : ∀ (d i : Nat) (m : List S126) (a : Int), 0 ≤ a → a + 3 * d < 9007199254740992 → i + d = l.length → m.length = l.length → Ev (fun k => laws_markEditS.l0 k m a (i : Int)) (a + 3 * d, m.take i ++ mksE d a) := by
    intro d
    induction d with
    | zero =>
      intro i m a h0 h1 h hm
      refine ev_succ ?_
      simp only [laws_markEditS.l0]
      refine ev_neg (by omega) (ev_eq (Ev.now _) ?_)
      rw [List.take_of_length_le (by omega)]
      simp [mksE]
    | succ d ih =>
      intro i m a h0 h1 h hm
      have w1 : ∀ _ : Unit, wrap64 (a + 1) = a + 1 := fun _ => w64 (by omega) (by omega)
      have w2 : ∀ _ : Unit, wrap64 (a + 1 + 1) = a + 2 := fun _ => by rw [w64 (by omega) (by omega)]; omega
      have w3 : ∀ _ : Unit, wrap64 (a + 2 + 1) = a + 3 := fun _ => by rw [w64 (by omega) (by omega)]; omega
      have wi : ∀ _ : Unit, wrap64 ((i : Int) + 1) = ((i + 1 : Nat) : Int) := fun _ => by rw [w64 (by omega) (by omega)]; omega
      refine ev_succ ?_
      simp only [laws_markEditS.l0, w1 (), w2 (), w3 (), wi (), Int.toNat_natCast]
      refine ev_pos (by omega) (ev_pos (by omega) (ev_bind_some (ev_bind_some ?_)))
      rw [rde_set _ _ _ (by first | omega | (rw [List.length_set]; omega)), List.set_set, rde_set _ _ _ (by first | omega | (rw [List.length_set]; omega)), List.set_set]
      have := ih (i + 1) (m.set i ⟨a, a + 1, a + 2⟩) (a + 3) (by omega) (by omega) (by omega) (by simpa using hm)
      refine ev_eq this ?_
      rw [take_set_succ _ _ _ (by omega), List.append_assoc, List.singleton_append]
      have e : a + 3 + 3 * (d : Int) = a + 3 * ((d + 1 : Nat) : Int) := by omega
      rw [e]; rfl
  unfold laws_markEditS.f
  have := go l.length 0 l 1 (by omega) (by omega) (by omega) rfl
  simpa using this
theorem laws_heldEditS_ev (n : Nat) (hn : n ≤ 1048576) : Ev (fun k => laws_heldEditS.f k (mksE n 1) 1) (1 + 3 * (n : Int)) := by
  have go : ∀ (d i : Nat), i + d = n → Ev (fun k => laws_heldEditS.l0 k (mksE n 1) (1 + 3 * (i : Int)) (i : Int)) (1 + 3 * (n : Int)) := by
    intro d
    induction d with
    | zero =>
      intro i h
      obtain rfl : i = n := by omega
      refine ev_succ ?_
      simp only [laws_heldEditS.l0]
      exact ev_neg (by rw [mksE_length]; omega) (Ev.now _)
    | succ d ih =>
      intro i h
      have hr : rd_T126 (mksE n 1) (i : Int) = ⟨1 + 3 * i, 1 + 3 * i + 1, 1 + 3 * i + 2⟩ := by rw [rde (by rw [mksE_length]; omega), mksE_get]
      have w1 : ∀ _ : Unit, wrap64 (1 + 3 * (i : Int) + 1) = 1 + 3 * i + 1 := fun _ => w64 (by omega) (by omega)
      have w2 : ∀ _ : Unit, wrap64 (1 + 3 * (i : Int) + 1 + 1) = 1 + 3 * i + 2 := fun _ => by rw [w64 (by omega) (by omega)]; omega
      have w3 : ∀ _ : Unit, wrap64 (1 + 3 * (i : Int) + 2 + 1) = 1 + 3 * ((i + 1 : Nat) : Int) := fun _ => by rw [w64 (by omega) (by omega)]; omega
      have wi : ∀ _ : Unit, wrap64 ((i : Int) + 1) = ((i + 1 : Nat) : Int) := fun _ => by rw [w64 (by omega) (by omega)]; omega
      refine ev_succ ?_
      simp only [laws_heldEditS.l0, hr, w1 (), w2 (), w3 (), wi ()]
      exact ev_pos (by rw [mksE_length]; omega) (ev_pos (by omega) (ev_pos (by trivial) (ev_pos (by trivial) (ev_pos (by trivial) (ih (i + 1) (by omega))))))
  unfold laws_heldEditS.f
  exact go n 0 (by omega)

theorem tab_at (a b : List Int) (i j : Nat) (hi : i ≤ a.length) (hj : j ≤ b.length) : rd (tablev a b) ((i * (b.length + 1) + j : Nat) : Int) = dv a b i j := by
  have hrow : i * (b.length + 1) + (b.length + 1) ≤ (a.length + 1) * (b.length + 1) := by rw [← Nat.succ_mul]; exact Nat.mul_le_mul (by omega) (Nat.le_refl _)
  have := st_get (dv a b) (b.length + 1) ((a.length + 1) * (b.length + 1)) ((a.length + 1) * (b.length + 1)) (i * (b.length + 1) + j) (Nat.le_refl _) (by omega)
  rw [at_div (by omega), at_mod (by omega)] at this
  unfold st at this
  rw [Nat.sub_self, List.replicate_zero, List.append_nil] at this
  exact this
theorem edits_go (a b : List Int) (ha : a.length ≤ 40) (hb : b.length ≤ 40) : ∀ (n i j : Nat) (acc : List S126), i + j ≤ n → i ≤ a.length → j ≤ b.length → acc.length + (i + j) ≤ 200 →
    ∃ r, Ev (fun k => spec_Edits.l0 k a b acc (tablev a b) ((b.length + 1 : Nat) : Int) (i : Int) (j : Int)) (r, true) ∧
      Ev (fun k => impl_Edits.l0 k a b (tabv (dv a b) (b.length + 1) (a.length + 1)) acc (i : Int) (j : Int)) (r, true) ∧ r.length ≤ 200 := by
  intro n
  induction n with
  | zero =>
    intro i j acc h hi hj hl
    obtain rfl : i = 0 := by omega
    obtain rfl : j = 0 := by omega
    refine ⟨acc, ev_succ ?_, ev_succ ?_, by omega⟩
    · simp only [spec_Edits.l0]
      refine ev_neg (by omega) (ev_succ ?_)
      simp only [spec_Edits.j1]
      exact ev_neg (by simp) (Ev.now _)
    · simp only [impl_Edits.l0]
      refine ev_neg (by omega) (ev_succ ?_)
      simp only [impl_Edits.j1]
      exact ev_neg (by simp) (Ev.now _)
  | succ n ih =>
    intro i j acc h hi hj hl
    have ws : ∀ (x : Nat), x ≤ 100 → wrap64 (((x + 1 : Nat) : Int) - 1) = (x : Int) := fun x hx => by rw [w64 (by omega) (by omega)]; omega
    have s1 : ∀ {r}, 0 < i + j → Ev (fun k => spec_Edits.j1 k a b acc (tablev a b) ((b.length + 1 : Nat) : Int) (i : Int) (j : Int) true) r → Ev (fun k => spec_Edits.l0 k a b acc (tablev a b) ((b.length + 1 : Nat) : Int) (i : Int) (j : Int)) r := by
      intro r hp e
      refine ev_succ ?_
      simp only [spec_Edits.l0]
      by_cases q : (i : Int) > 0
      · exact ev_pos q e
      · refine ev_neg q ?_
        rw [decide_eq_true (by omega)]; exact e
    have i1 : ∀ {r}, 0 < i + j → Ev (fun k => impl_Edits.j1 k a b (tabv (dv a b) (b.length + 1) (a.length + 1)) acc (i : Int) (j : Int) true) r → Ev (fun k => impl_Edits.l0 k a b (tabv (dv a b) (b.length + 1) (a.length + 1)) acc (i : Int) (j : Int)) r := by
      intro r hp e
      refine ev_succ ?_
      simp only [impl_Edits.l0]
      by_cases q : (i : Int) > 0
      · exact ev_pos q e
      · refine ev_neg q ?_
        rw [decide_eq_true (by omega)]; exact e
    cases i with
    | zero =>
      cases j with
      | zero => exact ih 0 0 acc (by omega) hi hj hl
      | succ q =>
        obtain ⟨r, e1, e2, hr⟩ := ih 0 q (acc ++ [⟨2, 0, rd b (q : Int)⟩]) (by omega) (by omega) (by omega) (by simp; omega)
        refine ⟨r, s1 (by omega) (ev_succ ?_), i1 (by omega) (ev_succ ?_), hr⟩
        · simp only [spec_Edits.j1, ws q (by omega)]
          exact ev_pos (by trivial) (ev_neg (by omega) (ev_pos (by omega) (ev_pos (by omega) (ev_pos (by omega) (ev_pos (by omega) e1)))))
        · simp only [impl_Edits.j1]
          refine ev_pos (by trivial) (ev_neg (by omega) (ev_succ ?_))
          simp only [impl_Edits.j2]
          refine ev_neg (by simp) (ev_neg (by omega) (ev_succ ?_))
          simp only [impl_Edits.j3, ws q (by omega)]
          exact ev_neg (by simp) (ev_neg (by omega) (ev_neg (by omega) (ev_pos (by omega) (ev_pos (by omega) (ev_pos (by omega) e2)))))
    | succ p =>
      cases j with
      | zero =>
        obtain ⟨r, e1, e2, hr⟩ := ih p 0 (acc ++ [⟨1, (p : Int), 0⟩]) (by omega) (by omega) (by omega) (by simp; omega)
        refine ⟨r, s1 (by omega) (ev_succ ?_), i1 (by omega) (ev_succ ?_), hr⟩
        · simp only [spec_Edits.j1, ws p (by omega)]
          exact ev_pos (by trivial) (ev_pos (by omega) (ev_pos (by omega) e1))
        · simp only [impl_Edits.j1]
          refine ev_pos (by trivial) (ev_pos (by omega) (ev_neg (by omega) (ev_succ ?_)))
          simp only [impl_Edits.j2]
          refine ev_neg (by simp) (ev_pos (by omega) (ev_neg (by omega) (ev_succ ?_)))
          simp only [impl_Edits.j3, ws p (by omega)]
          exact ev_neg (by simp) (ev_pos (by omega) (ev_pos (by omega) e2))
      | succ q =>
        have hw : b.length + 1 ≤ 41 := by omega
        have hpW : p * (b.length + 1) ≤ 40 * 41 := Nat.mul_le_mul (by omega) hw
        have hpW2 : (p + 1) * (b.length + 1) ≤ 40 * 41 := Nat.mul_le_mul (by omega) hw
        have hM : (p + 1) * (b.length + 1) + (b.length + 1) ≤ (a.length + 1) * (b.length + 1) := by rw [← Nat.succ_mul]; exact Nat.mul_le_mul (by omega) (Nat.le_refl _)
        have hS : (p + 1) * (b.length + 1) = p * (b.length + 1) + (b.length + 1) := Nat.succ_mul _ _
        have tl : (tablev a b).length = (a.length + 1) * (b.length + 1) := fl_length _ _ _
        have m1 : ∀ _ : Unit, wrap64 ((p : Int) * ((b.length + 1 : Nat) : Int)) = ((p * (b.length + 1) : Nat) : Int) := fun _ => by rw [← Int.natCast_mul, w64 (by omega) (by omega)]
        have m2 : ∀ _ : Unit, wrap64 (((p + 1 : Nat) : Int) * ((b.length + 1 : Nat) : Int)) = (((p + 1) * (b.length + 1) : Nat) : Int) := fun _ => by rw [← Int.natCast_mul, w64 (by omega) (by omega)]
        have x1 : ∀ _ : Unit, wrap64 (((p * (b.length + 1) : Nat) : Int) + ((q + 1 : Nat) : Int)) = ((p * (b.length + 1) + (q + 1) : Nat) : Int) := fun _ => by rw [w64 (by omega) (by omega)]; omega
        have x2 : ∀ _ : Unit, wrap64 (((p * (b.length + 1) + (q + 1) : Nat) : Int) - 1) = ((p * (b.length + 1) + q : Nat) : Int) := fun _ => by rw [w64 (by omega) (by omega)]; omega
        have x3 : ∀ _ : Unit, wrap64 ((((p + 1) * (b.length + 1) : Nat) : Int) + ((q + 1 : Nat) : Int)) = (((p + 1) * (b.length + 1) + (q + 1) : Nat) : Int) := fun _ => by rw [w64 (by omega) (by omega)]; omega
        have x4 : ∀ _ : Unit, wrap64 ((((p + 1) * (b.length + 1) + (q + 1) : Nat) : Int) - 1) = (((p + 1) * (b.length + 1) + q : Nat) : Int) := fun _ => by rw [w64 (by omega) (by omega)]; omega
        have t1 := tab_at a b p q (by omega) (by omega)
        have t2 := tab_at a b p (q + 1) (by omega) (by omega)
        have t3 := tab_at a b (p + 1) q (by omega) (by omega)
        have u1 : rd_L2 (tabv (dv a b) (b.length + 1) (a.length + 1)) (p : Int) = rowv (dv a b p) (b.length + 1) := tabv_get _ _ _ _ (by omega)
        have u2 : rd_L2 (tabv (dv a b) (b.length + 1) (a.length + 1)) ((p + 1 : Nat) : Int) = rowv (dv a b (p + 1)) (b.length + 1) := tabv_get _ _ _ _ (by omega)
        have v1 : rd (rowv (dv a b p) (b.length + 1)) (q : Int) = dv a b p q := rowv_get _ _ _ (by omega)
        have v2 : rd (rowv (dv a b p) (b.length + 1)) ((q + 1 : Nat) : Int) = dv a b p (q + 1) := rowv_get _ _ _ (by omega)
        have v3 : rd (rowv (dv a b (p + 1)) (b.length + 1)) (q : Int) = dv a b (p + 1) q := rowv_get _ _ _ (by omega)
        have wp := ws p (by omega)
        have wq := ws q (by omega)
        have lt : (tabv (dv a b) (b.length + 1) (a.length + 1)).length = a.length + 1 := tabv_length _ _ _
        have lr1 : (rowv (dv a b p) (b.length + 1)).length = b.length + 1 := rowv_length _ _
        have lr2 : (rowv (dv a b (p + 1)) (b.length + 1)).length = b.length + 1 := rowv_length _ _
        by_cases e : rd a (p : Int) = rd b (q : Int)
        · obtain ⟨r, e1, e2, hr⟩ := ih p q acc (by omega) (by omega) (by omega) (by omega)
          refine ⟨r, s1 (by omega) (ev_succ ?_), i1 (by omega) (ev_succ ?_), hr⟩
          · simp only [spec_Edits.j1, wp, wq]
            clear t1 t2 t3 u1 u2 v1 v2 v3 wp wq
            exact ev_pos (by trivial) (ev_neg (by omega) (ev_neg (by omega) (ev_pos (by omega) (ev_pos (by omega) (ev_pos (by omega) (ev_pos (by omega) (ev_pos e e1)))))))
          · simp only [impl_Edits.j1, wp, wq]
            have hj : Ev (fun k => impl_Edits.j2 k a b (tabv (dv a b) (b.length + 1) (a.length + 1)) acc ((p + 1 : Nat) : Int) ((q + 1 : Nat) : Int) ((p + 1 : Nat) : Int) true) (r, true) := by
              refine ev_succ ?_
              simp only [impl_Edits.j2, wp, wq]
              exact ev_pos (by trivial) e2
            have hb2 : (rd a (p : Int) == rd b (q : Int)) = true := beq_iff_eq.mpr e
            simp only [hb2]
            clear t1 t2 t3 u1 u2 v1 v2 v3 wp wq
            exact ev_pos (by trivial) (ev_pos (by omega) (ev_pos (by omega) (ev_pos (by omega) (ev_pos (by omega) (ev_pos (by omega) (ev_pos (by omega) hj))))))
        · have hb2 : (rd a (p : Int) == rd b (q : Int)) = false := beq_eq_false_iff_ne.mpr e
          -- what both do, by the three numbers
          suffices hh : ∀ (c : Bool), c = decide (dv a b p q ≤ dv a b p (q + 1) ∧ dv a b p q ≤ dv a b (p + 1) q) → ∃ r, Ev (fun k => spec_Edits.j2 k a b acc (tablev a b) ((b.length + 1 : Nat) : Int) ((p + 1 : Nat) : Int) ((q + 1 : Nat) : Int) (dv a b p (q + 1)) (dv a b (p + 1) q) c) (r, true) ∧
              Ev (fun k => impl_Edits.j3 k a b (tabv (dv a b) (b.length + 1) (a.length + 1)) acc ((p + 1 : Nat) : Int) ((q + 1 : Nat) : Int) ((p + 1 : Nat) : Int) c) (r, true) ∧ r.length ≤ 200 by
            obtain ⟨r, e1, e2, hr⟩ := hh _ rfl
            refine ⟨r, s1 (by omega) (ev_succ ?_), i1 (by omega) (ev_succ ?_), hr⟩
            · simp only [spec_Edits.j1, wp, wq, m1 (), m2 (), x1 (), x2 (), x3 (), x4 (), t1, t2, t3]
              clear t1 t2 t3 u1 u2 v1 v2 v3 wp wq m1 m2 x1 x2 x3 x4
              refine ev_pos (by trivial) (ev_neg (by omega) (ev_neg (by omega) (ev_pos (by omega) (ev_pos (by omega) (ev_pos (by omega) (ev_pos (by omega) (ev_neg e (ev_pos (by omega) (ev_pos (by omega) (ev_pos (by omega) (ev_pos (by omega) (ev_pos (by omega) (ev_pos (by omega) ?_)))))))))))))
              by_cases c1 : dv a b p q ≤ dv a b p (q + 1)
              · refine ev_pos c1 ?_
                by_cases c2 : dv a b p q ≤ dv a b (p + 1) q
                · rw [decide_eq_true ⟨c1, c2⟩] at e1
                  rw [decide_eq_true c2]; exact e1
                · rw [decide_eq_false (fun x => c2 x.2)] at e1
                  rw [decide_eq_false c2]; exact e1
              · rw [decide_eq_false (fun x => c1 x.1)] at e1
                exact ev_neg c1 e1
            · simp only [impl_Edits.j1, wp, wq, hb2]
              have hj : Ev (fun k => impl_Edits.j2 k a b (tabv (dv a b) (b.length + 1) (a.length + 1)) acc ((p + 1 : Nat) : Int) ((q + 1 : Nat) : Int) ((p + 1 : Nat) : Int) false) (r, true) := by
                refine ev_succ ?_
                simp only [impl_Edits.j2, wp, wq, u1, u2, v1, v2, v3, lt, lr1, lr2, mn_min]
                have ec : decide (dv a b p q ≤ min (dv a b p (q + 1)) (dv a b (p + 1) q)) = decide (dv a b p q ≤ dv a b p (q + 1) ∧ dv a b p q ≤ dv a b (p + 1) q) := decide_eq_decide.mpr (by omega)
                rw [ec]
                clear t1 t2 t3 u1 u2 v1 v2 v3 wp wq m1 m2 x1 x2 x3 x4
                exact ev_neg (by simp) (ev_pos (by omega) (ev_pos (by omega) (ev_pos (by omega) (ev_pos (by omega) (ev_pos (by omega) (ev_pos (by omega) (ev_pos (by omega) (ev_pos (by omega) (ev_pos (by omega) (ev_pos (by omega) (ev_pos (by omega) e2)))))))))))
              clear t1 t2 t3 u1 u2 v1 v2 v3 wp wq m1 m2 x1 x2 x3 x4
              exact ev_pos (by trivial) (ev_pos (by omega) (ev_pos (by omega) (ev_pos (by omega) (ev_pos (by omega) (ev_pos (by omega) (ev_pos (by omega) hj))))))
          intro c hc
          cases c with
          | true =>
            obtain ⟨r, e1, e2, hr⟩ := ih p q (acc ++ [⟨3, (p : Int), rd b (q : Int)⟩]) (by omega) (by omega) (by omega) (by simp; omega)
            refine ⟨r, ev_succ ?_, ev_succ ?_, hr⟩
            · simp only [spec_Edits.j2, wp, wq]
              clear t1 t2 t3 u1 u2 v1 v2 v3 wp wq m1 m2 x1 x2 x3 x4
              exact ev_pos (by trivial) (ev_pos (by omega) (ev_pos (by omega) (ev_pos (by omega) e1)))
            · simp only [impl_Edits.j3, wp, wq]
              clear t1 t2 t3 u1 u2 v1 v2 v3 wp wq m1 m2 x1 x2 x3 x4
              exact ev_pos (by trivial) (ev_pos (by omega) (ev_pos (by omega) (ev_pos (by omega) e2)))
          | false =>
            by_cases c3 : dv a b p (q + 1) ≤ dv a b (p + 1) q
            · obtain ⟨r, e1, e2, hr⟩ := ih p (q + 1) (acc ++ [⟨1, (p : Int), 0⟩]) (by omega) (by omega) (by omega) (by simp; omega)
              refine ⟨r, ev_succ ?_, ev_succ ?_, hr⟩
              · simp only [spec_Edits.j2, wp, wq]
                clear t1 t2 t3 u1 u2 v1 v2 v3 wp wq m1 m2 x1 x2 x3 x4
                exact ev_neg (by simp) (ev_pos c3 (ev_pos (by omega) e1))
              · simp only [impl_Edits.j3, wp, wq, u1, u2, v1, v2, v3, lt, lr1, lr2]
                clear t1 t2 t3 u1 u2 v1 v2 v3 wp wq m1 m2 x1 x2 x3 x4
                exact ev_neg (by simp) (ev_neg (by omega) (ev_pos (by omega) (ev_pos (by omega) (ev_pos (by omega) (ev_pos (by omega) (ev_pos (by omega) (ev_pos (by omega) (ev_pos (by omega) (ev_pos (by omega) (ev_pos (by omega) (ev_pos c3 (ev_pos (by omega) e2))))))))))))
            · obtain ⟨r, e1, e2, hr⟩ := ih (p + 1) q (acc ++ [⟨2, ((p + 1 : Nat) : Int), rd b (q : Int)⟩]) (by omega) (by omega) (by omega) (by simp; omega)
              refine ⟨r, ev_succ ?_, ev_succ ?_, hr⟩
              · simp only [spec_Edits.j2, wp, wq]
                clear t1 t2 t3 u1 u2 v1 v2 v3 wp wq m1 m2 x1 x2 x3 x4
                exact ev_neg (by simp) (ev_neg c3 (ev_pos (by omega) (ev_pos (by omega) (ev_pos (by omega) e1))))
              · simp only [impl_Edits.j3, wp, wq, u1, u2, v1, v2, v3, lt, lr1, lr2]
                clear t1 t2 t3 u1 u2 v1 v2 v3 wp wq m1 m2 x1 x2 x3 x4
                exact ev_neg (by simp) (ev_neg (by omega) (ev_pos (by omega) (ev_pos (by omega) (ev_pos (by omega) (ev_pos (by omega) (ev_pos (by omega) (ev_pos (by omega) (ev_pos (by omega) (ev_pos (by omega) (ev_pos (by omega) (ev_neg c3 (ev_pos (by omega) (ev_pos (by omega) e2)))))))))))))
theorem Edits_some (a b : List Int) : ∃ r c, Ev (fun k => spec_Edits.f k a b) (r, c) ∧ Ev (fun k => impl_Edits.f k a b) (r, c) ∧ r.length ≤ 200 := by
  unfold spec_Edits.f impl_Edits.f
  by_cases hab : a.length ≤ 40 ∧ b.length ≤ 40
  · obtain ⟨r, e1, e2, hr⟩ := edits_go a b hab.1 hab.2 (a.length + b.length) a.length b.length [] (Nat.le_refl _) (Nat.le_refl _) (Nat.le_refl _) (by simp; omega)
    refine ⟨r, true, ev_bind_some (ev_bind_of (spec_l9Two_eq a b) (ev_pos (decide_eq_true hab) (Ev.bind (spec_l9Table_ev a b hab.1 hab.2) ?_))), ev_bind_of (impl_areLists_eq a b) (ev_pos (decide_eq_true hab) (Ev.bind (impl_distances_ev a b hab.1 hab.2) e2)), hr⟩
    rw [show wrap64 ((b.length : Int) + 1) = ((b.length + 1 : Nat) : Int) by rw [w64 (by omega) (by omega)]; omega]
    exact e1
  · exact ⟨[], false, ev_bind_some (ev_bind_of (spec_l9Two_eq a b) (ev_neg (by simp only [decide_eq_true_eq]; exact hab) (Ev.now _))), ev_bind_of (impl_areLists_eq a b) (ev_neg (by simp only [decide_eq_true_eq]; exact hab) (Ev.now _)), by simp⟩

theorem laws_toInt64S_ev (l : List Int) (hl : l.length * 8 ≤ 140737488351232) : Ev (fun k => laws_toInt64S.f k l) l := by
  have go : ∀ (d i : Nat) (m : List Int), i + d = l.length → m.length = l.length → Ev (fun k => laws_toInt64S.l0 k l m (i : Int)) (m.take i ++ l.drop i) := by
    intro d
    induction d with
    | zero =>
      intro i m h hm
      refine ev_succ ?_
      simp only [laws_toInt64S.l0]
      refine ev_neg (by omega) ?_
      rw [List.take_of_length_le (by omega), List.drop_of_length_le (by omega), List.append_nil]
      exact Ev.now _
    | succ d ih =>
      intro i m h hm
      refine ev_succ ?_
      simp only [laws_toInt64S.l0, w64 (x := (i : Int) + 1) (by omega) (by omega)]
      refine ev_pos (by omega) (ev_pos (by omega) (ev_pos (by omega) ?_))
      have := ih (i + 1) (m.set (i : Int).toNat (rd l (i : Int))) (by omega) (by simpa using hm)
      refine ev_eq this ?_
      rw [show (i : Int).toNat = i by omega, take_set_succ _ _ _ (by omega), rd_at (by omega), List.append_assoc, List.singleton_append, ← List.drop_eq_getElem_cons (by omega)]
  unfold laws_toInt64S.f
  refine ev_pos (by omega) (ev_pos (by omega) ?_)
  have := go l.length 0 (List.replicate l.length 0) (by omega) (by simp)
  simpa using this

theorem laws_eqInt64S_ev (l : List Int) (hl : l.length < 9223372036854775807) : Ev (fun k => laws_eqInt64S.f k l l) true := by
  have go : ∀ (d i : Nat), i + d = l.length → Ev (fun k => laws_eqInt64S.l0 k l l (i : Int)) true := by
    intro d
    induction d with
    | zero =>
      intro i h
      refine ev_succ ?_
      simp only [laws_eqInt64S.l0]
      exact ev_neg (by omega) (Ev.now _)
    | succ d ih =>
      intro i h
      refine ev_succ ?_
      simp only [laws_eqInt64S.l0, w64 (x := (i : Int) + 1) (by omega) (by omega)]
      exact ev_pos (by omega) (ev_pos (by omega) (ev_pos (by omega) (ev_pos (by first | rfl | trivial) (ih (i + 1) (by omega)))))
  unfold laws_eqInt64S.f
  exact ev_pos rfl (go l.length 0 (by omega))

def mks : Nat → Int → List Int
  | 0, _ => []
  | n + 1, a => a :: mks n (a + 1)
theorem mks_length : ∀ (n : Nat) (a : Int), (mks n a).length = n
  | 0, _ => rfl
  | n + 1, a => by simp [mks, mks_length n]
theorem mks_get : ∀ (n : Nat) (a : Int) (i : Nat) (h : i < (mks n a).length), (mks n a)[i] = a + i
  | n + 1, a, 0, _ => by simp [mks]
  | n + 1, a, i + 1, h => by
    simp only [mks, List.getElem_cons_succ]
    rw [mks_get n (a + 1) i]; omega

theorem laws_markInt64S_ev (l : List Int) (a : Int) (ha : 0 ≤ a) (hl : a + l.length < 9223372036854775807) : Ev (fun k => laws_markInt64S.f k l a) (a + l.length, mks l.length a) := by
  have go : ∀ (d i : Nat) (m : List Int) (a : Int), 0 ≤ a → a + d < 9223372036854775807 → i + d = l.length → m.length = l.length → Ev (fun k => laws_markInt64S.l0 k m a (i : Int)) (a + d, m.take i ++ mks d a) := by
    intro d
    induction d with
    | zero =>
      intro i m a h0 h1 h hm
      refine ev_succ ?_
      simp only [laws_markInt64S.l0]
      refine ev_neg (by omega) ?_
      rw [List.take_of_length_le (by omega)]
      simp only [mks, List.append_nil, Int.natCast_zero, Int.add_zero]
      exact Ev.now _
    | succ d ih =>
      intro i m a h0 h1 h hm
      refine ev_succ ?_
      simp only [laws_markInt64S.l0, w64 (x := (i : Int) + 1) (by omega) (by omega), w64 (x := a + 1) (by omega) (by omega)]
      refine ev_pos (by omega) (ev_pos (by omega) ?_)
      have := ih (i + 1) (m.set (i : Int).toNat a) (a + 1) (by omega) (by omega) (by omega) (by simpa using hm)
      refine ev_eq this ?_
      rw [show (i : Int).toNat = i by omega, take_set_succ _ _ _ (by omega), List.append_assoc, List.singleton_append]
      simp only [mks, Prod.mk.injEq, and_true]; omega
  unfold laws_markInt64S.f
  have := go l.length 0 l a ha (by omega) (by omega) rfl
  simpa using this

theorem FnExactEdits : laws_FnExactEdits.Pure := by
  intro a b hm hl hw hm2 hl2 hw2
  refine Ev.rounds ?_
  simp only [laws_FnExactEdits.f]
  by_cases h1 : (a.length : Int) > 1048576
  · exact ev_pos h1 (Ev.now _)
  refine ev_neg h1 ?_
  by_cases h2 : (b.length : Int) > 1048576
  · exact ev_pos h2 (Ev.now _)
  refine ev_neg h2 ?_
  obtain ⟨r, c, e1, e2, hr⟩ := Edits_some a b
  have ta := laws_toInt64S_ev a hl
  have tb := laws_toInt64S_ev b hl2
  have er := laws_eqEditS_ev r (by omega)
  have hh := laws_heldEditS_ev r.length (by omega)
  have j2 : Ev (fun k => laws_FnExactEdits.j2 k (mksE r.length 1) (1 + 3 * (r.length : Int)) false) true := by
    refine ev_succ ?_
    simp only [laws_FnExactEdits.j2]
    exact ev_neg (by simp) (Ev.bind hh (ev_neg (by omega) (ev_pos rfl (Ev.now _))))
  have j1 : Ev (fun k => laws_FnExactEdits.j1 k a b r c r false) true := by
    refine ev_succ ?_
    simp only [laws_FnExactEdits.j1]
    refine ev_neg (by simp) (Ev.bind (laws_markEditS_ev r (by omega)) (Ev.bind hh (ev_neg (by omega) (ev_pos rfl (Ev.bind ta (Ev.bind tb (Ev.bind e2 (Ev.bind er (ev_pos rfl ?_)))))))))
    rw [bne_self_eq_false]; exact j2
  have j0 : Ev (fun k => laws_FnExactEdits.j0 k a b r c a b r c false) true := by
    refine ev_succ ?_
    simp only [laws_FnExactEdits.j0]
    refine ev_neg (by simp) (Ev.bind ta (Ev.bind (laws_eqInt64S_ev a (by omega)) (ev_pos rfl (Ev.bind tb (Ev.bind (laws_eqInt64S_ev b (by omega)) (ev_pos rfl ?_))))))
    refine Ev.bind (laws_markInt64S_ev a 1 (by omega) (by omega)) (Ev.bind (laws_markInt64S_ev b _ (by show (0 : Int) ≤ 1 + (a.length : Int); omega) (by show (1 + (a.length : Int)) + b.length < _; omega)) (ev_neg ?_ ?_))
    · show ¬ (1 + (a.length : Int) + (b.length : Int) < 0)
      omega
    · refine Ev.bind er (ev_pos rfl ?_)
      rw [bne_self_eq_false]; exact j1
  refine Ev.bind ta (Ev.bind tb (Ev.bind e1 (Ev.bind ta (Ev.bind tb (Ev.bind e2 (Ev.bind er (ev_pos rfl ?_)))))))
  rw [bne_self_eq_false]; exact j0

end Go.Proofs.Ytnkoppgbbmeknaa.Pure
