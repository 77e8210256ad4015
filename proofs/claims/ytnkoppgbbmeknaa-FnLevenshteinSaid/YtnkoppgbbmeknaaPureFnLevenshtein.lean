/- The law FnLevenshtein answers true at every code: the distance of two lists is nought for alike ones alone, the same both ways, no way round is shorter, and it is at least by how much one is longer. -/
import Derived.Test.YtnkoppgbbmeknaaMFnLevenshteinx7
namespace Go.Proofs.Ytnkoppgbbmeknaa.Pure
open Go.RowKit Go.Proofs.Ytnkoppgbbmeknaa.PFnLevenshtein Go.Proofs.YtnkoppgbbmeknaaW.PrintWords Go.Proofs.YtnkoppgbbmeknaaW.PrintLast
set_option linter.unusedVariables false
set_option linter.unusedSimpArgs false

def lev : List Int → List Int → Nat
  | [], ys => ys.length
  | _ :: xs, [] => xs.length + 1
  | x :: xs, y :: ys => if x = y then lev xs ys else 1 + min (lev xs ys) (min (lev xs (y :: ys)) (lev (x :: xs) ys))
termination_by xs ys => xs.length + ys.length
decreasing_by all_goals (simp only [List.length_cons]; omega)
theorem lev_nil (ys : List Int) : lev [] ys = ys.length := by unfold lev; rfl
theorem lev_nil' (xs : List Int) : lev xs [] = xs.length := by cases xs <;> simp [lev]
theorem lev_eq (x : Int) (xs ys : List Int) : lev (x :: xs) (x :: ys) = lev xs ys := by rw [lev, if_pos rfl]
theorem lev_ne {x y : Int} (h : x ≠ y) (xs ys : List Int) : lev (x :: xs) (y :: ys) = 1 + min (lev xs ys) (min (lev xs (y :: ys)) (lev (x :: xs) ys)) := by rw [lev, if_neg h]
theorem lev_comm : ∀ (n : Nat) (xs ys : List Int), xs.length + ys.length ≤ n → lev xs ys = lev ys xs := by
  intro n
  induction n with
  | zero =>
    intro xs ys h
    obtain rfl : xs = [] := List.length_eq_zero_iff.mp (by omega)
    obtain rfl : ys = [] := List.length_eq_zero_iff.mp (by omega)
    rfl
  | succ n ih =>
    intro xs ys h
    cases xs with
    | nil => rw [lev_nil, lev_nil']
    | cons x xs =>
      cases ys with
      | nil => rw [lev_nil, lev_nil']
      | cons y ys =>
        simp only [List.length_cons] at h
        by_cases e : x = y
        · subst e; rw [lev_eq, lev_eq]; exact ih _ _ (by omega)
        · rw [lev_ne e, lev_ne (Ne.symm e), ih xs ys (by omega), ih xs (y :: ys) (by simp only [List.length_cons]; omega), ih (x :: xs) ys (by simp only [List.length_cons]; omega)]
          omega
theorem lev_steps : ∀ (n : Nat), (∀ (x : Int) (xs ys : List Int), xs.length + ys.length ≤ n → lev (x :: xs) ys ≤ lev xs ys + 1) ∧ (∀ (y : Int) (xs ys : List Int), xs.length + ys.length ≤ n → lev xs ys ≤ lev xs (y :: ys) + 1) := by
  intro n
  induction n with
  | zero =>
    constructor
    · intro x xs ys h
      obtain rfl : ys = [] := List.length_eq_zero_iff.mp (by omega)
      rw [lev_nil', lev_nil']; simp
    · intro y xs ys h
      obtain rfl : xs = [] := List.length_eq_zero_iff.mp (by omega)
      rw [lev_nil, lev_nil]; simp; omega
  | succ n ih =>
    constructor
    · intro x xs ys h
      cases ys with
      | nil => rw [lev_nil', lev_nil']; simp
      | cons y ys =>
        simp only [List.length_cons] at h
        by_cases e : x = y
        · subst e; rw [lev_eq]; exact ih.2 x xs ys (by omega)
        · rw [lev_ne e]; omega
    · intro y xs ys h
      cases xs with
      | nil => rw [lev_nil, lev_nil]; simp; omega
      | cons x xs =>
        simp only [List.length_cons] at h
        have a1 := ih.1 x xs ys (by omega)
        by_cases e : x = y
        · subst e; rw [lev_eq]; exact a1
        · rw [lev_ne e]
          have a2 := ih.2 y xs ys (by omega)
          omega
theorem lev_cons_left (x : Int) (xs ys : List Int) : lev (x :: xs) ys ≤ lev xs ys + 1 := (lev_steps _).1 x xs ys (Nat.le_refl _)
theorem lev_cons_right (y : Int) (xs ys : List Int) : lev xs (y :: ys) ≤ lev xs ys + 1 := by
  rw [lev_comm _ xs (y :: ys) (Nat.le_refl _), lev_comm _ xs ys (Nat.le_refl _)]; exact lev_cons_left y ys xs
theorem lev_cons_both (x y : Int) (xs ys : List Int) : lev (x :: xs) (y :: ys) ≤ lev xs ys + 1 := by
  by_cases e : x = y
  · subst e; rw [lev_eq]; omega
  · rw [lev_ne e]; omega

inductive Al : List Int → List Int → Nat → Prop
  | nil : Al [] [] 0
  | keep (x : Int) {xs ys : List Int} {n : Nat} : Al xs ys n → Al (x :: xs) (x :: ys) n
  | turn (x y : Int) {xs ys : List Int} {n : Nat} : Al xs ys n → Al (x :: xs) (y :: ys) (n + 1)
  | take (x : Int) {xs ys : List Int} {n : Nat} : Al xs ys n → Al (x :: xs) ys (n + 1)
  | put (y : Int) {xs ys : List Int} {n : Nat} : Al xs ys n → Al xs (y :: ys) (n + 1)
theorem al_puts : ∀ ys : List Int, Al [] ys ys.length
  | [] => .nil
  | y :: ys => .put y (al_puts ys)
theorem al_takes : ∀ xs : List Int, Al xs [] xs.length
  | [] => .nil
  | x :: xs => .take x (al_takes xs)
theorem al_lev : ∀ (n : Nat) (xs ys : List Int), xs.length + ys.length ≤ n → Al xs ys (lev xs ys) := by
  intro n
  induction n with
  | zero =>
    intro xs ys h
    obtain rfl : xs = [] := List.length_eq_zero_iff.mp (by omega)
    rw [lev_nil]; exact al_puts ys
  | succ n ih =>
    intro xs ys h
    cases xs with
    | nil => rw [lev_nil]; exact al_puts ys
    | cons x xs =>
      cases ys with
      | nil => rw [lev_nil']; exact al_takes _
      | cons y ys =>
        simp only [List.length_cons] at h
        by_cases e : x = y
        · subst e; rw [lev_eq]; exact .keep x (ih _ _ (by omega))
        · rw [lev_ne e]
          have h1 := ih xs ys (by omega)
          have h2 := ih xs (y :: ys) (by simp only [List.length_cons]; omega)
          have h3 := ih (x :: xs) ys (by simp only [List.length_cons]; omega)
          by_cases c1 : lev xs ys ≤ lev xs (y :: ys) ∧ lev xs ys ≤ lev (x :: xs) ys
          · rw [show 1 + min (lev xs ys) (min (lev xs (y :: ys)) (lev (x :: xs) ys)) = lev xs ys + 1 by omega]; exact .turn x y h1
          · by_cases c2 : lev xs (y :: ys) ≤ lev (x :: xs) ys
            · rw [show 1 + min (lev xs ys) (min (lev xs (y :: ys)) (lev (x :: xs) ys)) = lev xs (y :: ys) + 1 by omega]; exact .take x h2
            · rw [show 1 + min (lev xs ys) (min (lev xs (y :: ys)) (lev (x :: xs) ys)) = lev (x :: xs) ys + 1 by omega]; exact .put y h3
theorem lev_le_of_al {xs ys : List Int} {n : Nat} (h : Al xs ys n) : lev xs ys ≤ n := by
  induction h with
  | nil => rw [lev_nil]; simp
  | keep x _ ih => rw [lev_eq]; exact ih
  | @turn x y xs ys n _ ih => have := lev_cons_both x y xs ys; omega
  | @take x xs ys n _ ih => have := lev_cons_left x xs ys; omega
  | @put y xs ys n _ ih => have := lev_cons_right y xs ys; omega
theorem al_trans : ∀ (N : Nat) (xs ys zs : List Int) (n m : Nat), xs.length + ys.length + zs.length ≤ N → Al xs ys n → Al ys zs m → ∃ k, k ≤ n + m ∧ Al xs zs k := by
  intro N
  induction N with
  | zero =>
    intro xs ys zs n m h h1 h2
    obtain rfl : xs = [] := List.length_eq_zero_iff.mp (by omega)
    obtain rfl : zs = [] := List.length_eq_zero_iff.mp (by omega)
    exact ⟨0, by omega, .nil⟩
  | succ N ih =>
    intro xs ys zs n m h h1 h2
    cases h2 with
    | put z h2 =>
      obtain ⟨k, hk, a⟩ := ih _ _ _ _ _ (by simp only [List.length_cons] at h; omega) h1 h2
      exact ⟨k + 1, by omega, .put z a⟩
    | nil =>
      cases h1 with
      | nil => exact ⟨0, by omega, .nil⟩
      | take x h1 =>
        obtain ⟨k, hk, a⟩ := ih _ _ _ _ _ (by simp only [List.length_cons] at h; omega) h1 .nil
        exact ⟨k + 1, by omega, .take x a⟩
    | keep y h2 =>
      cases h1 with
      | keep _ h1 =>
        obtain ⟨k, hk, a⟩ := ih _ _ _ _ _ (by simp only [List.length_cons] at h; omega) h1 h2
        exact ⟨k, by omega, .keep y a⟩
      | turn x _ h1 =>
        obtain ⟨k, hk, a⟩ := ih _ _ _ _ _ (by simp only [List.length_cons] at h; omega) h1 h2
        exact ⟨k + 1, by omega, .turn x y a⟩
      | take x h1 =>
        obtain ⟨k, hk, a⟩ := ih _ _ _ _ _ (by simp only [List.length_cons] at h ⊢; omega) h1 (.keep y h2)
        exact ⟨k + 1, by omega, .take x a⟩
      | put _ h1 =>
        obtain ⟨k, hk, a⟩ := ih _ _ _ _ _ (by simp only [List.length_cons] at h; omega) h1 h2
        exact ⟨k + 1, by omega, .put y a⟩
    | turn y z h2 =>
      cases h1 with
      | keep _ h1 =>
        obtain ⟨k, hk, a⟩ := ih _ _ _ _ _ (by simp only [List.length_cons] at h; omega) h1 h2
        exact ⟨k + 1, by omega, .turn y z a⟩
      | turn x _ h1 =>
        obtain ⟨k, hk, a⟩ := ih _ _ _ _ _ (by simp only [List.length_cons] at h; omega) h1 h2
        exact ⟨k + 1, by omega, .turn x z a⟩
      | take x h1 =>
        obtain ⟨k, hk, a⟩ := ih _ _ _ _ _ (by simp only [List.length_cons] at h ⊢; omega) h1 (.turn y z h2)
        exact ⟨k + 1, by omega, .take x a⟩
      | put _ h1 =>
        obtain ⟨k, hk, a⟩ := ih _ _ _ _ _ (by simp only [List.length_cons] at h; omega) h1 h2
        exact ⟨k + 1, by omega, .put z a⟩
    | take y h2 =>
      cases h1 with
      | keep _ h1 =>
        obtain ⟨k, hk, a⟩ := ih _ _ _ _ _ (by simp only [List.length_cons] at h; omega) h1 h2
        exact ⟨k + 1, by omega, .take y a⟩
      | turn x _ h1 =>
        obtain ⟨k, hk, a⟩ := ih _ _ _ _ _ (by simp only [List.length_cons] at h; omega) h1 h2
        exact ⟨k + 1, by omega, .take x a⟩
      | take x h1 =>
        obtain ⟨k, hk, a⟩ := ih _ _ _ _ _ (by simp only [List.length_cons] at h ⊢; omega) h1 (.take y h2)
        exact ⟨k + 1, by omega, .take x a⟩
      | put _ h1 =>
        obtain ⟨k, hk, a⟩ := ih _ _ _ _ _ (by simp only [List.length_cons] at h; omega) h1 h2
        exact ⟨k, by omega, a⟩
theorem lev_triangle (xs ys zs : List Int) : lev xs zs ≤ lev xs ys + lev ys zs := by
  obtain ⟨k, hk, a⟩ := al_trans _ xs ys zs _ _ (Nat.le_refl _) (al_lev _ xs ys (Nat.le_refl _)) (al_lev _ ys zs (Nat.le_refl _))
  exact Nat.le_trans (lev_le_of_al a) hk
theorem al_zero {xs ys : List Int} {n : Nat} (h : Al xs ys n) : n = 0 → xs = ys := by
  induction h with
  | nil => intro _; rfl
  | keep x _ ih => intro h; rw [ih h]
  | turn _ _ _ _ => intro h; omega
  | take _ _ _ => intro h; omega
  | put _ _ _ => intro h; omega
theorem lev_self : ∀ xs : List Int, lev xs xs = 0
  | [] => by rw [lev_nil]; rfl
  | x :: xs => by rw [lev_eq]; exact lev_self xs
theorem lev_zero {xs ys : List Int} : lev xs ys = 0 ↔ xs = ys :=
  ⟨fun h => al_zero (al_lev _ xs ys (Nat.le_refl _)) h, fun h => h ▸ lev_self xs⟩
theorem al_lengths {xs ys : List Int} {n : Nat} (h : Al xs ys n) : xs.length ≤ ys.length + n ∧ ys.length ≤ xs.length + n := by
  induction h with
  | nil => simp
  | keep x _ ih => simp only [List.length_cons]; omega
  | turn _ _ _ ih => simp only [List.length_cons]; omega
  | take _ _ ih => simp only [List.length_cons]; omega
  | put _ _ ih => simp only [List.length_cons]; omega
theorem lev_lengths (xs ys : List Int) : xs.length ≤ ys.length + lev xs ys ∧ ys.length ≤ xs.length + lev xs ys := al_lengths (al_lev _ xs ys (Nat.le_refl _))
theorem lev_most : ∀ xs ys : List Int, lev xs ys ≤ max xs.length ys.length
  | [], ys => by rw [lev_nil]; omega
  | x :: xs, [] => by rw [lev_nil']; omega
  | x :: xs, y :: ys => by
    have h1 := lev_cons_both x y xs ys
    have h2 := lev_most xs ys
    simp only [List.length_cons]; omega

def lcs : List Int → List Int → Nat
  | [], _ => 0
  | _ :: _, [] => 0
  | x :: xs, y :: ys => if x = y then lcs xs ys + 1 else max (lcs xs (y :: ys)) (lcs (x :: xs) ys)
termination_by xs ys => xs.length + ys.length
decreasing_by all_goals (simp only [List.length_cons]; omega)
theorem lcs_nil (ys : List Int) : lcs [] ys = 0 := by unfold lcs; rfl
theorem lcs_nil' (xs : List Int) : lcs xs [] = 0 := by cases xs <;> simp [lcs]
theorem lcs_eq (x : Int) (xs ys : List Int) : lcs (x :: xs) (x :: ys) = lcs xs ys + 1 := by rw [lcs, if_pos rfl]
theorem lcs_ne {x y : Int} (h : x ≠ y) (xs ys : List Int) : lcs (x :: xs) (y :: ys) = max (lcs xs (y :: ys)) (lcs (x :: xs) ys) := by rw [lcs, if_neg h]
theorem lcs_comm : ∀ (n : Nat) (xs ys : List Int), xs.length + ys.length ≤ n → lcs xs ys = lcs ys xs := by
  intro n
  induction n with
  | zero =>
    intro xs ys h
    obtain rfl : xs = [] := List.length_eq_zero_iff.mp (by omega)
    obtain rfl : ys = [] := List.length_eq_zero_iff.mp (by omega)
    rfl
  | succ n ih =>
    intro xs ys h
    cases xs with
    | nil => rw [lcs_nil, lcs_nil']
    | cons x xs =>
      cases ys with
      | nil => rw [lcs_nil, lcs_nil']
      | cons y ys =>
        simp only [List.length_cons] at h
        by_cases e : x = y
        · subst e; rw [lcs_eq, lcs_eq, ih _ _ (by omega)]
        · rw [lcs_ne e, lcs_ne (Ne.symm e), ih xs (y :: ys) (by simp only [List.length_cons]; omega), ih (x :: xs) ys (by simp only [List.length_cons]; omega)]
          omega
theorem lcs_steps : ∀ (n : Nat) (x : Int) (xs ys : List Int), xs.length + ys.length ≤ n → lcs xs ys ≤ lcs (x :: xs) ys ∧ lcs (x :: xs) ys ≤ lcs xs ys + 1 := by
  intro n
  induction n with
  | zero =>
    intro x xs ys h
    obtain rfl : ys = [] := List.length_eq_zero_iff.mp (by omega)
    rw [lcs_nil', lcs_nil']; omega
  | succ n ih =>
    intro x xs ys h
    cases ys with
    | nil => rw [lcs_nil', lcs_nil']; omega
    | cons y ys =>
      simp only [List.length_cons] at h
      have c := ih y ys xs (by omega)
      rw [lcs_comm _ ys xs (Nat.le_refl _), lcs_comm _ (y :: ys) xs (Nat.le_refl _)] at c
      by_cases e : x = y
      · subst e; rw [lcs_eq]; omega
      · rw [lcs_ne e]
        have a := ih x xs ys (by omega)
        omega
theorem lcs_left (x : Int) (xs ys : List Int) : lcs xs ys ≤ lcs (x :: xs) ys := (lcs_steps _ x xs ys (Nat.le_refl _)).1
theorem lcs_right (y : Int) (xs ys : List Int) : lcs xs ys ≤ lcs xs (y :: ys) := by
  rw [lcs_comm _ xs (y :: ys) (Nat.le_refl _), lcs_comm _ xs ys (Nat.le_refl _)]; exact lcs_left y ys xs
theorem lcs_most : ∀ (n : Nat) (xs ys : List Int), xs.length + ys.length ≤ n → lcs xs ys ≤ xs.length ∧ lcs xs ys ≤ ys.length := by
  intro n
  induction n with
  | zero =>
    intro xs ys h
    obtain rfl : xs = [] := List.length_eq_zero_iff.mp (by omega)
    rw [lcs_nil]; omega
  | succ n ih =>
    intro xs ys h
    cases xs with
    | nil => rw [lcs_nil]; omega
    | cons x xs =>
      cases ys with
      | nil => rw [lcs_nil']; omega
      | cons y ys =>
        simp only [List.length_cons] at h
        by_cases e : x = y
        · subst e; rw [lcs_eq]; have := ih xs ys (by omega); simp only [List.length_cons]; omega
        · rw [lcs_ne e]
          have a := ih xs (y :: ys) (by simp only [List.length_cons]; omega)
          have b := ih (x :: xs) ys (by simp only [List.length_cons]; omega)
          simp only [List.length_cons] at a b ⊢; omega
theorem al_lcs {xs ys : List Int} {n : Nat} (h : Al xs ys n) : xs.length ≤ lcs xs ys + n ∧ ys.length ≤ lcs xs ys + n := by
  induction h with
  | nil => simp
  | keep x _ ih => rw [lcs_eq]; simp only [List.length_cons]; omega
  | @turn x y xs ys n _ ih => have a := lcs_left x xs (y :: ys); have b := lcs_right y xs ys; simp only [List.length_cons]; omega
  | @take x xs ys n _ ih => have a := lcs_left x xs ys; simp only [List.length_cons]; omega
  | @put y xs ys n _ ih => have b := lcs_right y xs ys; simp only [List.length_cons]; omega
theorem lev_lcs (xs ys : List Int) : max xs.length ys.length ≤ lcs xs ys + lev xs ys := by
  have := al_lcs (al_lev _ xs ys (Nat.le_refl _)); omega
theorem lev_two_lcs : ∀ (n : Nat) (xs ys : List Int), xs.length + ys.length ≤ n → lev xs ys + 2 * lcs xs ys ≤ xs.length + ys.length := by
  intro n
  induction n with
  | zero =>
    intro xs ys h
    obtain rfl : xs = [] := List.length_eq_zero_iff.mp (by omega)
    rw [lev_nil, lcs_nil]; omega
  | succ n ih =>
    intro xs ys h
    cases xs with
    | nil => rw [lev_nil, lcs_nil]; omega
    | cons x xs =>
      cases ys with
      | nil => rw [lev_nil', lcs_nil']; omega
      | cons y ys =>
        simp only [List.length_cons] at h
        by_cases e : x = y
        · subst e; rw [lev_eq, lcs_eq]; have := ih xs ys (by omega); simp only [List.length_cons]; omega
        · rw [lcs_ne e]
          have a := ih xs (y :: ys) (by simp only [List.length_cons]; omega)
          have b := ih (x :: xs) ys (by simp only [List.length_cons]; omega)
          have c := lev_cons_left x xs (y :: ys)
          have d := lev_cons_right y (x :: xs) ys
          simp only [List.length_cons] at a b ⊢; omega

theorem w64 {x : Int} (h0 : -9223372036854775808 ≤ x) (h1 : x ≤ 9223372036854775807) : wrap64 x = x := by unfold wrap64; omega
theorem wf64 {x : Int} : (Lit.int .i64 x).wf = true ↔ -9223372036854775808 ≤ x ∧ x ≤ 9223372036854775807 := by
  simp [Lit.wf, IntKind.min, IntKind.max, IntKind.signed, IntKind.bits]
theorem wf8 {x : Int} : (Lit.int .u8 x).wf = true ↔ 0 ≤ x ∧ x ≤ 255 := by
  simp [Lit.wf, IntKind.min, IntKind.max, IntKind.signed, IntKind.bits]
theorem ev_succ {α : Type} {g : Nat → Option α} {r : α} (h : Ev (fun k => g (k + 1)) r) : Ev g r := by
  obtain ⟨K, h⟩ := h
  refine ⟨K + 1, fun k hk => ?_⟩
  obtain ⟨m, rfl⟩ : ∃ m, k = m + 1 := ⟨k - 1, by omega⟩
  exact h m (by omega)
theorem ev_fixed {α : Type} {x : Option α} {r : α} (h : x = some r) : Ev (fun _ => x) r := ⟨0, fun _ _ => h⟩
theorem ev_eq {α : Type} {g : Nat → Option α} {r s : α} (h : Ev g r) (e : r = s) : Ev g s := e ▸ h
theorem bt0 (s : ByteArray) (i : Int) : 0 ≤ bt s i := (bt_range s i).1
theorem bt255 (s : ByteArray) (i : Int) : bt s i ≤ 255 := (bt_range s i).2
/-- Never keep an equation 'wrap64 .. = ..' in the context where omega runs: it compares them by unfolding. -/
theorem wN {x : Int} {n : Nat} (e : x = (n : Int)) (h : n < 4611686018427387904) : wrap64 x = (n : Int) := by rw [e]; exact w64 (by omega) (by omega)

theorem ev_pos {α : Type} {c : Prop} [Decidable c] {a b : Nat → Option α} {r : α} (hc : c) (h : Ev a r) : Ev (fun k => if c then a k else b k) r := by
  obtain ⟨K, h⟩ := h
  exact ⟨K, fun k hk => by show (if c then a k else b k) = some r; rw [if_pos hc]; exact h k hk⟩
theorem ev_neg {α : Type} {c : Prop} [Decidable c] {a b : Nat → Option α} {r : α} (hc : ¬ c) (h : Ev b r) : Ev (fun k => if c then a k else b k) r := by
  obtain ⟨K, h⟩ := h
  exact ⟨K, fun k hk => by show (if c then a k else b k) = some r; rw [if_neg hc]; exact h k hk⟩
theorem ev_bind_some {α β : Type} {a : α} {f : Nat → α → Option β} {r : β} (h : Ev (fun k => f k a) r) : Ev (fun k => (some a).bind (f k)) r := h
theorem ev_bind_of {α β : Type} {x : Option α} {a : α} {f : Nat → α → Option β} {r : β} (hx : x = some a) (h : Ev (fun k => f k a) r) : Ev (fun k => x.bind (f k)) r := by
  subst hx; exact h

theorem rd_nat (l : List Int) (i : Nat) : rd l (i : Int) = l.getD i 0 := by simp [rd]
theorem rd_at {l : List Int} {i : Nat} (h : i < l.length) : rd l (i : Int) = l[i] := by rw [rd_nat, List.getD_eq_getElem?_getD, List.getElem?_eq_getElem h]; rfl
theorem take_set_succ {α : Type} (l : List α) (i : Nat) (a : α) (h : i < l.length) : (l.set i a).take (i + 1) = l.take i ++ [a] := by
  rw [List.take_succ_eq_append_getElem (by simpa using h), List.take_set, List.set_eq_of_length_le (by rw [List.length_take]; omega)]
  simp

/-- The first n numbers of a table of w columns, row by row. -/
def fl (T : Nat → Nat → Int) (w n : Nat) : List Int := (List.range n).map fun q => T (q / w) (q % w)
theorem fl_length (T : Nat → Nat → Int) (w n : Nat) : (fl T w n).length = n := by simp [fl]
theorem fl_succ (T : Nat → Nat → Int) (w n : Nat) : fl T w (n + 1) = fl T w n ++ [T (n / w) (n % w)] := by simp [fl, List.range_succ]
def st (T : Nat → Nat → Int) (w M n : Nat) : List Int := fl T w n ++ List.replicate (M - n) 0
theorem st_length (T : Nat → Nat → Int) (w M n : Nat) (h : n ≤ M) : (st T w M n).length = M := by simp [st, fl_length]; omega
theorem st_get (T : Nat → Nat → Int) (w M n q : Nat) (h : n ≤ M) (hq : q < n) : rd (st T w M n) (q : Int) = T (q / w) (q % w) := by
  rw [rd_at (by rw [st_length _ _ _ _ h]; omega)]
  unfold st
  rw [List.getElem_append_left (by rw [fl_length]; exact hq)]
  simp [fl]
theorem st_set (T : Nat → Nat → Int) (w M n : Nat) (h : n < M) : (st T w M n).set n (T (n / w) (n % w)) = st T w M (n + 1) := by
  unfold st
  rw [List.set_append_right _ _ (by rw [fl_length]; omega), fl_length, Nat.sub_self, fl_succ, show M - n = (M - (n + 1)) + 1 by omega, List.replicate_succ, List.set_cons_zero, List.append_assoc, List.singleton_append]
theorem st_skip (T : Nat → Nat → Int) (w M n : Nat) (h : n < M) (e : T (n / w) (n % w) = 0) : st T w M n = st T w M (n + 1) := by
  unfold st
  rw [fl_succ, e, show M - n = (M - (n + 1)) + 1 by omega, List.replicate_succ, List.append_assoc, List.singleton_append]
theorem st_zero (T : Nat → Nat → Int) (w M : Nat) : st T w M 0 = List.replicate M 0 := by simp [st, fl]
theorem at_div {i j w : Nat} (hj : j < w) : (i * w + j) / w = i := by
  rw [Nat.mul_comm, Nat.mul_add_div (by omega), Nat.div_eq_of_lt hj, Nat.add_zero]
theorem at_mod {i j w : Nat} (hj : j < w) : (i * w + j) % w = j := by
  rw [Nat.mul_comm, Nat.mul_add_mod, Nat.mod_eq_of_lt hj]
/-- A row's first n numbers. -/
def rowv (f : Nat → Int) (n : Nat) : List Int := (List.range n).map f
theorem rowv_length (f : Nat → Int) (n : Nat) : (rowv f n).length = n := by simp [rowv]
theorem rowv_succ (f : Nat → Int) (n : Nat) : rowv f (n + 1) = rowv f n ++ [f n] := by simp [rowv, List.range_succ]
theorem rowv_get (f : Nat → Int) (n i : Nat) (h : i < n) : rd (rowv f n) (i : Int) = f i := by
  rw [rd_at (by rw [rowv_length]; exact h)]; simp [rowv]

def dv (a b : List Int) (i j : Nat) : Int := (lev (a.take i).reverse (b.take j).reverse : Int)
def sv (a b : List Int) (i j : Nat) : Int := (lcs (a.take i).reverse (b.take j).reverse : Int)
theorem take_rev {l : List Int} {i : Nat} (h : i < l.length) : (l.take (i + 1)).reverse = rd l (i : Int) :: (l.take i).reverse := by
  rw [List.take_succ_eq_append_getElem h, List.reverse_append, rd_at h]; rfl
theorem dv_zero {a b : List Int} {j : Nat} (h : j ≤ b.length) : dv a b 0 j = j := by
  unfold dv; rw [List.take_zero, List.reverse_nil, lev_nil, List.length_reverse, List.length_take]; omega
theorem dv_zero' {a b : List Int} {i : Nat} (h : i ≤ a.length) : dv a b i 0 = i := by
  unfold dv; rw [List.take_zero, List.reverse_nil, lev_nil', List.length_reverse, List.length_take]; omega
theorem dv_eq {a b : List Int} {i j : Nat} (hi : i < a.length) (hj : j < b.length) (e : rd a (i : Int) = rd b (j : Int)) : dv a b (i + 1) (j + 1) = dv a b i j := by
  unfold dv; rw [take_rev hi, take_rev hj, e, lev_eq]
theorem dv_ne {a b : List Int} {i j : Nat} (hi : i < a.length) (hj : j < b.length) (e : rd a (i : Int) ≠ rd b (j : Int)) : dv a b (i + 1) (j + 1) = 1 + min (dv a b i j) (min (dv a b i (j + 1)) (dv a b (i + 1) j)) := by
  unfold dv; rw [take_rev hi, take_rev hj, lev_ne e]; omega
theorem dv_range {a b : List Int} (i j : Nat) : 0 ≤ dv a b i j ∧ dv a b i j ≤ a.length + b.length := by
  unfold dv
  have := lev_most (a.take i).reverse (b.take j).reverse
  simp only [List.length_reverse, List.length_take] at this
  omega
theorem sv_zero (a b : List Int) (j : Nat) : sv a b 0 j = 0 := by unfold sv; rw [List.take_zero, List.reverse_nil, lcs_nil]; rfl
theorem sv_zero' (a b : List Int) (i : Nat) : sv a b i 0 = 0 := by unfold sv; rw [List.take_zero, List.reverse_nil, lcs_nil']; rfl
theorem sv_eq {a b : List Int} {i j : Nat} (hi : i < a.length) (hj : j < b.length) (e : rd a (i : Int) = rd b (j : Int)) : sv a b (i + 1) (j + 1) = sv a b i j + 1 := by
  unfold sv; rw [take_rev hi, take_rev hj, e, lcs_eq]; omega
theorem sv_ne {a b : List Int} {i j : Nat} (hi : i < a.length) (hj : j < b.length) (e : rd a (i : Int) ≠ rd b (j : Int)) : sv a b (i + 1) (j + 1) = max (sv a b i (j + 1)) (sv a b (i + 1) j) := by
  unfold sv; rw [take_rev hi, take_rev hj, lcs_ne e]; omega
theorem sv_range {a b : List Int} (i j : Nat) : 0 ≤ sv a b i j ∧ sv a b i j ≤ a.length := by
  unfold sv
  have := lcs_most _ (a.take i).reverse (b.take j).reverse (Nat.le_refl _)
  simp only [List.length_reverse, List.length_take] at this
  omega

theorem spec_l1Min_mn (a b : Int) : spec_l1Min.f a b = some (min a b) := by
  unfold spec_l1Min.f
  split
  · rw [Int.min_eq_left (by omega)]
  · rw [Int.min_eq_right (by omega)]
def tablev (a b : List Int) : List Int := fl (dv a b) (b.length + 1) ((a.length + 1) * (b.length + 1))
theorem spec_l9Table_ev (a b : List Int) (ha : a.length ≤ 40) (hb : b.length ≤ 40) : Ev (fun k => spec_l9Table.f k a b) (tablev a b) := by
  unfold spec_l9Table.f tablev
  have hMle : (a.length + 1) * (b.length + 1) ≤ 41 * 41 := Nat.mul_le_mul (by omega) (by omega)
  have hwb : ∀ _ : Unit, wrap64 ((b.length : Int) + 1) = ((b.length + 1 : Nat) : Int) := fun _ => by rw [w64 (by omega) (by omega)]; omega
  have hwa : ∀ _ : Unit, wrap64 ((a.length : Int) + 1) = ((a.length + 1 : Nat) : Int) := fun _ => by rw [w64 (by omega) (by omega)]; omega
  have hwM : ∀ _ : Unit, wrap64 (((a.length + 1 : Nat) : Int) * ((b.length + 1 : Nat) : Int)) = (((a.length + 1) * (b.length + 1) : Nat) : Int) := fun _ => by rw [← Int.natCast_mul, w64 (by omega) (by omega)]
  rw [hwa (), hwb (), hwM ()]
  refine ev_pos (by omega) (ev_pos (by omega) ?_)
  rw [Int.toNat_natCast, ← st_zero (dv a b) (b.length + 1)]
  generalize hM : (a.length + 1) * (b.length + 1) = M at hMle
  have hrow : ∀ i, i ≤ a.length → i * (b.length + 1) + (b.length + 1) ≤ M := fun i hi => by
    rw [← hM, ← Nat.succ_mul]; exact Nat.mul_le_mul (by omega) (Nat.le_refl _)
  have fin : st (dv a b) (b.length + 1) M M = fl (dv a b) (b.length + 1) M := by simp [st]
  have l1 : ∀ (i : Nat), i ≤ a.length → (Ev (fun k => spec_l9Table.l0 k a b ((b.length + 1 : Nat) : Int) (st (dv a b) (b.length + 1) M ((i + 1) * (b.length + 1))) ((i + 1 : Nat) : Int)) (fl (dv a b) (b.length + 1) M)) →
      ∀ (d j : Nat), j + d = b.length + 1 → Ev (fun k => spec_l9Table.l1 k a b ((b.length + 1 : Nat) : Int) (st (dv a b) (b.length + 1) M (i * (b.length + 1) + j)) (i : Int) (j : Int)) (fl (dv a b) (b.length + 1) M) := by
    intro i hi hnext d
    induction d with
    | zero =>
      intro j h
      refine ev_succ ?_
      simp only [spec_l9Table.l1, show wrap64 ((i : Int) + 1) = ((i + 1 : Nat) : Int) by rw [w64 (by omega) (by omega)]; omega]
      refine ev_neg (by omega) ?_
      rw [show i * (b.length + 1) + j = (i + 1) * (b.length + 1) by rw [Nat.succ_mul i]; omega]
      exact hnext
    | succ d ih =>
      intro j h
      have hr1 := hrow i (by omega)
      have n9 : ∀ _ : Unit, wrap64 ((j : Int) + 1) = ((j + 1 : Nat) : Int) := fun _ => by rw [w64 (by omega) (by omega)]; omega
      have hl := st_length (dv a b) (b.length + 1) M (i * (b.length + 1) + j) (by omega)
      have hset := st_set (dv a b) (b.length + 1) M (i * (b.length + 1) + j) (by omega)
      rw [at_div (by omega), at_mod (by omega)] at hset
      have hi2 := ih (j + 1) (by omega)
      rw [show i * (b.length + 1) + (j + 1) = i * (b.length + 1) + j + 1 by omega, ← hset] at hi2
      refine ev_succ ?_
      by_cases i0 : i = 0
      · subst i0
        rw [dv_zero (by omega)] at hi2
        simp only [spec_l9Table.l1, n9 (), Int.toNat_natCast]
        refine ev_pos (by omega) (ev_pos (by omega) (ev_pos (by omega) (ev_pos (by omega) ?_)))
        rw [show 0 * (b.length + 1) + j = j by omega] at hi2 ⊢
        exact hi2
      obtain ⟨i, rfl⟩ : ∃ i', i = i' + 1 := ⟨i - 1, by omega⟩
      have hq : (i + 1) * (b.length + 1) = i * (b.length + 1) + (b.length + 1) := Nat.succ_mul _ _
      have n6 : ∀ _ : Unit, wrap64 (((i + 1 : Nat) : Int) * ((b.length + 1 : Nat) : Int)) = (((i + 1) * (b.length + 1) : Nat) : Int) := fun _ => by rw [← Int.natCast_mul, w64 (by omega) (by omega)]
      by_cases j0 : j = 0
      · subst j0
        rw [dv_zero' (by omega)] at hi2
        simp only [spec_l9Table.l1, n9 (), n6 (), Int.toNat_natCast]
        refine ev_pos (by omega) (ev_neg (by omega) (ev_pos (by omega) (ev_pos (by omega) (ev_pos (by omega) ?_))))
        rw [Nat.add_zero] at hi2 ⊢
        exact hi2
      obtain ⟨j, rfl⟩ : ∃ j', j = j' + 1 := ⟨j - 1, by omega⟩
      have n1 : ∀ _ : Unit, wrap64 (((i + 1 : Nat) : Int) - 1) = (i : Int) := fun _ => by rw [w64 (by omega) (by omega)]; omega
      have n2 : ∀ _ : Unit, wrap64 (((j + 1 : Nat) : Int) - 1) = (j : Int) := fun _ => by rw [w64 (by omega) (by omega)]; omega
      have n3 : ∀ _ : Unit, wrap64 ((i : Int) * ((b.length + 1 : Nat) : Int)) = ((i * (b.length + 1) : Nat) : Int) := fun _ => by rw [← Int.natCast_mul, w64 (by omega) (by omega)]
      have n4 : ∀ _ : Unit, wrap64 (((i * (b.length + 1) : Nat) : Int) + ((j + 1 : Nat) : Int)) = ((i * (b.length + 1) + (j + 1) : Nat) : Int) := fun _ => by rw [w64 (by omega) (by omega)]; omega
      have n5 : ∀ _ : Unit, wrap64 (((i * (b.length + 1) + (j + 1) : Nat) : Int) - 1) = ((i * (b.length + 1) + j : Nat) : Int) := fun _ => by rw [w64 (by omega) (by omega)]; omega
      have n7 : ∀ _ : Unit, wrap64 ((((i + 1) * (b.length + 1) : Nat) : Int) + ((j + 1 : Nat) : Int)) = (((i + 1) * (b.length + 1) + (j + 1) : Nat) : Int) := fun _ => by rw [w64 (by omega) (by omega)]; omega
      have n8 : ∀ _ : Unit, wrap64 ((((i + 1) * (b.length + 1) + (j + 1) : Nat) : Int) - 1) = (((i + 1) * (b.length + 1) + j : Nat) : Int) := fun _ => by rw [w64 (by omega) (by omega)]; omega
      have g1 : ∀ _ : Unit, rd (st (dv a b) (b.length + 1) M ((i + 1) * (b.length + 1) + (j + 1))) ((i * (b.length + 1) + j : Nat) : Int) = dv a b i j := fun _ => by
        rw [st_get _ _ _ _ _ (by omega) (by omega), at_div (by omega), at_mod (by omega)]
      have g2 : ∀ _ : Unit, rd (st (dv a b) (b.length + 1) M ((i + 1) * (b.length + 1) + (j + 1))) ((i * (b.length + 1) + (j + 1) : Nat) : Int) = dv a b i (j + 1) := fun _ => by
        rw [st_get _ _ _ _ _ (by omega) (by omega), at_div (by omega), at_mod (by omega)]
      have g3 : ∀ _ : Unit, rd (st (dv a b) (b.length + 1) M ((i + 1) * (b.length + 1) + (j + 1))) (((i + 1) * (b.length + 1) + j : Nat) : Int) = dv a b (i + 1) j := fun _ => by
        rw [st_get _ _ _ _ _ (by omega) (by omega), at_div (by omega), at_mod (by omega)]
      have rg := dv_range (a := a) (b := b) i j
      simp only [spec_l9Table.l1, n1 (), n2 (), n3 (), n4 (), n5 (), n6 (), n7 (), n8 (), n9 (), g1 (), g2 (), g3 (), Int.toNat_natCast]
      refine ev_pos (by omega) (ev_neg (by omega) (ev_neg (by omega) (ev_pos (by omega) (ev_pos (by omega) (ev_pos (by omega) (ev_pos (by omega) ?_))))))
      by_cases e : rd a (i : Int) = rd b (j : Int)
      · refine ev_pos e (ev_pos (by omega) (ev_pos (by omega) (ev_pos (by omega) (ev_pos (by omega) ?_))))
        rw [dv_eq (by omega) (by omega) e] at hi2
        exact hi2
      · refine ev_neg e (ev_pos (by omega) (ev_pos (by omega) (ev_pos (by omega) (ev_pos (by omega) (ev_pos (by omega) (ev_pos (by omega) (ev_bind_of (spec_l1Min_mn _ _) (ev_bind_of (spec_l1Min_mn _ _) (ev_pos (by omega) (ev_pos (by omega) ?_))))))))))
        rw [dv_ne (by omega) (by omega) e] at hi2
        have r2 := dv_range (a := a) (b := b) i (j + 1)
        have r3 := dv_range (a := a) (b := b) (i + 1) j
        rw [w64 (by omega) (by omega)]
        exact hi2
  have l0 : ∀ (d i : Nat), i + d = a.length + 1 → Ev (fun k => spec_l9Table.l0 k a b ((b.length + 1 : Nat) : Int) (st (dv a b) (b.length + 1) M (i * (b.length + 1))) (i : Int)) (fl (dv a b) (b.length + 1) M) := by
    intro d
    induction d with
    | zero =>
      intro i h
      obtain rfl : i = a.length + 1 := by omega
      refine ev_succ ?_
      simp only [spec_l9Table.l0]
      refine ev_neg (by omega) ?_
      rw [hM, fin]
      exact Ev.now _
    | succ d ih =>
      intro i h
      refine ev_succ ?_
      simp only [spec_l9Table.l0]
      refine ev_pos (by omega) ?_
      exact l1 i (by omega) (ih (i + 1) (by omega)) (b.length + 1) 0 (by omega)
  have := l0 (a.length + 1) 0 (by omega)
  rw [Nat.zero_mul] at this
  exact this

theorem spec_l9Two_eq (a b : List Int) : spec_l9Two.f a b = some (decide (a.length ≤ 40 ∧ b.length ≤ 40)) := by
  unfold spec_l9Two.f
  by_cases h : (a.length : Int) ≤ 40
  · rw [if_pos h]; exact congrArg some (decide_eq_decide.mpr (by omega))
  · rw [if_neg h, decide_eq_false (by omega)]

def apartv (a b : List Int) : Int := if a.length ≤ 40 ∧ b.length ≤ 40 then dv a b a.length b.length else -1
theorem spec_Apart_ev (a b : List Int) : Ev (fun k => spec_Apart.f k a b) (apartv a b) := by
  unfold spec_Apart.f apartv
  refine ev_bind_of (spec_l9Two_eq a b) ?_
  by_cases hab : ¬ (a.length ≤ 40 ∧ b.length ≤ 40)
  · rw [if_neg hab]; exact ev_neg (by simp; omega) (Ev.now _)
  rw [Decidable.not_not] at hab
  rw [if_pos hab]
  refine ev_pos (by simp; omega) (Ev.bind (spec_l9Table_ev a b hab.1 hab.2) ?_)
  have hMle : (a.length + 1) * (b.length + 1) ≤ 41 * 41 := Nat.mul_le_mul (by omega) (by omega)
  have hM2 : (a.length + 1) * (b.length + 1) = a.length * (b.length + 1) + b.length + 1 := by rw [Nat.succ_mul]; omega
  have hl : (tablev a b).length = (a.length + 1) * (b.length + 1) := fl_length _ _ _
  have n1 : ∀ _ : Unit, wrap64 (((tablev a b).length : Int) - 1) = ((a.length * (b.length + 1) + b.length : Nat) : Int) := fun _ => by rw [hl, w64 (by omega) (by omega)]; omega
  rw [n1 ()]
  refine ev_pos (by omega) (ev_pos (by omega) ?_)
  have g : rd (tablev a b) ((a.length * (b.length + 1) + b.length : Nat) : Int) = dv a b a.length b.length := by
    have := st_get (dv a b) (b.length + 1) ((a.length + 1) * (b.length + 1)) ((a.length + 1) * (b.length + 1)) (a.length * (b.length + 1) + b.length) (Nat.le_refl _) (by omega)
    rw [at_div (by omega), at_mod (by omega)] at this
    unfold st at this
    rw [Nat.sub_self, List.replicate_zero, List.append_nil] at this
    exact this
  rw [g]
  exact Ev.now _

theorem impl_areLists_eq (a b : List Int) : impl_areLists.f a b = some (decide (a.length ≤ 40 ∧ b.length ≤ 40)) := by
  unfold impl_areLists.f
  by_cases h : (a.length : Int) ≤ 40
  · rw [if_pos h]; exact congrArg some (decide_eq_decide.mpr (by omega))
  · rw [if_neg h, decide_eq_false (by omega)]

def tabv (f : Nat → Nat → Int) (w n : Nat) : List (List Int) := (List.range n).map fun i => rowv (f i) w
theorem tabv_length (f : Nat → Nat → Int) (w n : Nat) : (tabv f w n).length = n := by simp [tabv]
theorem tabv_succ (f : Nat → Nat → Int) (w n : Nat) : tabv f w (n + 1) = tabv f w n ++ [rowv (f n) w] := by simp [tabv, List.range_succ]
theorem tabv_get (f : Nat → Nat → Int) (w n i : Nat) (h : i < n) : rd_L2 (tabv f w n) (i : Int) = rowv (f i) w := by
  unfold rd_L2
  rw [Int.toNat_natCast, List.getD_eq_getElem?_getD, List.getElem?_eq_getElem (by rw [tabv_length]; exact h)]
  simp [tabv]
theorem mn_min (a b : Int) : mn a b = min a b := by
  unfold mn
  split
  · rw [Int.min_eq_right (by omega)]
  · rw [Int.min_eq_left (by omega)]
theorem impl_distances_ev (a b : List Int) (ha : a.length ≤ 40) (hb : b.length ≤ 40) : Ev (fun k => impl_distances.f k a b) (tabv (dv a b) (b.length + 1) (a.length + 1)) := by
  unfold impl_distances.f
  have hwb : ∀ _ : Unit, wrap64 ((b.length : Int) + 1) = ((b.length + 1 : Nat) : Int) := fun _ => by rw [w64 (by omega) (by omega)]; omega
  have hwa : ∀ _ : Unit, wrap64 ((a.length : Int) + 1) = ((a.length + 1 : Nat) : Int) := fun _ => by rw [w64 (by omega) (by omega)]; omega
  rw [hwa ()]
  have l1 : ∀ (i : Nat), i ≤ a.length → (Ev (fun k => impl_distances.l0 k a b (tabv (dv a b) (b.length + 1) (i + 1)) ((a.length + 1 : Nat) : Int) ((i + 1 : Nat) : Int)) (tabv (dv a b) (b.length + 1) (a.length + 1))) →
      ∀ (d j : Nat), j + d = b.length + 1 → Ev (fun k => impl_distances.l1 k a b (tabv (dv a b) (b.length + 1) i) (i : Int) (rowv (dv a b i) j) ((a.length + 1 : Nat) : Int) (i : Int) ((b.length + 1 : Nat) : Int) (j : Int)) (tabv (dv a b) (b.length + 1) (a.length + 1)) := by
    intro i hi hnext d
    induction d with
    | zero =>
      intro j h
      refine ev_succ ?_
      simp only [impl_distances.l1, show wrap64 ((i : Int) + 1) = ((i + 1 : Nat) : Int) by rw [w64 (by omega) (by omega)]; omega]
      refine ev_neg (by omega) (ev_pos (by rw [tabv_length]; omega) ?_)
      rw [tabv_succ] at hnext
      rw [show j = b.length + 1 by omega]
      exact hnext
    | succ d ih =>
      intro j h
      have n9 : ∀ _ : Unit, wrap64 ((j : Int) + 1) = ((j + 1 : Nat) : Int) := fun _ => by rw [w64 (by omega) (by omega)]; omega
      have hi2 := ih (j + 1) (by omega)
      rw [rowv_succ (dv a b i) j] at hi2
      have edge : (i = 0 ∨ j = 0) → Ev (fun k => impl_distances.j2 k a b (tabv (dv a b) (b.length + 1) i) (i : Int) (rowv (dv a b i) j) (j : Int) ((a.length + 1 : Nat) : Int) (i : Int) ((b.length + 1 : Nat) : Int) (j : Int) true) (tabv (dv a b) (b.length + 1) (a.length + 1)) := fun hz => by
        refine ev_succ ?_
        simp only [impl_distances.j2, n9 ()]
        refine ev_pos (by first | rfl | trivial) (ev_pos (by rw [rowv_length]; omega) ?_)
        have e : dv a b i j = wrap64 ((i : Int) + (j : Int)) := by
          rw [w64 (by omega) (by omega)]
          rcases hz with h | h
          · subst h; rw [dv_zero (by omega)]; omega
          · subst h; rw [dv_zero' (by omega)]; omega
        rw [e] at hi2
        exact hi2
      refine ev_succ ?_
      simp only [impl_distances.l1]
      refine ev_pos (by omega) ?_
      by_cases i0 : i = 0
      · exact ev_pos (by omega) (edge (.inl i0))
      refine ev_neg (by omega) ?_
      by_cases j0 : j = 0
      · rw [show ((j : Int) == 0) = true by simp [j0]]; exact edge (.inr j0)
      rw [show ((j : Int) == 0) = false by simp; omega]
      obtain ⟨i, rfl⟩ : ∃ i', i = i' + 1 := ⟨i - 1, by omega⟩
      obtain ⟨j, rfl⟩ : ∃ j', j = j' + 1 := ⟨j - 1, by omega⟩
      have n1 : ∀ _ : Unit, wrap64 (((i + 1 : Nat) : Int) - 1) = (i : Int) := fun _ => by rw [w64 (by omega) (by omega)]; omega
      have n2 : ∀ _ : Unit, wrap64 (((j + 1 : Nat) : Int) - 1) = (j : Int) := fun _ => by rw [w64 (by omega) (by omega)]; omega
      have gr : rd_L2 (tabv (dv a b) (b.length + 1) (i + 1)) (i : Int) = rowv (dv a b i) (b.length + 1) := tabv_get _ _ _ _ (by omega)
      have g1 : ∀ _ : Unit, rd (rowv (dv a b i) (b.length + 1)) (j : Int) = dv a b i j := fun _ => rowv_get _ _ _ (by omega)
      have g2 : ∀ _ : Unit, rd (rowv (dv a b i) (b.length + 1)) ((j + 1 : Nat) : Int) = dv a b i (j + 1) := fun _ => rowv_get _ _ _ (by omega)
      have g3 : ∀ _ : Unit, rd (rowv (dv a b (i + 1)) (j + 1)) (j : Int) = dv a b (i + 1) j := fun _ => rowv_get _ _ _ (by omega)
      refine ev_succ ?_
      simp only [impl_distances.j2, n1 (), n2 (), n9 (), gr, g1 (), g2 (), g3 (), mn_min]
      refine ev_neg (by simp) (ev_pos (by omega) (ev_pos (by omega) (ev_pos (by omega) (ev_pos (by omega) ?_))))
      by_cases e : rd a (i : Int) = rd b (j : Int)
      · refine ev_pos e (ev_pos (by rw [tabv_length]; omega) (ev_pos (by rw [rowv_length]; omega) (ev_pos (by rw [rowv_length]; omega) ?_)))
        rw [dv_eq (by omega) (by omega) e] at hi2
        exact hi2
      · refine ev_neg e (ev_pos (by rw [tabv_length]; omega) (ev_pos (by rw [rowv_length]; omega) (ev_pos (by omega) (ev_pos (by rw [rowv_length]; omega) (ev_pos (by rw [rowv_length]; omega) (ev_pos (by rw [rowv_length]; omega) ?_))))))
        rw [dv_ne (by omega) (by omega) e] at hi2
        have r1 := dv_range (a := a) (b := b) i j
        have r2 := dv_range (a := a) (b := b) i (j + 1)
        have r3 := dv_range (a := a) (b := b) (i + 1) j
        rw [w64 (by omega) (by omega), Int.min_assoc]
        exact hi2
  have l0 : ∀ (d i : Nat), i + d = a.length + 1 → Ev (fun k => impl_distances.l0 k a b (tabv (dv a b) (b.length + 1) i) ((a.length + 1 : Nat) : Int) (i : Int)) (tabv (dv a b) (b.length + 1) (a.length + 1)) := by
    intro d
    induction d with
    | zero =>
      intro i h
      obtain rfl : i = a.length + 1 := by omega
      refine ev_succ ?_
      simp only [impl_distances.l0]
      exact ev_neg (by omega) (Ev.now _)
    | succ d ih =>
      intro i h
      refine ev_succ ?_
      simp only [impl_distances.l0, hwb ()]
      exact ev_pos (by omega) (l1 i (by omega) (ih (i + 1) (by omega)) (b.length + 1) 0 (by omega))
  exact l0 (a.length + 1) 0 (by omega)

theorem impl_Apart_ev (a b : List Int) : Ev (fun k => impl_Apart.f k a b) (if a.length ≤ 40 ∧ b.length ≤ 40 then dv a b a.length b.length else -1) := by
  unfold impl_Apart.f
  refine ev_bind_of (impl_areLists_eq a b) ?_
  by_cases hab : ¬ (a.length ≤ 40 ∧ b.length ≤ 40)
  · rw [if_neg hab]; exact ev_neg (by simp; omega) (Ev.now _)
  rw [Decidable.not_not] at hab
  rw [if_pos hab]
  refine ev_pos (by simp; omega) (Ev.bind (impl_distances_ev a b hab.1 hab.2) ?_)
  have gr : rd_L2 (tabv (dv a b) (b.length + 1) (a.length + 1)) (a.length : Int) = rowv (dv a b a.length) (b.length + 1) := tabv_get _ _ _ _ (by omega)
  rw [gr, rowv_get _ _ _ (by omega)]
  exact ev_pos (by omega) (ev_pos (by rw [tabv_length]; omega) (ev_pos (by omega) (ev_pos (by rw [rowv_length]; omega) (Ev.now _))))

theorem spec_l1Max_mx (a b : Int) : spec_l1Max.f a b = some (max a b) := by
  unfold spec_l1Max.f
  split
  · rw [Int.max_eq_left (by omega)]
  · rw [Int.max_eq_right (by omega)]
def sharedv (a b : List Int) : Int := if a.length ≤ 40 ∧ b.length ≤ 40 then sv a b a.length b.length else -1
theorem spec_Shared_step (a b L : List Int) (w i j P M : Nat) (x y z r : Int) (hP : (i : Int) * (w : Int) = (P : Int)) (hL : L.length = M) (hi : i < a.length) (hj : j < b.length) (hin : P + w + (j + 1) < M) (hM : M ≤ 1681) (hia : i ≤ 40) (hw : w ≤ 41)
    (g1 : ∀ _ : Unit, rd L ((P + j : Nat) : Int) = x) (g2 : ∀ _ : Unit, rd L ((P + (j + 1) : Nat) : Int) = y) (g3 : ∀ _ : Unit, rd L ((P + w + j : Nat) : Int) = z) (hx : 0 ≤ x ∧ x ≤ 40)
    (nx : Ev (fun k => spec_Shared.l1 k a b (w : Int) (L.set (P + w + (j + 1)) (if rd a (i : Int) = rd b (j : Int) then x + 1 else max y z)) ((i + 1 : Nat) : Int) ((j + 2 : Nat) : Int)) r) :
    Ev (fun k => spec_Shared.l1 k a b (w : Int) L ((i + 1 : Nat) : Int) ((j + 1 : Nat) : Int)) r := by
  have hP2 : ((i + 1 : Nat) : Int) * (w : Int) = ((P + w : Nat) : Int) := by
    rw [Int.natCast_add, Int.add_mul, hP]; omega
  have n1 : ∀ _ : Unit, wrap64 (((i + 1 : Nat) : Int) - 1) = (i : Int) := fun _ => by rw [w64 (by omega) (by omega)]; omega
  have n2 : ∀ _ : Unit, wrap64 (((j + 1 : Nat) : Int) - 1) = (j : Int) := fun _ => by rw [w64 (by omega) (by omega)]; omega
  have n3 : ∀ _ : Unit, wrap64 ((i : Int) * (w : Int)) = (P : Int) := fun _ => by rw [hP, w64 (by omega) (by omega)]
  have n4 : ∀ _ : Unit, wrap64 ((P : Int) + ((j + 1 : Nat) : Int)) = ((P + (j + 1) : Nat) : Int) := fun _ => by rw [w64 (by omega) (by omega)]; omega
  have n5 : ∀ _ : Unit, wrap64 (((P + (j + 1) : Nat) : Int) - 1) = ((P + j : Nat) : Int) := fun _ => by rw [w64 (by omega) (by omega)]; omega
  have n6 : ∀ _ : Unit, wrap64 (((i + 1 : Nat) : Int) * (w : Int)) = ((P + w : Nat) : Int) := fun _ => by rw [hP2, w64 (by omega) (by omega)]
  have n7 : ∀ _ : Unit, wrap64 (((P + w : Nat) : Int) + ((j + 1 : Nat) : Int)) = ((P + w + (j + 1) : Nat) : Int) := fun _ => by rw [w64 (by omega) (by omega)]; omega
  have n8 : ∀ _ : Unit, wrap64 (((P + w + (j + 1) : Nat) : Int) - 1) = ((P + w + j : Nat) : Int) := fun _ => by rw [w64 (by omega) (by omega)]; omega
  have n9 : ∀ _ : Unit, wrap64 (((j + 1 : Nat) : Int) + 1) = ((j + 2 : Nat) : Int) := fun _ => by rw [w64 (by omega) (by omega)]; omega
  clear hP hP2
  refine ev_succ ?_
  simp only [spec_Shared.l1, n1 (), n2 (), n3 (), n4 (), n5 (), n6 (), n7 (), n8 (), n9 (), g1 (), g2 (), g3 (), Int.toNat_natCast]
  clear n1 n2 n3 n4 n5 n6 n7 n8 n9 g1 g2 g3
  refine ev_pos (by omega) (ev_pos (by omega) (ev_pos (by omega) (ev_pos (by omega) (ev_pos (by omega) ?_))))
  by_cases e : rd a (i : Int) = rd b (j : Int)
  · refine ev_pos e (ev_pos (by omega) (ev_pos (by omega) (ev_pos (by omega) (ev_pos (by omega) ?_))))
    rw [if_pos e] at nx
    rw [w64 (by omega) (by omega)]
    exact nx
  · rw [if_neg e] at nx
    exact ev_neg e (ev_pos (by omega) (ev_pos (by omega) (ev_pos (by omega) (ev_pos (by omega) (ev_bind_of (spec_l1Max_mx _ _) (ev_pos (by omega) (ev_pos (by omega) nx)))))))
theorem spec_Shared_ev (a b : List Int) : Ev (fun k => spec_Shared.f k a b) (sharedv a b) := by
  unfold spec_Shared.f sharedv
  refine ev_bind_of (spec_l9Two_eq a b) ?_
  by_cases hab : ¬ (a.length ≤ 40 ∧ b.length ≤ 40)
  · rw [if_neg hab]; exact ev_neg (by simp; omega) (Ev.now _)
  rw [Decidable.not_not] at hab
  rw [if_pos hab]
  refine ev_pos (by simp; omega) ?_
  obtain ⟨ha, hb⟩ := hab
  have hMle : (a.length + 1) * (b.length + 1) ≤ 41 * 41 := Nat.mul_le_mul (by omega) (by omega)
  have hwb : ∀ _ : Unit, wrap64 ((b.length : Int) + 1) = ((b.length + 1 : Nat) : Int) := fun _ => by rw [w64 (by omega) (by omega)]; omega
  have hwa : ∀ _ : Unit, wrap64 ((a.length : Int) + 1) = ((a.length + 1 : Nat) : Int) := fun _ => by rw [w64 (by omega) (by omega)]; omega
  have hwM : ∀ _ : Unit, wrap64 (((a.length + 1 : Nat) : Int) * ((b.length + 1 : Nat) : Int)) = (((a.length + 1) * (b.length + 1) : Nat) : Int) := fun _ => by rw [← Int.natCast_mul, w64 (by omega) (by omega)]
  rw [hwa (), hwb (), hwM ()]
  refine ev_pos (by omega) (ev_pos (by omega) ?_)
  rw [Int.toNat_natCast, ← st_zero (sv a b) (b.length + 1)]
  generalize hM : (a.length + 1) * (b.length + 1) = M at hMle
  have hrow : ∀ i, i ≤ a.length → i * (b.length + 1) + (b.length + 1) ≤ M := fun i hi => by
    rw [← hM, ← Nat.succ_mul]; exact Nat.mul_le_mul (by omega) (Nat.le_refl _)
  have l1 : ∀ (i : Nat), i < a.length → (Ev (fun k => spec_Shared.l0 k a b ((b.length + 1 : Nat) : Int) (st (sv a b) (b.length + 1) M ((i + 2) * (b.length + 1))) ((i + 2 : Nat) : Int)) (sv a b a.length b.length)) →
      ∀ (d j : Nat), 1 ≤ j → j + d = b.length + 1 → Ev (fun k => spec_Shared.l1 k a b ((b.length + 1 : Nat) : Int) (st (sv a b) (b.length + 1) M ((i + 1) * (b.length + 1) + j)) ((i + 1 : Nat) : Int) (j : Int)) (sv a b a.length b.length) := by
    intro i hi hnext d
    induction d with
    | zero =>
      intro j hj h
      refine ev_succ ?_
      simp only [spec_Shared.l1, show wrap64 (((i + 1 : Nat) : Int) + 1) = ((i + 2 : Nat) : Int) by rw [w64 (by omega) (by omega)]; omega]
      refine ev_neg (by omega) ?_
      rw [show (i + 1) * (b.length + 1) + j = (i + 2) * (b.length + 1) by rw [Nat.succ_mul (i + 1)]; omega]
      exact hnext
    | succ d ih =>
      intro j hj h
      obtain ⟨j, rfl⟩ : ∃ j', j = j' + 1 := ⟨j - 1, by omega⟩
      have hr1 := hrow (i + 1) (by omega)
      have hq : (i + 1) * (b.length + 1) = i * (b.length + 1) + (b.length + 1) := Nat.succ_mul _ _
      have hl := st_length (sv a b) (b.length + 1) M ((i + 1) * (b.length + 1) + (j + 1)) (by omega)
      have g1 := st_get (sv a b) (b.length + 1) M ((i + 1) * (b.length + 1) + (j + 1)) (i * (b.length + 1) + j) (by omega) (by omega)
      have g2 := st_get (sv a b) (b.length + 1) M ((i + 1) * (b.length + 1) + (j + 1)) (i * (b.length + 1) + (j + 1)) (by omega) (by omega)
      have g3 := st_get (sv a b) (b.length + 1) M ((i + 1) * (b.length + 1) + (j + 1)) ((i + 1) * (b.length + 1) + j) (by omega) (by omega)
      rw [at_div (by omega), at_mod (by omega)] at g1 g2 g3
      have hset := st_set (sv a b) (b.length + 1) M ((i + 1) * (b.length + 1) + (j + 1)) (by omega)
      rw [at_div (by omega), at_mod (by omega)] at hset
      have hi2 := ih (j + 2) (by omega) (by omega)
      rw [show (i + 1) * (b.length + 1) + (j + 2) = (i + 1) * (b.length + 1) + (j + 1) + 1 by omega, ← hset] at hi2
      have rg := sv_range (a := a) (b := b) i j
      have hv : sv a b (i + 1) (j + 1) = if rd a (i : Int) = rd b (j : Int) then sv a b i j + 1 else max (sv a b i (j + 1)) (sv a b (i + 1) j) := by
        by_cases e : rd a (i : Int) = rd b (j : Int)
        · rw [if_pos e]; exact sv_eq (by omega) (by omega) e
        · rw [if_neg e]; exact sv_ne (by omega) (by omega) e
      rw [hv] at hi2
      rw [hq] at hl g1 g2 g3 hi2 ⊢
      exact spec_Shared_step a b _ (b.length + 1) i j (i * (b.length + 1)) M _ _ _ _ (Int.natCast_mul _ _).symm hl hi (by omega) (by omega) (by omega) (by omega) (by omega) (fun _ => g1) (fun _ => g2) (fun _ => g3) (by omega) hi2
  have l0 : ∀ (d i : Nat), i + d = a.length → Ev (fun k => spec_Shared.l0 k a b ((b.length + 1 : Nat) : Int) (st (sv a b) (b.length + 1) M ((i + 1) * (b.length + 1))) ((i + 1 : Nat) : Int)) (sv a b a.length b.length) := by
    intro d
    induction d with
    | zero =>
      intro i h
      obtain rfl : i = a.length := by omega
      have hl := st_length (sv a b) (b.length + 1) M ((a.length + 1) * (b.length + 1)) (by omega)
      have hM2 : M = a.length * (b.length + 1) + b.length + 1 := by rw [← hM, Nat.succ_mul]; omega
      have g := st_get (sv a b) (b.length + 1) M ((a.length + 1) * (b.length + 1)) (a.length * (b.length + 1) + b.length) (by omega) (by omega)
      rw [at_div (by omega), at_mod (by omega)] at g
      refine ev_succ ?_
      simp only [spec_Shared.l0, hl, wN (x := (M : Int) - 1) (n := a.length * (b.length + 1) + b.length) (by omega) (by omega), g]
      exact ev_neg (by omega) (ev_pos (by omega) (ev_pos (by omega) (Ev.now _)))
    | succ d ih =>
      intro i h
      refine ev_succ ?_
      simp only [spec_Shared.l0]
      refine ev_pos (by omega) ?_
      have := hrow (i + 1) (by omega)
      have z := st_skip (sv a b) (b.length + 1) M ((i + 1) * (b.length + 1)) (by omega) (by have := at_mod (i := i + 1) (j := 0) (w := b.length + 1) (by omega); rw [Nat.add_zero] at this; rw [this]; exact sv_zero' _ _ _)
      rw [z]
      exact l1 i (by omega) (ih (i + 1) (by omega)) b.length 1 (by omega) (by omega)
  have z0 : ∀ q, q ≤ b.length + 1 → st (sv a b) (b.length + 1) M 0 = st (sv a b) (b.length + 1) M q := by
    intro q
    induction q with
    | zero => intro _; rfl
    | succ q ih =>
      intro hq
      have := hrow 0 (by omega)
      rw [ih (by omega)]
      refine st_skip _ _ _ _ (by omega) ?_
      rw [Nat.div_eq_of_lt (by omega)]
      exact sv_zero _ _ _
  rw [z0 (b.length + 1) (Nat.le_refl _)]
  have := l0 a.length 0 (by omega)
  rw [show (0 + 1) * (b.length + 1) = b.length + 1 by omega] at this
  exact this

theorem mx_max (a b : Int) : mx a b = max a b := by
  unfold mx
  split
  · rw [Int.max_eq_right (by omega)]
  · rw [Int.max_eq_left (by omega)]
theorem impl_Shared_ev (a b : List Int) : Ev (fun k => impl_Shared.f k a b) (sharedv a b) := by
  unfold impl_Shared.f sharedv
  refine ev_bind_of (impl_areLists_eq a b) ?_
  by_cases hab : ¬ (a.length ≤ 40 ∧ b.length ≤ 40)
  · rw [if_neg hab]; exact ev_neg (by simp; omega) (Ev.now _)
  rw [Decidable.not_not] at hab
  rw [if_pos hab]
  refine ev_pos (by simp; omega) ?_
  obtain ⟨ha, hb⟩ := hab
  have hwb : ∀ _ : Unit, wrap64 ((b.length : Int) + 1) = ((b.length + 1 : Nat) : Int) := fun _ => by rw [w64 (by omega) (by omega)]; omega
  rw [hwb ()]
  refine ev_pos (by omega) (ev_pos (by omega) ?_)
  have z : List.replicate (b.length + 1) (0 : Int) = rowv (sv a b 0) (b.length + 1) := by
    refine List.ext_getElem (by simp [rowv]) fun i h1 h2 => ?_
    simp [rowv, sv_zero]
  rw [Int.toNat_natCast, z]
  have l1 : ∀ (i : Nat), i < a.length → (Ev (fun k => impl_Shared.l0 k b (rowv (sv a b (i + 1)) (b.length + 1)) a (a.length : Int) ((i + 1 : Nat) : Int)) (sv a b a.length b.length)) →
      ∀ (d j : Nat), j + d = b.length → Ev (fun k => impl_Shared.l1 k b (rowv (sv a b i) (b.length + 1)) (rd a (i : Int)) (rowv (sv a b (i + 1)) (j + 1)) a (a.length : Int) (i : Int) b (b.length : Int) (j : Int)) (sv a b a.length b.length) := by
    intro i hi hnext d
    induction d with
    | zero =>
      intro j h
      refine ev_succ ?_
      simp only [impl_Shared.l1, show wrap64 ((i : Int) + 1) = ((i + 1 : Nat) : Int) by rw [w64 (by omega) (by omega)]; omega]
      refine ev_neg (by omega) ?_
      rw [show j + 1 = b.length + 1 by omega]
      exact hnext
    | succ d ih =>
      intro j h
      have n1 : ∀ _ : Unit, wrap64 ((j : Int) + 1) = ((j + 1 : Nat) : Int) := fun _ => by rw [w64 (by omega) (by omega)]; omega
      have g1 : rd (rowv (sv a b i) (b.length + 1)) (j : Int) = sv a b i j := rowv_get _ _ _ (by omega)
      have g2 : rd (rowv (sv a b i) (b.length + 1)) ((j + 1 : Nat) : Int) = sv a b i (j + 1) := rowv_get _ _ _ (by omega)
      have g3 : rd (rowv (sv a b (i + 1)) (j + 1)) (j : Int) = sv a b (i + 1) j := rowv_get _ _ _ (by omega)
      have rg := sv_range (a := a) (b := b) i j
      have hi2 := ih (j + 1) (by omega)
      rw [rowv_succ (sv a b (i + 1)) (j + 1)] at hi2
      refine ev_succ ?_
      simp only [impl_Shared.l1, n1 (), g1, g2, g3, mx_max]
      refine ev_pos (by omega) (ev_pos (by omega) (ev_pos (by omega) ?_))
      by_cases e : rd a (i : Int) = rd b (j : Int)
      · refine ev_pos e (ev_pos (by rw [rowv_length]; omega) (ev_pos (by rw [rowv_length]; omega) ?_))
        rw [sv_eq (by omega) (by omega) e] at hi2
        rw [w64 (by omega) (by omega)]
        exact hi2
      · refine ev_neg e (ev_pos (by omega) (ev_pos (by rw [rowv_length]; omega) (ev_pos (by rw [rowv_length]; omega) (ev_pos (by rw [rowv_length]; omega) ?_))))
        rw [sv_ne (by omega) (by omega) e] at hi2
        exact hi2
  have l0 : ∀ (d i : Nat), i + d = a.length → Ev (fun k => impl_Shared.l0 k b (rowv (sv a b i) (b.length + 1)) a (a.length : Int) (i : Int)) (sv a b a.length b.length) := by
    intro d
    induction d with
    | zero =>
      intro i h
      obtain rfl : i = a.length := by omega
      refine ev_succ ?_
      simp only [impl_Shared.l0]
      refine ev_neg (by omega) (ev_pos (by omega) (ev_pos (by rw [rowv_length]; omega) ?_))
      rw [rowv_get _ _ _ (by omega)]
      exact Ev.now _
    | succ d ih =>
      intro i h
      refine ev_succ ?_
      simp only [impl_Shared.l0]
      refine ev_pos (by omega) (ev_pos (by omega) (ev_pos (by omega) ?_))
      have := l1 i (by omega) (ih (i + 1) (by omega)) b.length 0 (by omega)
      have e : rowv (sv a b (i + 1)) (0 + 1) = [0] := by simp [rowv, sv_zero']
      rw [e] at this
      exact this
  exact l0 a.length 0 (by omega)

theorem laws_likeInts_ev (a b : List Int) (ha : a.length < 9223372036854775807) : Ev (fun k => laws_likeInts.f k a b) (decide (a = b)) := by
  unfold laws_likeInts.f
  by_cases hl : a.length = b.length
  · refine ev_pos (by omega) ?_
    have go : ∀ (d i : Nat), i + d = a.length → a.take i = b.take i → Ev (fun k => laws_likeInts.l0 k a b (i : Int)) (decide (a = b)) := by
      intro d
      induction d with
      | zero =>
        intro i h e
        refine ev_succ ?_
        simp only [laws_likeInts.l0]
        refine ev_neg (by omega) ?_
        rw [List.take_of_length_le (by omega), List.take_of_length_le (by omega)] at e
        rw [decide_eq_true e]
        exact Ev.now _
      | succ d ih =>
        intro i h e
        refine ev_succ ?_
        simp only [laws_likeInts.l0, w64 (x := (i : Int) + 1) (by omega) (by omega)]
        refine ev_pos (by omega) (ev_pos (by omega) (ev_pos (by omega) ?_))
        by_cases c : rd a (i : Int) = rd b (i : Int)
        · refine ev_pos c (ih (i + 1) (by omega) ?_)
          rw [rd_at (by omega), rd_at (by omega)] at c
          rw [List.take_succ_eq_append_getElem (by omega), List.take_succ_eq_append_getElem (by omega), e, c]
        · refine ev_neg c ?_
          rw [decide_eq_false (fun x => c (by rw [x]))]
          exact Ev.now _
    exact go a.length 0 (by omega) rfl
  · refine ev_neg (by omega) ?_
    rw [decide_eq_false (fun x => hl (by rw [x]))]
    exact Ev.now _
theorem laws_likeInts_self (a : List Int) (ha : a.length < 9223372036854775807) : Ev (fun k => laws_likeInts.f k a a) true := ev_eq (laws_likeInts_ev a a ha) (decide_eq_true rfl)

theorem and255 (x : Int) : 0 ≤ Go.bits .and .i64 x 255 ∧ Go.bits .and .i64 x 255 ≤ 255 := by
  have h : ((BitVec.ofInt 64 x &&& BitVec.ofInt 64 255).toNat : Int) ≤ 255 := by
    rw [BitVec.toNat_and]
    have : (BitVec.ofInt 64 x).toNat &&& (BitVec.ofInt 64 255).toNat ≤ (BitVec.ofInt 64 255).toNat := Nat.and_le_right
    have e : (BitVec.ofInt 64 255).toNat = 255 := by decide
    omega
  have w : Go.bits .and .i64 x 255 = IntKind.i64.wrap ((BitVec.ofInt 64 x &&& BitVec.ofInt 64 255).toNat : Int) := rfl
  rw [w, IntKind.wrap_i64]
  omega
/-- A draw's byte. -/
theorem spec_l1Byte_some (b : List Int) (hb : b.length < 4611686018427387904) (i h : Int) (hi : 0 ≤ i) :
    ∃ v i' h', spec_l1Byte.f b i h = some (v, i', h') ∧ 0 ≤ v ∧ v ≤ 255 ∧ 0 ≤ i' := by
  unfold spec_l1Byte.f
  by_cases c : i < (b.length : Int)
  · rw [if_pos c, if_pos hi]
    exact ⟨_, _, _, rfl, (and255 _).1, (and255 _).2, by rw [w64 (by omega) (by omega)]; omega⟩
  · rw [if_neg c]
    exact ⟨_, _, _, rfl, (and255 _).1, (and255 _).2, hi⟩
theorem spec_l1Below_some (b : List Int) (hb : b.length < 4611686018427387904) (i h n : Int) (hi : 0 ≤ i) (hn : n < 4611686018427387904) :
    ∃ v i' h', spec_l1Below.f b i h n = some (v, i', h') ∧ 0 ≤ v ∧ (v < n ∨ (n ≤ 0 ∧ v = 0)) ∧ 0 ≤ i' := by
  unfold spec_l1Below.f
  by_cases c : n ≤ 0
  · rw [if_pos c]; exact ⟨0, i, h, rfl, by omega, .inr ⟨c, rfl⟩, hi⟩
  · rw [if_neg c]
    by_cases c2 : n ≤ 256
    · rw [if_pos c2]
      obtain ⟨v, i', h', e, h0, h1, h2⟩ := spec_l1Byte_some b hb i h hi
      rw [e]
      simp only [Option.bind_some]
      rw [if_neg (by omega), Int.tmod_eq_emod_of_nonneg h0]
      exact ⟨_, _, _, rfl, Int.emod_nonneg _ (by omega), .inl (Int.emod_lt_of_pos _ (by omega)), h2⟩
    · rw [if_neg c2]
      obtain ⟨x, i1, h1, e1, x0, x1, j1⟩ := spec_l1Byte_some b hb i h hi
      obtain ⟨y, i2, h2, e2, y0, y1, j2⟩ := spec_l1Byte_some b hb i1 h1 j1
      obtain ⟨z, i3, h3, e3, z0, z1, j3⟩ := spec_l1Byte_some b hb i2 h2 j2
      obtain ⟨u, i4, h4, e4, u0, u1, j4⟩ := spec_l1Byte_some b hb i3 h3 j3
      rw [e1]; simp only [Option.bind_some]
      rw [e2]; simp only [Option.bind_some]
      rw [e3]; simp only [Option.bind_some]
      rw [e4]; simp only [Option.bind_some]
      rw [if_neg (by omega), w64 (x := x * 16777216) (by omega) (by omega), w64 (x := y * 65536) (by omega) (by omega), w64 (x := z * 256) (by omega) (by omega), w64 (x := x * 16777216 + y * 65536) (by omega) (by omega),
        w64 (x := x * 16777216 + y * 65536 + z * 256) (by omega) (by omega), w64 (x := x * 16777216 + y * 65536 + z * 256 + u) (by omega) (by omega), Int.tmod_eq_emod_of_nonneg (by omega)]
      exact ⟨_, _, _, rfl, Int.emod_nonneg _ (by omega), .inl (Int.emod_lt_of_pos _ (by omega)), j4⟩

theorem spec_l1Once_some (b : List Int) (hb : b.length < 4611686018427387904) (i h n : Int) (hi : 0 ≤ i) (hn : n < 4611686018427387904) :
    ∃ v i' h', spec_l1Once.f b i h n = some (v, i', h') ∧ 0 ≤ i' := by
  unfold spec_l1Once.f
  obtain ⟨v, i', h', e, _, _, h2⟩ := spec_l1Below_some b hb i h n hi hn
  rw [e]
  exact ⟨_, _, _, rfl, h2⟩

theorem spec_l1New_some (l : List Int) (hl : l.length < 4611686018427387904) : ∃ h, Ev (fun k => spec_l1New.f k l) (l, 0, h) := by
  have go : ∀ (d i : Nat) (x : Int), i + d = l.length → ∃ h, Ev (fun k => spec_l1New.l0 k l x (i : Int)) (l, 0, h) := by
    intro d
    induction d with
    | zero =>
      intro i x h
      refine ⟨x, ev_succ ?_⟩
      simp only [spec_l1New.l0]
      exact ev_neg (by omega) (Ev.now _)
    | succ d ih =>
      intro i x h
      obtain ⟨h', e⟩ := ih (i + 1) (Go.bits .and .i64 (wrap64 ((wrap64 ((wrap64 (x * 137)) + (wrap64 (rd l (i : Int))))) + 11)) 1073741823) (by omega)
      refine ⟨h', ev_succ ?_⟩
      simp only [spec_l1New.l0, w64 (x := (i : Int) + 1) (by omega) (by omega)]
      exact ev_pos (by omega) (ev_pos (by omega) e)
  exact go l.length 0 _ (by omega)

theorem spec_l9Draw_some (b : List Int) (hb : b.length < 4611686018427387904) (i h : Int) (hi : 0 ≤ i) :
    ∃ l i' h', Ev (fun k => spec_l9Draw.f k b i h) (l, i', h') ∧ l.length ≤ 41 ∧ 0 ≤ i' := by
  have go : ∀ (d : Nat) (l : List Int) (i h : Int), 0 ≤ i → l.length + d ≤ 41 → ∃ l' i' h', Ev (fun k => spec_l9Draw.l0 k l (d : Int) b i h) (l', i', h') ∧ l'.length ≤ 41 ∧ 0 ≤ i' := by
    intro d
    induction d with
    | zero =>
      intro l i h hi hl
      obtain ⟨v, i3, h3, e3, j3⟩ := spec_l1Once_some b hb i h 30 hi (by omega)
      cases v with
      | true =>
        obtain ⟨u, i4, h4, e4, u0, u1, j4⟩ := spec_l1Below_some b hb i3 h3 2 j3 (by omega)
        refine ⟨List.replicate (40 + u).toNat 0, i4, h4, ev_succ ?_, by simp; omega, j4⟩
        simp only [spec_l9Draw.l0, e3, Option.bind_some, e4, w64 (x := 40 + u) (by omega) (by omega)]
        exact ev_neg (by omega) (ev_pos (by trivial) (ev_pos (by omega) (ev_pos (by omega) (Ev.now _))))
      | false =>
        refine ⟨l, i3, h3, ev_succ ?_, by omega, j3⟩
        simp only [spec_l9Draw.l0, e3, Option.bind_some]
        exact ev_neg (by omega) (ev_neg (by simp) (Ev.now _))
    | succ d ih =>
      intro l i h hi hl
      obtain ⟨v, i1, h1, e, _, _, j1⟩ := spec_l1Below_some b hb i h 4 hi (by omega)
      obtain ⟨l', i', h', e', hl', hi'⟩ := ih (l ++ [v]) i1 h1 j1 (by simp; omega)
      refine ⟨l', i', h', ev_succ ?_, hl', hi'⟩
      simp only [spec_l9Draw.l0, e, Option.bind_some, show (((d + 1 : Nat) : Int) - 1) = (d : Int) by omega, w64 (x := (d : Int)) (by omega) (by omega)]
      exact ev_pos (by omega) (ev_pos (by omega) e')
  unfold spec_l9Draw.f
  obtain ⟨v, i1, h1, e, v0, v1, j1⟩ := spec_l1Below_some b hb i h 9 hi (by omega)
  rw [e]
  simp only [Option.bind_some]
  obtain ⟨d, rfl⟩ : ∃ d : Nat, v = d := ⟨v.toNat, by omega⟩
  exact go d [] i1 h1 j1 (by simp; omega)
theorem spec_DrawApart_some (l : List Int) (hl : l.length < 4611686018427387904) : ∃ a b, Ev (fun k => spec_DrawApart.f k l) (a, b) ∧ a.length ≤ 41 ∧ b.length ≤ 41 := by
  obtain ⟨h, e0⟩ := spec_l1New_some l hl
  obtain ⟨a, i1, h1, e1, ha, j1⟩ := spec_l9Draw_some l hl 0 h (by omega)
  obtain ⟨b, i2, h2, e2, hb, j2⟩ := spec_l9Draw_some l hl i1 h1 j1
  unfold spec_DrawApart.f
  exact ⟨a, b, Ev.bind e0 (Ev.bind e1 (Ev.bind e2 (Ev.now _))), ha, hb⟩

theorem laws_pick_some (l : List Int) (hl : l.length < 4611686018427387904) (s n : Int) (hn : 0 < n) : ∃ v, Ev (fun k => laws_pick.f k l s n) v ∧ v < n := by
  have go : ∀ (d i : Nat) (x : Int), i + d = l.length → ∃ v, Ev (fun k => laws_pick.l0 k l s n x (i : Int)) v ∧ v < n := by
    intro d
    induction d with
    | zero =>
      intro i x h
      refine ⟨Int.tmod x n, ev_succ ?_, Int.tmod_lt_of_pos x hn⟩
      simp only [laws_pick.l0]
      exact ev_neg (by omega) (ev_neg (by omega) (Ev.now _))
    | succ d ih =>
      intro i x h
      obtain ⟨v, e, hv⟩ := ih (i + 1) (Int.tmod (wrap64 ((wrap64 ((wrap64 (x * 127)) + (wrap64 (rd l (i : Int))))) + s)) 1000003) (by omega)
      refine ⟨v, ev_succ ?_, hv⟩
      simp only [laws_pick.l0, w64 (x := (i : Int) + 1) (by omega) (by omega)]
      exact ev_pos (by omega) (ev_pos (by omega) e)
  exact go l.length 0 _ (by omega)

theorem dv_full (a b : List Int) : dv a b a.length b.length = (lev a.reverse b.reverse : Int) := by unfold dv; rw [List.take_length, List.take_length]
theorem sv_full (a b : List Int) : sv a b a.length b.length = (lcs a.reverse b.reverse : Int) := by unfold sv; rw [List.take_length, List.take_length]
theorem apart_full (a b : List Int) (ha : a.length ≤ 40) (hb : b.length ≤ 40) : Ev (fun k => impl_Apart.f k a b) (lev a.reverse b.reverse : Int) := by
  have := impl_Apart_ev a b
  rw [if_pos ⟨ha, hb⟩, dv_full] at this
  exact this
theorem shared_full (a b : List Int) (ha : a.length ≤ 40) (hb : b.length ≤ 40) : Ev (fun k => impl_Shared.f k a b) (lcs a.reverse b.reverse : Int) := by
  have := impl_Shared_ev a b
  unfold sharedv at this
  rw [if_pos ⟨ha, hb⟩, sv_full] at this
  exact this
theorem lev_end (a b c : List Int) (ha : a.length ≤ 40) (hb : b.length ≤ 40) (hc : c.length ≤ 40) (more most : Int)
    (h : (more = (a.length : Int) - (b.length : Int) ∧ most = (a.length : Int) ∧ b.length ≤ a.length) ∨ (more = (b.length : Int) - (a.length : Int) ∧ most = (b.length : Int) ∧ a.length ≤ b.length)) :
    Ev (fun k => laws_FnLevenshtein.j3 k a b (lev a.reverse b.reverse : Int) (lcs a.reverse b.reverse : Int) c (a.length : Int) (b.length : Int) more most) true := by
  have h1 : ((((lev a.reverse b.reverse : Nat) : Int) == 0) == decide (a = b)) = true := by
    have e : lev a.reverse b.reverse = 0 ↔ a = b := by rw [lev_zero, List.reverse_inj]
    by_cases q : a = b
    · rw [decide_eq_true q, e.mpr q]; rfl
    · have e2 : (((lev a.reverse b.reverse : Nat) : Int) == 0) = false := beq_eq_false_iff_ne.mpr (fun x => q (e.mp (by omega)))
      rw [e2, decide_eq_false q]; rfl
  have c1 := lev_comm _ b.reverse a.reverse (Nat.le_refl _)
  have c2 := lcs_comm _ b.reverse a.reverse (Nat.le_refl _)
  have t1 := lev_triangle a.reverse c.reverse b.reverse
  have m1 := lev_most a.reverse b.reverse
  have m2 := lev_most a.reverse c.reverse
  have m3 := lev_most c.reverse b.reverse
  have g1 := lev_lengths a.reverse b.reverse
  have s1 := lcs_most _ a.reverse b.reverse (Nat.le_refl _)
  have s2 := lev_two_lcs _ a.reverse b.reverse (Nat.le_refl _)
  have s3 := lev_lcs a.reverse b.reverse
  simp only [List.length_reverse] at m1 m2 m3 g1 s1 s2 s3
  refine ev_succ ?_
  simp only [laws_FnLevenshtein.j3]
  refine Ev.bind (laws_likeInts_ev a b (by omega)) (ev_pos h1 (Ev.bind (apart_full b a hb ha) (ev_pos (by omega) (Ev.bind (apart_full a c ha hc) (Ev.bind (apart_full c b hc hb) ?_)))))
  generalize lev a.reverse b.reverse = D at *
  generalize lev a.reverse c.reverse = D1 at *
  generalize lev c.reverse b.reverse = D2 at *
  refine ev_pos ?_ (ev_pos ?_ (ev_pos ?_ (Ev.bind (shared_full b a hb ha) (ev_pos (by omega) ?_))))
  · rw [w64 (by omega) (by omega)]; omega
  · omega
  · omega
  generalize lcs a.reverse b.reverse = L at *
  refine ev_pos ?_ (ev_pos ?_ (ev_eq (Ev.now _) ?_))
  · rw [w64 (by omega) (by omega)]; omega
  · rw [w64 (x := (a.length : Int) + (b.length : Int)) (by omega) (by omega), w64 (x := 2 * (L : Int)) (by omega) (by omega), w64 (by omega) (by omega)]; omega
  · rw [w64 (by omega) (by omega)]; exact decide_eq_true (by omega)
theorem lev_rest (code a b c : List Int) (ha : a.length ≤ 40) (hb : b.length ≤ 40) (hc : c.length ≤ 40) :
    Ev (fun k => (if (wrap64 ((a.length : Int) - (b.length : Int))) < 0 then (laws_FnLevenshtein.j2 k a b (lev a.reverse b.reverse : Int) (lcs a.reverse b.reverse : Int) c (a.length : Int) (b.length : Int) (wrap64 (-(wrap64 ((a.length : Int) - (b.length : Int)))))) else (laws_FnLevenshtein.j2 k a b (lev a.reverse b.reverse : Int) (lcs a.reverse b.reverse : Int) c (a.length : Int) (b.length : Int) (wrap64 ((a.length : Int) - (b.length : Int)))))) true := by
  rw [w64 (x := (a.length : Int) - (b.length : Int)) (by omega) (by omega), w64 (x := -((a.length : Int) - (b.length : Int))) (by omega) (by omega)]
  by_cases h : (a.length : Int) - (b.length : Int) < 0
  · refine ev_pos h (ev_succ ?_)
    simp only [laws_FnLevenshtein.j2]
    exact ev_pos (by omega) (lev_end a b c ha hb hc _ _ (.inr ⟨by omega, rfl, by omega⟩))
  · refine ev_neg h (ev_succ ?_)
    simp only [laws_FnLevenshtein.j2]
    exact ev_neg (by omega) (lev_end a b c ha hb hc _ _ (.inl ⟨rfl, rfl, by omega⟩))
theorem FnLevenshtein : laws_FnLevenshtein.Pure := by
  intro code hm hl hw
  refine Ev.rounds ?_
  simp only [laws_FnLevenshtein.f, laws_big.f, Option.bind_some]
  by_cases h : decide ((code.length : Int) > 4096) = true
  · exact ev_pos h (Ev.now _)
  refine ev_neg h ?_
  have hcode : code.length < 4611686018427387904 := by simp at h; omega
  obtain ⟨a, b, e0, ha, hb⟩ := spec_DrawApart_some code hcode
  refine Ev.bind e0 (Ev.bind (impl_Apart_ev a b) (Ev.bind (impl_Shared_ev a b) (Ev.bind (spec_Apart_ev a b) ?_)))
  refine ev_pos (by rfl) (Ev.bind (spec_Shared_ev a b) ?_)
  rw [bne_self_eq_false]
  refine ev_succ ?_
  simp only [laws_FnLevenshtein.j0]
  refine ev_neg (by simp) ?_
  unfold sharedv
  by_cases hab : ¬ (a.length ≤ 40 ∧ b.length ≤ 40)
  · rw [if_neg hab, if_neg hab]
    exact ev_pos (by omega) (ev_eq (Ev.now _) (by rfl))
  rw [Decidable.not_not] at hab
  rw [if_pos hab, if_pos hab, dv_full, sv_full]
  refine ev_neg (by omega) ?_
  obtain ⟨v, ev, hv⟩ := laws_pick_some code hcode 1 8 (by omega)
  have go : ∀ (d i : Nat) (c : List Int), v - (i : Int) ≤ (d : Int) → (i : Int) ≤ 8 → c.length = i → Ev (fun k => laws_FnLevenshtein.l0 k code a b (lev a.reverse b.reverse : Int) (lcs a.reverse b.reverse : Int) c (i : Int)) true := by
    intro d
    induction d with
    | zero =>
      intro i c h1 h2 hc
      refine ev_succ ?_
      simp only [laws_FnLevenshtein.l0]
      exact Ev.bind ev (ev_neg (by omega) (lev_rest code a b c hab.1 hab.2 (by omega)))
    | succ d ih =>
      intro i c h1 h2 hc
      refine ev_succ ?_
      simp only [laws_FnLevenshtein.l0]
      refine Ev.bind ev ?_
      by_cases h3 : (i : Int) < v
      · obtain ⟨u, eu, hu⟩ := laws_pick_some code hcode (wrap64 (10 + (i : Int))) 4 (by omega)
        have := ih (i + 1) (c ++ [u]) (by omega) (by omega) (by simp [hc])
        rw [w64 (x := (i : Int) + 1) (by omega) (by omega)]
        exact ev_pos h3 (Ev.bind eu (ev_pos (by omega) this))
      · exact ev_neg h3 (lev_rest code a b c hab.1 hab.2 (by omega))
  exact go 8 0 [] (by omega) (by omega) rfl

end Go.Proofs.Ytnkoppgbbmeknaa.Pure
