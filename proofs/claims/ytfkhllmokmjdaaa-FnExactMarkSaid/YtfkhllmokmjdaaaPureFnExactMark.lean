/- The law FnExactMark answers true at every two texts and every number. -/
import Derived.Test.YtfkhllmokmjdaaaPFnExactMarkx2
namespace Go.Proofs.Ytfkhllmokmjdaaa.Pure
open Go.RowKit Go.Proofs.Ytfkhllmokmjdaaa.PFnExactMark Go.Proofs.YtfkhllmokmjdaaaW.PrintWords Go.Proofs.YtfkhllmokmjdaaaW.PrintLast
set_option linter.unusedVariables false
set_option linter.unusedSimpArgs false

theorem w64 {x : Int} (h0 : -9223372036854775808 ≤ x) (h1 : x ≤ 9223372036854775807) : wrap64 x = x := by unfold wrap64; omega
theorem wf64 {x : Int} : (Lit.int .i64 x).wf = true ↔ -9223372036854775808 ≤ x ∧ x ≤ 9223372036854775807 := by
  simp [Lit.wf, IntKind.min, IntKind.max, IntKind.signed, IntKind.bits]
theorem wf8 {x : Int} : (Lit.int .u8 x).wf = true ↔ 0 ≤ x ∧ x ≤ 255 := by
  simp [Lit.wf, IntKind.min, IntKind.max, IntKind.signed, IntKind.bits]
theorem ev_succ {α : Type} {g : Nat → Option α} {r : α} (h : Ev (fun k => g (k + 1)) r) : Ev g r := by
  obtain ⟨K, h⟩ := h
  refine ⟨K + 1, fun k hk => ?_⟩
  obtain ⟨m, rfl⟩ : ∃ m, k = m + 1 := ⟨k - 1, by omega⟩
  exact h m (by omega)
theorem ev_fixed {α : Type} {x : Option α} {r : α} (h : x = some r) : Ev (fun _ => x) r := ⟨0, fun _ _ => h⟩
theorem ev_eq {α : Type} {g : Nat → Option α} {r s : α} (h : Ev g r) (e : r = s) : Ev g s := e ▸ h
theorem bt0 (s : ByteArray) (i : Int) : 0 ≤ bt s i := (bt_range s i).1
theorem bt255 (s : ByteArray) (i : Int) : bt s i ≤ 255 := (bt_range s i).2

def fbt (f : Int → Int → Int) (s : ByteArray) : Nat → Nat → Int → Int
  | 0, _, x => x
  | d + 1, i, x => fbt f s d (i + 1) (f x (bt s (i : Int)))
theorem wbt (s : ByteArray) (i : Int) : wrap64 (bt s i) = bt s i := w64 (by have := bt0 s i; omega) (by have := bt255 s i; omega)

def mstep (x b : Int) : Int := (x * 48271 + b + 11) % 2147483647
def mred (a : Int) : Int := (if a < 0 then 0 else a) % 2147483647
def mixv (a b : Int) : Int := mstep (mstep (mstep (mstep (mred a) (mred b)) (mred b)) (mred b)) (mred b)
theorem mstep_range (x b : Int) : 0 ≤ mstep x b ∧ mstep x b < 2147483647 := by unfold mstep; omega
theorem mred_range (x : Int) : 0 ≤ mred x ∧ mred x < 2147483647 := by unfold mred; split <;> omega
theorem mixv_range (a b : Int) : 0 ≤ mixv a b ∧ mixv a b < 2147483647 := mstep_range _ _
theorem mstep_go {x b : Int} (hx : 0 ≤ x ∧ x < 2147483647) (hb : 0 ≤ b ∧ b < 2147483647) :
    Int.tmod (wrap64 ((wrap64 ((wrap64 (x * 48271)) + b)) + 11)) 2147483647 = mstep x b := by
  rw [w64 (x := x * 48271) (by omega) (by omega), w64 (x := x * 48271 + b) (by omega) (by omega), w64 (by omega) (by omega), Int.tmod_eq_emod_of_nonneg (by omega)]
  rfl

theorem spec_l1Max_eq (a b : Int) : spec_l1Max.f a b = some (if a > b then a else b) := by
  unfold spec_l1Max.f; split <;> rfl
theorem spec_Mix_ev (a b : Int) : Ev (fun k => spec_Mix.f k a b) (mixv a b) := by
  have eb : ∀ c : Int, (if 0 > c then 0 else c) = (if c < 0 then 0 else c) := fun c => rfl
  have et : ∀ c : Int, Int.tmod (if 0 > c then 0 else c) 2147483647 = mred c := fun c => by
    unfold mred; rw [eb, Int.tmod_eq_emod_of_nonneg (by split <;> omega)]
  simp only [spec_Mix.f, spec_l1Max_eq, Option.bind_some, et]
  have hb := mred_range b
  have ha := mred_range a
  have n1 : wrap64 (0 + 1) = 1 := w64 (by omega) (by omega)
  have n2 : wrap64 (1 + 1) = 2 := w64 (by omega) (by omega)
  have n3 : wrap64 (2 + 1) = 3 := w64 (by omega) (by omega)
  have n4 : wrap64 (3 + 1) = 4 := w64 (by omega) (by omega)
  refine ev_succ ?_
  simp only [spec_Mix.l0, spec_l1Max_eq, Option.bind_some, et, mstep_go ha hb, n1]
  refine ev_succ ?_
  simp only [spec_Mix.l0, spec_l1Max_eq, Option.bind_some, et, mstep_go (mstep_range _ _) hb, n2]
  refine ev_succ ?_
  simp only [spec_Mix.l0, spec_l1Max_eq, Option.bind_some, et, mstep_go (mstep_range _ _) hb, n3]
  refine ev_succ ?_
  simp only [spec_Mix.l0, spec_l1Max_eq, Option.bind_some, et, mstep_go (mstep_range _ _) hb, n4]
  refine ev_succ ?_
  simp only [spec_Mix.l0]
  exact ev_fixed (by simp [mixv])

theorem spec_l14Begin_ev (s : ByteArray) (c x : Int) (hs : s.size ≤ 140737488351232) : Ev (fun k => spec_l14Begin.f k s c x) (mixv (fbt mixv s s.size 0 x) c) := by
  have go : ∀ (d i : Nat) (x : Int), i + d = s.size → Ev (fun k => spec_l14Begin.l0 k s c x (i : Int)) (mixv (fbt mixv s d i x) c) := by
    intro d
    induction d with
    | zero =>
      intro i x h
      refine ev_succ ?_
      simp only [spec_l14Begin.l0, if_neg (show ¬ ((i : Int) < (s.size : Int)) by omega)]
      exact Ev.bind (spec_Mix_ev _ _) (Ev.now _)
    | succ d ih =>
      intro i x h
      refine ev_succ ?_
      simp only [spec_l14Begin.l0, if_pos (show ((i : Int) < (s.size : Int)) by omega), if_pos (show (0 : Int) ≤ (i : Int) by omega), wbt, w64 (x := (i : Int) + 1) (by omega) (by omega)]
      exact Ev.bind (spec_Mix_ev _ _) (ih (i + 1) _ (by omega))
  exact go s.size 0 x (by omega)

theorem mx0 (a : Int) : mx a 0 % 2147483647 = mred a := by unfold mx mred; rfl
theorem impl_Mix_ev (a b : Int) : Ev (fun k => impl_Mix.f k a b) (mixv a b) := by
  simp only [impl_Mix.f, mx0]
  have hb := mred_range b
  have ha := mred_range a
  have n1 : wrap64 (0 + 1) = 1 := w64 (by omega) (by omega)
  have n2 : wrap64 (1 + 1) = 2 := w64 (by omega) (by omega)
  have n3 : wrap64 (2 + 1) = 3 := w64 (by omega) (by omega)
  have n4 : wrap64 (3 + 1) = 4 := w64 (by omega) (by omega)
  refine ev_succ ?_
  simp only [impl_Mix.l0, mstep_go ha hb, n1]
  refine ev_succ ?_
  simp only [impl_Mix.l0, mstep_go (mstep_range _ _) hb, n2]
  refine ev_succ ?_
  simp only [impl_Mix.l0, mstep_go (mstep_range _ _) hb, n3]
  refine ev_succ ?_
  simp only [impl_Mix.l0, mstep_go (mstep_range _ _) hb, n4]
  refine ev_succ ?_
  simp only [impl_Mix.l0]
  exact ev_fixed (by simp [mixv])

theorem impl_begun_ev (s : ByteArray) (c x : Int) (hs : s.size ≤ 140737488351232) : Ev (fun k => impl_begun.f k x s c) (mixv (fbt mixv s s.size 0 x) c) := by
  have go : ∀ (d i : Nat) (x : Int), i + d = s.size → Ev (fun k => impl_begun.l0 k x s c (s.size : Int) (i : Int)) (mixv (fbt mixv s d i x) c) := by
    intro d
    induction d with
    | zero =>
      intro i x h
      refine ev_succ ?_
      simp only [impl_begun.l0, if_neg (show ¬ ((i : Int) < (s.size : Int)) by omega)]
      exact Ev.bind (impl_Mix_ev _ _) (Ev.now _)
    | succ d ih =>
      intro i x h
      refine ev_succ ?_
      simp only [impl_begun.l0, if_pos (show ((i : Int) < (s.size : Int)) by omega), if_pos (show (0 : Int) ≤ (i : Int) by omega), wbt, w64 (x := (i : Int) + 1) (by omega) (by omega)]
      exact Ev.bind (impl_Mix_ev _ _) (ih (i + 1) _ (by omega))
  exact go s.size 0 x (by omega)

theorem spec_l1In_eq (a b c : Int) : spec_l1In.f a b c = some (decide (b ≤ a) && decide (a ≤ c)) := by
  unfold spec_l1In.f
  by_cases h : a ≥ b
  · rw [if_pos h]; simp [h]
  · rw [if_neg h]; simp [show ¬ b ≤ a from h]

theorem impl_in_eq (a b c : Int) : impl_in.f a b c = some (decide (b ≤ a) && decide (a ≤ c)) := by
  unfold impl_in.f
  by_cases h : b ≤ a
  · rw [if_pos h]; simp [h]
  · rw [if_neg h]; simp [h]

theorem spec_l14Told_eq (s : ByteArray) (c n : Int) : spec_l14Told.f s c n = some (decide ((s.size : Int) = 16) && (decide (0 ≤ c) && decide (c ≤ 1099511627776)) && decide (n ≤ 4000)) := by
  unfold spec_l14Told.f
  split
  · rename_i h
    rw [spec_l1In_eq]
    simp only [Option.bind_some]
    split
    · rename_i h2; simp [h, h2]
    · rename_i h2; simp only [Bool.not_eq_true] at h2; simp [h, h2]
  · rename_i h; simp [h]
theorem impl_isSeal_eq (s : ByteArray) (c n : Int) : impl_isSeal.f s c n = some (decide ((s.size : Int) = 16) && (decide (0 ≤ c) && decide (c ≤ 1099511627776)) && (decide (0 ≤ n) && decide (n ≤ 4000))) := by
  unfold impl_isSeal.f
  split
  · rename_i h
    rw [impl_in_eq]
    simp only [Option.bind_some]
    split
    · rename_i h2; rw [impl_in_eq]; simp [h, h2]
    · rename_i h2; simp only [Bool.not_eq_true] at h2; simp [h, h2]
  · rename_i h; simp [h]

def markf (x b : Int) : Int := mixv x (b + 1)
theorem spec_Mark_loop (t : ByteArray) (ht : t.size ≤ 140737488351232) : ∀ (d i : Nat) (x : Int), i + d = t.size → Ev (fun k => spec_Mark.l0 k t x (i : Int)) (fbt markf t d i x) := by
  intro d
  induction d with
  | zero =>
    intro i x h
    refine ev_succ ?_
    simp only [spec_Mark.l0, if_neg (show ¬ ((i : Int) < (t.size : Int)) by omega)]
    exact Ev.now _
  | succ d ih =>
    intro i x h
    refine ev_succ ?_
    simp only [spec_Mark.l0, if_pos (show ((i : Int) < (t.size : Int)) by omega), if_pos (show (0 : Int) ≤ (i : Int) by omega), wbt, w64 (x := (i : Int) + 1) (by omega) (by omega), w64 (x := bt t i + 1) (by have := bt0 t i; omega) (by have := bt255 t i; omega)]
    exact Ev.bind (spec_Mix_ev _ _) (ih (i + 1) _ (by omega))
theorem impl_Mark_loop (t : ByteArray) (ht : t.size ≤ 140737488351232) : ∀ (d i : Nat) (x : Int), i + d = t.size → Ev (fun k => impl_Mark.l0 k t x (t.size : Int) (i : Int)) (fbt markf t d i x) := by
  intro d
  induction d with
  | zero =>
    intro i x h
    refine ev_succ ?_
    simp only [impl_Mark.l0, if_neg (show ¬ ((i : Int) < (t.size : Int)) by omega)]
    exact Ev.now _
  | succ d ih =>
    intro i x h
    refine ev_succ ?_
    simp only [impl_Mark.l0, if_pos (show ((i : Int) < (t.size : Int)) by omega), if_pos (show (0 : Int) ≤ (i : Int) by omega), wbt, w64 (x := (i : Int) + 1) (by omega) (by omega), w64 (x := bt t i + 1) (by have := bt0 t i; omega) (by have := bt255 t i; omega)]
    exact Ev.bind (impl_Mix_ev _ _) (ih (i + 1) _ (by omega))
theorem FnExactMark : laws_FnExactMark.Pure := by
  intro s c t hs _ ht
  refine Ev.rounds ?_
  simp only [laws_FnExactMark.f]
  by_cases h1 : (s.size : Int) > 1048576
  · simp only [if_pos h1]; exact Ev.now _
  · simp only [if_neg h1]
    by_cases h2 : (t.size : Int) > 1048576
    · simp only [if_pos h2]; exact Ev.now _
    · simp only [if_neg h2, spec_Mark.f, impl_Mark.f, spec_l14Told_eq, impl_isSeal_eq, Option.bind_some]
      have e : (decide ((0 : Int) ≤ (t.size : Int)) && decide ((t.size : Int) ≤ 4000)) = decide ((t.size : Int) ≤ 4000) := by simp
      rw [e]
      by_cases h3 : (decide ((s.size : Int) = 16) && (decide (0 ≤ c) && decide (c ≤ 1099511627776)) && decide ((t.size : Int) ≤ 4000)) = true
      · simp only [if_pos h3]
        refine Ev.bind (Ev.bind (spec_l14Begin_ev s c 5 hs) (Ev.bind (spec_Mix_ev _ _) (spec_Mark_loop t ht t.size 0 _ (by omega)))) ?_
        refine Ev.bind (Ev.bind (impl_begun_ev s c 5 hs) (Ev.bind (impl_Mix_ev _ _) (impl_Mark_loop t ht t.size 0 _ (by omega)))) ?_
        exact ev_fixed (if_pos rfl)
      · simp only [if_neg h3, Option.bind_some, if_true]; exact Ev.now _

end Go.Proofs.Ytfkhllmokmjdaaa.Pure
