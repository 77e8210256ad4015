/- The law FnExactStream answers true at every text and every two numbers. -/
import Derived.Test.YtfkhllmokmjdaaaPFnExactStreamx2
namespace Go.Proofs.Ytfkhllmokmjdaaa.Pure
open Go.RowKit Go.Proofs.Ytfkhllmokmjdaaa.PFnExactStream Go.Proofs.YtfkhllmokmjdaaaW.PrintWords Go.Proofs.YtfkhllmokmjdaaaW.PrintLast
set_option linter.unusedVariables false
set_option linter.unusedSimpArgs false

theorem w64 {x : Int} (h0 : -9223372036854775808 ≤ x) (h1 : x ≤ 9223372036854775807) : wrap64 x = x := by unfold wrap64; omega
theorem wf64 {x : Int} : (Lit.int .i64 x).wf = true ↔ -9223372036854775808 ≤ x ∧ x ≤ 9223372036854775807 := by
  simp [Lit.wf, IntKind.min, IntKind.max, IntKind.signed, IntKind.bits]
theorem wf8 {x : Int} : (Lit.int .u8 x).wf = true ↔ 0 ≤ x ∧ x ≤ 255 := by
  simp [Lit.wf, IntKind.min, IntKind.max, IntKind.signed, IntKind.bits]
theorem ev_succ {α : Type} {g : Nat → Option α} {r : α} (h : Ev (fun k => g (k + 1)) r) : Ev g r := by
  obtain ⟨K, h⟩ := h
  refine ⟨K + 1, fun k hk => ?_⟩
  obtain ⟨m, rfl⟩ : ∃ m, k = m + 1 := ⟨k - 1, by omega⟩
  exact h m (by omega)
theorem ev_fixed {α : Type} {x : Option α} {r : α} (h : x = some r) : Ev (fun _ => x) r := ⟨0, fun _ _ => h⟩
theorem ev_eq {α : Type} {g : Nat → Option α} {r s : α} (h : Ev g r) (e : r = s) : Ev g s := e ▸ h
theorem bt0 (s : ByteArray) (i : Int) : 0 ≤ bt s i := (bt_range s i).1
theorem bt255 (s : ByteArray) (i : Int) : bt s i ≤ 255 := (bt_range s i).2

def fbt (f : Int → Int → Int) (s : ByteArray) : Nat → Nat → Int → Int
  | 0, _, x => x
  | d + 1, i, x => fbt f s d (i + 1) (f x (bt s (i : Int)))
theorem wbt (s : ByteArray) (i : Int) : wrap64 (bt s i) = bt s i := w64 (by have := bt0 s i; omega) (by have := bt255 s i; omega)

def mstep (x b : Int) : Int := (x * 48271 + b + 11) % 2147483647
def mred (a : Int) : Int := (if a < 0 then 0 else a) % 2147483647
def mixv (a b : Int) : Int := mstep (mstep (mstep (mstep (mred a) (mred b)) (mred b)) (mred b)) (mred b)
theorem mstep_range (x b : Int) : 0 ≤ mstep x b ∧ mstep x b < 2147483647 := by unfold mstep; omega
theorem mred_range (x : Int) : 0 ≤ mred x ∧ mred x < 2147483647 := by unfold mred; split <;> omega
theorem mixv_range (a b : Int) : 0 ≤ mixv a b ∧ mixv a b < 2147483647 := mstep_range _ _
theorem mstep_go {x b : Int} (hx : 0 ≤ x ∧ x < 2147483647) (hb : 0 ≤ b ∧ b < 2147483647) :
    Int.tmod (wrap64 ((wrap64 ((wrap64 (x * 48271)) + b)) + 11)) 2147483647 = mstep x b := by
  rw [w64 (x := x * 48271) (by omega) (by omega), w64 (x := x * 48271 + b) (by omega) (by omega), w64 (by omega) (by omega), Int.tmod_eq_emod_of_nonneg (by omega)]
  rfl

theorem spec_l1Max_eq (a b : Int) : spec_l1Max.f a b = some (if a > b then a else b) := by
  unfold spec_l1Max.f; split <;> rfl
theorem spec_Mix_ev (a b : Int) : Ev (fun k => spec_Mix.f k a b) (mixv a b) := by
  have eb : ∀ c : Int, (if 0 > c then 0 else c) = (if c < 0 then 0 else c) := fun c => rfl
  have et : ∀ c : Int, Int.tmod (if 0 > c then 0 else c) 2147483647 = mred c := fun c => by
    unfold mred; rw [eb, Int.tmod_eq_emod_of_nonneg (by split <;> omega)]
  simp only [spec_Mix.f, spec_l1Max_eq, Option.bind_some, et]
  have hb := mred_range b
  have ha := mred_range a
  have n1 : wrap64 (0 + 1) = 1 := w64 (by omega) (by omega)
  have n2 : wrap64 (1 + 1) = 2 := w64 (by omega) (by omega)
  have n3 : wrap64 (2 + 1) = 3 := w64 (by omega) (by omega)
  have n4 : wrap64 (3 + 1) = 4 := w64 (by omega) (by omega)
  refine ev_succ ?_
  simp only [spec_Mix.l0, spec_l1Max_eq, Option.bind_some, et, mstep_go ha hb, n1]
  refine ev_succ ?_
  simp only [spec_Mix.l0, spec_l1Max_eq, Option.bind_some, et, mstep_go (mstep_range _ _) hb, n2]
  refine ev_succ ?_
  simp only [spec_Mix.l0, spec_l1Max_eq, Option.bind_some, et, mstep_go (mstep_range _ _) hb, n3]
  refine ev_succ ?_
  simp only [spec_Mix.l0, spec_l1Max_eq, Option.bind_some, et, mstep_go (mstep_range _ _) hb, n4]
  refine ev_succ ?_
  simp only [spec_Mix.l0]
  exact ev_fixed (by simp [mixv])

theorem spec_l14Begin_ev (s : ByteArray) (c x : Int) (hs : s.size ≤ 140737488351232) : Ev (fun k => spec_l14Begin.f k s c x) (mixv (fbt mixv s s.size 0 x) c) := by
  have go : ∀ (d i : Nat) (x : Int), i + d = s.size → Ev (fun k => spec_l14Begin.l0 k s c x (i : Int)) (mixv (fbt mixv s d i x) c) := by
    intro d
    induction d with
    | zero =>
      intro i x h
      refine ev_succ ?_
      simp only [spec_l14Begin.l0, if_neg (show ¬ ((i : Int) < (s.size : Int)) by omega)]
      exact Ev.bind (spec_Mix_ev _ _) (Ev.now _)
    | succ d ih =>
      intro i x h
      refine ev_succ ?_
      simp only [spec_l14Begin.l0, if_pos (show ((i : Int) < (s.size : Int)) by omega), if_pos (show (0 : Int) ≤ (i : Int) by omega), wbt, w64 (x := (i : Int) + 1) (by omega) (by omega)]
      exact Ev.bind (spec_Mix_ev _ _) (ih (i + 1) _ (by omega))
  exact go s.size 0 x (by omega)

theorem mx0 (a : Int) : mx a 0 % 2147483647 = mred a := by unfold mx mred; rfl
theorem impl_Mix_ev (a b : Int) : Ev (fun k => impl_Mix.f k a b) (mixv a b) := by
  simp only [impl_Mix.f, mx0]
  have hb := mred_range b
  have ha := mred_range a
  have n1 : wrap64 (0 + 1) = 1 := w64 (by omega) (by omega)
  have n2 : wrap64 (1 + 1) = 2 := w64 (by omega) (by omega)
  have n3 : wrap64 (2 + 1) = 3 := w64 (by omega) (by omega)
  have n4 : wrap64 (3 + 1) = 4 := w64 (by omega) (by omega)
  refine ev_succ ?_
  simp only [impl_Mix.l0, mstep_go ha hb, n1]
  refine ev_succ ?_
  simp only [impl_Mix.l0, mstep_go (mstep_range _ _) hb, n2]
  refine ev_succ ?_
  simp only [impl_Mix.l0, mstep_go (mstep_range _ _) hb, n3]
  refine ev_succ ?_
  simp only [impl_Mix.l0, mstep_go (mstep_range _ _) hb, n4]
  refine ev_succ ?_
  simp only [impl_Mix.l0]
  exact ev_fixed (by simp [mixv])

theorem impl_begun_ev (s : ByteArray) (c x : Int) (hs : s.size ≤ 140737488351232) : Ev (fun k => impl_begun.f k x s c) (mixv (fbt mixv s s.size 0 x) c) := by
  have go : ∀ (d i : Nat) (x : Int), i + d = s.size → Ev (fun k => impl_begun.l0 k x s c (s.size : Int) (i : Int)) (mixv (fbt mixv s d i x) c) := by
    intro d
    induction d with
    | zero =>
      intro i x h
      refine ev_succ ?_
      simp only [impl_begun.l0, if_neg (show ¬ ((i : Int) < (s.size : Int)) by omega)]
      exact Ev.bind (impl_Mix_ev _ _) (Ev.now _)
    | succ d ih =>
      intro i x h
      refine ev_succ ?_
      simp only [impl_begun.l0, if_pos (show ((i : Int) < (s.size : Int)) by omega), if_pos (show (0 : Int) ≤ (i : Int) by omega), wbt, w64 (x := (i : Int) + 1) (by omega) (by omega)]
      exact Ev.bind (impl_Mix_ev _ _) (ih (i + 1) _ (by omega))
  exact go s.size 0 x (by omega)

theorem spec_l1In_eq (a b c : Int) : spec_l1In.f a b c = some (decide (b ≤ a) && decide (a ≤ c)) := by
  unfold spec_l1In.f
  by_cases h : a ≥ b
  · rw [if_pos h]; simp [h]
  · rw [if_neg h]; simp [show ¬ b ≤ a from h]

theorem impl_in_eq (a b c : Int) : impl_in.f a b c = some (decide (b ≤ a) && decide (a ≤ c)) := by
  unfold impl_in.f
  by_cases h : b ≤ a
  · rw [if_pos h]; simp [h]
  · rw [if_neg h]; simp [h]

theorem spec_l14Told_eq (s : ByteArray) (c n : Int) : spec_l14Told.f s c n = some (decide ((s.size : Int) = 16) && (decide (0 ≤ c) && decide (c ≤ 1099511627776)) && decide (n ≤ 4000)) := by
  unfold spec_l14Told.f
  split
  · rename_i h
    rw [spec_l1In_eq]
    simp only [Option.bind_some]
    split
    · rename_i h2; simp [h, h2]
    · rename_i h2; simp only [Bool.not_eq_true] at h2; simp [h, h2]
  · rename_i h; simp [h]
theorem impl_isSeal_eq (s : ByteArray) (c n : Int) : impl_isSeal.f s c n = some (decide ((s.size : Int) = 16) && (decide (0 ≤ c) && decide (c ≤ 1099511627776)) && (decide (0 ≤ n) && decide (n ≤ 4000))) := by
  unfold impl_isSeal.f
  split
  · rename_i h
    rw [impl_in_eq]
    simp only [Option.bind_some]
    split
    · rename_i h2; rw [impl_in_eq]; simp [h, h2]
    · rename_i h2; simp only [Bool.not_eq_true] at h2; simp [h, h2]
  · rename_i h; simp [h]

def strm : Nat → Int → List Int
  | 0, _ => []
  | d + 1, x => (Int.tmod (mixv x 7) 256 % 256) :: strm d (mixv x 7)
theorem spec_Stream_loop : ∀ (d : Nat) (x : Int) (l : List Int), d ≤ 4000 → l.length + d ≤ 4000 → Ev (fun k => spec_Stream.l0 k (d : Int) l x) (strOfNums (l ++ strm d x)) := by
  intro d
  induction d with
  | zero =>
    intro x l h1 h2
    refine ev_succ ?_
    simp only [spec_Stream.l0, if_neg (show ¬ (((0 : Nat) : Int) > 0) by omega), strm, List.append_nil]
    exact Ev.now _
  | succ d ih =>
    intro x l h1 h2
    refine ev_succ ?_
    simp only [spec_Stream.l0, if_pos (show (((d + 1 : Nat) : Int) > 0) by omega), if_pos (show l.length < 140737488355328 by omega), show (((d + 1 : Nat) : Int) - 1) = (d : Int) by omega, w64 (x := (d : Int)) (by omega) (by omega)]
    refine Ev.bind (spec_Mix_ev _ _) ?_
    have := ih (mixv x 7) (l ++ [Int.tmod (mixv x 7) 256 % 256]) (by omega) (by simp; omega)
    simpa [strm] using this
theorem impl_Stream_loop (n : Nat) (hn : n ≤ 4000) : ∀ (d i : Nat) (x : Int) (l : List Int), i + d = n → l.length = i → Ev (fun k => impl_Stream.l0 k l x (n : Int) (i : Int)) (strOfNums (l ++ strm d x)) := by
  intro d
  induction d with
  | zero =>
    intro i x l h1 h2
    refine ev_succ ?_
    simp only [impl_Stream.l0, if_neg (show ¬ ((i : Int) < (n : Int)) by omega), strm, List.append_nil]
    exact Ev.now _
  | succ d ih =>
    intro i x l h1 h2
    refine ev_succ ?_
    simp only [impl_Stream.l0, if_pos (show ((i : Int) < (n : Int)) by omega), if_pos (show l.length < 140737488355328 by omega), w64 (x := (i : Int) + 1) (by omega) (by omega)]
    refine Ev.bind (impl_Mix_ev _ _) ?_
    have := ih (i + 1) (mixv x 7) (l ++ [Int.tmod (mixv x 7) 256 % 256]) (by omega) (by simp; omega)
    simpa [strm] using this
theorem FnExactStream : laws_FnExactStream.Pure := by
  intro s c n hs _ hn
  refine Ev.rounds ?_
  simp only [laws_FnExactStream.f]
  by_cases h1 : (s.size : Int) > 1048576
  · simp only [if_pos h1]; exact Ev.now _
  · simp only [if_neg h1, spec_Stream.f, impl_Stream.f, spec_l14Told_eq, impl_isSeal_eq, spec_l1In_eq, Option.bind_some]
    have j1 : Ev (fun k => spec_Stream.j0 k s c n true) ⟨#[]⟩ := by
      refine ev_succ ?_
      simp only [spec_Stream.j0, if_true]; exact Ev.now _
    by_cases h2 : (decide ((0 : Int) ≤ n) && decide (n ≤ 4000)) = true
    · simp only [h2, if_true, Bool.and_true]
      have h2' : 0 ≤ n ∧ n ≤ 4000 := by simpa using h2
      obtain ⟨m, rfl⟩ : ∃ m : Nat, n = (m : Int) := ⟨n.toNat, by omega⟩
      by_cases h3 : (decide ((s.size : Int) = 16) && (decide (0 ≤ c) && decide (c ≤ 1099511627776))) = true
      · simp only [h3, decide_eq_true h2'.2, Bool.and_self, Bool.not_true, if_true]
        have j0 : Ev (fun k => spec_Stream.j0 k s c (m : Int) false) (strOfNums ([] ++ strm m (mixv (fbt mixv s s.size 0 1) c))) := by
          refine ev_succ ?_
          simp only [spec_Stream.j0, Bool.false_eq_true, if_false]
          exact Ev.bind (spec_l14Begin_ev s c 1 hs) (spec_Stream_loop m _ [] (by omega) (by simp; omega))
        refine Ev.bind j0 ?_
        refine Ev.bind (Ev.bind (impl_begun_ev s c 1 hs) (impl_Stream_loop m (by omega) m 0 _ [] (by omega) rfl)) ?_
        exact ev_fixed (if_pos rfl)
      · simp only [Bool.eq_false_iff.mpr h3, Bool.false_and, Bool.not_false, Bool.false_eq_true, if_false]
        refine Ev.bind j1 ?_
        exact ev_fixed (by simp)
    · simp only [Bool.eq_false_iff.mpr h2, Bool.and_false, Bool.false_eq_true, if_false]
      refine Ev.bind j1 ?_
      exact ev_fixed (by simp)

end Go.Proofs.Ytfkhllmokmjdaaa.Pure
