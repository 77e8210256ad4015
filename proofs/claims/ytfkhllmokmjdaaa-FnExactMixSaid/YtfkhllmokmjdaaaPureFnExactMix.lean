/- The law FnExactMix answers true at every two numbers. -/
import Derived.Test.YtfkhllmokmjdaaaPFnExactMixx1
namespace Go.Proofs.Ytfkhllmokmjdaaa.Pure
open Go.RowKit Go.Proofs.Ytfkhllmokmjdaaa.PFnExactMix Go.Proofs.YtfkhllmokmjdaaaW.PrintWords Go.Proofs.YtfkhllmokmjdaaaW.PrintLast
set_option linter.unusedVariables false
set_option linter.unusedSimpArgs false

theorem w64 {x : Int} (h0 : -9223372036854775808 ≤ x) (h1 : x ≤ 9223372036854775807) : wrap64 x = x := by unfold wrap64; omega
theorem wf64 {x : Int} : (Lit.int .i64 x).wf = true ↔ -9223372036854775808 ≤ x ∧ x ≤ 9223372036854775807 := by
  simp [Lit.wf, IntKind.min, IntKind.max, IntKind.signed, IntKind.bits]
theorem wf8 {x : Int} : (Lit.int .u8 x).wf = true ↔ 0 ≤ x ∧ x ≤ 255 := by
  simp [Lit.wf, IntKind.min, IntKind.max, IntKind.signed, IntKind.bits]
theorem ev_succ {α : Type} {g : Nat → Option α} {r : α} (h : Ev (fun k => g (k + 1)) r) : Ev g r := by
  obtain ⟨K, h⟩ := h
  refine ⟨K + 1, fun k hk => ?_⟩
  obtain ⟨m, rfl⟩ : ∃ m, k = m + 1 := ⟨k - 1, by omega⟩
  exact h m (by omega)
theorem ev_fixed {α : Type} {x : Option α} {r : α} (h : x = some r) : Ev (fun _ => x) r := ⟨0, fun _ _ => h⟩
theorem ev_eq {α : Type} {g : Nat → Option α} {r s : α} (h : Ev g r) (e : r = s) : Ev g s := e ▸ h
theorem bt0 (s : ByteArray) (i : Int) : 0 ≤ bt s i := (bt_range s i).1
theorem bt255 (s : ByteArray) (i : Int) : bt s i ≤ 255 := (bt_range s i).2

def mstep (x b : Int) : Int := (x * 48271 + b + 11) % 2147483647
def mred (a : Int) : Int := (if a < 0 then 0 else a) % 2147483647
def mixv (a b : Int) : Int := mstep (mstep (mstep (mstep (mred a) (mred b)) (mred b)) (mred b)) (mred b)
theorem mstep_range (x b : Int) : 0 ≤ mstep x b ∧ mstep x b < 2147483647 := by unfold mstep; omega
theorem mred_range (x : Int) : 0 ≤ mred x ∧ mred x < 2147483647 := by unfold mred; split <;> omega
theorem mixv_range (a b : Int) : 0 ≤ mixv a b ∧ mixv a b < 2147483647 := mstep_range _ _
theorem mstep_go {x b : Int} (hx : 0 ≤ x ∧ x < 2147483647) (hb : 0 ≤ b ∧ b < 2147483647) :
    Int.tmod (wrap64 ((wrap64 ((wrap64 (x * 48271)) + b)) + 11)) 2147483647 = mstep x b := by
  rw [w64 (x := x * 48271) (by omega) (by omega), w64 (x := x * 48271 + b) (by omega) (by omega), w64 (by omega) (by omega), Int.tmod_eq_emod_of_nonneg (by omega)]
  rfl

theorem spec_l1Max_eq (a b : Int) : spec_l1Max.f a b = some (if a > b then a else b) := by
  unfold spec_l1Max.f; split <;> rfl
theorem spec_Mix_ev (a b : Int) : Ev (fun k => spec_Mix.f k a b) (mixv a b) := by
  have eb : ∀ c : Int, (if 0 > c then 0 else c) = (if c < 0 then 0 else c) := fun c => rfl
  have et : ∀ c : Int, Int.tmod (if 0 > c then 0 else c) 2147483647 = mred c := fun c => by
    unfold mred; rw [eb, Int.tmod_eq_emod_of_nonneg (by split <;> omega)]
  simp only [spec_Mix.f, spec_l1Max_eq, Option.bind_some, et]
  have hb := mred_range b
  have ha := mred_range a
  have n1 : wrap64 (0 + 1) = 1 := w64 (by omega) (by omega)
  have n2 : wrap64 (1 + 1) = 2 := w64 (by omega) (by omega)
  have n3 : wrap64 (2 + 1) = 3 := w64 (by omega) (by omega)
  have n4 : wrap64 (3 + 1) = 4 := w64 (by omega) (by omega)
  refine ev_succ ?_
  simp only [spec_Mix.l0, spec_l1Max_eq, Option.bind_some, et, mstep_go ha hb, n1]
  refine ev_succ ?_
  simp only [spec_Mix.l0, spec_l1Max_eq, Option.bind_some, et, mstep_go (mstep_range _ _) hb, n2]
  refine ev_succ ?_
  simp only [spec_Mix.l0, spec_l1Max_eq, Option.bind_some, et, mstep_go (mstep_range _ _) hb, n3]
  refine ev_succ ?_
  simp only [spec_Mix.l0, spec_l1Max_eq, Option.bind_some, et, mstep_go (mstep_range _ _) hb, n4]
  refine ev_succ ?_
  simp only [spec_Mix.l0]
  exact ev_fixed (by simp [mixv])

theorem mx0 (a : Int) : mx a 0 % 2147483647 = mred a := by unfold mx mred; rfl
theorem impl_Mix_ev (a b : Int) : Ev (fun k => impl_Mix.f k a b) (mixv a b) := by
  simp only [impl_Mix.f, mx0]
  have hb := mred_range b
  have ha := mred_range a
  have n1 : wrap64 (0 + 1) = 1 := w64 (by omega) (by omega)
  have n2 : wrap64 (1 + 1) = 2 := w64 (by omega) (by omega)
  have n3 : wrap64 (2 + 1) = 3 := w64 (by omega) (by omega)
  have n4 : wrap64 (3 + 1) = 4 := w64 (by omega) (by omega)
  refine ev_succ ?_
  simp only [impl_Mix.l0, mstep_go ha hb, n1]
  refine ev_succ ?_
  simp only [impl_Mix.l0, mstep_go (mstep_range _ _) hb, n2]
  refine ev_succ ?_
  simp only [impl_Mix.l0, mstep_go (mstep_range _ _) hb, n3]
  refine ev_succ ?_
  simp only [impl_Mix.l0, mstep_go (mstep_range _ _) hb, n4]
  refine ev_succ ?_
  simp only [impl_Mix.l0]
  exact ev_fixed (by simp [mixv])

theorem FnExactMix : laws_FnExactMix.Pure := by
  intro a b _ _
  refine Ev.rounds ?_
  simp only [laws_FnExactMix.f]
  refine Ev.bind (spec_Mix_ev a b) ?_
  refine Ev.bind (impl_Mix_ev a b) ?_
  exact ev_fixed (if_pos rfl)

end Go.Proofs.Ytfkhllmokmjdaaa.Pure
