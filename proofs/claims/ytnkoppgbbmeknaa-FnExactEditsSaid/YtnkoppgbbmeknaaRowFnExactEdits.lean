/- The law FnExactEdits answers true at every input, and its arguments read behind the call as ahead of it. No condition. The frame is made by wip/tools/row.py. -/
import Derived.Test.YtnkoppgbbmeknaaRows
import Derived.Test.YtnkoppgbbmeknaaMFnExactEditsx7
import Derived.Test.YtnkoppgbbmeknaaOpens
import Derived.Test.YtnkoppgbbmeknaaPureFnExactEdits
import Derived.Test.YtnkoppgbbmeknaaWSized
import Derived.WalkKit
import Derived.ProofKit
import Derived.OpenShut
import Derived.ShutString
import Derived.ChangeOld
import Derived.Below
import Derived.SizedLaws
namespace Go.Proofs.Ytnkoppgbbmeknaa.fnExactEdits
open Go.ChangeShapes Go.WideShapes Go.ChangeAt Go.RowKit Go.Proofs.Ytnkoppgbbmeknaa.Opens Go.Proofs.YtnkoppgbbmeknaaW.PrintWords
open Go.ChangeMaps (open_string shut_string)
set_option linter.unusedVariables false
theorem own : ownKnob Try.prog.godebug = none := by kernel_rfl
theorem laidOut : laidOutB Try.prog = true := by kernel_rfl
set_option maxRecDepth 100000 in
theorem lifted (os : Os) (started : os.Started) (H : Type) (enc : TypeId × Value → H) :
    ReturnsInHanded {} Try.checked os 13 .any (Rows.fnExactEditsSpec.pre6 enc Try.prog Try.f13 Rows.fnExactEditsRow.domain false) (Rows.fnExactEditsSpec.post enc Try.prog Try.f13 false true false false) := by
  refine returnsInHanded_of_change_sized (C := Try.checked) own started (by kernel_rfl) Try.func13
    (ChangeSpec.witness6 (enc := enc) (C := Try.checked) false ⟨#[], #[.slice none 0 0, .slice none 0 0], []⟩ 8 (by kernel_rfl) (by kernel_rfl) (by kernel_rfl) (by kernel_rfl)) ?_
  intro W base args ds gs before hval0 hW hcnd hsz0 _
  have hsz : (DataW.weightsEach Try.prog (Try.f13.params.toList ++ Rows.fnExactEditsSpec.plain.varTypes Try.prog) (ds ++ gs)).all (· ≤ reachBytes) = true := hsz0
  have hval : ∀ (j : Nat) t v, Try.f13.params[j]? = some t → args[j]? = some v → Value.okWide Try.prog W .any base t v := hval0
  have hW' := hW
  obtain ⟨p, q, hA0, hV, rfl, hfz, hnd⟩ := hW
  have hA : DataW.TrodAll enc Try.prog W 0 (fun _ => true) true Try.f13.params.toList args.toList ds p := hA0
  rw [Try.params13] at hA hval hsz
  obtain ⟨v0, vs0, d0, ds0, p0, q0, hargs, rfl, rfl, h0, r0⟩ := trodAll_cons hA
  obtain ⟨v1, vs1, d1, ds1, p1, q1, rfl, rfl, rfl, h1, r1⟩ := trodAll_cons r0
  obtain ⟨rfl, rfl, rfl⟩ := trodAll_nil r1
  obtain rfl : args = #[v0, v1] := by cases args; simp_all
  obtain ⟨rfl, rfl⟩ := trodVars_none hV
  have k0 := h0
  have lt0 : ∀ x ∈ p0, x.block < W.heap.size := by obtain ⟨m, hm⟩ := k0; exact DataW.trod_lt m _ _ _ hm
  obtain ⟨A0, len0, c0, rfl⟩ := okWide_slice Try.underlying24 (hval 0 24 v0 rfl rfl)
  obtain ⟨fuel0, hf0⟩ := h0
  have o0 := ((fit_slice Try.underlying24 (by kernel_rfl) (fit_int Try.underlying2 (by kernel_rfl)))).2 fuel0 _ _ hf0
  obtain ⟨l0, ⟨A0', c0', hv0, hc0, hr0⟩, hm0, hg0⟩ := o0
  have hv0' : [Value.slice A0 len0 c0] = [.slice A0' l0.length c0'] := hv0
  obtain ⟨rfl, rfl, rfl⟩ : A0 = A0' ∧ len0 = l0.length ∧ c0 = c0' := by simpa using hv0'
  have y0 : l0.length * 8 ≤ 140737488351232 := sized_ints hsz (j := 0) (t := 24) rfl rfl Try.underlying24 Try.underlying2 (by kernel_rfl) (by kernel_rfl) k0
  have k1 := h1
  have lt1 : ∀ x ∈ p1, x.block < W.heap.size := by obtain ⟨m, hm⟩ := k1; exact DataW.trod_lt m _ _ _ hm
  obtain ⟨A1, len1, c1, rfl⟩ := okWide_slice Try.underlying24 (hval 1 24 v1 rfl rfl)
  obtain ⟨fuel1, hf1⟩ := h1
  have o1 := ((fit_slice Try.underlying24 (by kernel_rfl) (fit_int Try.underlying2 (by kernel_rfl)))).2 fuel1 _ _ hf1
  obtain ⟨l1, ⟨A1', c1', hv1, hc1, hr1⟩, hm1, hg1⟩ := o1
  have hv1' : [Value.slice A1 len1 c1] = [.slice A1' l1.length c1'] := hv1
  obtain ⟨rfl, rfl, rfl⟩ : A1 = A1' ∧ len1 = l1.length ∧ c1 = c1' := by simpa using hv1'
  have y1 : l1.length * 8 ≤ 140737488351232 := sized_ints hsz (j := 1) (t := 24) rfl rfl Try.underlying24 Try.underlying2 (by kernel_rfl) (by kernel_rfl) k1
  obtain ⟨k, hk⟩ := Pure.FnExactEdits l0 l1 hm0 y0 hg0 hm1 y1 hg1
  clear hA0 hval0 hsz0 hsz
  refine (PFnExactEdits.laws_FnExactEdits.calls k _ _ l0 _ _ l1 true W hr0 hc0 hr1 hc1 hk rfl).mono fun e W' ⟨he, bel0⟩ => ?_
  have bel : Below W.heap.size W W' := bel0
  subst he
  exact ⟨_, rfl, _, _, _, [], _, [], hW', trodAll_mk1 (shut_bool Try.underlying4 _), (trodAll_cons_mk (Below.trod laidOut (by kernel_rfl) (of_decide_eq_true (by kernel_rfl)) k0 bel lt0) (trodAll_cons_mk (Below.trod laidOut (by kernel_rfl) (of_decide_eq_true (by kernel_rfl)) k1 bel lt1) trodAll_mk0)), rfl, bel.frame _, fun h => by cases h⟩
theorem over : Rows.fnExactEditsRow.holds Try.pinned (OpenSpec.ofChange Rows.fnExactEditsSpec) :=
  OpenClaim.holds_of_wide 13 Try.f13 rfl rfl rfl rfl rfl rfl rfl ⟨rfl, rfl, rfl, rfl, rfl⟩ rfl rfl rfl rfl rfl (by kernel_rfl) Try.func13 (by kernel_rfl)
    (of_decide_eq_true (by kernel_rfl)) (by unfold Func.isWrapper; first | (rw [if_pos (by decide +kernel)]; kernel_rfl) | (rw [if_neg (by decide +kernel)]; exact ⟨rfl, rfl⟩))
    (fun os started H enc _ => lifted os started H enc)
theorem proved : Rows.FnExactEditsSaid := over
#print axioms proved
end Go.Proofs.Ytnkoppgbbmeknaa.fnExactEdits
namespace Go.Proofs.Ytnkoppgbbmeknaa
/-- The row, under a short name, for the claim. -/
theorem fnExactEdits_holds : Rows.FnExactEditsSaid := fnExactEdits.proved
end Go.Proofs.Ytnkoppgbbmeknaa
