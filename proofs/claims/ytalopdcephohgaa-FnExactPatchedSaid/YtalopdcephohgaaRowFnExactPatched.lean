/- The law FnExactPatched answers true at every input, and its arguments read behind the call as ahead of it. No condition. The frame is made by wip/tools/row.py. -/
import Derived.Test.YtalopdcephohgaaRows
import Derived.Test.YtalopdcephohgaaRCx31
import Derived.Test.YtalopdcephohgaaOpensRC
import Derived.Test.YtalopdcephohgaaAimFnExactPatched
import Derived.Test.YtalopdcephohgaaPureFnExactPatched
import Derived.WalkKit
import Derived.ProofKit
import Derived.OpenShut
import Derived.ShutString
import Derived.ChangeOld
import Derived.Below
import Derived.SizedLaws
namespace Go.Proofs.Ytalopdcephohgaa.fnExactPatched
open Go.Proofs.Ytalopdcephohgaa.RC
open Go.ChangeShapes Go.WideShapes Go.ChangeAt Go.RowKit Go.Proofs.Ytalopdcephohgaa.Opens Go.Proofs.YtalopdcephohgaaW.PrintWords
open Go.ChangeMaps (open_string shut_string)
set_option linter.unusedVariables false
theorem own : ownKnob Try.prog.godebug = none := by kernel_rfl
theorem laidOut : laidOutB Try.prog = true := by kernel_rfl
set_option maxRecDepth 100000 in
theorem lifted (os : Os) (started : os.Started) (H : Type) (enc : TypeId × Value → H) :
    ReturnsInHanded {} Try.checked os 6 .any (Rows.fnExactPatchedSpec.pre6 enc Try.prog Try.f6 Rows.fnExactPatchedRow.domain false) (Rows.fnExactPatchedSpec.post enc Try.prog Try.f6 false true false false) := by
  refine returnsInHanded_of_change_sized (C := Try.checked) own started (by kernel_rfl) Try.func6
    (ChangeSpec.witness6 (enc := enc) (C := Try.checked) false ⟨#[], #[.agg #[.int .i64 0, .slice none 0 0], .agg #[.int .i64 0, .int .i64 0, .slice none 0 0]], []⟩ 8 (by kernel_rfl) (by kernel_rfl) (by kernel_rfl) (by kernel_rfl)) ?_
  intro W base args ds gs before hval0 hW hcnd hsz0 _
  have hsz : (DataW.weightsEach Try.prog (Try.f6.params.toList ++ Rows.fnExactPatchedSpec.plain.varTypes Try.prog) (ds ++ gs)).all (· ≤ reachBytes) = true := hsz0
  have hval : ∀ (j : Nat) t v, Try.f6.params[j]? = some t → args[j]? = some v → Value.okWide Try.prog W .any base t v := hval0
  have hW' := hW
  obtain ⟨p, q, hA0, hV, rfl, hfz, hnd⟩ := hW
  have hA : DataW.TrodAll enc Try.prog W 0 (fun _ => true) true Try.f6.params.toList args.toList ds p := hA0
  rw [Try.params6] at hA hval hsz
  obtain ⟨v0, vs0, d0, ds0, p0, q0, hargs, rfl, rfl, h0, r0⟩ := trodAll_cons hA
  obtain ⟨v1, vs1, d1, ds1, p1, q1, rfl, rfl, rfl, h1, r1⟩ := trodAll_cons r0
  obtain ⟨rfl, rfl, rfl⟩ := trodAll_nil r1
  obtain rfl : args = #[v0, v1] := by cases args; simp_all
  obtain ⟨rfl, rfl⟩ := trodVars_none hV
  have k0 := h0
  have lt0 : ∀ x ∈ p0, x.block < W.heap.size := by obtain ⟨m, hm⟩ := k0; exact DataW.trod_lt m _ _ _ hm
  obtain ⟨cs0, rfl, hz0⟩ := okWide_struct Try.underlying49 (hval 0 49 v0 rfl rfl)
  obtain ⟨fuel0, hf0⟩ := h0
  have o0 := ((fit_struct Try.underlying49 (by kernel_rfl) (fits_cons rfl (fit_int Try.underlying2 (by kernel_rfl)) (fits_one rfl (fit_slice Try.underlying47 (by kernel_rfl) (fit_slice Try.underlying125 (by kernel_rfl) fit_k151)))))).2 fuel0 _ _ hf0
  obtain ⟨⟨x0_0, x0_1⟩, ⟨_, _, e0_0, rfl, ⟨A0_1, c0_1, rfl, hc0_1, hr0_1⟩⟩, ⟨g0_0, g0_1⟩⟩ := o0
  obtain rfl : cs0 = #[.int .i64 x0_0, .slice A0_1 x0_1.length c0_1] := by
    apply Array.toList_inj.mp
    simp only [Value.cells] at e0_0; rw [e0_0]; subst_vars; rfl
  have k1 := h1
  have lt1 : ∀ x ∈ p1, x.block < W.heap.size := by obtain ⟨m, hm⟩ := k1; exact DataW.trod_lt m _ _ _ hm
  obtain ⟨cs1, rfl, hz1⟩ := okWide_struct Try.underlying67 (hval 1 67 v1 rfl rfl)
  obtain ⟨fuel1, hf1⟩ := h1
  have o1 := ((fit_struct Try.underlying67 (by kernel_rfl) (fits_cons rfl (fit_int Try.underlying2 (by kernel_rfl)) (fits_cons rfl (fit_int Try.underlying2 (by kernel_rfl)) (fits_one rfl (fit_slice Try.underlying65 (by kernel_rfl) fit_k137)))))).2 fuel1 _ _ hf1
  obtain ⟨⟨x1_0, x1_1, x1_2⟩, ⟨_, _, e1_0, rfl, ⟨_, _, e1_1, rfl, ⟨A1_2, c1_2, rfl, hc1_2, hr1_2⟩⟩⟩, ⟨g1_0, g1_1, g1_2⟩⟩ := o1
  obtain rfl : cs1 = #[.int .i64 x1_0, .int .i64 x1_1, .slice A1_2 x1_2.length c1_2] := by
    apply Array.toList_inj.mp
    simp only [Value.cells] at e1_0; rw [e1_0]; subst_vars; rfl
  obtain ⟨k, hk⟩ := Pure.FnExactPatched x0_0 x0_1 x1_0 x1_1 x1_2 g0_0 g0_1 g1_0 g1_1 g1_2
  clear hA0 hval0 hsz0 hsz
  refine (RC.laws_FnExactPatched.calls k x0_0 _ _ x0_1 x1_0 x1_1 _ _ x1_2 true W hr0_1 hc0_1 hr1_2 hc1_2 hk rfl).mono fun e W' ⟨he, bel0⟩ => ?_
  have bel : Below W.heap.size W W' := bel0
  subst he
  exact ⟨_, rfl, _, _, _, [], _, [], hW', trodAll_mk1 (shut_bool Try.underlying4 _), (trodAll_cons_mk (Below.trod laidOut (by kernel_rfl) (of_decide_eq_true (by kernel_rfl)) k0 bel lt0) (trodAll_cons_mk (Below.trod laidOut (by kernel_rfl) (of_decide_eq_true (by kernel_rfl)) k1 bel lt1) trodAll_mk0)), rfl, bel.frame _, fun h => by cases h⟩
theorem over : Rows.fnExactPatchedRow.holds Try.pinned (OpenSpec.ofChange Rows.fnExactPatchedSpec) :=
  OpenClaim.holds_of_wide 6 Try.f6 rfl rfl rfl rfl rfl rfl rfl ⟨rfl, rfl, rfl, rfl, rfl⟩ rfl rfl rfl rfl rfl (by kernel_rfl) Try.func6 (by kernel_rfl)
    (of_decide_eq_true (by kernel_rfl)) (by unfold Func.isWrapper; first | (rw [if_pos (by decide +kernel)]; kernel_rfl) | (rw [if_neg (by decide +kernel)]; exact ⟨rfl, rfl⟩))
    (fun os started H enc _ => lifted os started H enc)
theorem proved : Rows.FnExactPatchedSaid := over
#print axioms proved
end Go.Proofs.Ytalopdcephohgaa.fnExactPatched
namespace Go.Proofs.Ytalopdcephohgaa
/-- The row, under a short name, for the claim. -/
theorem fnExactPatched_holds : Rows.FnExactPatchedSaid := fnExactPatched.proved
end Go.Proofs.Ytalopdcephohgaa
