/- The law FnExactPushed answers true at every input, and its arguments read behind the call as ahead of it. No condition. The frame is made by wip/tools/row.py. -/
import Derived.Test.YtfhkpneffmcdbaaRows
import Derived.Test.YtfhkpneffmcdbaaQDx24
import Derived.Test.YtfhkpneffmcdbaaOpensQD
import Derived.Test.YtfhkpneffmcdbaaAimFnExactPushed
import Derived.Test.YtfhkpneffmcdbaaPureFnExactPushed
import Derived.WalkKit
import Derived.ProofKit
import Derived.OpenShut
import Derived.ShutString
import Derived.ChangeOld
import Derived.Below
import Derived.SizedLaws
namespace Go.Proofs.Ytfhkpneffmcdbaa.fnExactPushed
open Go.Proofs.Ytfhkpneffmcdbaa.QD
open Go.ChangeShapes Go.WideShapes Go.ChangeAt Go.RowKit Go.Proofs.Ytfhkpneffmcdbaa.Opens Go.Proofs.YtfhkpneffmcdbaaW.PrintWords
open Go.ChangeMaps (open_string shut_string)
set_option linter.unusedVariables false
theorem own : ownKnob Try.prog.godebug = none := by kernel_rfl
theorem laidOut : laidOutB Try.prog = true := by kernel_rfl
set_option maxRecDepth 100000 in
theorem lifted (os : Os) (started : os.Started) (H : Type) (enc : TypeId × Value → H) :
    ReturnsInHanded {} Try.checked os 4 .any (Rows.fnExactPushedSpec.pre6 enc Try.prog Try.f4 Rows.fnExactPushedRow.domain false) (Rows.fnExactPushedSpec.post enc Try.prog Try.f4 false true false false) := by
  refine returnsInHanded_of_change_sized (C := Try.checked) own started (by kernel_rfl) Try.func4
    (ChangeSpec.witness6 (enc := enc) (C := Try.checked) false ⟨#[], #[.slice none 0 0, .int .i64 0, .int .i64 0, .agg #[.int .i64 0, .int .i64 0, .bool false, .bool false, .bool false]], []⟩ 8 (by kernel_rfl) (by kernel_rfl) (by kernel_rfl) (by kernel_rfl)) ?_
  intro W base args ds gs before hval0 hW hcnd hsz0 _
  have hsz : (DataW.weightsEach Try.prog (Try.f4.params.toList ++ Rows.fnExactPushedSpec.plain.varTypes Try.prog) (ds ++ gs)).all (· ≤ reachBytes) = true := hsz0
  have hval : ∀ (j : Nat) t v, Try.f4.params[j]? = some t → args[j]? = some v → Value.okWide Try.prog W .any base t v := hval0
  have hW' := hW
  obtain ⟨p, q, hA0, hV, rfl, hfz, hnd⟩ := hW
  have hA : DataW.TrodAll enc Try.prog W 0 (fun _ => true) true Try.f4.params.toList args.toList ds p := hA0
  rw [Try.params4] at hA hval hsz
  obtain ⟨v0, vs0, d0, ds0, p0, q0, hargs, rfl, rfl, h0, r0⟩ := trodAll_cons hA
  obtain ⟨v1, vs1, d1, ds1, p1, q1, rfl, rfl, rfl, h1, r1⟩ := trodAll_cons r0
  obtain ⟨v2, vs2, d2, ds2, p2, q2, rfl, rfl, rfl, h2, r2⟩ := trodAll_cons r1
  obtain ⟨v3, vs3, d3, ds3, p3, q3, rfl, rfl, rfl, h3, r3⟩ := trodAll_cons r2
  obtain ⟨rfl, rfl, rfl⟩ := trodAll_nil r3
  obtain rfl : args = #[v0, v1, v2, v3] := by cases args; simp_all
  obtain ⟨rfl, rfl⟩ := trodVars_none hV
  have k0 := h0
  have lt0 : ∀ x ∈ p0, x.block < W.heap.size := by obtain ⟨m, hm⟩ := k0; exact DataW.trod_lt m _ _ _ hm
  obtain ⟨A0, len0, c0, rfl⟩ := okWide_slice Try.underlying22 (hval 0 22 v0 rfl rfl)
  obtain ⟨fuel0, hf0⟩ := h0
  have o0 := ((fit_slice Try.underlying22 (by kernel_rfl) fit_k60)).2 fuel0 _ _ hf0
  obtain ⟨l0, ⟨A0', c0', hv0, hc0, hr0⟩, hm0, hg0⟩ := o0
  have hv0' : [Value.slice A0 len0 c0] = [.slice A0' l0.length c0'] := hv0
  obtain ⟨rfl, rfl, rfl⟩ : A0 = A0' ∧ len0 = l0.length ∧ c0 = c0' := by simpa using hv0'
  obtain ⟨a1, rfl, rfl, rfl, w1⟩ := open_int Try.underlying2 (hval 1 2 v1 rfl rfl) h1
  obtain ⟨a2, rfl, rfl, rfl, w2⟩ := open_int Try.underlying2 (hval 2 2 v2 rfl rfl) h2
  have k3 := h3
  have lt3 : ∀ x ∈ p3, x.block < W.heap.size := by obtain ⟨m, hm⟩ := k3; exact DataW.trod_lt m _ _ _ hm
  obtain ⟨cs3, rfl, hz3⟩ := okWide_struct Try.underlying24 (hval 3 24 v3 rfl rfl)
  obtain ⟨fuel3, hf3⟩ := h3
  have o3 := ((fit_struct Try.underlying24 (by kernel_rfl) (fits_cons rfl (fit_int Try.underlying2 (by kernel_rfl)) (fits_cons rfl (fit_int Try.underlying2 (by kernel_rfl)) (fits_cons rfl (fit_bool Try.underlying4 (by kernel_rfl)) (fits_cons rfl (fit_bool Try.underlying4 (by kernel_rfl)) (fits_one rfl (fit_bool Try.underlying4 (by kernel_rfl))))))))).2 fuel3 _ _ hf3
  obtain ⟨⟨x3_0, x3_1, x3_2, x3_3, x3_4⟩, ⟨_, _, e3_0, rfl, ⟨_, _, e3_1, rfl, ⟨_, _, e3_2, rfl, ⟨_, _, e3_3, rfl, rfl⟩⟩⟩⟩, ⟨g3_0, g3_1, g3_2, g3_3, g3_4⟩⟩ := o3
  obtain rfl : cs3 = #[.int .i64 x3_0, .int .i64 x3_1, .bool x3_2, .bool x3_3, .bool x3_4] := by
    apply Array.toList_inj.mp
    simp only [Value.cells] at e3_0; rw [e3_0]; subst_vars; rfl
  obtain ⟨k, hk⟩ := Pure.FnExactPushed l0 a1 a2 x3_0 x3_1 x3_2 x3_3 x3_4 ⟨hm0, hg0⟩ w1 w2 g3_0 g3_1
  clear hA0 hval0 hsz0 hsz
  refine (QD.laws_FnExactPushed.calls k _ _ l0 a1 a2 x3_0 x3_1 x3_2 x3_3 x3_4 true W hr0 hc0 hk rfl).mono fun e W' ⟨he, bel0⟩ => ?_
  have bel : Below W.heap.size W W' := bel0
  subst he
  exact ⟨_, rfl, _, _, _, [], _, [], hW', trodAll_mk1 (shut_bool Try.underlying4 _), (trodAll_cons_mk (Below.trod laidOut (by kernel_rfl) (of_decide_eq_true (by kernel_rfl)) k0 bel lt0) (trodAll_cons_mk (shut_int Try.underlying2 w1) (trodAll_cons_mk (shut_int Try.underlying2 w2) (trodAll_cons_mk (Below.trod laidOut (by kernel_rfl) (of_decide_eq_true (by kernel_rfl)) k3 bel lt3) trodAll_mk0)))), rfl, bel.frame _, fun h => by cases h⟩
theorem over : Rows.fnExactPushedRow.holds Try.pinned (OpenSpec.ofChange Rows.fnExactPushedSpec) :=
  OpenClaim.holds_of_wide 4 Try.f4 rfl rfl rfl rfl rfl rfl rfl ⟨rfl, rfl, rfl, rfl, rfl⟩ rfl rfl rfl rfl rfl (by kernel_rfl) Try.func4 (by kernel_rfl)
    (of_decide_eq_true (by kernel_rfl)) (by unfold Func.isWrapper; first | (rw [if_pos (by decide +kernel)]; kernel_rfl) | (rw [if_neg (by decide +kernel)]; exact ⟨rfl, rfl⟩))
    (fun os started H enc _ => lifted os started H enc)
theorem proved : Rows.FnExactPushedSaid := over
#print axioms proved
end Go.Proofs.Ytfhkpneffmcdbaa.fnExactPushed
namespace Go.Proofs.Ytfhkpneffmcdbaa
/-- The row, under a short name, for the claim. -/
theorem fnExactPushed_holds : Rows.FnExactPushedSaid := fnExactPushed.proved
end Go.Proofs.Ytfhkpneffmcdbaa
