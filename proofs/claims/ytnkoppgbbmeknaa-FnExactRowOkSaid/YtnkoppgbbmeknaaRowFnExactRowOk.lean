/- The law FnExactRowOk answers true at every input, and its arguments read behind the call as ahead of it. No condition. The frame is made by wip/tools/row.py. -/
import Derived.Test.YtnkoppgbbmeknaaRows
import Derived.Test.YtnkoppgbbmeknaaMFnExactRowOkx6
import Derived.Test.YtnkoppgbbmeknaaOpens
import Derived.Test.YtnkoppgbbmeknaaAimFnExactRowOk
import Derived.Test.YtnkoppgbbmeknaaPureFnExactRowOk
import Derived.WalkKit
import Derived.ProofKit
import Derived.OpenShut
import Derived.ShutString
import Derived.ChangeOld
import Derived.Below
import Derived.SizedLaws
namespace Go.Proofs.Ytnkoppgbbmeknaa.fnExactRowOk
open Go.Proofs.Ytnkoppgbbmeknaa.PFnExactRowOk
open Go.ChangeShapes Go.WideShapes Go.ChangeAt Go.RowKit Go.Proofs.Ytnkoppgbbmeknaa.Opens Go.Proofs.YtnkoppgbbmeknaaW.PrintWords
open Go.ChangeMaps (open_string shut_string)
set_option linter.unusedVariables false
theorem own : ownKnob Try.prog.godebug = none := by kernel_rfl
theorem laidOut : laidOutB Try.prog = true := by kernel_rfl
set_option maxRecDepth 100000 in
theorem lifted (os : Os) (started : os.Started) (H : Type) (enc : TypeId × Value → H) :
    ReturnsInHanded {} Try.checked os 10 .any (Rows.fnExactRowOkSpec.pre6 enc Try.prog Try.f10 Rows.fnExactRowOkRow.domain false) (Rows.fnExactRowOkSpec.post enc Try.prog Try.f10 false true false false) := by
  refine returnsInHanded_of_change_sized (C := Try.checked) own started (by kernel_rfl) Try.func10
    (ChangeSpec.witness6 (enc := enc) (C := Try.checked) false ⟨#[], #[.slice none 0 0], []⟩ 8 (by kernel_rfl) (by kernel_rfl) (by kernel_rfl) (by kernel_rfl)) ?_
  intro W base args ds gs before hval0 hW hcnd hsz0 _
  have hsz : (DataW.weightsEach Try.prog (Try.f10.params.toList ++ Rows.fnExactRowOkSpec.plain.varTypes Try.prog) (ds ++ gs)).all (· ≤ reachBytes) = true := hsz0
  have hval : ∀ (j : Nat) t v, Try.f10.params[j]? = some t → args[j]? = some v → Value.okWide Try.prog W .any base t v := hval0
  have hW' := hW
  obtain ⟨p, q, hA0, hV, rfl, hfz, hnd⟩ := hW
  have hA : DataW.TrodAll enc Try.prog W 0 (fun _ => true) true Try.f10.params.toList args.toList ds p := hA0
  rw [Try.params10] at hA hval hsz
  obtain ⟨v0, vs0, d0, ds0, p0, q0, hargs, rfl, rfl, h0, r0⟩ := trodAll_cons hA
  obtain ⟨rfl, rfl, rfl⟩ := trodAll_nil r0
  obtain rfl : args = #[v0] := by cases args; simp_all
  obtain ⟨rfl, rfl⟩ := trodVars_none hV
  have k0 := h0
  have lt0 : ∀ x ∈ p0, x.block < W.heap.size := by obtain ⟨m, hm⟩ := k0; exact DataW.trod_lt m _ _ _ hm
  obtain ⟨A0, len0, c0, rfl⟩ := okWide_slice Try.underlying67 (hval 0 67 v0 rfl rfl)
  obtain ⟨fuel0, hf0⟩ := h0
  have o0 := ((fit_slice Try.underlying67 (by kernel_rfl) fit_k120)).2 fuel0 _ _ hf0
  obtain ⟨l0, ⟨A0', c0', hv0, hc0, hr0⟩, hm0, hg0⟩ := o0
  have hv0' : [Value.slice A0 len0 c0] = [.slice A0' l0.length c0'] := hv0
  obtain ⟨rfl, rfl, rfl⟩ : A0 = A0' ∧ len0 = l0.length ∧ c0 = c0' := by simpa using hv0'
  obtain ⟨k, hk⟩ := Pure.FnExactRowOk l0 ⟨hm0, hg0⟩
  clear hA0 hval0 hsz0 hsz
  refine (PFnExactRowOk.laws_FnExactRowOk.calls k _ _ l0 true W hr0 hc0 hk rfl).mono fun e W' ⟨he, bel0⟩ => ?_
  have bel : Below W.heap.size W W' := bel0
  subst he
  exact ⟨_, rfl, _, _, _, [], _, [], hW', trodAll_mk1 (shut_bool Try.underlying4 _), (trodAll_cons_mk (Below.trod laidOut (by kernel_rfl) (of_decide_eq_true (by kernel_rfl)) k0 bel lt0) trodAll_mk0), rfl, bel.frame _, fun h => by cases h⟩
theorem over : Rows.fnExactRowOkRow.holds Try.pinned (OpenSpec.ofChange Rows.fnExactRowOkSpec) :=
  OpenClaim.holds_of_wide 10 Try.f10 rfl rfl rfl rfl rfl rfl rfl ⟨rfl, rfl, rfl, rfl, rfl⟩ rfl rfl rfl rfl rfl (by kernel_rfl) Try.func10 (by kernel_rfl)
    (of_decide_eq_true (by kernel_rfl)) (by unfold Func.isWrapper; first | (rw [if_pos (by decide +kernel)]; kernel_rfl) | (rw [if_neg (by decide +kernel)]; exact ⟨rfl, rfl⟩))
    (fun os started H enc _ => lifted os started H enc)
theorem proved : Rows.FnExactRowOkSaid := over
#print axioms proved
end Go.Proofs.Ytnkoppgbbmeknaa.fnExactRowOk
namespace Go.Proofs.Ytnkoppgbbmeknaa
/-- The row, under a short name, for the claim. -/
theorem fnExactRowOk_holds : Rows.FnExactRowOkSaid := fnExactRowOk.proved
end Go.Proofs.Ytnkoppgbbmeknaa
