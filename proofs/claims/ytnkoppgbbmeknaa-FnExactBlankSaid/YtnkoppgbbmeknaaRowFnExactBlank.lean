/- The law FnExactBlank answers true at every input, and its arguments read behind the call as ahead of it. No condition. The frame is made by wip/tools/row.py. -/
import Derived.Test.YtnkoppgbbmeknaaRows
import Derived.Test.YtnkoppgbbmeknaaMFnExactBlankx3
import Derived.Test.YtnkoppgbbmeknaaOpens
import Derived.Test.YtnkoppgbbmeknaaAimFnExactBlank
import Derived.Test.YtnkoppgbbmeknaaPureFnExactBlank
import Derived.WalkKit
import Derived.ProofKit
import Derived.OpenShut
import Derived.ShutString
import Derived.ChangeOld
import Derived.Below
import Derived.SizedLaws
namespace Go.Proofs.Ytnkoppgbbmeknaa.fnExactBlank
open Go.ChangeShapes Go.WideShapes Go.ChangeAt Go.RowKit Go.Proofs.Ytnkoppgbbmeknaa.Opens Go.Proofs.YtnkoppgbbmeknaaW.PrintWords
open Go.ChangeMaps (open_string shut_string)
set_option linter.unusedVariables false
theorem own : ownKnob Try.prog.godebug = none := by kernel_rfl
theorem laidOut : laidOutB Try.prog = true := by kernel_rfl
set_option maxRecDepth 100000 in
theorem lifted (os : Os) (started : os.Started) (H : Type) (enc : TypeId × Value → H) :
    ReturnsInHanded {} Try.checked os 12 .any (Rows.fnExactBlankSpec.pre6 enc Try.prog Try.f12 Rows.fnExactBlankRow.domain false) (Rows.fnExactBlankSpec.post enc Try.prog Try.f12 false true false false) := by
  refine returnsInHanded_of_change_sized (C := Try.checked) own started (by kernel_rfl) Try.func12
    (ChangeSpec.witness6 (enc := enc) (C := Try.checked) false ⟨#[], #[.int .i64 0, .agg #[.int .i64 0, .int .i64 0, .bool false, .bool false, .bool false]], []⟩ 8 (by kernel_rfl) (by kernel_rfl) (by kernel_rfl) (by kernel_rfl)) ?_
  intro W base args ds gs before hval0 hW hcnd hsz0 _
  have hsz : (DataW.weightsEach Try.prog (Try.f12.params.toList ++ Rows.fnExactBlankSpec.plain.varTypes Try.prog) (ds ++ gs)).all (· ≤ reachBytes) = true := hsz0
  have hval : ∀ (j : Nat) t v, Try.f12.params[j]? = some t → args[j]? = some v → Value.okWide Try.prog W .any base t v := hval0
  have hW' := hW
  obtain ⟨p, q, hA0, hV, rfl, hfz, hnd⟩ := hW
  have hA : DataW.TrodAll enc Try.prog W 0 (fun _ => true) true Try.f12.params.toList args.toList ds p := hA0
  rw [Try.params12] at hA hval hsz
  obtain ⟨v0, vs0, d0, ds0, p0, q0, hargs, rfl, rfl, h0, r0⟩ := trodAll_cons hA
  obtain ⟨v1, vs1, d1, ds1, p1, q1, rfl, rfl, rfl, h1, r1⟩ := trodAll_cons r0
  obtain ⟨rfl, rfl, rfl⟩ := trodAll_nil r1
  obtain rfl : args = #[v0, v1] := by cases args; simp_all
  obtain ⟨rfl, rfl⟩ := trodVars_none hV
  obtain ⟨a0, rfl, rfl, rfl, w0⟩ := open_int Try.underlying2 (hval 0 2 v0 rfl rfl) h0
  have k1 := h1
  have lt1 : ∀ x ∈ p1, x.block < W.heap.size := by obtain ⟨m, hm⟩ := k1; exact DataW.trod_lt m _ _ _ hm
  obtain ⟨cs1, rfl, hz1⟩ := okWide_struct Try.underlying57 (hval 1 57 v1 rfl rfl)
  obtain ⟨fuel1, hf1⟩ := h1
  have o1 := ((fit_struct Try.underlying57 (by kernel_rfl) (fits_cons rfl (fit_int Try.underlying2 (by kernel_rfl)) (fits_cons rfl (fit_int Try.underlying2 (by kernel_rfl)) (fits_cons rfl (fit_bool Try.underlying4 (by kernel_rfl)) (fits_cons rfl (fit_bool Try.underlying4 (by kernel_rfl)) (fits_one rfl (fit_bool Try.underlying4 (by kernel_rfl))))))))).2 fuel1 _ _ hf1
  obtain ⟨⟨x1_0, x1_1, x1_2, x1_3, x1_4⟩, ⟨_, _, e1_0, rfl, ⟨_, _, e1_1, rfl, ⟨_, _, e1_2, rfl, ⟨_, _, e1_3, rfl, rfl⟩⟩⟩⟩, ⟨g1_0, g1_1, g1_2, g1_3, g1_4⟩⟩ := o1
  obtain rfl : cs1 = #[.int .i64 x1_0, .int .i64 x1_1, .bool x1_2, .bool x1_3, .bool x1_4] := by
    apply Array.toList_inj.mp
    simp only [Value.cells] at e1_0; rw [e1_0]; subst_vars; rfl
  obtain ⟨k, hk⟩ := Pure.FnExactBlank a0 x1_0 x1_1 x1_2 x1_3 x1_4 w0 g1_0 g1_1
  clear hA0 hval0 hsz0 hsz
  refine (PFnExactBlank.laws_FnExactBlank.calls k a0 x1_0 x1_1 x1_2 x1_3 x1_4 true W  hk rfl).mono fun e W' ⟨he, bel0⟩ => ?_
  have bel : Below W.heap.size W W' := bel0
  subst he
  exact ⟨_, rfl, _, _, _, [], _, [], hW', trodAll_mk1 (shut_bool Try.underlying4 _), (trodAll_cons_mk (shut_int Try.underlying2 w0) (trodAll_cons_mk (Below.trod laidOut (by kernel_rfl) (of_decide_eq_true (by kernel_rfl)) k1 bel lt1) trodAll_mk0)), rfl, bel.frame _, fun h => by cases h⟩
theorem over : Rows.fnExactBlankRow.holds Try.pinned (OpenSpec.ofChange Rows.fnExactBlankSpec) :=
  OpenClaim.holds_of_wide 12 Try.f12 rfl rfl rfl rfl rfl rfl rfl ⟨rfl, rfl, rfl, rfl, rfl⟩ rfl rfl rfl rfl rfl (by kernel_rfl) Try.func12 (by kernel_rfl)
    (of_decide_eq_true (by kernel_rfl)) (by unfold Func.isWrapper; first | (rw [if_pos (by decide +kernel)]; kernel_rfl) | (rw [if_neg (by decide +kernel)]; exact ⟨rfl, rfl⟩))
    (fun os started H enc _ => lifted os started H enc)
theorem proved : Rows.FnExactBlankSaid := over
#print axioms proved
end Go.Proofs.Ytnkoppgbbmeknaa.fnExactBlank
namespace Go.Proofs.Ytnkoppgbbmeknaa
/-- The row, under a short name, for the claim. -/
theorem fnExactBlank_holds : Rows.FnExactBlankSaid := fnExactBlank.proved
end Go.Proofs.Ytnkoppgbbmeknaa
