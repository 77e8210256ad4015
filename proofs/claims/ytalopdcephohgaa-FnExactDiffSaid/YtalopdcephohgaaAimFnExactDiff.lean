/- The plain statement of the law FnExactDiff: what is to be proved of its Lean function; and how its arguments are read. No condition. Made by wip/tools/row.py. -/
import Derived.Test.YtalopdcephohgaaRBx31
import Derived.Test.YtalopdcephohgaaOpensRB
namespace Go.Proofs.Ytalopdcephohgaa.RB
open Go.RowKit Go.Proofs.YtalopdcephohgaaW.PrintWords Go.Proofs.YtalopdcephohgaaW.PrintLast Go.Proofs.Ytalopdcephohgaa.Opens
def Good149 (x : S149) : Prop := ((Lit.int .i64 x.f0).wf = true) ∧ ((Lit.int .i64 x.f1).wf = true) ∧ True ∧ True ∧ True
theorem fit_k149 {H : Type} {enc : TypeId × Value → H} {w : World} : Fit enc Try.prog w 149 k149 Good149 :=
  fit_iso (d := (Kd.pair (Kd.int .i64) (Kd.pair (Kd.int .i64) (Kd.pair Kd.bool (Kd.pair Kd.bool Kd.bool))))) (fun x : S149 => (x.f0, x.f1, x.f2, x.f3, x.f4)) (fun a => ⟨a.1, a.2.1, a.2.2.1, a.2.2.2.1, a.2.2.2.2⟩) (fun _ => rfl) (fit_struct (fs := _) Try.underlying149 (by kernel_rfl) (fits_cons rfl (fit_int Try.underlying2 (by kernel_rfl)) (fits_cons rfl (fit_int Try.underlying2 (by kernel_rfl)) (fits_cons rfl (fit_bool Try.underlying4 (by kernel_rfl)) (fits_cons rfl (fit_bool Try.underlying4 (by kernel_rfl)) (fits_one rfl (fit_bool Try.underlying4 (by kernel_rfl))))))))
def Good151 (x : S151) : Prop := ((Lit.int .i64 x.f0).wf = true) ∧ (Good149 x.f1) ∧ ((Lit.int .i64 x.f2).wf = true)
theorem fit_k151 {H : Type} {enc : TypeId × Value → H} {w : World} : Fit enc Try.prog w 151 k151 Good151 :=
  fit_iso (d := (Kd.pair (Kd.int .i64) (Kd.pair k149 (Kd.int .i64)))) (fun x : S151 => (x.f0, x.f1, x.f2)) (fun a => ⟨a.1, a.2.1, a.2.2⟩) (fun _ => rfl) (fit_struct (fs := _) Try.underlying151 (by kernel_rfl) (fits_cons rfl (fit_int Try.underlying2 (by kernel_rfl)) (fits_cons rfl fit_k149 (fits_one rfl (fit_int Try.underlying2 (by kernel_rfl))))))
def laws_FnExactDiff.Aim : Prop := ∀ (a0_0 : Int) (l0_1 : (List (List S151))) (a1_0 : Int) (l1_1 : (List (List S151))), ((Lit.int .i64 a0_0).wf = true) → (l0_1.length ≤ maxLen ∧ ∀ a_ ∈ l0_1, (a_.length ≤ maxLen ∧ ∀ b_ ∈ a_, Good151 b_)) → ((Lit.int .i64 a1_0).wf = true) → (l1_1.length ≤ maxLen ∧ ∀ a_ ∈ l1_1, (a_.length ≤ maxLen ∧ ∀ b_ ∈ a_, Good151 b_)) → ∃ k, laws_FnExactDiff.f k a0_0 l0_1 a1_0 l1_1 = some true
end Go.Proofs.Ytalopdcephohgaa.RB
