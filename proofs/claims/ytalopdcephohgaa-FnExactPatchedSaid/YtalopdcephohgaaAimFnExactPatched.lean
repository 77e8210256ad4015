/- The plain statement of the law FnExactPatched: what is to be proved of its Lean function; and how its arguments are read. No condition. Made by wip/tools/row.py. -/
import Derived.Test.YtalopdcephohgaaRCx31
import Derived.Test.YtalopdcephohgaaOpensRC
namespace Go.Proofs.Ytalopdcephohgaa.RC
open Go.RowKit Go.Proofs.YtalopdcephohgaaW.PrintWords Go.Proofs.YtalopdcephohgaaW.PrintLast Go.Proofs.Ytalopdcephohgaa.Opens
def Good149 (x : S149) : Prop := ((Lit.int .i64 x.f0).wf = true) ∧ ((Lit.int .i64 x.f1).wf = true) ∧ True ∧ True ∧ True
theorem fit_k149 {H : Type} {enc : TypeId × Value → H} {w : World} : Fit enc Try.prog w 149 k149 Good149 :=
  fit_iso (d := (Kd.pair (Kd.int .i64) (Kd.pair (Kd.int .i64) (Kd.pair Kd.bool (Kd.pair Kd.bool Kd.bool))))) (fun x : S149 => (x.f0, x.f1, x.f2, x.f3, x.f4)) (fun a => ⟨a.1, a.2.1, a.2.2.1, a.2.2.2.1, a.2.2.2.2⟩) (fun _ => rfl) (fit_struct (fs := _) Try.underlying149 (by kernel_rfl) (fits_cons rfl (fit_int Try.underlying2 (by kernel_rfl)) (fits_cons rfl (fit_int Try.underlying2 (by kernel_rfl)) (fits_cons rfl (fit_bool Try.underlying4 (by kernel_rfl)) (fits_cons rfl (fit_bool Try.underlying4 (by kernel_rfl)) (fits_one rfl (fit_bool Try.underlying4 (by kernel_rfl))))))))
def Good151 (x : S151) : Prop := ((Lit.int .i64 x.f0).wf = true) ∧ (Good149 x.f1) ∧ ((Lit.int .i64 x.f2).wf = true)
theorem fit_k151 {H : Type} {enc : TypeId × Value → H} {w : World} : Fit enc Try.prog w 151 k151 Good151 :=
  fit_iso (d := (Kd.pair (Kd.int .i64) (Kd.pair k149 (Kd.int .i64)))) (fun x : S151 => (x.f0, x.f1, x.f2)) (fun a => ⟨a.1, a.2.1, a.2.2⟩) (fun _ => rfl) (fit_struct (fs := _) Try.underlying151 (by kernel_rfl) (fits_cons rfl (fit_int Try.underlying2 (by kernel_rfl)) (fits_cons rfl fit_k149 (fits_one rfl (fit_int Try.underlying2 (by kernel_rfl))))))
def Good137 (x : S137) : Prop := ((Lit.int .i64 x.f0).wf = true) ∧ ((Lit.int .i64 x.f1).wf = true) ∧ (x.f2.length ≤ maxLen ∧ ∀ a_ ∈ x.f2, Good151 a_)
theorem fit_k137 {H : Type} {enc : TypeId × Value → H} {w : World} : Fit enc Try.prog w 137 k137 Good137 :=
  fit_iso (d := (Kd.pair (Kd.int .i64) (Kd.pair (Kd.int .i64) (Kd.slice 151 k151)))) (fun x : S137 => (x.f0, x.f1, x.f2)) (fun a => ⟨a.1, a.2.1, a.2.2⟩) (fun _ => rfl) (fit_struct (fs := _) Try.underlying137 (by kernel_rfl) (fits_cons rfl (fit_int Try.underlying2 (by kernel_rfl)) (fits_cons rfl (fit_int Try.underlying2 (by kernel_rfl)) (fits_one rfl (fit_slice Try.underlying125 (by kernel_rfl) fit_k151)))))
def laws_FnExactPatched.Aim : Prop := ∀ (a0_0 : Int) (l0_1 : (List (List S151))) (a1_0 : Int) (a1_1 : Int) (l1_2 : (List S137)), ((Lit.int .i64 a0_0).wf = true) → (l0_1.length ≤ maxLen ∧ ∀ a_ ∈ l0_1, (a_.length ≤ maxLen ∧ ∀ b_ ∈ a_, Good151 b_)) → ((Lit.int .i64 a1_0).wf = true) → ((Lit.int .i64 a1_1).wf = true) → (l1_2.length ≤ maxLen ∧ ∀ a_ ∈ l1_2, Good137 a_) → ∃ k, laws_FnExactPatched.f k a0_0 l0_1 a1_0 a1_1 l1_2 = some true
end Go.Proofs.Ytalopdcephohgaa.RC
