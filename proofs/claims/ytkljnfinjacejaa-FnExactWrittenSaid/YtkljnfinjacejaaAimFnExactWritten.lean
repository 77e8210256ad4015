/- The plain statement of the law FnExactWritten: what is to be proved of its Lean function; and how its arguments are read. No condition. Made by wip/tools/row.py. -/
import Derived.Test.YtkljnfinjacejaaPAx24
import Derived.Test.YtkljnfinjacejaaOpensPA
namespace Go.Proofs.Ytkljnfinjacejaa.PA
open Go.RowKit Go.Proofs.YtkljnfinjacejaaW.PrintWords Go.Proofs.YtkljnfinjacejaaW.PrintLast Go.Proofs.Ytkljnfinjacejaa.Opens
def Good50 (x : S50) : Prop := ((Lit.int .i64 x.f0).wf = true) ∧ ((Lit.int .i64 x.f1).wf = true) ∧ True ∧ True ∧ True
theorem fit_k50 {H : Type} {enc : TypeId × Value → H} {w : World} : Fit enc Try.prog w 50 k50 Good50 :=
  fit_iso (d := (Kd.pair (Kd.int .i64) (Kd.pair (Kd.int .i64) (Kd.pair Kd.bool (Kd.pair Kd.bool Kd.bool))))) (fun x : S50 => (x.f0, x.f1, x.f2, x.f3, x.f4)) (fun a => ⟨a.1, a.2.1, a.2.2.1, a.2.2.2.1, a.2.2.2.2⟩) (fun _ => rfl) (fit_struct (fs := _) Try.underlying50 (by kernel_rfl) (fits_cons rfl (fit_int Try.underlying2 (by kernel_rfl)) (fits_cons rfl (fit_int Try.underlying2 (by kernel_rfl)) (fits_cons rfl (fit_bool Try.underlying4 (by kernel_rfl)) (fits_cons rfl (fit_bool Try.underlying4 (by kernel_rfl)) (fits_one rfl (fit_bool Try.underlying4 (by kernel_rfl))))))))
def Good82 (x : S82) : Prop := ((Lit.int .i64 x.f0).wf = true) ∧ (Good50 x.f1) ∧ ((Lit.int .i64 x.f2).wf = true)
theorem fit_k82 {H : Type} {enc : TypeId × Value → H} {w : World} : Fit enc Try.prog w 82 k82 Good82 :=
  fit_iso (d := (Kd.pair (Kd.int .i64) (Kd.pair k50 (Kd.int .i64)))) (fun x : S82 => (x.f0, x.f1, x.f2)) (fun a => ⟨a.1, a.2.1, a.2.2⟩) (fun _ => rfl) (fit_struct (fs := _) Try.underlying82 (by kernel_rfl) (fits_cons rfl (fit_int Try.underlying2 (by kernel_rfl)) (fits_cons rfl fit_k50 (fits_one rfl (fit_int Try.underlying2 (by kernel_rfl))))))
def laws_FnExactWritten.Aim : Prop := ∀ (l0 : (List S82)) (a1 : Int) (a2 : Int) (a3_0 : Int) (a3_1 : Int) (a3_2 : Bool) (a3_3 : Bool) (a3_4 : Bool), (l0.length ≤ maxLen ∧ ∀ a_ ∈ l0, Good82 a_) → (Lit.int .i64 a1).wf = true → (Lit.int .i64 a2).wf = true → ((Lit.int .i64 a3_0).wf = true) → ((Lit.int .i64 a3_1).wf = true) → ∃ k, laws_FnExactWritten.f k l0 a1 a2 a3_0 a3_1 a3_2 a3_3 a3_4 = some true
end Go.Proofs.Ytkljnfinjacejaa.PA
