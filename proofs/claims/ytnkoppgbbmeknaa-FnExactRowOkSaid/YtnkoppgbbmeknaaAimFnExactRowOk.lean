/- The plain statement of the law FnExactRowOk: what is to be proved of its Lean function; and how its arguments are read. No condition. Made by wip/tools/row.py. -/
import Derived.Test.YtnkoppgbbmeknaaMFnExactRowOkx6
import Derived.Test.YtnkoppgbbmeknaaOpens
namespace Go.Proofs.Ytnkoppgbbmeknaa.PFnExactRowOk
open Go.RowKit Go.Proofs.YtnkoppgbbmeknaaW.PrintWords Go.Proofs.YtnkoppgbbmeknaaW.PrintLast Go.Proofs.Ytnkoppgbbmeknaa.Opens
def Good57 (x : S57) : Prop := ((Lit.int .i64 x.f0).wf = true) ∧ ((Lit.int .i64 x.f1).wf = true) ∧ True ∧ True ∧ True
theorem fit_k57 {H : Type} {enc : TypeId × Value → H} {w : World} : Fit enc Try.prog w 57 k57 Good57 :=
  fit_iso (d := (Kd.pair (Kd.int .i64) (Kd.pair (Kd.int .i64) (Kd.pair Kd.bool (Kd.pair Kd.bool Kd.bool))))) (fun x : S57 => (x.f0, x.f1, x.f2, x.f3, x.f4)) (fun a => ⟨a.1, a.2.1, a.2.2.1, a.2.2.2.1, a.2.2.2.2⟩) (fun _ => rfl) (fit_struct (fs := _) Try.underlying57 (by kernel_rfl) (fits_cons rfl (fit_int Try.underlying2 (by kernel_rfl)) (fits_cons rfl (fit_int Try.underlying2 (by kernel_rfl)) (fits_cons rfl (fit_bool Try.underlying4 (by kernel_rfl)) (fits_cons rfl (fit_bool Try.underlying4 (by kernel_rfl)) (fits_one rfl (fit_bool Try.underlying4 (by kernel_rfl))))))))
def Good120 (x : S120) : Prop := ((Lit.int .i64 x.f0).wf = true) ∧ (Good57 x.f1) ∧ ((Lit.int .i64 x.f2).wf = true)
theorem fit_k120 {H : Type} {enc : TypeId × Value → H} {w : World} : Fit enc Try.prog w 120 k120 Good120 :=
  fit_iso (d := (Kd.pair (Kd.int .i64) (Kd.pair k57 (Kd.int .i64)))) (fun x : S120 => (x.f0, x.f1, x.f2)) (fun a => ⟨a.1, a.2.1, a.2.2⟩) (fun _ => rfl) (fit_struct (fs := _) Try.underlying120 (by kernel_rfl) (fits_cons rfl (fit_int Try.underlying2 (by kernel_rfl)) (fits_cons rfl fit_k57 (fits_one rfl (fit_int Try.underlying2 (by kernel_rfl))))))
def laws_FnExactRowOk.Aim : Prop := ∀ (l0 : (List S120)), (l0.length ≤ maxLen ∧ ∀ a_ ∈ l0, Good120 a_) → ∃ k, laws_FnExactRowOk.f k l0 = some true
end Go.Proofs.Ytnkoppgbbmeknaa.PFnExactRowOk
