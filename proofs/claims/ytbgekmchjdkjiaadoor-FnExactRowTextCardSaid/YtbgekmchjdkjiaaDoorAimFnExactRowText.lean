/- The plain statement of the law FnExactRowText: what is to be proved of its Lean function; and how its arguments are read. No condition. Made by wip/tools/row.py. -/
import Derived.Test.YtbgekmchjdkjiaaDoorPCx15
import Derived.Test.YtbgekmchjdkjiaaDoorOpensPC
namespace Go.Proofs.YtbgekmchjdkjiaaDoor.PC
open Go.RowKit Go.Proofs.YtbgekmchjdkjiaaDoorW.PrintWords Go.Proofs.YtbgekmchjdkjiaaDoorW.PrintLast Go.Proofs.YtbgekmchjdkjiaaDoor.Opens
def Good23 (x : S23) : Prop := ((Lit.int .i64 x.f0).wf = true) ∧ ((Lit.int .i64 x.f1).wf = true) ∧ True ∧ True ∧ True
theorem fit_k23 {H : Type} {enc : TypeId × Value → H} {w : World} : Fit enc Tryd.prog w 23 k23 Good23 :=
  fit_iso (d := (Kd.pair (Kd.int .i64) (Kd.pair (Kd.int .i64) (Kd.pair Kd.bool (Kd.pair Kd.bool Kd.bool))))) (fun x : S23 => (x.f0, x.f1, x.f2, x.f3, x.f4)) (fun a => ⟨a.1, a.2.1, a.2.2.1, a.2.2.2.1, a.2.2.2.2⟩) (fun _ => rfl) (fit_struct (fs := _) Tryd.underlying23 (by kernel_rfl) (fits_cons rfl (fit_int Tryd.underlying2 (by kernel_rfl)) (fits_cons rfl (fit_int Tryd.underlying2 (by kernel_rfl)) (fits_cons rfl (fit_bool Tryd.underlying4 (by kernel_rfl)) (fits_cons rfl (fit_bool Tryd.underlying4 (by kernel_rfl)) (fits_one rfl (fit_bool Tryd.underlying4 (by kernel_rfl))))))))
def Good52 (x : S52) : Prop := ((Lit.int .i64 x.f0).wf = true) ∧ (Good23 x.f1) ∧ ((Lit.int .i64 x.f2).wf = true)
theorem fit_k52 {H : Type} {enc : TypeId × Value → H} {w : World} : Fit enc Tryd.prog w 52 k52 Good52 :=
  fit_iso (d := (Kd.pair (Kd.int .i64) (Kd.pair k23 (Kd.int .i64)))) (fun x : S52 => (x.f0, x.f1, x.f2)) (fun a => ⟨a.1, a.2.1, a.2.2⟩) (fun _ => rfl) (fit_struct (fs := _) Tryd.underlying52 (by kernel_rfl) (fits_cons rfl (fit_int Tryd.underlying2 (by kernel_rfl)) (fits_cons rfl fit_k23 (fits_one rfl (fit_int Tryd.underlying2 (by kernel_rfl))))))
def laws_FnExactRowText.Aim : Prop := ∀ (l0 : (List S52)), (l0.length ≤ maxLen ∧ ∀ a_ ∈ l0, Good52 a_) → ∃ k, laws_FnExactRowText.f k l0 = some true
end Go.Proofs.YtbgekmchjdkjiaaDoor.PC
