/- The plain statement of the law FnExactShowPatch: what is to be proved of its Lean function; and how its arguments are read. No condition. Made by wip/tools/row.py. -/
import Derived.Test.YtalopdcephohgaaDoorSAx13
import Derived.Test.YtalopdcephohgaaDoorOpensSA
namespace Go.Proofs.YtalopdcephohgaaDoor.SA
open Go.RowKit Go.Proofs.YtalopdcephohgaaDoorW.PrintWords Go.Proofs.YtalopdcephohgaaDoorW.PrintLast Go.Proofs.YtalopdcephohgaaDoor.Opens
def Good101 (x : S101) : Prop := ((Lit.int .i64 x.f0).wf = true) ∧ ((Lit.int .i64 x.f1).wf = true) ∧ True ∧ True ∧ True
theorem fit_k101 {H : Type} {enc : TypeId × Value → H} {w : World} : Fit enc Tryd.prog w 101 k101 Good101 :=
  fit_iso (d := (Kd.pair (Kd.int .i64) (Kd.pair (Kd.int .i64) (Kd.pair Kd.bool (Kd.pair Kd.bool Kd.bool))))) (fun x : S101 => (x.f0, x.f1, x.f2, x.f3, x.f4)) (fun a => ⟨a.1, a.2.1, a.2.2.1, a.2.2.2.1, a.2.2.2.2⟩) (fun _ => rfl) (fit_struct (fs := _) Tryd.underlying101 (by kernel_rfl) (fits_cons rfl (fit_int Tryd.underlying2 (by kernel_rfl)) (fits_cons rfl (fit_int Tryd.underlying2 (by kernel_rfl)) (fits_cons rfl (fit_bool Tryd.underlying4 (by kernel_rfl)) (fits_cons rfl (fit_bool Tryd.underlying4 (by kernel_rfl)) (fits_one rfl (fit_bool Tryd.underlying4 (by kernel_rfl))))))))
def Good103 (x : S103) : Prop := ((Lit.int .i64 x.f0).wf = true) ∧ (Good101 x.f1) ∧ ((Lit.int .i64 x.f2).wf = true)
theorem fit_k103 {H : Type} {enc : TypeId × Value → H} {w : World} : Fit enc Tryd.prog w 103 k103 Good103 :=
  fit_iso (d := (Kd.pair (Kd.int .i64) (Kd.pair k101 (Kd.int .i64)))) (fun x : S103 => (x.f0, x.f1, x.f2)) (fun a => ⟨a.1, a.2.1, a.2.2⟩) (fun _ => rfl) (fit_struct (fs := _) Tryd.underlying103 (by kernel_rfl) (fits_cons rfl (fit_int Tryd.underlying2 (by kernel_rfl)) (fits_cons rfl fit_k101 (fits_one rfl (fit_int Tryd.underlying2 (by kernel_rfl))))))
def Good68 (x : S68) : Prop := ((Lit.int .i64 x.f0).wf = true) ∧ ((Lit.int .i64 x.f1).wf = true) ∧ (x.f2.length ≤ maxLen ∧ ∀ a_ ∈ x.f2, Good103 a_)
theorem fit_k68 {H : Type} {enc : TypeId × Value → H} {w : World} : Fit enc Tryd.prog w 68 k68 Good68 :=
  fit_iso (d := (Kd.pair (Kd.int .i64) (Kd.pair (Kd.int .i64) (Kd.slice 103 k103)))) (fun x : S68 => (x.f0, x.f1, x.f2)) (fun a => ⟨a.1, a.2.1, a.2.2⟩) (fun _ => rfl) (fit_struct (fs := _) Tryd.underlying68 (by kernel_rfl) (fits_cons rfl (fit_int Tryd.underlying2 (by kernel_rfl)) (fits_cons rfl (fit_int Tryd.underlying2 (by kernel_rfl)) (fits_one rfl (fit_slice Tryd.underlying66 (by kernel_rfl) fit_k103)))))
def laws_FnExactShowPatch.Aim : Prop := ∀ (a0_0 : Int) (a0_1 : Int) (l0_2 : (List S68)), ((Lit.int .i64 a0_0).wf = true) → ((Lit.int .i64 a0_1).wf = true) → (l0_2.length ≤ maxLen ∧ ∀ a_ ∈ l0_2, Good68 a_) → ∃ k, laws_FnExactShowPatch.f k a0_0 a0_1 l0_2 = some true
end Go.Proofs.YtalopdcephohgaaDoor.SA
