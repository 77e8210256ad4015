/- The plain statement of the law FnExactResized: what is to be proved of its Lean function; and how its arguments are read. No condition. Made by wip/tools/row.py. -/
import Derived.Test.YtfhkpneffmcdbaaQEx28
import Derived.Test.YtfhkpneffmcdbaaOpensQE
namespace Go.Proofs.Ytfhkpneffmcdbaa.QE
open Go.RowKit Go.Proofs.YtfhkpneffmcdbaaW.PrintWords Go.Proofs.YtfhkpneffmcdbaaW.PrintLast Go.Proofs.Ytfhkpneffmcdbaa.Opens
def Good24 (x : S24) : Prop := ((Lit.int .i64 x.f0).wf = true) ∧ ((Lit.int .i64 x.f1).wf = true) ∧ True ∧ True ∧ True
theorem fit_k24 {H : Type} {enc : TypeId × Value → H} {w : World} : Fit enc Try.prog w 24 k24 Good24 :=
  fit_iso (d := (Kd.pair (Kd.int .i64) (Kd.pair (Kd.int .i64) (Kd.pair Kd.bool (Kd.pair Kd.bool Kd.bool))))) (fun x : S24 => (x.f0, x.f1, x.f2, x.f3, x.f4)) (fun a => ⟨a.1, a.2.1, a.2.2.1, a.2.2.2.1, a.2.2.2.2⟩) (fun _ => rfl) (fit_struct (fs := _) Try.underlying24 (by kernel_rfl) (fits_cons rfl (fit_int Try.underlying2 (by kernel_rfl)) (fits_cons rfl (fit_int Try.underlying2 (by kernel_rfl)) (fits_cons rfl (fit_bool Try.underlying4 (by kernel_rfl)) (fits_cons rfl (fit_bool Try.underlying4 (by kernel_rfl)) (fits_one rfl (fit_bool Try.underlying4 (by kernel_rfl))))))))
def Good60 (x : S60) : Prop := ((Lit.int .i64 x.f0).wf = true) ∧ (Good24 x.f1) ∧ ((Lit.int .i64 x.f2).wf = true)
theorem fit_k60 {H : Type} {enc : TypeId × Value → H} {w : World} : Fit enc Try.prog w 60 k60 Good60 :=
  fit_iso (d := (Kd.pair (Kd.int .i64) (Kd.pair k24 (Kd.int .i64)))) (fun x : S60 => (x.f0, x.f1, x.f2)) (fun a => ⟨a.1, a.2.1, a.2.2⟩) (fun _ => rfl) (fit_struct (fs := _) Try.underlying60 (by kernel_rfl) (fits_cons rfl (fit_int Try.underlying2 (by kernel_rfl)) (fits_cons rfl fit_k24 (fits_one rfl (fit_int Try.underlying2 (by kernel_rfl))))))
def laws_FnExactResized.Aim : Prop := ∀ (a0_0 : Int) (l0_1 : (List (List S60))) (a1 : Int) (a2 : Int), ((Lit.int .i64 a0_0).wf = true) → (l0_1.length ≤ maxLen ∧ ∀ a_ ∈ l0_1, (a_.length ≤ maxLen ∧ ∀ b_ ∈ a_, Good60 b_)) → (Lit.int .i64 a1).wf = true → (Lit.int .i64 a2).wf = true → ∃ k, laws_FnExactResized.f k a0_0 l0_1 a1 a2 = some true
end Go.Proofs.Ytfhkpneffmcdbaa.QE
