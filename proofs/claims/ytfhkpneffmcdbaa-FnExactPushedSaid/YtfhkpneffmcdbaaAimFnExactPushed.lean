/- The plain statement of the law FnExactPushed: what is to be proved of its Lean function; and how its arguments are read. No condition. Made by wip/tools/row.py. -/
import Derived.Test.YtfhkpneffmcdbaaQDx24
import Derived.Test.YtfhkpneffmcdbaaOpensQD
namespace Go.Proofs.Ytfhkpneffmcdbaa.QD
open Go.RowKit Go.Proofs.YtfhkpneffmcdbaaW.PrintWords Go.Proofs.YtfhkpneffmcdbaaW.PrintLast Go.Proofs.Ytfhkpneffmcdbaa.Opens
def Good24 (x : S24) : Prop := ((Lit.int .i64 x.f0).wf = true) ∧ ((Lit.int .i64 x.f1).wf = true) ∧ True ∧ True ∧ True
theorem fit_k24 {H : Type} {enc : TypeId × Value → H} {w : World} : Fit enc Try.prog w 24 k24 Good24 :=
  fit_iso (d := (Kd.pair (Kd.int .i64) (Kd.pair (Kd.int .i64) (Kd.pair Kd.bool (Kd.pair Kd.bool Kd.bool))))) (fun x : S24 => (x.f0, x.f1, x.f2, x.f3, x.f4)) (fun a => ⟨a.1, a.2.1, a.2.2.1, a.2.2.2.1, a.2.2.2.2⟩) (fun _ => rfl) (fit_struct (fs := _) Try.underlying24 (by kernel_rfl) (fits_cons rfl (fit_int Try.underlying2 (by kernel_rfl)) (fits_cons rfl (fit_int Try.underlying2 (by kernel_rfl)) (fits_cons rfl (fit_bool Try.underlying4 (by kernel_rfl)) (fits_cons rfl (fit_bool Try.underlying4 (by kernel_rfl)) (fits_one rfl (fit_bool Try.underlying4 (by kernel_rfl))))))))
def Good60 (x : S60) : Prop := ((Lit.int .i64 x.f0).wf = true) ∧ (Good24 x.f1) ∧ ((Lit.int .i64 x.f2).wf = true)
theorem fit_k60 {H : Type} {enc : TypeId × Value → H} {w : World} : Fit enc Try.prog w 60 k60 Good60 :=
  fit_iso (d := (Kd.pair (Kd.int .i64) (Kd.pair k24 (Kd.int .i64)))) (fun x : S60 => (x.f0, x.f1, x.f2)) (fun a => ⟨a.1, a.2.1, a.2.2⟩) (fun _ => rfl) (fit_struct (fs := _) Try.underlying60 (by kernel_rfl) (fits_cons rfl (fit_int Try.underlying2 (by kernel_rfl)) (fits_cons rfl fit_k24 (fits_one rfl (fit_int Try.underlying2 (by kernel_rfl))))))
def laws_FnExactPushed.Aim : Prop := ∀ (l0 : (List S60)) (a1 : Int) (a2 : Int) (a3_0 : Int) (a3_1 : Int) (a3_2 : Bool) (a3_3 : Bool) (a3_4 : Bool), (l0.length ≤ maxLen ∧ ∀ a_ ∈ l0, Good60 a_) → (Lit.int .i64 a1).wf = true → (Lit.int .i64 a2).wf = true → ((Lit.int .i64 a3_0).wf = true) → ((Lit.int .i64 a3_1).wf = true) → ∃ k, laws_FnExactPushed.f k l0 a1 a2 a3_0 a3_1 a3_2 a3_3 a3_4 = some true
end Go.Proofs.Ytfhkpneffmcdbaa.QD
