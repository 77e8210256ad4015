/- The plain statement of the law FnExactGridText: what is to be proved of its Lean function; and how its arguments are read. No condition. Made by wip/tools/row.py. -/
import Derived.Test.YtepeanpoicefdaaDoorPAx19
import Derived.Test.YtepeanpoicefdaaDoorOpensPA
namespace Go.Proofs.YtepeanpoicefdaaDoor.PA
open Go.RowKit Go.Proofs.YtepeanpoicefdaaDoorW.PrintWords Go.Proofs.YtepeanpoicefdaaDoorW.PrintLast Go.Proofs.YtepeanpoicefdaaDoor.Opens
def Good106 (x : S106) : Prop := ((Lit.int .i64 x.f0).wf = true) ∧ ((Lit.int .i64 x.f1).wf = true) ∧ True ∧ True ∧ True
theorem fit_k106 {H : Type} {enc : TypeId × Value → H} {w : World} : Fit enc Tryd.prog w 106 k106 Good106 :=
  fit_iso (d := (Kd.pair (Kd.int .i64) (Kd.pair (Kd.int .i64) (Kd.pair Kd.bool (Kd.pair Kd.bool Kd.bool))))) (fun x : S106 => (x.f0, x.f1, x.f2, x.f3, x.f4)) (fun a => ⟨a.1, a.2.1, a.2.2.1, a.2.2.2.1, a.2.2.2.2⟩) (fun _ => rfl) (fit_struct (fs := _) Tryd.underlying106 (by kernel_rfl) (fits_cons rfl (fit_int Tryd.underlying2 (by kernel_rfl)) (fits_cons rfl (fit_int Tryd.underlying2 (by kernel_rfl)) (fits_cons rfl (fit_bool Tryd.underlying4 (by kernel_rfl)) (fits_cons rfl (fit_bool Tryd.underlying4 (by kernel_rfl)) (fits_one rfl (fit_bool Tryd.underlying4 (by kernel_rfl))))))))
def Good108 (x : S108) : Prop := ((Lit.int .i64 x.f0).wf = true) ∧ (Good106 x.f1) ∧ ((Lit.int .i64 x.f2).wf = true)
theorem fit_k108 {H : Type} {enc : TypeId × Value → H} {w : World} : Fit enc Tryd.prog w 108 k108 Good108 :=
  fit_iso (d := (Kd.pair (Kd.int .i64) (Kd.pair k106 (Kd.int .i64)))) (fun x : S108 => (x.f0, x.f1, x.f2)) (fun a => ⟨a.1, a.2.1, a.2.2⟩) (fun _ => rfl) (fit_struct (fs := _) Tryd.underlying108 (by kernel_rfl) (fits_cons rfl (fit_int Tryd.underlying2 (by kernel_rfl)) (fits_cons rfl fit_k106 (fits_one rfl (fit_int Tryd.underlying2 (by kernel_rfl))))))
def laws_FnExactGridText.Aim : Prop := ∀ (a0_0 : Int) (l0_1 : (List (List S108))), ((Lit.int .i64 a0_0).wf = true) → (l0_1.length ≤ maxLen ∧ ∀ a_ ∈ l0_1, (a_.length ≤ maxLen ∧ ∀ b_ ∈ a_, Good108 b_)) → ∃ k, laws_FnExactGridText.f k a0_0 l0_1 = some true
end Go.Proofs.YtepeanpoicefdaaDoor.PA
