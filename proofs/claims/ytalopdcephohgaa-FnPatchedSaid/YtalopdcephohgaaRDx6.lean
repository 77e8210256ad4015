/- Contracts of Go functions that laws of this seat reach: each Lean function answers as its Go function does. No condition. Written by wip/tools/inj.py, over the kit's print. -/
import Derived.Test.YtalopdcephohgaaRDx0
namespace Go.Proofs.Ytalopdcephohgaa.RD
open Go.RowKit Go.Proofs.YtalopdcephohgaaW.PrintWords Go.Proofs.YtalopdcephohgaaW.PrintLast Go.Proofs.YtalopdcephohgaaW.PrintMore
attribute [local go_sem] max2_int min2_int max_two min_two max_three min_three max_four min_four   -- for this text's walks alone
set_option linter.unusedVariables false
set_option linter.unusedSimpArgs false

/-! ### spec_l1Max: function 97 -/
def spec_l1Max.f (a0 : Int) (a1 : Int) : Option (Int) := if a0 > a1 then (some a0) else (some a1)
set_option maxHeartbeats 8000000 in
set_option maxRecDepth 100000 in
theorem spec_l1Max.calls (a0 : Int) (a1 : Int) (r : Int) (w : World) (h : spec_l1Max.f a0 a1 = some r) :
  Calls Try.prog 97 #[.int .i64 a0, .int .i64 a1] w fun e w' => e = .returned (.int .i64 r) ∧ Drawn0 w w' := by
 (
have H : (if a0 > a1 then (some a0) else (some a1)) = some r := h
clear h
by_cases c3 : a0 > a1
·(
rw [if_pos c3] at H
have a8 : decide (a1 < a0) = true := decide_eq_true c3
clear c3
obtain rfl := Option.some.inj H
go_enter Try.func97, Try.ntmps97
go_wp2
go_ret
exact ⟨sd, dw⟩
)
·(
rw [if_neg c3] at H
have a8 : decide (a1 < a0) = false := decide_eq_false c3
clear c3
obtain rfl := Option.some.inj H
go_enter Try.func97, Try.ntmps97
go_wp2
go_ret
exact ⟨sd, dw⟩
)
)

/-! ### spec_l4Blank: function 121 -/
def spec_l4Blank.f (a8 : Int) (a9 : Int) (aa : Bool) (ac : Bool) (ae : Bool) : Option (Int × Int × Int × Bool × Bool × Bool × Int) := some (32, a8, a9, aa, ac, ae, 0)
set_option maxHeartbeats 8000000 in
set_option maxRecDepth 100000 in
theorem spec_l4Blank.calls (aa : Int) (ac : Int) (ae : Bool) (af : Bool) (ag : Bool) (r1 : Int) (r2 : Int) (r3 : Int) (r4 : Bool) (r5 : Bool) (r6 : Bool) (r7 : Int) (w : World) (h : spec_l4Blank.f aa ac ae af ag = some (r1, r2, r3, r4, r5, r6, r7)) :
  Calls Try.prog 121 #[.agg #[.int .i64 aa, .int .i64 ac, .bool ae, .bool af, .bool ag]] w fun e w' => e = .returned (.agg #[.int .i64 r1, .int .i64 r2, .int .i64 r3, .bool r4, .bool r5, .bool r6, .int .i64 r7]) ∧ Below w.heap.size w w' := by
 (
have au := Try.underlying96
have av := Try.underlying98
have HB := am (Below.refl w.heap.size w)
have H : (some (32, aa, ac, ae, af, ag, 0)) = some (r1, r2, r3, r4, r5, r6, r7) := h
clear h
simp only [Option.some.injEq, Prod.mk.injEq] at H
obtain ⟨rfl, rfl, rfl, rfl, rfl, rfl, rfl⟩ := H
go_enter Try.func121, Try.ntmps121
go_wp2_with (first | (refine bx 1 #[.int .i64 aa, .int .i64 ac, .bool ae, .bool af, .bool ag] 96 ?_; intro aq hg w2 hbox hb; have a9 := am (hbox); have ai := am (gw hg (rb HB)); have ao := ai; replace HB := bs HB hb; clear hb hbox hg) | (refine bx 2 #[.int .i64 0, .int .i64 0, .int .i64 0, .bool false, .bool false, .bool false, .int .i64 0] 98 ?_; intro ak hg w3 hbox hb; have ah := am (hbox); have aj := am (gw hg (rb HB)); have ap := aj; replace HB := bs HB hb; have a8 := am (nl hg (rk a9)); have al := ns a8; replace a9 := kk a9 hb; clear hb hbox hg; have ax := nN a8; have ay := z5 a9; have az := z7 ah))
refine bodyPost_ret (results_cell_row rfl _ _ ak 98 #[.int .i64 32, .int .i64 aa, .int .i64 ac, .bool ae, .bool af, .bool ag, .int .i64 0] (0, 0) _ rfl (rk ah) Try.underlying98 rfl (by kernel_rfl)) rfl ?_
exact ⟨ew, rb HB⟩
)

end Go.Proofs.Ytalopdcephohgaa.RD
