/- Contracts of Go functions that laws of this seat reach: each Lean function answers as its Go function does. No condition. Written by wip/tools/inj.py, over the kit's print. -/
import Derived.Test.YtalopdcephohgaaRBx0
namespace Go.Proofs.Ytalopdcephohgaa.RB
open Go.RowKit Go.Proofs.YtalopdcephohgaaW.PrintWords Go.Proofs.YtalopdcephohgaaW.PrintLast Go.Proofs.YtalopdcephohgaaW.PrintMore
attribute [local go_sem] max2_int min2_int max_two min_two max_three min_three max_four min_four   -- for this text's walks alone
set_option linter.unusedVariables false
set_option linter.unusedSimpArgs false

/-! ### laws_toStyle: function 136 -/
def laws_toStyle.f (a0_0 : Int) (a0_1 : Int) (a0_2 : Bool) (a0_3 : Bool) (a0_4 : Bool) : Option (Int × Int × Bool × Bool × Bool) := some (a0_0, a0_1, a0_2, a0_3, a0_4)
set_option maxHeartbeats 8000000 in
set_option maxRecDepth 100000 in
theorem laws_toStyle.calls (a0_0 : Int) (a0_1 : Int) (a0_2 : Bool) (a0_3 : Bool) (a0_4 : Bool) (r1 : Int) (r2 : Int) (r3 : Bool) (r4 : Bool) (r5 : Bool) (w : World) (h : laws_toStyle.f a0_0 a0_1 a0_2 a0_3 a0_4 = some (r1, r2, r3, r4, r5)) :
  Calls Try.prog 136 #[.agg #[.int .i64 a0_0, .int .i64 a0_1, .bool a0_2, .bool a0_3, .bool a0_4]] w fun e w' => e = .returned (.agg #[.int .i64 r1, .int .i64 r2, .bool r3, .bool r4, .bool r5]) ∧ Below w.heap.size w w' := by
 (
have hu149 := Try.underlying149
have hu96 := Try.underlying96
have HB := am (Below.refl w.heap.size w)
have H : (some (a0_0, a0_1, a0_2, a0_3, a0_4)) = some (r1, r2, r3, r4, r5) := h
clear h
simp only [Option.some.injEq, Prod.mk.injEq] at H
obtain ⟨rfl, rfl, rfl, rfl, rfl⟩ := H
go_enter Try.func136, Try.ntmps136
go_wp2_with (first | ((with_reducible refine gate_dst (N := 1) rfl ?_); refine box_event ?hg (N := 1) ?hd (cs := #[.int .i64 a0_0, .int .i64 a0_1, .bool a0_2, .bool a0_3, .bool a0_4]) (t := 149) ?hr ?_; (case hd => rfl); (case hg => rfl); (case hr => first | (go_simp; done) | (go_simp; rfl)); intro gb288 hg w2 hbox hb; have BK288 := am (hbox); have GW288 := am (gw hg (rb HB)); have GE288 := GW288; replace HB := am (below_step (rb HB) hb); clear hb hbox hg) | ((with_reducible refine gate_dst (N := 2) rfl ?_); refine box_event ?hg (N := 2) ?hd (cs := #[.int .i64 0, .int .i64 0, .bool false, .bool false, .bool false]) (t := 96) ?hr ?_; (case hd => rfl); (case hg => rfl); (case hr => first | (go_simp; done) | (go_simp; rfl)); intro gb289 hg w3 hbox hb; have BK289 := am (hbox); have GW289 := am (gw hg (rb1 HB GE288)); have GE289 := GW289; replace HB := am (below_step (rb1 HB GE288) hb); have NB288_289 := am (nl hg (rk BK288)); have NB289_288 := am (ng hg (rk BK288)); replace BK288 := am (blk_below (rk BK288) hb); clear hb hbox hg) | ((with_reducible refine gate_dst (N := 3) rfl ?_); refine box_event ?hg (N := 3) ?hd (cs := #[.int .i64 0, .int .i64 0, .bool false, .bool false, .bool false]) (t := 96) ?hr ?_; (case hd => rfl); (case hg => rfl); (case hr => first | (go_simp; done) | (go_simp; rfl)); intro gb290 hg w4 hbox hb; have BK290 := am (hbox); have GW290 := am (gw hg (rb2 HB GE288 GE289)); have GE290 := GW290; replace HB := am (below_step (rb2 HB GE288 GE289) hb); have NB288_290 := am (nl hg (rk BK288)); have NB290_288 := am (ng hg (rk BK288)); replace BK288 := am (blk_below (rk BK288) hb); have NB289_290 := am (nl hg (rk BK289)); have NB290_289 := am (ng hg (rk BK289)); replace BK289 := am (blk_below (rk BK289) hb); clear hb hbox hg; have hnb5 := NB288_289.out; have hnc5 := NB289_288.out; have hnb6 := NB288_290.out; have hnc6 := NB290_288.out; have hcz7_0 : w4.cell? ⟨gb288, 0, none⟩ = some (.int .i64 a0_0) := (blk_cell BK288.out 0).trans rfl; have hcz7_1 : w4.cell? ⟨gb288, 1, none⟩ = some (.int .i64 a0_1) := (blk_cell BK288.out 1).trans rfl; have hcz7_2 : w4.cell? ⟨gb288, 2, none⟩ = some (.bool a0_2) := (blk_cell BK288.out 2).trans rfl; have hcz7_3 : w4.cell? ⟨gb288, 3, none⟩ = some (.bool a0_3) := (blk_cell BK288.out 3).trans rfl; have hcz7_4 : w4.cell? ⟨gb288, 4, none⟩ = some (.bool a0_4) := (blk_cell BK288.out 4).trans rfl; have hfz7_0 := blk_frozen BK288.out 0; have hfz7_1 := blk_frozen BK288.out 1; have hfz7_2 := blk_frozen BK288.out 2; have hfz7_3 := blk_frozen BK288.out 3; have hfz7_4 := blk_frozen BK288.out 4; have hnb8 := NB290_289.out; have hnc8 := NB289_290.out; have hcz9_0 : w4.cell? ⟨gb290, 0, none⟩ = some (.int .i64 0) := (blk_cell BK290.out 0).trans rfl; have hcz9_1 : w4.cell? ⟨gb290, 1, none⟩ = some (.int .i64 0) := (blk_cell BK290.out 1).trans rfl; have hcz9_2 : w4.cell? ⟨gb290, 2, none⟩ = some (.bool false) := (blk_cell BK290.out 2).trans rfl; have hcz9_3 : w4.cell? ⟨gb290, 3, none⟩ = some (.bool false) := (blk_cell BK290.out 3).trans rfl; have hcz9_4 : w4.cell? ⟨gb290, 4, none⟩ = some (.bool false) := (blk_cell BK290.out 4).trans rfl; have hfz9_0 := blk_frozen BK290.out 0; have hfz9_1 := blk_frozen BK290.out 1; have hfz9_2 := blk_frozen BK290.out 2; have hfz9_3 := blk_frozen BK290.out 3; have hfz9_4 := blk_frozen BK290.out 4; have hcz10_0 : w4.cell? ⟨gb289, 0, none⟩ = some (.int .i64 0) := (blk_cell BK289.out 0).trans rfl; have hcz10_1 : w4.cell? ⟨gb289, 1, none⟩ = some (.int .i64 0) := (blk_cell BK289.out 1).trans rfl; have hcz10_2 : w4.cell? ⟨gb289, 2, none⟩ = some (.bool false) := (blk_cell BK289.out 2).trans rfl; have hcz10_3 : w4.cell? ⟨gb289, 3, none⟩ = some (.bool false) := (blk_cell BK289.out 3).trans rfl; have hcz10_4 : w4.cell? ⟨gb289, 4, none⟩ = some (.bool false) := (blk_cell BK289.out 4).trans rfl; have hfz10_0 := blk_frozen BK289.out 0; have hfz10_1 := blk_frozen BK289.out 1; have hfz10_2 := blk_frozen BK289.out 2; have hfz10_3 := blk_frozen BK289.out 3; have hfz10_4 := blk_frozen BK289.out 4))
refine bodyPost_ret (results_cell_row rfl _ _ gb289 96 #[.int .i64 a0_0, .int .i64 a0_1, .bool a0_2, .bool a0_3, .bool a0_4] (0, 0) _ rfl (by (with_reducible repeat (first | apply k1 | apply k2 | apply k3)); refine blk_put (cs := #[.int .i64 a0_0, .int .i64 a0_1, .bool a0_2, .bool a0_3, .bool false]) ?_ 4 _ rfl; (with_reducible repeat (first | apply k1 | apply k2 | apply k3)); refine blk_put (cs := #[.int .i64 a0_0, .int .i64 a0_1, .bool a0_2, .bool false, .bool false]) ?_ 3 _ rfl; (with_reducible repeat (first | apply k1 | apply k2 | apply k3)); refine blk_put (cs := #[.int .i64 a0_0, .int .i64 a0_1, .bool false, .bool false, .bool false]) ?_ 2 _ rfl; (with_reducible repeat (first | apply k1 | apply k2 | apply k3)); refine blk_put (cs := #[.int .i64 a0_0, .int .i64 0, .bool false, .bool false, .bool false]) ?_ 1 _ rfl; (with_reducible repeat (first | apply k1 | apply k2 | apply k3)); refine blk_put (cs := #[.int .i64 0, .int .i64 0, .bool false, .bool false, .bool false]) ?_ 0 _ rfl; (with_reducible repeat (first | apply k1 | apply k2 | apply k3)); refine blk_far ?_ NB289_290.out _; (with_reducible repeat (first | apply k1 | apply k2 | apply k3)); refine blk_far ?_ NB289_290.out _; (with_reducible repeat (first | apply k1 | apply k2 | apply k3)); refine blk_far ?_ NB289_290.out _; (with_reducible repeat (first | apply k1 | apply k2 | apply k3)); refine blk_far ?_ NB289_290.out _; (with_reducible repeat (first | apply k1 | apply k2 | apply k3)); refine blk_far ?_ NB289_290.out _; (with_reducible repeat (first | apply k1 | apply k2 | apply k3)); exact BK289.out) Try.underlying96 rfl (by kernel_rfl)) rfl ?_
exact ⟨by first | rfl | (simp [errW_none, errW_some] <;> rfl) | (simp [*, errW_none, errW_some] <;> rfl), rb3 HB GE288 GE289 GE290⟩
)

/-! ### laws_toCell: function 122 -/
def laws_toCell.f (a0_0 : Int) (a0_1 : Int) (a0_2 : Int) (a0_3 : Bool) (a0_4 : Bool) (a0_5 : Bool) (a0_6 : Int) : Option (Int × Int × Int × Bool × Bool × Bool × Int) := (laws_toStyle.f a0_1 a0_2 a0_3 a0_4 a0_5).bind fun bt294 => (some (a0_0, bt294.1, bt294.2.1, bt294.2.2.1, bt294.2.2.2.1, bt294.2.2.2.2, a0_6))
set_option maxHeartbeats 8000000 in
set_option maxRecDepth 100000 in
theorem laws_toCell.calls (a0_0 : Int) (a0_1 : Int) (a0_2 : Int) (a0_3 : Bool) (a0_4 : Bool) (a0_5 : Bool) (a0_6 : Int) (r1 : Int) (r2 : Int) (r3 : Int) (r4 : Bool) (r5 : Bool) (r6 : Bool) (r7 : Int) (w : World) (h : laws_toCell.f a0_0 a0_1 a0_2 a0_3 a0_4 a0_5 a0_6 = some (r1, r2, r3, r4, r5, r6, r7)) :
  Calls Try.prog 122 #[.agg #[.int .i64 a0_0, .int .i64 a0_1, .int .i64 a0_2, .bool a0_3, .bool a0_4, .bool a0_5, .int .i64 a0_6]] w fun e w' => e = .returned (.agg #[.int .i64 r1, .int .i64 r2, .int .i64 r3, .bool r4, .bool r5, .bool r6, .int .i64 r7]) ∧ Below w.heap.size w w' := by
 (
have hu151 := Try.underlying151
have hu98 := Try.underlying98
have hu149 := Try.underlying149
have hu96 := Try.underlying96
have HB := am (Below.refl w.heap.size w)
have H := h
unfold laws_toCell.f at H
clear h
replace H := Option.bind_eq_some_iff.mp H
obtain ⟨⟨t294, t295, t296, t297, t298⟩, A20, H⟩ := H
(try dsimp only at H)
have A2 := am A20
clear A20
simp only [Option.some.injEq, Prod.mk.injEq] at H
obtain ⟨rfl, rfl, rfl, rfl, rfl, rfl, rfl⟩ := H
go_enter Try.func122, Try.ntmps122
go_wp2_with (first | ((with_reducible refine gate_dst (N := 1) rfl ?_); refine box_event ?hg (N := 1) ?hd (cs := #[.int .i64 a0_0, .int .i64 a0_1, .int .i64 a0_2, .bool a0_3, .bool a0_4, .bool a0_5, .int .i64 a0_6]) (t := 151) ?hr ?_; (case hd => rfl); (case hg => rfl); (case hr => first | (go_simp; done) | (go_simp; rfl)); intro gb291 hg w3 hbox hb; have BK291 := am (hbox); have GW291 := am (gw hg (rb HB)); have GE291 := GW291; replace HB := am (below_step (rb HB) hb); clear hb hbox hg) | ((with_reducible refine gate_dst (N := 2) rfl ?_); refine box_event ?hg (N := 2) ?hd (cs := #[.int .i64 0, .int .i64 0, .int .i64 0, .bool false, .bool false, .bool false, .int .i64 0]) (t := 98) ?hr ?_; (case hd => rfl); (case hg => rfl); (case hr => first | (go_simp; done) | (go_simp; rfl)); intro gb292 hg w4 hbox hb; have BK292 := am (hbox); have GW292 := am (gw hg (rb1 HB GE291)); have GE292 := GW292; replace HB := am (below_step (rb1 HB GE291) hb); have NB291_292 := am (nl hg (rk BK291)); have NB292_291 := am (ng hg (rk BK291)); replace BK291 := am (blk_below (rk BK291) hb); clear hb hbox hg) | ((with_reducible refine gate_dst (N := 3) rfl ?_); refine box_event ?hg (N := 3) ?hd (cs := #[.int .i64 0, .int .i64 0, .int .i64 0, .bool false, .bool false, .bool false, .int .i64 0]) (t := 98) ?hr ?_; (case hd => rfl); (case hg => rfl); (case hr => first | (go_simp; done) | (go_simp; rfl)); intro gb293 hg w5 hbox hb; have BK293 := am (hbox); have GW293 := am (gw hg (rb2 HB GE291 GE292)); have GE293 := GW293; replace HB := am (below_step (rb2 HB GE291 GE292) hb); have NB291_293 := am (nl hg (rk BK291)); have NB293_291 := am (ng hg (rk BK291)); replace BK291 := am (blk_below (rk BK291) hb); have NB292_293 := am (nl hg (rk BK292)); have NB293_292 := am (ng hg (rk BK292)); replace BK292 := am (blk_below (rk BK292) hb); clear hb hbox hg; have hnb6 := NB291_292.out; have hnc6 := NB292_291.out; have hnb7 := NB291_293.out; have hnc7 := NB293_291.out; have hcz8_0 : w5.cell? ⟨gb291, 0, none⟩ = some (.int .i64 a0_0) := (blk_cell BK291.out 0).trans rfl; have hcz8_1 : w5.cell? ⟨gb291, 1, none⟩ = some (.int .i64 a0_1) := (blk_cell BK291.out 1).trans rfl; have hcz8_2 : w5.cell? ⟨gb291, 2, none⟩ = some (.int .i64 a0_2) := (blk_cell BK291.out 2).trans rfl; have hcz8_3 : w5.cell? ⟨gb291, 3, none⟩ = some (.bool a0_3) := (blk_cell BK291.out 3).trans rfl; have hcz8_4 : w5.cell? ⟨gb291, 4, none⟩ = some (.bool a0_4) := (blk_cell BK291.out 4).trans rfl; have hcz8_5 : w5.cell? ⟨gb291, 5, none⟩ = some (.bool a0_5) := (blk_cell BK291.out 5).trans rfl; have hcz8_6 : w5.cell? ⟨gb291, 6, none⟩ = some (.int .i64 a0_6) := (blk_cell BK291.out 6).trans rfl; have hfz8_0 := blk_frozen BK291.out 0; have hfz8_1 := blk_frozen BK291.out 1; have hfz8_2 := blk_frozen BK291.out 2; have hfz8_3 := blk_frozen BK291.out 3; have hfz8_4 := blk_frozen BK291.out 4; have hfz8_5 := blk_frozen BK291.out 5; have hfz8_6 := blk_frozen BK291.out 6; have hnb9 := NB293_292.out; have hnc9 := NB292_293.out; have hcz10_0 : w5.cell? ⟨gb293, 0, none⟩ = some (.int .i64 0) := (blk_cell BK293.out 0).trans rfl; have hcz10_1 : w5.cell? ⟨gb293, 1, none⟩ = some (.int .i64 0) := (blk_cell BK293.out 1).trans rfl; have hcz10_2 : w5.cell? ⟨gb293, 2, none⟩ = some (.int .i64 0) := (blk_cell BK293.out 2).trans rfl; have hcz10_3 : w5.cell? ⟨gb293, 3, none⟩ = some (.bool false) := (blk_cell BK293.out 3).trans rfl; have hcz10_4 : w5.cell? ⟨gb293, 4, none⟩ = some (.bool false) := (blk_cell BK293.out 4).trans rfl; have hcz10_5 : w5.cell? ⟨gb293, 5, none⟩ = some (.bool false) := (blk_cell BK293.out 5).trans rfl; have hcz10_6 : w5.cell? ⟨gb293, 6, none⟩ = some (.int .i64 0) := (blk_cell BK293.out 6).trans rfl; have hfz10_0 := blk_frozen BK293.out 0; have hfz10_1 := blk_frozen BK293.out 1; have hfz10_2 := blk_frozen BK293.out 2; have hfz10_3 := blk_frozen BK293.out 3; have hfz10_4 := blk_frozen BK293.out 4; have hfz10_5 := blk_frozen BK293.out 5; have hfz10_6 := blk_frozen BK293.out 6) | ((with_reducible refine gate_callee (f := 136) rfl ?_); refine gl_ (some 9) Try.func136 #[.agg #[.int .i64 a0_1, .int .i64 a0_2, .bool a0_3, .bool a0_4, .bool a0_5]] ?_; (with_reducible refine (laws_toStyle.calls a0_1 a0_2 a0_3 a0_4 a0_5 t294 t295 t296 t297 t298 _ A2.out).mono ?_); rintro e w11 ⟨rfl, hb⟩; refine ⟨_, rfl, ?_⟩; replace BK291 := am (blk_below (g := gb291) (o := .cells #[.int .i64 a0_0, .int .i64 a0_1, .int .i64 a0_2, .bool a0_3, .bool a0_4, .bool a0_5, .int .i64 a0_6] 151 (0, 0)) (rf1 NB291_293 BK291) hb); replace BK292 := am (blk_below (g := gb292) (o := .cells #[.int .i64 0, .int .i64 0, .int .i64 0, .bool false, .bool false, .bool false, .int .i64 0] 98 (0, 0)) (rf1 NB292_293 BK292) hb); replace BK293 := am (blk_below (g := gb293) (o := .cells #[.int .i64 a0_0, .int .i64 0, .int .i64 0, .bool false, .bool false, .bool false, .int .i64 0] 98 (0, 0)) (rp_0 BK293) hb); replace HB := am (below_step (rb3 HB GE291 GE292 GE293) hb); (try clear hb); (try clear hb2); (try clear hk); (try clear hi); have hcz12_0 : w11.cell? ⟨gb293, 0, none⟩ = some (.int .i64 a0_0) := (blk_cell BK293.out 0).trans rfl; have hcz12_1 : w11.cell? ⟨gb293, 1, none⟩ = some (.int .i64 0) := (blk_cell BK293.out 1).trans rfl; have hcz12_2 : w11.cell? ⟨gb293, 2, none⟩ = some (.int .i64 0) := (blk_cell BK293.out 2).trans rfl; have hcz12_3 : w11.cell? ⟨gb293, 3, none⟩ = some (.bool false) := (blk_cell BK293.out 3).trans rfl; have hcz12_4 : w11.cell? ⟨gb293, 4, none⟩ = some (.bool false) := (blk_cell BK293.out 4).trans rfl; have hcz12_5 : w11.cell? ⟨gb293, 5, none⟩ = some (.bool false) := (blk_cell BK293.out 5).trans rfl; have hcz12_6 : w11.cell? ⟨gb293, 6, none⟩ = some (.int .i64 0) := (blk_cell BK293.out 6).trans rfl; have hfz12_0 := blk_frozen BK293.out 0; have hfz12_1 := blk_frozen BK293.out 1; have hfz12_2 := blk_frozen BK293.out 2; have hfz12_3 := blk_frozen BK293.out 3; have hfz12_4 := blk_frozen BK293.out 4; have hfz12_5 := blk_frozen BK293.out 5; have hfz12_6 := blk_frozen BK293.out 6; have hcz13_0 : w11.cell? ⟨gb291, 0, none⟩ = some (.int .i64 a0_0) := (blk_cell BK291.out 0).trans rfl; have hcz13_1 : w11.cell? ⟨gb291, 1, none⟩ = some (.int .i64 a0_1) := (blk_cell BK291.out 1).trans rfl; have hcz13_2 : w11.cell? ⟨gb291, 2, none⟩ = some (.int .i64 a0_2) := (blk_cell BK291.out 2).trans rfl; have hcz13_3 : w11.cell? ⟨gb291, 3, none⟩ = some (.bool a0_3) := (blk_cell BK291.out 3).trans rfl; have hcz13_4 : w11.cell? ⟨gb291, 4, none⟩ = some (.bool a0_4) := (blk_cell BK291.out 4).trans rfl; have hcz13_5 : w11.cell? ⟨gb291, 5, none⟩ = some (.bool a0_5) := (blk_cell BK291.out 5).trans rfl; have hcz13_6 : w11.cell? ⟨gb291, 6, none⟩ = some (.int .i64 a0_6) := (blk_cell BK291.out 6).trans rfl; have hfz13_0 := blk_frozen BK291.out 0; have hfz13_1 := blk_frozen BK291.out 1; have hfz13_2 := blk_frozen BK291.out 2; have hfz13_3 := blk_frozen BK291.out 3; have hfz13_4 := blk_frozen BK291.out 4; have hfz13_5 := blk_frozen BK291.out 5; have hfz13_6 := blk_frozen BK291.out 6; have hcz14_0 : w11.cell? ⟨gb292, 0, none⟩ = some (.int .i64 0) := (blk_cell BK292.out 0).trans rfl; have hcz14_1 : w11.cell? ⟨gb292, 1, none⟩ = some (.int .i64 0) := (blk_cell BK292.out 1).trans rfl; have hcz14_2 : w11.cell? ⟨gb292, 2, none⟩ = some (.int .i64 0) := (blk_cell BK292.out 2).trans rfl; have hcz14_3 : w11.cell? ⟨gb292, 3, none⟩ = some (.bool false) := (blk_cell BK292.out 3).trans rfl; have hcz14_4 : w11.cell? ⟨gb292, 4, none⟩ = some (.bool false) := (blk_cell BK292.out 4).trans rfl; have hcz14_5 : w11.cell? ⟨gb292, 5, none⟩ = some (.bool false) := (blk_cell BK292.out 5).trans rfl; have hcz14_6 : w11.cell? ⟨gb292, 6, none⟩ = some (.int .i64 0) := (blk_cell BK292.out 6).trans rfl; have hfz14_0 := blk_frozen BK292.out 0; have hfz14_1 := blk_frozen BK292.out 1; have hfz14_2 := blk_frozen BK292.out 2; have hfz14_3 := blk_frozen BK292.out 3; have hfz14_4 := blk_frozen BK292.out 4; have hfz14_5 := blk_frozen BK292.out 5; have hfz14_6 := blk_frozen BK292.out 6))
refine bodyPost_ret (results_cell_row rfl _ _ gb292 98 #[.int .i64 a0_0, .int .i64 t294, .int .i64 t295, .bool t296, .bool t297, .bool t298, .int .i64 a0_6] (0, 0) _ rfl (by (with_reducible repeat (first | apply k1 | apply k2 | apply k3)); refine blk_put (cs := #[.int .i64 a0_0, .int .i64 t294, .int .i64 t295, .bool t296, .bool t297, .bool t298, .int .i64 0]) ?_ 6 _ rfl; (with_reducible repeat (first | apply k1 | apply k2 | apply k3)); refine blk_put (cs := #[.int .i64 a0_0, .int .i64 t294, .int .i64 t295, .bool t296, .bool t297, .bool false, .int .i64 0]) ?_ 5 _ rfl; (with_reducible repeat (first | apply k1 | apply k2 | apply k3)); refine blk_put (cs := #[.int .i64 a0_0, .int .i64 t294, .int .i64 t295, .bool t296, .bool false, .bool false, .int .i64 0]) ?_ 4 _ rfl; (with_reducible repeat (first | apply k1 | apply k2 | apply k3)); refine blk_put (cs := #[.int .i64 a0_0, .int .i64 t294, .int .i64 t295, .bool false, .bool false, .bool false, .int .i64 0]) ?_ 3 _ rfl; (with_reducible repeat (first | apply k1 | apply k2 | apply k3)); refine blk_put (cs := #[.int .i64 a0_0, .int .i64 t294, .int .i64 0, .bool false, .bool false, .bool false, .int .i64 0]) ?_ 2 _ rfl; (with_reducible repeat (first | apply k1 | apply k2 | apply k3)); refine blk_put (cs := #[.int .i64 a0_0, .int .i64 0, .int .i64 0, .bool false, .bool false, .bool false, .int .i64 0]) ?_ 1 _ rfl; (with_reducible repeat (first | apply k1 | apply k2 | apply k3)); refine blk_put (cs := #[.int .i64 0, .int .i64 0, .int .i64 0, .bool false, .bool false, .bool false, .int .i64 0]) ?_ 0 _ rfl; (with_reducible repeat (first | apply k1 | apply k2 | apply k3)); refine blk_far ?_ NB292_293.out _; (with_reducible repeat (first | apply k1 | apply k2 | apply k3)); refine blk_far ?_ NB292_293.out _; (with_reducible repeat (first | apply k1 | apply k2 | apply k3)); refine blk_far ?_ NB292_293.out _; (with_reducible repeat (first | apply k1 | apply k2 | apply k3)); refine blk_far ?_ NB292_293.out _; (with_reducible repeat (first | apply k1 | apply k2 | apply k3)); refine blk_far ?_ NB292_293.out _; (with_reducible repeat (first | apply k1 | apply k2 | apply k3)); refine blk_far ?_ NB292_293.out _; (with_reducible repeat (first | apply k1 | apply k2 | apply k3)); exact BK292.out) Try.underlying98 rfl (by kernel_rfl)) rfl ?_
exact ⟨by first | rfl | (simp [errW_none, errW_some] <;> rfl) | (simp [*, errW_none, errW_some] <;> rfl), rb3 HB GE291 GE292 GE293⟩
)

/-! ### laws_toCellS: function 101 -/
def laws_toCellS.l0 : Nat → List (S151) → List (S98) → Int → Option ((List (S98)))
 | 0, _, _, _ => none
 | k + 1, x0, x3, x4 => if x4 < (x0.length : Int) then (if 0 ≤ x4 then ((laws_toCell.f ((rd_T151 x0 x4).f0) ((rd_T151 x0 x4).f1.f0) ((rd_T151 x0 x4).f1.f1) ((rd_T151 x0 x4).f1.f2) ((rd_T151 x0 x4).f1.f3) ((rd_T151 x0 x4).f1.f4) ((rd_T151 x0 x4).f2)).bind fun bt303 => (if x4 < (x3.length : Int) then (laws_toCellS.l0 k x0 (x3.set (x4 : Int).toNat (⟨bt303.1, (⟨bt303.2.1, bt303.2.2.1, bt303.2.2.2.1, bt303.2.2.2.2.1, bt303.2.2.2.2.2.1⟩ : S96), bt303.2.2.2.2.2.2⟩ : S98)) (wrap64 (x4 + 1))) else (none))) else (none)) else (some x3)
def laws_toCellS.f (k : Nat) (l0 : List (S151)) : Option ((List (S98))) := if 0 ≤ (l0.length : Int) then (if ((l0.length : Int) : Int).toNat ≤ 7036874417766 then (laws_toCellS.l0 k l0 (List.replicate ((l0.length : Int) : Int).toNat z98) 0) else (none)) else (none)
theorem laws_toCellS.mono_l : ∀ k, (∀ y0 y1 y2, LeO (laws_toCellS.l0 k y0 y1 y2) (laws_toCellS.l0 (k + 1) y0 y1 y2))
 | 0 => fun _ _ _ r h => by simp [laws_toCellS.l0] at h
 | k + 1 => by
  have ih0 := laws_toCellS.mono_l k
  ·intro y0 y1 y2
   unfold laws_toCellS.l0
   repeat' first
   | (with_reducible exact ih0 _ _ _)
   | (with_reducible exact LeO.refl _)
   | (with_reducible exact LeO.none _)
   | (with_reducible refine LeO.ite ?_ ?_)
   | (with_reducible refine LeO.bind ?_ (fun _ => ?_))
theorem laws_toCellS.mono : ∀ a0 k, LeO (laws_toCellS.f k a0) (laws_toCellS.f (k + 1) a0) := by
 intro a0 k
 have ih0 := laws_toCellS.mono_l k
 unfold laws_toCellS.f
 repeat' first
   | (with_reducible exact ih0 _ _ _)
   | (with_reducible exact LeO.refl _)
   | (with_reducible exact LeO.none _)
   | (with_reducible refine LeO.ite ?_ ?_)
   | (with_reducible refine LeO.bind ?_ (fun _ => ?_))
set_option maxHeartbeats 8000000 in
set_option maxRecDepth 100000 in
theorem laws_toCellS.calls (k : Nat) (A0 : Option Addr) (c0 : Nat) (l0 : List (S151)) (r : List (S98)) (w : World) (hr0 : Kd.C k151 w A0 l0.length l0) (hc0 : l0.length ≤ c0) (h : laws_toCellS.f k l0 = some r) :
  Calls Try.prog 101 #[.slice A0 l0.length c0] w fun e w' => ∃ v0_ : Value, e = .returned (v0_) ∧ Kd.R k98 98 w' w.heap.size (fun _ => True) v0_ r ∧ Below w.heap.size w w' := by
 (
have hu151 := Try.underlying151
have hu98 := Try.underlying98
have HR0 := am hr0
have HC0 := am hc0
clear hr0 hc0
have HB := am (Below.refl w.heap.size w)
have H := h
unfold laws_toCellS.f at H
clear h
refine em_ (p := 0 ≤ (l0.length : Int)) (fun c2 => ?g1p) (fun c2 => ?g1n)
case' g1p => (
rw [if_pos c2] at H
have c2b0 := eq_true c2
have c2b1 : decide (0 ≤ (l0.length : Int)) = true := decide_eq_true c2
clear c2
refine em_ (p := ((l0.length : Int) : Int).toNat ≤ 7036874417766) (fun c3 => ?g0p) (fun c3 => ?g0n)
case' g0p => (
rw [if_pos c3] at H
have c3b0 := eq_true c3
have c3b1 : decide (((l0.length : Int) : Int).toNat ≤ 7036874417766) = true := decide_eq_true c3
clear c3
obtain ⟨y299, hy299⟩ : ∃ y_ : List (S98), y_ = (List.replicate ((l0.length : Int) : Int).toNat z98) := ⟨_, rfl⟩
replace H : (laws_toCellS.l0 k l0 y299 0) = some r := by first | (rw [hy299]; with_reducible exact H) | (rw [hy299]; exact H) | exact H
have Ny299 := am hy299
clear hy299
have H' := am H
clear H
have lf1_ := trivial
)
case g0n => (
rw [if_neg c3] at H
exact absurd H (by simp)
)
)
case g1n => (
rw [if_neg c2] at H
exact absurd H (by simp)
)
all_goals (
go_enter Try.func101, Try.ntmps101
go_wp2_with (first | ((with_reducible refine gate_dst (N := 7) rfl ?_); refine Kd.R_make k98 _ 98 rfl (N := 7) rfl 99 _ _ rfl (l0.length : Int) rfl rfl Try.underlying99 (.agg #[(.int .i64 0), (.int .i64 0), (.int .i64 0), (.bool false), (.bool false), (.bool false), (.int .i64 0)]) 40 info98 rfl (by decide) (by omega) z98 (ok := fun _ => True) (okp := fun _ => True) (k98_mkM _ _ _ z98 ) (fun _ hk => hk) trivial dt_ (Nat.le_trans (Nat.mul_le_mul_right _ (dt_ : (l0.length : Int).toNat ≤ 7036874417766)) (by omega)) (Below.refl _ _) (Nat.le_refl _) ?_; intro v300 w4 ho5 hb hg_ hnew_; clear hg_ hnew_; (first | rw [← Ny299.out] at ho5 | (simp only [Int.reduceToNat] at ho5; rw [← Ny299.out] at ho5)); have HO301 := am (Kd.R_lower ho5 (below_size (rb HB))); replace HB := am (below_step (rb HB) hb); clear hb ho5))
go_loopg [4] k (fun kq v4 w' => ∃ (x3_1 : List (S98)) (x4_1 : Int), v4 = .int .i64 x4_1 ∧ Aside0 (laws_toCellS.l0 kq l0 x3_1 x4_1 = some r) ∧ Aside0 (kq ≤ k) ∧ Aside0 (Kd.R k98 98 w' w.heap.size (fun _ => True) v300 x3_1) ∧ Aside0 (Below w.heap.size w w'))
case atStart => exact ⟨(y299), (0), (by first | rfl | (simp; done) | (simp [*]; done)), H', ⟨Nat.le_refl _⟩, ⟨rr HO301⟩, ⟨rb HB⟩⟩
case round => (
clear H'
try clear c1
try clear c2
try clear c2b0
try clear c2b1
try clear p2
try clear c3
try clear c3b0
try clear c3b1
obtain ⟨x3_1, x4_1, rfl, HA, HK1, HO_3, HB⟩ := hrel
cases gk with
| zero => exact absurd HA.out (by simp [laws_toCellS.l0])
| succ k1 => (
have H := HA.out
clear HA
simp only [laws_toCellS.l0] at H
by_cases c6 : x4_1 < (l0.length : Int)
·(
rw [if_pos c6] at H
have c6b0 : decide (x4_1 < (l0.length : Int)) = true := decide_eq_true c6
clear c6
refine em_ (p := 0 ≤ x4_1) (fun c7 => ?g3p) (fun c7 => ?g3n)
case' g3p => (
rw [if_pos c7] at H
have c7b0 : decide (0 ≤ x4_1) = true := decide_eq_true c7
clear c7
replace H := Option.bind_eq_some_iff.mp H
obtain ⟨⟨t303, t304, t305, t306, t307, t308, t309⟩, A80, H⟩ := H
(try dsimp only at H)
have A8 := am A80
clear A80
refine em_ (p := x4_1 < (x3_1.length : Int)) (fun c9 => ?g2p) (fun c9 => ?g2n)
case' g2p => (
rw [if_pos c9] at H
have c9b0 : decide (x4_1 < (x3_1.length : Int)) = true := decide_eq_true c9
clear c9
obtain ⟨y310, hy310⟩ : ∃ y_ : List (S98), y_ = (x3_1.set (x4_1 : Int).toNat (⟨t303, (⟨t304, t305, t306, t307, t308⟩ : S96), t309⟩ : S98)) := ⟨_, rfl⟩
replace H : (laws_toCellS.l0 k1 l0 y310 (wrap64 (x4_1 + 1))) = some r := by first | (rw [hy310]; with_reducible exact H) | (rw [hy310]; exact H) | exact H
have Ny310 := am hy310
clear hy310
have H' := am H
clear H
have lf2_ := trivial
)
case g2n => (
rw [if_neg c9] at H
exact absurd H (by simp)
)
)
case g3n => (
rw [if_neg c7] at H
exact absurd H (by simp)
)
all_goals (
have p302 : 0 ≤ (x4_1 : Int) := dt_
have q302 : x4_1 < (l0.length : Int) := dt_
obtain ⟨ad302, e302, hx302_0, hx302_1, hx302_2, hx302_3, hx302_4, hx302_5, hx302_6⟩ := at_T151 HR0.out x4_1 p302 q302
cases e302
replace hx302_0 := mv HB.out hx302_0
replace hx302_1 := mv HB.out hx302_1
replace hx302_2 := mv HB.out hx302_2
replace hx302_3 := mv HB.out hx302_3
replace hx302_4 := mv HB.out hx302_4
replace hx302_5 := mv HB.out hx302_5
replace hx302_6 := mv HB.out hx302_6
replace p302 := eq_true p302
replace q302 := eq_true q302
go_wp2_with (first | ((with_reducible refine gate_callee (f := 122) rfl ?_); refine gl_ (some 20) Try.func122 #[.agg #[.int .i64 ((rd_T151 l0 x4_1).f0), .int .i64 ((rd_T151 l0 x4_1).f1.f0), .int .i64 ((rd_T151 l0 x4_1).f1.f1), .bool ((rd_T151 l0 x4_1).f1.f2), .bool ((rd_T151 l0 x4_1).f1.f3), .bool ((rd_T151 l0 x4_1).f1.f4), .int .i64 ((rd_T151 l0 x4_1).f2)]] ?_; (with_reducible refine (laws_toCell.calls ((rd_T151 l0 x4_1).f0) ((rd_T151 l0 x4_1).f1.f0) ((rd_T151 l0 x4_1).f1.f1) ((rd_T151 l0 x4_1).f1.f2) ((rd_T151 l0 x4_1).f1.f3) ((rd_T151 l0 x4_1).f1.f4) ((rd_T151 l0 x4_1).f2) t303 t304 t305 t306 t307 t308 t309 _ A8.out).mono ?_); rintro e w11 ⟨rfl, hb⟩; refine ⟨_, rfl, ?_⟩; replace HO_3 := am (Kd.R_below (rr HO_3) hb); replace HB := am (below_step (rb HB) hb); (try clear hb); (try clear hb2); (try clear hk); (try clear hi); have p10 : 0 ≤ (x4_1 : Int) := dt_; have q10 : (x4_1 : Int) < ((x3_1.length : Int) : Int) := dt_; obtain ⟨go10, co10, eo10, gb10, gl10, cl10, HG10⟩ := Kd.R_form HO_3.out (by omega); (first | cases eo10 | (injection eo10 with ea_ en_ ec_; (first | subst ea_ | (injection ea_ with ea_; subst ea_)); subst ec_; clear en_)); have GB10 := am gb10; have GG10 := am HG10; clear gb10 gl10 HG10; obtain ⟨ce10, hcl10, hM10, hcc10, hfr10⟩ := Kd.R_elem HO_3.out z98 (x4_1 : Int) p10 q10; obtain rfl := k98_openM hM10; have hx10_0 : w11.cell? ⟨go10, (x4_1 : Int).toNat * 7, none⟩ = some (.int .i64 ((rd_T98 x3_1 x4_1).f0)) := hcc10 0 _ rfl; have hx10_1 : w11.cell? ⟨go10, (x4_1 : Int).toNat * 7 + 1, none⟩ = some (.int .i64 ((rd_T98 x3_1 x4_1).f1.f0)) := hcc10 1 _ rfl; have hx10_2 : w11.cell? ⟨go10, (x4_1 : Int).toNat * 7 + 2, none⟩ = some (.int .i64 ((rd_T98 x3_1 x4_1).f1.f1)) := hcc10 2 _ rfl; have hx10_3 : w11.cell? ⟨go10, (x4_1 : Int).toNat * 7 + 3, none⟩ = some (.bool ((rd_T98 x3_1 x4_1).f1.f2)) := hcc10 3 _ rfl; have hx10_4 : w11.cell? ⟨go10, (x4_1 : Int).toNat * 7 + 4, none⟩ = some (.bool ((rd_T98 x3_1 x4_1).f1.f3)) := hcc10 4 _ rfl; have hx10_5 : w11.cell? ⟨go10, (x4_1 : Int).toNat * 7 + 5, none⟩ = some (.bool ((rd_T98 x3_1 x4_1).f1.f4)) := hcc10 5 _ rfl; have hx10_6 : w11.cell? ⟨go10, (x4_1 : Int).toNat * 7 + 6, none⟩ = some (.int .i64 ((rd_T98 x3_1 x4_1).f2)) := hcc10 6 _ rfl; have hf10_0 : w11.frozen? ⟨go10, (x4_1 : Int).toNat * 7, none⟩ = false := hfr10 0; have hf10_1 : w11.frozen? ⟨go10, (x4_1 : Int).toNat * 7 + 1, none⟩ = false := hfr10 1; have hf10_2 : w11.frozen? ⟨go10, (x4_1 : Int).toNat * 7 + 2, none⟩ = false := hfr10 2; have hf10_3 : w11.frozen? ⟨go10, (x4_1 : Int).toNat * 7 + 3, none⟩ = false := hfr10 3; have hf10_4 : w11.frozen? ⟨go10, (x4_1 : Int).toNat * 7 + 4, none⟩ = false := hfr10 4; have hf10_5 : w11.frozen? ⟨go10, (x4_1 : Int).toNat * 7 + 5, none⟩ = false := hfr10 5; have hf10_6 : w11.frozen? ⟨go10, (x4_1 : Int).toNat * 7 + 6, none⟩ = false := hfr10 6; clear hcl10 hcc10 hfr10 hM10; replace p10 := eq_true p10; replace q10 := eq_true q10; have HX12 := am (show Kd.R k98 98 w11 w.heap.size (fun _ => True) (.slice (some ⟨go10, 0, none⟩) x3_1.length co10) x3_1 from (rr HO_3)); obtain ⟨ce12, hcl12, hM12, hcc12, hfr12⟩ := Kd.R_elem HX12.out z98 (x4_1 : Int) dt_ (by have h_ : (x4_1 : Int) < ((x3_1.length : Int) : Int) := dt_; first | exact h_ | (have e_ := (Kd.R_reads' HO_3.out).1; omega) | simpa using h_); obtain rfl := k98_openM hM12; have HP12 := Kd.R_seg HX12.out (x4_1 : Int) dt_ (by have h_ : (x4_1 : Int) < ((x3_1.length : Int) : Int) := dt_; first | exact h_ | (have e_ := (Kd.R_reads' HO_3.out).1; omega) | simpa using h_) (seg := [.int .i64 t303, .int .i64 t304, .int .i64 t305, .bool t306, .bool t307, .bool t308, .int .i64 t309]) (j := 0) hcl12 hcc12 (show 7 ≤ 7 from by decide) (x' := (⟨t303, (⟨t304, t305, t306, t307, t308⟩ : S96), t309⟩ : S98)) (k98_mkM _ _ _ (⟨t303, (⟨t304, t305, t306, t307, t308⟩ : S96), t309⟩ : S98) ) (fun _ hk => hk); have hx12_0 := hcc12 0 _ rfl; (try simp only [show (k98).sz = 7 from rfl, Nat.mul_one, Nat.add_zero] at hx12_0); have hf12_0 := hfr12 0; (try simp only [show (k98).sz = 7 from rfl, Nat.mul_one, Nat.add_zero] at hf12_0); have hx12_1 := hcc12 1 _ rfl; (try simp only [show (k98).sz = 7 from rfl, Nat.mul_one, Nat.add_zero] at hx12_1); have hf12_1 := hfr12 1; (try simp only [show (k98).sz = 7 from rfl, Nat.mul_one, Nat.add_zero] at hf12_1); have hx12_2 := hcc12 2 _ rfl; (try simp only [show (k98).sz = 7 from rfl, Nat.mul_one, Nat.add_zero] at hx12_2); have hf12_2 := hfr12 2; (try simp only [show (k98).sz = 7 from rfl, Nat.mul_one, Nat.add_zero] at hf12_2); have hx12_3 := hcc12 3 _ rfl; (try simp only [show (k98).sz = 7 from rfl, Nat.mul_one, Nat.add_zero] at hx12_3); have hf12_3 := hfr12 3; (try simp only [show (k98).sz = 7 from rfl, Nat.mul_one, Nat.add_zero] at hf12_3); have hx12_4 := hcc12 4 _ rfl; (try simp only [show (k98).sz = 7 from rfl, Nat.mul_one, Nat.add_zero] at hx12_4); have hf12_4 := hfr12 4; (try simp only [show (k98).sz = 7 from rfl, Nat.mul_one, Nat.add_zero] at hf12_4); have hx12_5 := hcc12 5 _ rfl; (try simp only [show (k98).sz = 7 from rfl, Nat.mul_one, Nat.add_zero] at hx12_5); have hf12_5 := hfr12 5; (try simp only [show (k98).sz = 7 from rfl, Nat.mul_one, Nat.add_zero] at hf12_5); have hx12_6 := hcc12 6 _ rfl; (try simp only [show (k98).sz = 7 from rfl, Nat.mul_one, Nat.add_zero] at hx12_6); have hf12_6 := hfr12 6; (try simp only [show (k98).sz = 7 from rfl, Nat.mul_one, Nat.add_zero] at hf12_6); clear hcl12 hcc12 hfr12 hM12) | ((with_reducible refine gate_store (t := 98) (p := 21) rfl ?_); refine store_event (t := 98) (p := 21) (v := ?vo_w13) (w1 := (((((((w11.setCell ⟨go10, (x4_1 : Int).toNat * 7, none⟩ (.int .i64 t303)).setCell ⟨go10, (x4_1 : Int).toNat * 7 + 1, none⟩ (.int .i64 t304)).setCell ⟨go10, (x4_1 : Int).toNat * 7 + 2, none⟩ (.int .i64 t305)).setCell ⟨go10, (x4_1 : Int).toNat * 7 + 3, none⟩ (.bool t306)).setCell ⟨go10, (x4_1 : Int).toNat * 7 + 4, none⟩ (.bool t307)).setCell ⟨go10, (x4_1 : Int).toNat * 7 + 5, none⟩ (.bool t308)).setCell ⟨go10, (x4_1 : Int).toNat * 7 + 6, none⟩ (.int .i64 t309))) ?hg ?ho ?hn ?hr ?_; (case ho => rfl); (case hg => rfl); (case hn => rfl); (case hr => first | (go_simp; done) | (go_simp; rfl)); intro w13 hw; have hg : w11.grownBy w13 (some go10) := (by rw [hw]; exact HP12.2); have hp_ : Kd.R k98 98 w13 w.heap.size (fun _ => True) (.slice (some ⟨go10, 0, none⟩) x3_1.length co10) y310 := (by rw [hw, Ny310.out]; exact HP12.1); clear HP12; replace HO_3 := am (hp_); replace HB := am ((by rw [hw]; exact below_set (below_set (below_set (below_set (below_set (below_set (below_set (HB.out) GB10.out) GB10.out) GB10.out) GB10.out) GB10.out) GB10.out) GB10.out : Below w.heap.size w w13)); clear hg hw hp_))
go_roundg k1
case measure => have := HK1.out; omega
case rel => exact ⟨(y310), (wrap64 (x4_1 + 1)), (by first | rfl | (simp; done) | (simp [*]; done)), H', ⟨by have := HK1.out; omega⟩, ⟨rr HO_3⟩, ⟨rb HB⟩⟩
)
)
·(
rw [if_neg c6] at H
have c6b0 : decide (x4_1 < (l0.length : Int)) = false := decide_eq_false c6
clear c6
obtain rfl := Option.some.inj H
go_wp2
go_ret
exact ⟨_, by first | rfl | (simp [errW_none, errW_some] <;> rfl) | (simp [*, errW_none, errW_some] <;> rfl), by (with_reducible repeat (first | apply r1 | apply r2 | apply r3)); exact HO_3.out, by repeat (first | (with_reducible first | exact HB.out | apply b1 | apply b2 | apply b3) | exact HB.out)⟩
)
)
)
)
)

/-! ### laws_toCellSS: function 71 -/
def laws_toCellSS.l0 : Nat → List (List (S151)) → List (List (S98)) → Int → Option ((List (List (S98))))
 | 0, _, _, _ => none
 | k + 1, x0, x3, x4 => if x4 < (x0.length : Int) then (if 0 ≤ x4 then ((laws_toCellS.f k (rd_L4 x0 x4)).bind fun t315 => (if x4 < (x3.length : Int) then (laws_toCellSS.l0 k x0 (x3.set (x4 : Int).toNat t315) (wrap64 (x4 + 1))) else (none))) else (none)) else (some x3)
def laws_toCellSS.f (k : Nat) (l0 : List (List (S151))) : Option ((List (List (S98)))) := if 0 ≤ (l0.length : Int) then (if ((l0.length : Int) : Int).toNat ≤ 11728124029610 then (laws_toCellSS.l0 k l0 (List.replicate ((l0.length : Int) : Int).toNat []) 0) else (none)) else (none)
theorem laws_toCellSS.mono_l : ∀ k, (∀ y0 y1 y2, LeO (laws_toCellSS.l0 k y0 y1 y2) (laws_toCellSS.l0 (k + 1) y0 y1 y2))
 | 0 => fun _ _ _ r h => by simp [laws_toCellSS.l0] at h
 | k + 1 => by
  have ih0 := laws_toCellSS.mono_l k
  ·intro y0 y1 y2
   unfold laws_toCellSS.l0
   repeat' first
   | (with_reducible exact ih0 _ _ _)
   | (with_reducible exact laws_toCellS.mono _ _)
   | (with_reducible exact LeO.refl _)
   | (with_reducible exact LeO.none _)
   | (with_reducible refine LeO.ite ?_ ?_)
   | (with_reducible refine LeO.bind ?_ (fun _ => ?_))
theorem laws_toCellSS.mono : ∀ a0 k, LeO (laws_toCellSS.f k a0) (laws_toCellSS.f (k + 1) a0) := by
 intro a0 k
 have ih0 := laws_toCellSS.mono_l k
 unfold laws_toCellSS.f
 repeat' first
   | (with_reducible exact ih0 _ _ _)
   | (with_reducible exact laws_toCellS.mono _ _)
   | (with_reducible exact LeO.refl _)
   | (with_reducible exact LeO.none _)
   | (with_reducible refine LeO.ite ?_ ?_)
   | (with_reducible refine LeO.bind ?_ (fun _ => ?_))
set_option maxHeartbeats 8000000 in
set_option maxRecDepth 100000 in
theorem laws_toCellSS.calls (k : Nat) (A0 : Option Addr) (c0 : Nat) (l0 : List (List (S151))) (r : List (List (S98))) (w : World) (hr0 : Kd.C (Kd.slice 151 k151) w A0 l0.length l0) (hc0 : l0.length ≤ c0) (h : laws_toCellSS.f k l0 = some r) :
  Calls Try.prog 71 #[.slice A0 l0.length c0] w fun e w' => ∃ v0_ : Value, e = .returned (v0_) ∧ Kd.S (Kd.slice 98 k98) 99 w' w.heap.size (fun _ => True) v0_ r ∧ Below w.heap.size w w' := by
 (
have HR0 := am hr0
have HC0 := am hc0
clear hr0 hc0
have HB := am (Below.refl w.heap.size w)
have H := h
unfold laws_toCellSS.f at H
clear h
refine em_ (p := 0 ≤ (l0.length : Int)) (fun c2 => ?g5p) (fun c2 => ?g5n)
case' g5p => (
rw [if_pos c2] at H
have c2b0 := eq_true c2
have c2b1 : decide (0 ≤ (l0.length : Int)) = true := decide_eq_true c2
clear c2
refine em_ (p := ((l0.length : Int) : Int).toNat ≤ 11728124029610) (fun c3 => ?g4p) (fun c3 => ?g4n)
case' g4p => (
rw [if_pos c3] at H
have c3b0 := eq_true c3
have c3b1 : decide (((l0.length : Int) : Int).toNat ≤ 11728124029610) = true := decide_eq_true c3
clear c3
obtain ⟨y311, hy311⟩ : ∃ y_ : List (List (S98)), y_ = (List.replicate ((l0.length : Int) : Int).toNat []) := ⟨_, rfl⟩
replace H : (laws_toCellSS.l0 k l0 y311 0) = some r := by first | (rw [hy311]; with_reducible exact H) | (rw [hy311]; exact H) | exact H
have Ny311 := am hy311
clear hy311
have H' := am H
clear H
have lf4_ := trivial
)
case g4n => (
rw [if_neg c3] at H
exact absurd H (by simp)
)
)
case g5n => (
rw [if_neg c2] at H
exact absurd H (by simp)
)
all_goals (
go_enter Try.func71, Try.ntmps71
go_wp2_with (first | ((with_reducible refine gate_dst (N := 7) rfl ?_); refine Kd.S_make (Kd.slice 98 k98) _ 99 rfl (N := 7) rfl 56 _ _ rfl (l0.length : Int) rfl rfl Try.underlying56 (.slice none 0 0) 24 info99 rfl (by decide) (by omega) [] (ok := fun _ => True) (okp := fun _ => True) ⟨_, rfl, Kd.R_nil _ _ _ _ _⟩ (fun _ hk => hk) trivial dt_ (Nat.le_trans (Nat.mul_le_mul_right _ (dt_ : (l0.length : Int).toNat ≤ 11728124029610)) (by omega)) (Below.refl _ _) (Nat.le_refl _) ?_; intro v312 w4 ho5 hb hg_ hnew_; clear hg_ hnew_; (first | rw [← Ny311.out] at ho5 | (simp only [Int.reduceToNat] at ho5; rw [← Ny311.out] at ho5)); have HO313 := am (Kd.S_lower ho5 (below_size (rb HB))); replace HB := am (below_step (rb HB) hb); clear hb ho5))
go_loopg [4] k (fun kq v4 w' => ∃ (x3_1 : List (List (S98))) (x4_1 : Int), v4 = .int .i64 x4_1 ∧ Aside0 (laws_toCellSS.l0 kq l0 x3_1 x4_1 = some r) ∧ Aside0 (kq ≤ k) ∧ Aside0 (Kd.S (Kd.slice 98 k98) 99 w' w.heap.size (fun _ => True) v312 x3_1) ∧ Aside0 (Below w.heap.size w w'))
case atStart => exact ⟨(y311), (0), (by first | rfl | (simp; done) | (simp [*]; done)), H', ⟨Nat.le_refl _⟩, ⟨rs HO313⟩, ⟨rb HB⟩⟩
case round => (
clear H'
try clear c2
try clear c2b0
try clear c2b1
try clear p2
try clear c3
try clear c3b0
try clear c3b1
obtain ⟨x3_1, x4_1, rfl, HA, HK1, HO_3, HB⟩ := hrel
cases gk with
| zero => exact absurd HA.out (by simp [laws_toCellSS.l0])
| succ k1 => (
have H := HA.out
clear HA
simp only [laws_toCellSS.l0] at H
by_cases c6 : x4_1 < (l0.length : Int)
·(
rw [if_pos c6] at H
have c6b0 : decide (x4_1 < (l0.length : Int)) = true := decide_eq_true c6
clear c6
refine em_ (p := 0 ≤ x4_1) (fun c7 => ?g7p) (fun c7 => ?g7n)
case' g7p => (
rw [if_pos c7] at H
have c7b0 : decide (0 ≤ x4_1) = true := decide_eq_true c7
clear c7
replace H := Option.bind_eq_some_iff.mp H
obtain ⟨t315, A80, H⟩ := H
(try dsimp only at H)
have A8 := am A80
clear A80
refine em_ (p := x4_1 < (x3_1.length : Int)) (fun c9 => ?g6p) (fun c9 => ?g6n)
case' g6p => (
rw [if_pos c9] at H
have c9b0 : decide (x4_1 < (x3_1.length : Int)) = true := decide_eq_true c9
clear c9
obtain ⟨y318, hy318⟩ : ∃ y_ : List (List (S98)), y_ = (x3_1.set (x4_1 : Int).toNat t315) := ⟨_, rfl⟩
replace H : (laws_toCellSS.l0 k1 l0 y318 (wrap64 (x4_1 + 1))) = some r := by first | (rw [hy318]; with_reducible exact H) | (rw [hy318]; exact H) | exact H
have Ny318 := am hy318
clear hy318
have H' := am H
clear H
have lf5_ := trivial
)
case g6n => (
rw [if_neg c9] at H
exact absurd H (by simp)
)
)
case g7n => (
rw [if_neg c7] at H
exact absurd H (by simp)
)
all_goals (
have p314 : 0 ≤ (x4_1 : Int) := dt_
have q314 : x4_1 < (l0.length : Int) := dt_
obtain ⟨ad314, A314_0, c314_0, e314, hx314_0, hl314_0, hi314_0⟩ := at_L4 HR0.out x4_1 p314 q314
cases e314
replace hx314_0 := mv HB.out hx314_0
have HR314_0 := am hi314_0
have HC314_0 := am hl314_0
clear hi314_0 hl314_0
replace p314 := eq_true p314
replace q314 := eq_true q314
go_wp2_with (first | ((with_reducible refine gate_callee (f := 101) rfl ?_); refine gl_ (some 20) Try.func101 #[.slice A314_0 (rd_L4 l0 x4_1).length c314_0] ?_; (with_reducible refine (laws_toCellS.calls k1 _ _ (rd_L4 l0 x4_1) t315 _ ?side1 ?side2 A8.out).mono ?_); (case side1 => exact rc ((Kd.C_below HR314_0.out HB.out))); (case side2 => exact HC314_0.out); rintro e w11 ⟨v316, rfl, ho0, hb⟩; refine ⟨_, rfl, ?_⟩; have EV_ := am (Kd.R_slice ho0); replace HO_3 := am (Kd.S_elder' (rs HO_3) (Kd.R_base ho0) hb); have HO317 := am (Kd.R_lower ho0 (below_size (rb HB))); replace HB := am (below_step (rb HB) hb); (try clear hb); (try clear hb2); (try clear hk); (try clear hi); (try clear ho0); have p10 : 0 ≤ (x4_1 : Int) := dt_; have q10 : (x4_1 : Int) < ((x3_1.length : Int) : Int) := dt_; obtain ⟨go10, co10, eo10, gb10, gl10, cl10, HG10⟩ := Kd.S_form HO_3.out (by omega); (first | cases eo10 | (injection eo10 with ea_ en_ ec_; (first | subst ea_ | (injection ea_ with ea_; subst ea_)); subst ec_; clear en_)); have GB10 := am gb10; have GG10 := am HG10; clear gb10 gl10 HG10; obtain ⟨_, ce10, hcl10, hM10, hcc10, hfr10, _, _⟩ := Kd.S_elem HO_3.out [] (x4_1 : Int) p10 q10; obtain ⟨ve10_0, rfl, ge10_0⟩ := hM10; have hx10_0 := hcc10 0 _ rfl; have hf10_0 := hfr10 0; (try simp only [show ((Kd.slice 98 k98)).sz = 1 from rfl, Nat.mul_one, Nat.add_zero] at hx10_0); (try simp only [show ((Kd.slice 98 k98)).sz = 1 from rfl, Nat.mul_one, Nat.add_zero] at hf10_0); (try clear hcl10); (try clear hcc10); (try clear hfr10); (try clear hM10); replace p10 := eq_true p10; replace q10 := eq_true q10; have n_ := am (Kd.S_mono (ok' := (fun k_ => some k_ ≠ (v316 : Value).ownBlock)) HO_3.out (fun k_ hk => hk.2)); clear HO_3; have HO_3 := n_; clear n_; have HX12 := am (show Kd.S (Kd.slice 98 k98) 99 w11 w.heap.size (fun k_ => ((fun _ => True)) k_ ∧ ¬ ((fun k_ => some k_ = (v316 : Value).ownBlock)) k_) (.slice (some ⟨go10, 0, none⟩) x3_1.length co10) x3_1 from (by (with_reducible repeat (first | apply Kd.S_alloc | apply Kd.S_drewN | apply Kd.S_drew)); exact Kd.S_mono HO_3.out (fun k_ hk => ⟨trivial, fun e_ => hk e_⟩))); obtain ⟨oki12, ce12, hcl12, hM12, hcc12, hfr12, hoki12, hH12⟩ := Kd.S_elem HX12.out [] (x4_1 : Int) dt_ (by have h_ : (x4_1 : Int) < ((x3_1.length : Int) : Int) := dt_; first | exact h_ | (have e_ := (Kd.S_reads' HO_3.out).1; omega) | simpa using h_); obtain ⟨ve12_0, rfl, ge12_0⟩ := hM12; have HP12 := Kd.S_seg hH12 dt_ (by have h_ : (x4_1 : Int) < ((x3_1.length : Int) : Int) := dt_; first | exact h_ | (have e_ := (Kd.S_reads' HO_3.out).1; omega) | simpa using h_) (seg := [v316]) (j := 0) (show 1 ≤ 1 from by decide) (x' := t315) (Kd.M_row (Kd.R_mono (Kd.R_tight rfl (Kd.R_mono (ok' := fun k_ => ((fun _ => True)) k_ ∧ k_ ≠ go10) (Kd.R_apart' (HO317.out) (Kd.S_typed HO_3.out) (by decide)) (fun k_ hk => ⟨trivial, fun e_ => (hk.2) (by rw [e_]; rfl)⟩))) (fun _ h_ => Or.inr (h_)))) (fun _ hk => hk) (fun k_ hk_ => ((Kd.R_mono (ok' := fun k_ => ((fun _ => True)) k_ ∧ k_ ≠ go10) (Kd.R_apart' (HO317.out) (Kd.S_typed HO_3.out) (by decide)) (fun k_ hk => ⟨trivial, fun e_ => (hk.2) (by rw [e_]; rfl)⟩))).1 k_ hk_.symm); have hx12_0 := hcc12 0 _ rfl; (try simp only [show ((Kd.slice 98 k98)).sz = 1 from rfl, Nat.mul_one, Nat.add_zero] at hx12_0); have hf12_0 := hfr12 0; (try simp only [show ((Kd.slice 98 k98)).sz = 1 from rfl, Nat.mul_one, Nat.add_zero] at hf12_0); (try clear hcl12); (try clear hcc12); (try clear hfr12); (try clear hM12); (try clear hoki12); (try clear hH12); (try simp only [show ((Kd.slice 98 k98)).sz = 1 from rfl, Nat.mul_one, Nat.add_zero] at HP12)) | ((with_reducible refine gate_store (t := 99) (p := 21) rfl ?_); refine store_event (t := 99) (p := 21) (v := ?vo_w13) (w1 := (w11.setCell ⟨go10, (x4_1 : Int).toNat, none⟩ (v316))) ?hg ?ho ?hn ?hr ?_; (case ho => rfl); (case hg => rfl); (case hn => rfl); (case hr => first | (go_simp; done) | (go_simp; rfl) | (obtain ⟨_, _, e_⟩ := EV_.out; subst e_; first | (go_simp; done) | (go_simp; rfl))); intro w13 hw; have hg : w11.grownBy w13 (some go10) := (by rw [hw]; exact HP12.2); have hp_ : Kd.S (Kd.slice 98 k98) 99 w13 w.heap.size (fun _ => True) (.slice (some ⟨go10, 0, none⟩) x3_1.length co10) y318 := (by rw [hw, Ny318.out]; exact HP12.1); clear HP12; replace HO_3 := am (hp_); replace HB := am ((by rw [hw]; exact below_set (HB.out) GB10.out : Below w.heap.size w w13)); clear HO317; clear hg hw hp_))
go_roundg k1
case measure => have := HK1.out; omega
case rel => exact ⟨(y318), (wrap64 (x4_1 + 1)), (by first | rfl | (simp; done) | (simp [*]; done)), H', ⟨by have := HK1.out; omega⟩, ⟨rs HO_3⟩, ⟨rb HB⟩⟩
)
)
·(
rw [if_neg c6] at H
have c6b0 : decide (x4_1 < (l0.length : Int)) = false := decide_eq_false c6
clear c6
obtain rfl := Option.some.inj H
go_wp2
go_ret
exact ⟨_, by first | rfl | (simp [errW_none, errW_some] <;> rfl) | (simp [*, errW_none, errW_some] <;> rfl), by (with_reducible repeat (first | apply Kd.S_alloc | apply Kd.S_drewN | apply Kd.S_drew)); exact HO_3.out, by repeat (first | (with_reducible first | exact HB.out | apply b1 | apply b2 | apply b3) | exact HB.out)⟩
)
)
)
)
)

/-! ### laws_toGrid: function 32 -/
def laws_toGrid.f (k : Nat) (a0_0 : Int) (l0_1 : List (List (S151))) : Option (Int × (List (List (S98)))) := (laws_toCellSS.f k l0_1).bind fun t322 => (some (a0_0, t322))
theorem laws_toGrid.mono : ∀ a0 a1 k, LeO (laws_toGrid.f k a0 a1) (laws_toGrid.f (k + 1) a0 a1) := by
 intro a0 a1 k
 unfold laws_toGrid.f
 repeat' first
   | (with_reducible exact laws_toCellSS.mono _ _)
   | (with_reducible exact LeO.refl _)
   | (with_reducible exact LeO.none _)
   | (with_reducible refine LeO.ite ?_ ?_)
   | (with_reducible refine LeO.bind ?_ (fun _ => ?_))
set_option maxHeartbeats 8000000 in
set_option maxRecDepth 100000 in
theorem laws_toGrid.calls (k : Nat) (a0_0 : Int) (A0_1 : Option Addr) (c0_1 : Nat) (l0_1 : List (List (S151))) (r1 : Int) (r2 : List (List (S98))) (w : World) (hr0_1 : Kd.C (Kd.slice 151 k151) w A0_1 l0_1.length l0_1) (hc0_1 : l0_1.length ≤ c0_1) (h : laws_toGrid.f k a0_0 l0_1 = some (r1, r2)) :
  Calls Try.prog 32 #[.agg #[.int .i64 a0_0, .slice A0_1 l0_1.length c0_1]] w fun e w' => ∃ v1_ : Value, e = .returned (.agg #[.int .i64 r1, v1_]) ∧ Kd.S (Kd.slice 98 k98) 99 w' w.heap.size (fun _ => True) v1_ r2 ∧ Below w.heap.size w w' := by
 (
have hu49 := Try.underlying49
have hu58 := Try.underlying58
have HR0_1 := am hr0_1
have HC0_1 := am hc0_1
clear hr0_1 hc0_1
have HB := am (Below.refl w.heap.size w)
have H : ((laws_toCellSS.f k l0_1).bind fun t322 => (some (a0_0, t322))) = some (r1, r2) := h
clear h
replace H := Option.bind_eq_some_iff.mp H
obtain ⟨t322, A20, H⟩ := H
replace H : (some (a0_0, t322)) = some (r1, r2) := H
have A2 := am A20
clear A20
simp only [Option.some.injEq, Prod.mk.injEq] at H
obtain ⟨rfl, rfl⟩ := H
go_enter Try.func32, Try.ntmps32
go_wp2_with (first | ((with_reducible refine gate_dst (N := 1) rfl ?_); refine box_event ?hg (N := 1) ?hd (cs := #[.int .i64 a0_0, .slice A0_1 l0_1.length c0_1]) (t := 49) ?hr ?_; (case hd => rfl); (case hg => rfl); (case hr => first | (go_simp; done) | (go_simp; rfl)); intro gb319 hg w3 hbox hb; have BK319 := am (hbox); have GW319 := am (gw hg (rb HB)); have GE319 := GW319; replace HB := am (below_step (rb HB) hb); clear hb hbox hg) | ((with_reducible refine gate_dst (N := 2) rfl ?_); refine box_event ?hg (N := 2) ?hd (cs := #[.int .i64 0, .slice none 0 0]) (t := 58) ?hr ?_; (case hd => rfl); (case hg => rfl); (case hr => first | (go_simp; done) | (go_simp; rfl)); intro gb320 hg w4 hbox hb; have BK320 := am (hbox); have GW320 := am (gw hg (rb1 HB GE319)); have GE320 := GW320; replace HB := am (below_step (rb1 HB GE319) hb); have NB319_320 := am (nl hg (rk BK319)); have NB320_319 := am (ng hg (rk BK319)); replace BK319 := am (blk_below (rk BK319) hb); clear hb hbox hg) | ((with_reducible refine gate_dst (N := 3) rfl ?_); refine box_event ?hg (N := 3) ?hd (cs := #[.int .i64 0, .slice none 0 0]) (t := 58) ?hr ?_; (case hd => rfl); (case hg => rfl); (case hr => first | (go_simp; done) | (go_simp; rfl)); intro gb321 hg w5 hbox hb; have BK321 := am (hbox); have GW321 := am (gw hg (rb2 HB GE319 GE320)); have GE321 := GW321; replace HB := am (below_step (rb2 HB GE319 GE320) hb); have NB319_321 := am (nl hg (rk BK319)); have NB321_319 := am (ng hg (rk BK319)); replace BK319 := am (blk_below (rk BK319) hb); have NB320_321 := am (nl hg (rk BK320)); have NB321_320 := am (ng hg (rk BK320)); replace BK320 := am (blk_below (rk BK320) hb); clear hb hbox hg; have hnb6 := NB319_320.out; have hnc6 := NB320_319.out; have hnb7 := NB319_321.out; have hnc7 := NB321_319.out; have hcz8_0 : w5.cell? ⟨gb319, 0, none⟩ = some (.int .i64 a0_0) := (blk_cell BK319.out 0).trans rfl; have hcz8_1 : w5.cell? ⟨gb319, 1, none⟩ = some (.slice A0_1 l0_1.length c0_1) := (blk_cell BK319.out 1).trans rfl; have hfz8_0 := blk_frozen BK319.out 0; have hfz8_1 := blk_frozen BK319.out 1; have hnb9 := NB321_320.out; have hnc9 := NB320_321.out; have hcz10_0 : w5.cell? ⟨gb321, 0, none⟩ = some (.int .i64 0) := (blk_cell BK321.out 0).trans rfl; have hcz10_1 : w5.cell? ⟨gb321, 1, none⟩ = some (.slice none 0 0) := (blk_cell BK321.out 1).trans rfl; have hfz10_0 := blk_frozen BK321.out 0; have hfz10_1 := blk_frozen BK321.out 1) | ((with_reducible refine gate_callee (f := 71) rfl ?_); refine gl_ (some 9) Try.func71 #[.slice A0_1 l0_1.length c0_1] ?_; (with_reducible refine (laws_toCellSS.calls k _ _ l0_1 t322 _ ?side1 ?side2 A2.out).mono ?_); (case side1 => exact Kd.C_below HR0_1.out (rb3 HB GE319 GE320 GE321)); (case side2 => exact HC0_1.out); rintro e w11 ⟨v323, rfl, ho0, hb⟩; refine ⟨_, rfl, ?_⟩; have HO324 := am (Kd.S_lower ho0 (below_size (rb3 HB GE319 GE320 GE321))); replace BK319 := am (blk_below (g := gb319) (o := .cells #[.int .i64 a0_0, .slice A0_1 l0_1.length c0_1] 49 (0, 0)) (rf1 NB319_321 BK319) hb); replace BK320 := am (blk_below (g := gb320) (o := .cells #[.int .i64 0, .slice none 0 0] 58 (0, 0)) (rf1 NB320_321 BK320) hb); replace BK321 := am (blk_below (g := gb321) (o := .cells #[.int .i64 a0_0, .slice none 0 0] 58 (0, 0)) (rp_0 BK321) hb); replace HB := am (below_step (rb3 HB GE319 GE320 GE321) hb); (try clear hb); (try clear hb2); (try clear hk); (try clear hi); (try clear ho0); obtain ⟨Ao12, co12, eo12⟩ := Kd.S_slice HO324.out; subst eo12; have hcz13_0 : w11.cell? ⟨gb321, 0, none⟩ = some (.int .i64 a0_0) := (blk_cell BK321.out 0).trans rfl; have hcz13_1 : w11.cell? ⟨gb321, 1, none⟩ = some (.slice none 0 0) := (blk_cell BK321.out 1).trans rfl; have hfz13_0 := blk_frozen BK321.out 0; have hfz13_1 := blk_frozen BK321.out 1; have hcz14_0 : w11.cell? ⟨gb320, 0, none⟩ = some (.int .i64 0) := (blk_cell BK320.out 0).trans rfl; have hcz14_1 : w11.cell? ⟨gb320, 1, none⟩ = some (.slice none 0 0) := (blk_cell BK320.out 1).trans rfl; have hfz14_0 := blk_frozen BK320.out 0; have hfz14_1 := blk_frozen BK320.out 1))
refine bodyPost_ret (results_cell_row rfl _ _ gb320 58 #[.int .i64 a0_0, .slice Ao12 t322.length co12] (0, 0) _ rfl (by (with_reducible repeat (first | apply k1 | apply k2 | apply k3)); refine blk_put (cs := #[.int .i64 a0_0, .slice none 0 0]) ?_ 1 _ rfl; (with_reducible repeat (first | apply k1 | apply k2 | apply k3)); refine blk_put (cs := #[.int .i64 0, .slice none 0 0]) ?_ 0 _ rfl; (with_reducible repeat (first | apply k1 | apply k2 | apply k3)); refine blk_far ?_ NB320_321.out _; (with_reducible repeat (first | apply k1 | apply k2 | apply k3)); exact BK320.out) Try.underlying58 rfl (by kernel_rfl)) rfl ?_
exact ⟨_, by first | rfl | (simp [errW_none, errW_some] <;> rfl) | (simp [*, errW_none, errW_some] <;> rfl), by (with_reducible repeat (first | apply Kd.S_alloc | apply Kd.S_drewN | apply Kd.S_drew)); exact Kd.S_mono (Kd.S_far (p := ⟨gb320, 1, none⟩) (Kd.S_far (p := ⟨gb320, 0, none⟩) (Kd.S_far (p := ⟨gb321, 1, none⟩) (Kd.S_types (Kd.S_types HO324.out BK321.out (by decide)) BK320.out (by decide)) (fun _ hk => hk.1.2) (.slice Ao12 t322.length co12)) (fun _ hk => hk.2) (.int .i64 a0_0)) (fun _ hk => hk.2) (.slice Ao12 t322.length co12)) (fun _ hk => trivial), rb3 HB GE319 GE320 GE321⟩
)

/-! ### impl_in: function 56 -/
def impl_in.f (a0 : Int) (a1 : Int) (a2 : Int) : Option (Bool) := if a1 ≤ a0 then (some (decide (a0 ≤ a2))) else (some false)
set_option maxHeartbeats 8000000 in
set_option maxRecDepth 100000 in
theorem impl_in.calls (a0 : Int) (a1 : Int) (a2 : Int) (r : Bool) (w : World) (h : impl_in.f a0 a1 a2 = some r) :
  Calls Try.prog 56 #[.int .i64 a0, .int .i64 a1, .int .i64 a2] w fun e w' => e = .returned (.bool r) ∧ Drawn0 w w' := by
 (
have H : (if a1 ≤ a0 then (some (decide (a0 ≤ a2))) else (some false)) = some r := h
clear h
by_cases c4 : a1 ≤ a0
·(
rw [if_pos c4] at H
have c4b0 : decide (a1 ≤ a0) = true := decide_eq_true c4
clear c4
obtain rfl := Option.some.inj H
go_enter Try.func56, Try.ntmps56
go_wp2
go_ret
exact ⟨by first | rfl | (simp; done) | (simp [*]; done), by repeat (first | exact Drawn0.refl _ | apply Drawn0.step)⟩
)
·(
rw [if_neg c4] at H
have c4b0 : decide (a1 ≤ a0) = false := decide_eq_false c4
clear c4
obtain rfl := Option.some.inj H
go_enter Try.func56, Try.ntmps56
go_wp2
go_ret
exact ⟨by first | rfl | (simp; done) | (simp [*]; done), by repeat (first | exact Drawn0.refl _ | apply Drawn0.step)⟩
)
)

-- NOT PRINTED: function 116 (impl_Cell_116)

-- NOT PRINTED: function 87 (impl_Cell_87)

/-! ### impl_RuneOk: function 140 -/
def impl_RuneOk.f (a0 : Int) : Option (Bool) := (impl_in.f a0 0 1114111).bind fun t325 => (if t325 = true then ((impl_in.f a0 55296 57343).bind fun t326 => (some (!t326))) else (some false))
set_option maxHeartbeats 8000000 in
set_option maxRecDepth 100000 in
theorem impl_RuneOk.calls (a0 : Int) (r : Bool) (w : World) (h : impl_RuneOk.f a0 = some r) :
  Calls Try.prog 140 #[.int .i64 a0] w fun e w' => e = .returned (.bool r) ∧ Drawn0 w w' := by
 (
have H := h
unfold impl_RuneOk.f at H
clear h
replace H := Option.bind_eq_some_iff.mp H
obtain ⟨t325, A20, H⟩ := H
(try dsimp only at H)
have A2 := am A20
clear A20
by_cases c3 : t325 = true
·(
subst c3
have H1 : ((impl_in.f a0 55296 57343).bind fun t326 => (some (!t326))) = some r := by rw [if_pos rfl] at H; exact H
clear H
have H := H1
clear H1
replace H := Option.bind_eq_some_iff.mp H
obtain ⟨t326, A40, H⟩ := H
replace H : (some (!t326)) = some r := H
have A4 := am A40
clear A40
obtain rfl := Option.some.inj H
go_enter Try.func140, Try.ntmps140
go_wp2_with (first | ((with_reducible refine gate_callee (f := 56) rfl ?_); refine gl_ (some 4) Try.func56 #[.int .i64 a0, .int .i64 0, .int .i64 1114111] ?_; (with_reducible refine (impl_in.calls a0 0 1114111 true _ A2.out).mono ?_); rintro e w' ⟨rfl, ⟨nd, rfl⟩⟩; refine ⟨_, rfl, ?_⟩) | (go_at_call 56; (with_reducible refine (impl_in.calls a0 55296 57343 t326 _ A4.out).mono ?_); rintro e w' ⟨rfl, ⟨nd, rfl⟩⟩))
go_ret
exact ⟨by first | rfl | (simp; done) | (simp [*]; done), by repeat (first | exact Drawn0.refl _ | apply Drawn0.step)⟩
)
·(
replace c3 := Bool.eq_false_iff.mpr c3
subst c3
have H1 : (some false) = some r := by rw [if_neg (show ¬ (false = true) by decide)] at H; exact H
clear H
have H := H1
clear H1
obtain rfl := Option.some.inj H
go_enter Try.func140, Try.ntmps140
go_wp2_with (first | ((with_reducible refine gate_callee (f := 56) rfl ?_); refine gl_ (some 4) Try.func56 #[.int .i64 a0, .int .i64 0, .int .i64 1114111] ?_; (with_reducible refine (impl_in.calls a0 0 1114111 false _ A2.out).mono ?_); rintro e w' ⟨rfl, ⟨nd, rfl⟩⟩; refine ⟨_, rfl, ?_⟩))
go_ret
exact ⟨by first | rfl | (simp; done) | (simp [*]; done), by repeat (first | exact Drawn0.refl _ | apply Drawn0.step)⟩
)
)

end Go.Proofs.Ytalopdcephohgaa.RB
