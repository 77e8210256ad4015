/- Contracts of Go functions that laws of this seat reach: each Lean function answers as its Go function does. No condition. Written by wip/tools/inj.py, over the kit's print. -/
import Derived.Test.YtalopdcephohgaaRAx0
import Derived.Test.YtalopdcephohgaaRAx1
import Derived.Test.YtalopdcephohgaaRAx2
namespace Go.Proofs.Ytalopdcephohgaa.RA
open Go.RowKit Go.Proofs.YtalopdcephohgaaW.PrintWords Go.Proofs.YtalopdcephohgaaW.PrintLast Go.Proofs.YtalopdcephohgaaW.PrintMore
attribute [local go_sem] max2_int min2_int max_two min_two max_three min_three max_four min_four   -- for this text's walks alone
set_option linter.unusedVariables false
set_option linter.unusedSimpArgs false

/-! ### spec_LineAt: function 23 -/
def spec_LineAt.f (k : Nat) (a0_0 : Int) (l0_1 : List ByteArray) (a0_2 : Int) (a1 : Int) : Option (ByteArray × Bool) := (spec_HistoryOk.f k a0_0 l0_1 a0_2).bind fun t414 => (if t414 = true then ((spec_l1In.f a1 a0_2 (wrap64 ((wrap64 (a0_2 + (l0_1.length : Int))) - 1))).bind fun t415 => (if t415 = true then (if 0 ≤ (wrap64 (a1 - a0_2)) then (if (wrap64 (a1 - a0_2)) < (l0_1.length : Int) then (some (rdOf ByteArray.empty l0_1 (wrap64 (a1 - a0_2)), true)) else (none)) else (none)) else (some ((⟨#[]⟩ : ByteArray), false)))) else (some ((⟨#[]⟩ : ByteArray), false)))
theorem spec_LineAt.mono : ∀ a0 a1 a2 a3 k, LeO (spec_LineAt.f k a0 a1 a2 a3) (spec_LineAt.f (k + 1) a0 a1 a2 a3) := by
 intro a0 a1 a2 a3 k
 unfold spec_LineAt.f
 repeat' first
   | (with_reducible exact spec_HistoryOk.mono _ _ _ _)
   | (with_reducible exact LeO.refl _)
   | (with_reducible exact LeO.none _)
   | (with_reducible refine LeO.ite ?_ ?_)
   | (with_reducible refine LeO.bind ?_ (fun _ => ?_))
set_option maxHeartbeats 8000000 in
set_option maxRecDepth 100000 in
theorem spec_LineAt.calls (k : Nat) (a0_0 : Int) (A0_1 : Option Addr) (c0_1 : Nat) (l0_1 : List ByteArray) (a0_2 : Int) (a1 : Int) (r1 : ByteArray) (r2 : Bool) (w : World) (hr0_1 : Kd.C Kd.string w A0_1 l0_1.length l0_1) (hc0_1 : l0_1.length ≤ c0_1) (h : spec_LineAt.f k a0_0 l0_1 a0_2 a1 = some (r1, r2)) :
  Calls Try.prog 23 #[.agg #[.int .i64 a0_0, .slice A0_1 l0_1.length c0_1, .int .i64 a0_2], .int .i64 a1] w fun e w' => e = .returned (.tuple #[.string r1, .bool r2]) ∧ Below w.heap.size w w' := by
 (
have hu26 := Try.underlying26
have HR0_1 := am hr0_1
have HC0_1 := am hc0_1
clear hr0_1 hc0_1
have HB := am (Below.refl w.heap.size w)
have H := h
unfold spec_LineAt.f at H
clear h
replace H := Option.bind_eq_some_iff.mp H
obtain ⟨t414, A30, H⟩ := H
(try dsimp only at H)
have A3 := am A30
clear A30
refine em_ (p := t414 = true) (fun c4 => ?g3p) (fun c4 => ?g3n)
case' g3p => (
subst c4
rw [if_pos rfl] at H
replace H := Option.bind_eq_some_iff.mp H
obtain ⟨t415, A50, H⟩ := H
(try dsimp only at H)
have A5 := am A50
clear A50
refine em_ (p := t415 = true) (fun c6 => ?g2p) (fun c6 => ?g2n)
case' g2p => (
subst c6
rw [if_pos rfl] at H
obtain ⟨ji7, hji7⟩ : ∃ j_ : Int, (wrap64 (a1 - a0_2)) = j_ := ⟨_, rfl⟩
replace H : (if 0 ≤ (ji7) then (if (ji7) < (l0_1.length : Int) then (some (rdOf ByteArray.empty l0_1 (ji7), true)) else (none)) else (none)) = some (r1, r2) := by first | (rw [hji7] at H; exact H) | (simp only [hji7] at H ⊢; exact H)
(try rw [hji7] at A3)
(try rw [hji7] at A5)
have hji7w : (IntKind.i64.wrap (a1 - a0_2)) = ji7 := (i64_w _).trans hji7
refine em_ (p := 0 ≤ (ji7)) (fun c8 => ?g1p) (fun c8 => ?g1n)
case' g1p => (
rw [if_pos c8] at H
have c8b0 : decide (0 ≤ (ji7)) = true := decide_eq_true c8
clear c8
refine em_ (p := (ji7) < (l0_1.length : Int)) (fun c9 => ?g0p) (fun c9 => ?g0n)
case' g0p => (
rw [if_pos c9] at H
have c9b0 : decide ((ji7) < (l0_1.length : Int)) = true := decide_eq_true c9
clear c9
simp only [Option.some.injEq, Prod.mk.injEq] at H
obtain ⟨rfl, rfl⟩ := H
have lf1_ := trivial
)
case g0n => (
rw [if_neg c9] at H
exact absurd H (by simp)
)
)
case g1n => (
rw [if_neg c8] at H
exact absurd H (by simp)
)
)
case' g2n => (
replace c6 := Bool.eq_false_iff.mpr c6
subst c6
rw [if_neg (show ¬ (false = true) by decide)] at H
simp only [Option.some.injEq, Prod.mk.injEq] at H
obtain ⟨rfl, rfl⟩ := H
have lf2_ := trivial
)
)
case' g3n => (
replace c4 := Bool.eq_false_iff.mpr c4
subst c4
rw [if_neg (show ¬ (false = true) by decide)] at H
simp only [Option.some.injEq, Prod.mk.injEq] at H
obtain ⟨rfl, rfl⟩ := H
have lf3_ := trivial
)
all_goals (
go_enter Try.func23, Try.ntmps23
go_wp2_with (first | ((with_reducible refine gate_callee (f := 20) rfl ?_); refine gl_ (some 7) Try.func20 #[.agg #[.int .i64 a0_0, .slice A0_1 l0_1.length c0_1, .int .i64 a0_2]] ?_; (with_reducible refine (spec_HistoryOk.calls k a0_0 _ _ l0_1 a0_2 true _ ?side1 ?side2 A3.out).mono ?_); (case side1 => exact rc ((Kd.C_below HR0_1.out HB.out))); (case side2 => exact HC0_1.out); rintro e w12 ⟨rfl, hb⟩; refine ⟨_, rfl, ?_⟩; replace BK413 := am (blk_below (rk BK413) hb); replace HB := am (below_step (rb1 HB GE413) hb); (try clear hb); (try clear hb2); (try clear hk); (try clear hi); have hcz13_0 : w12.cell? ⟨gb413, 0, none⟩ = some (.int .i64 a0_0) := (blk_cell BK413.out 0).trans rfl; have hcz13_1 : w12.cell? ⟨gb413, 1, none⟩ = some (.slice A0_1 l0_1.length c0_1) := (blk_cell BK413.out 1).trans rfl; have hcz13_2 : w12.cell? ⟨gb413, 2, none⟩ = some (.int .i64 a0_2) := (blk_cell BK413.out 2).trans rfl; have hfz13_0 := blk_frozen BK413.out 0; have hfz13_1 := blk_frozen BK413.out 1; have hfz13_2 := blk_frozen BK413.out 2) | ((with_reducible refine gate_dst (N := 2) rfl ?_); (try (refine gate_guard (by rfl) ?_; dsimp only)); refine box_event ?hg (N := 2) ?hd (cs := #[.int .i64 a0_0, .slice A0_1 l0_1.length c0_1, .int .i64 a0_2]) (t := 26) ?hr ?_; (case hd => rfl); (case hg => rfl); (case hr => first | (go_simp; done) | (go_simp; rfl)); intro gb413 hg w10 hbox hb; have BK413 := am (hbox); have GW413 := am (gw hg (rb HB)); have GE413 := GW413; replace HB := am (below_step (rb HB) hb); clear hb hbox hg; have hcz11_0 : w10.cell? ⟨gb413, 0, none⟩ = some (.int .i64 a0_0) := (blk_cell BK413.out 0).trans rfl; have hcz11_1 : w10.cell? ⟨gb413, 1, none⟩ = some (.slice A0_1 l0_1.length c0_1) := (blk_cell BK413.out 1).trans rfl; have hcz11_2 : w10.cell? ⟨gb413, 2, none⟩ = some (.int .i64 a0_2) := (blk_cell BK413.out 2).trans rfl; have hfz11_0 := blk_frozen BK413.out 0; have hfz11_1 := blk_frozen BK413.out 1; have hfz11_2 := blk_frozen BK413.out 2) | ((with_reducible refine gate_callee (f := 20) rfl ?_); refine gl_ (some 7) Try.func20 #[.agg #[.int .i64 a0_0, .slice A0_1 l0_1.length c0_1, .int .i64 a0_2]] ?_; (with_reducible refine (spec_HistoryOk.calls k a0_0 _ _ l0_1 a0_2 false _ ?side1 ?side2 A3.out).mono ?_); (case side1 => exact rc ((Kd.C_below HR0_1.out HB.out))); (case side2 => exact HC0_1.out); rintro e w20 ⟨rfl, hb⟩; refine ⟨_, rfl, ?_⟩; replace BK413 := am (blk_below (rk BK413) hb); replace HB := am (below_step (rb1 HB GE413) hb); (try clear hb); (try clear hb2); (try clear hk); (try clear hi)) | (go_at_call 60; (with_reducible refine (spec_l1In.calls a1 a0_2 (wrap64 ((wrap64 (a0_2 + (l0_1.length : Int))) - 1)) true _ A5.out).mono ?_); rintro e w' ⟨rfl, ⟨nd, rfl⟩⟩; have p416 : 0 ≤ ((ji7) : Int) := dt_; have q416 : (ji7) < (l0_1.length : Int) := dt_; obtain ⟨ad416, e416, hx416_0⟩ := Kd.at_string HR0_1.out (ji7) p416 q416; cases e416; replace hx416_0 := (HB.out.cell (World.block_lt_of_cell? w _ hx416_0)).trans hx416_0; replace p416 := eq_true p416; replace q416 := eq_true q416) | (go_at_call 60; (with_reducible refine (spec_l1In.calls a1 a0_2 (wrap64 ((wrap64 (a0_2 + (l0_1.length : Int))) - 1)) false _ A5.out).mono ?_); rintro e w' ⟨rfl, ⟨nd, rfl⟩⟩))
go_ret2
first
| (
have q_ := lf1_
exact ⟨by first | rfl | (simp [errW_none, errW_some] <;> rfl) | (simp only [← hji7]; first | rfl | (simp [errW_none, errW_some] <;> rfl)) | (simp [*, errW_none, errW_some] <;> rfl), by repeat (first | (with_reducible first | exact HB.out | apply b1 | apply b2 | apply b3 | refine below_set ?_ GE413.out) | exact HB.out)⟩
)
| (
first | have q_ := lf2_ | have q_ := lf3_
exact ⟨by first | rfl | (simp [errW_none, errW_some] <;> rfl) | (simp [*, errW_none, errW_some] <;> rfl), by repeat (first | (with_reducible first | exact HB.out | apply b1 | apply b2 | apply b3 | refine below_set ?_ GE413.out) | exact HB.out)⟩
)
)
)

end Go.Proofs.Ytalopdcephohgaa.RA
