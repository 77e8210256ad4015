/- Contracts of Go functions that laws of this seat reach: each Lean function answers as its Go function does. No condition. Written by wip/tools/inj.py, over the kit's print. -/
import Derived.Test.YtfhkpneffmcdbaaQDx0
import Derived.Test.YtfhkpneffmcdbaaQDx11
import Derived.Test.YtfhkpneffmcdbaaQDx22
namespace Go.Proofs.Ytfhkpneffmcdbaa.QD
open Go.RowKit Go.Proofs.YtfhkpneffmcdbaaW.PrintWords Go.Proofs.YtfhkpneffmcdbaaW.PrintLast Go.Proofs.YtfhkpneffmcdbaaW.PrintMore
attribute [local go_sem] max2_int min2_int max_two min_two max_three min_three max_four min_four   -- for this text's walks alone
set_option linter.unusedVariables false
set_option linter.unusedSimpArgs false

/-! ### impl_Pushed: function 17 -/
def impl_Pushed.f (k : Nat) (l0 : List (S40)) (a1 : Int) (a2 : Int) (a3_0 : Int) (a3_1 : Int) (a3_2 : Bool) (a3_3 : Bool) (a3_4 : Bool) : Option ((List (S40))) := (impl_isMove.f k l0 a1 a2 a3_0 a3_1 a3_2 a3_3 a3_4).bind fun t531 => (if t531 = true then ((impl_push.f k l0 a1 a2 a3_0 a3_1 a3_2 a3_3 a3_4).bind fun t532 => (some t532)) else (some ([] : List (S40))))
theorem impl_Pushed.mono : ∀ a0 a1 a2 a3 a4 a5 a6 a7 k, LeO (impl_Pushed.f k a0 a1 a2 a3 a4 a5 a6 a7) (impl_Pushed.f (k + 1) a0 a1 a2 a3 a4 a5 a6 a7) := by
 intro a0 a1 a2 a3 a4 a5 a6 a7 k
 unfold impl_Pushed.f
 repeat' first
   | (with_reducible exact impl_isMove.mono _ _ _ _ _ _ _ _ _)
   | (with_reducible exact impl_push.mono _ _ _ _ _ _ _ _ _)
   | (with_reducible exact LeO.refl _)
   | (with_reducible exact LeO.none _)
   | (with_reducible refine LeO.ite ?_ ?_)
   | (with_reducible refine LeO.bind ?_ (fun _ => ?_))
set_option maxHeartbeats 8000000 in
set_option maxRecDepth 100000 in
theorem impl_Pushed.calls (k : Nat) (A0 : Option Addr) (c0 : Nat) (l0 : List (S40)) (a1 : Int) (a2 : Int) (a3_0 : Int) (a3_1 : Int) (a3_2 : Bool) (a3_3 : Bool) (a3_4 : Bool) (r : List (S40)) (w : World) (hr0 : Kd.C k40 w A0 l0.length l0) (hc0 : l0.length ≤ c0) (h : impl_Pushed.f k l0 a1 a2 a3_0 a3_1 a3_2 a3_3 a3_4 = some r) :
  Calls Try.prog 17 #[.slice A0 l0.length c0, .int .i64 a1, .int .i64 a2, .agg #[.int .i64 a3_0, .int .i64 a3_1, .bool a3_2, .bool a3_3, .bool a3_4]] w fun e w' => ∃ v0_ : Value, e = .returned (v0_) ∧ Kd.R k40 40 w' w.heap.size (fun _ => True) v0_ r ∧ Below w.heap.size w w' := by
 have hu29 := Try.underlying29
 have HR0 := am hr0
 have HC0 := am hc0
 clear hr0 hc0
 have HB := am (Below.refl w.heap.size w)
 have H := h
 unfold impl_Pushed.f at H
 clear h
 replace H := Option.bind_eq_some_iff.mp H
 obtain ⟨t531, A50, H⟩ := H
 (try dsimp only at H)
 have A5 := am A50
 clear A50
 refine em_ (p := t531 = true) (fun c6 => ?g0p) (fun c6 => ?g0n)
 case' g0p =>
  subst c6
  rw [if_pos rfl] at H
  replace H := Option.bind_eq_some_iff.mp H
  obtain ⟨t532, A70, H⟩ := H
  replace H : (some t532) = some r := H
  have A7 := am A70
  clear A70
  obtain rfl := Option.some.inj H
  have lf1_ := trivial
 case' g0n =>
  replace c6 := Bool.eq_false_iff.mpr c6
  subst c6
  have H1 : (some ([] : List (S40))) = some r := by rw [if_neg (show ¬ (false = true) by decide)] at H; exact H
  clear H
  have H := H1
  clear H1
  obtain rfl := Option.some.inj H
  have lf2_ := trivial
 all_goals
  go_enter Try.func17, Try.ntmps17
  go_wp2_with (first | ((with_reducible refine gate_callee (f := 36) rfl ?_); refine gl_ (some 13) Try.func36 #[.slice A0 l0.length c0, .int .i64 a1, .int .i64 a2, .agg #[.int .i64 a3_0, .int .i64 a3_1, .bool a3_2, .bool a3_3, .bool a3_4]] ?_; (with_reducible refine (impl_isMove.calls k _ _ l0 a1 a2 a3_0 a3_1 a3_2 a3_3 a3_4 true _ ?side1 ?side2 A5.out).mono ?_); (case side1 => exact rc ((Kd.C_below HR0.out HB.out))); (case side2 => exact HC0.out); rintro e w10 ⟨rfl, hb⟩; refine ⟨_, rfl, ?_⟩; have n0_ := am (blk_below (g := gb530) (o := .cells #[.int .i64 a3_0, .int .i64 a3_1, .bool a3_2, .bool a3_3, .bool a3_4] 29 (0, 0)) (rk BK530) hb); have n1_ := am (below_step (rb1 HB GE530) hb); clear BK530; clear HB; have BK530 := n0_; have HB := n1_; clear n0_ n1_; (try clear hb); (try clear hb2); (try clear hk); (try clear hi); have hcz11_0 : w10.cell? ⟨gb530, 0, none⟩ = some (.int .i64 a3_0) := (blk_cell BK530.out 0).trans rfl; have hcz11_1 : w10.cell? ⟨gb530, 1, none⟩ = some (.int .i64 a3_1) := (blk_cell BK530.out 1).trans rfl; have hcz11_2 : w10.cell? ⟨gb530, 2, none⟩ = some (.bool a3_2) := (blk_cell BK530.out 2).trans rfl; have hcz11_3 : w10.cell? ⟨gb530, 3, none⟩ = some (.bool a3_3) := (blk_cell BK530.out 3).trans rfl; have hcz11_4 : w10.cell? ⟨gb530, 4, none⟩ = some (.bool a3_4) := (blk_cell BK530.out 4).trans rfl; have hfz11_0 := blk_frozen BK530.out 0; have hfz11_1 := blk_frozen BK530.out 1; have hfz11_2 := blk_frozen BK530.out 2; have hfz11_3 := blk_frozen BK530.out 3; have hfz11_4 := blk_frozen BK530.out 4) | ((with_reducible refine gate_dst (N := 7) rfl ?_); refine box_event ?hg (N := 7) ?hd (cs := #[.int .i64 a3_0, .int .i64 a3_1, .bool a3_2, .bool a3_3, .bool a3_4]) (t := 29) ?hr ?_; (case hd => rfl); (case hg => rfl); (case hr => first | (go_simp; done) | (go_simp; rfl)); intro gb530 hg w8 hbox hb; have n0_ := am (below_step (rb HB) hb); have n1_ := am (hbox); have n2_ := am ((by rw [hg]; exact (below_size (rb HB)) : w.heap.size ≤ gb530)); have n3_ := am ((by rw [hg]; exact (below_size (rb HB)) : w.heap.size ≤ gb530)); clear HB; have HB := n0_; have BK530 := n1_; have GW530 := n2_; have GE530 := n3_; clear n0_ n1_ n2_ n3_; clear hb hbox hg; have hcz9_0 : w8.cell? ⟨gb530, 0, none⟩ = some (.int .i64 a3_0) := (blk_cell BK530.out 0).trans rfl; have hcz9_1 : w8.cell? ⟨gb530, 1, none⟩ = some (.int .i64 a3_1) := (blk_cell BK530.out 1).trans rfl; have hcz9_2 : w8.cell? ⟨gb530, 2, none⟩ = some (.bool a3_2) := (blk_cell BK530.out 2).trans rfl; have hcz9_3 : w8.cell? ⟨gb530, 3, none⟩ = some (.bool a3_3) := (blk_cell BK530.out 3).trans rfl; have hcz9_4 : w8.cell? ⟨gb530, 4, none⟩ = some (.bool a3_4) := (blk_cell BK530.out 4).trans rfl; have hfz9_0 := blk_frozen BK530.out 0; have hfz9_1 := blk_frozen BK530.out 1; have hfz9_2 := blk_frozen BK530.out 2; have hfz9_3 := blk_frozen BK530.out 3; have hfz9_4 := blk_frozen BK530.out 4) | ((with_reducible refine gate_callee (f := 40) rfl ?_); refine gl_ (some 19) Try.func40 #[.slice A0 l0.length c0, .int .i64 a1, .int .i64 a2, .agg #[.int .i64 a3_0, .int .i64 a3_1, .bool a3_2, .bool a3_3, .bool a3_4]] ?_; (with_reducible refine (impl_push.calls k _ _ l0 a1 a2 a3_0 a3_1 a3_2 a3_3 a3_4 t532 _ ?side1 ?side2 A7.out).mono ?_); (case side1 => exact rc ((Kd.C_below HR0.out HB.out))); (case side2 => exact HC0.out); rintro e w12 ⟨v533, rfl, ho0, hb⟩; refine ⟨_, rfl, ?_⟩; have n0_ := am (Kd.R_lower ho0 (below_size (rb1 HB GE530))); have n1_ := am (blk_below (g := gb530) (o := .cells #[.int .i64 a3_0, .int .i64 a3_1, .bool a3_2, .bool a3_3, .bool a3_4] 29 (0, 0)) (rk BK530) hb); have n2_ := am (below_step (rb1 HB GE530) hb); clear BK530; clear HB; have HO534 := n0_; have BK530 := n1_; have HB := n2_; clear n0_ n1_ n2_; (try clear hb); (try clear hb2); (try clear hk); (try clear hi); (try clear ho0)) | ((with_reducible refine gate_callee (f := 36) rfl ?_); refine gl_ (some 13) Try.func36 #[.slice A0 l0.length c0, .int .i64 a1, .int .i64 a2, .agg #[.int .i64 a3_0, .int .i64 a3_1, .bool a3_2, .bool a3_3, .bool a3_4]] ?_; (with_reducible refine (impl_isMove.calls k _ _ l0 a1 a2 a3_0 a3_1 a3_2 a3_3 a3_4 false _ ?side1 ?side2 A5.out).mono ?_); (case side1 => exact rc ((Kd.C_below HR0.out HB.out))); (case side2 => exact HC0.out); rintro e w15 ⟨rfl, hb⟩; refine ⟨_, rfl, ?_⟩; have n0_ := am (blk_below (g := gb530) (o := .cells #[.int .i64 a3_0, .int .i64 a3_1, .bool a3_2, .bool a3_3, .bool a3_4] 29 (0, 0)) (rk BK530) hb); have n1_ := am (below_step (rb1 HB GE530) hb); clear BK530; clear HB; have BK530 := n0_; have HB := n1_; clear n0_ n1_; (try clear hb); (try clear hb2); (try clear hk); (try clear hi)))
  go_ret
  first
  | (
    have q_ := lf2_
    exact ⟨_, by first | rfl | (simp [errW_none, errW_some] <;> rfl) | (simp [*, errW_none, errW_some] <;> rfl), by first | exact Kd.R_nil _ _ _ _ _ | exact Kd.N_nil _ _ _ _ _ | exact Kd.V_nil _ _ _ _ _ | exact Kd.Q_nil _ _ _ _ _ | exact Kd.S_nil _ _ _ _ _, by repeat (first | (with_reducible first | exact HB.out | apply b1 | apply b2 | apply b3 | refine below_set ?_ GE530.out) | exact HB.out)⟩
    )
  | (
    have q_ := lf1_
    exact ⟨_, by first | rfl | (simp [errW_none, errW_some] <;> rfl) | (simp [*, errW_none, errW_some] <;> rfl), by (with_reducible repeat (first | apply r1 | apply r2 | apply r3)); exact HO534.out, by repeat (first | (with_reducible first | exact HB.out | apply b1 | apply b2 | apply b3 | refine below_set ?_ GE530.out) | exact HB.out)⟩
    )

end Go.Proofs.Ytfhkpneffmcdbaa.QD
