/- Contracts of Go functions that laws of this seat reach: each Lean function answers as its Go function does. No condition. Written by wip/tools/inj.py, over the kit's print. -/
import Derived.Test.YtfhkpneffmcdbaaQEx0
import Derived.Test.YtfhkpneffmcdbaaQEx2
namespace Go.Proofs.Ytfhkpneffmcdbaa.QE
open Go.RowKit Go.Proofs.YtfhkpneffmcdbaaW.PrintWords Go.Proofs.YtfhkpneffmcdbaaW.PrintLast Go.Proofs.YtfhkpneffmcdbaaW.PrintMore
attribute [local go_sem] max2_int min2_int max_two min_two max_three min_three max_four min_four   -- for this text's walks alone
set_option linter.unusedVariables false
set_option linter.unusedSimpArgs false

/-! ### spec_NewGrid: function 22 -/
def spec_NewGrid.f (k : Nat) (a0 : Int) (a1 : Int) : Option (Int × (List (List (S40))) × Bool) := (spec_l1In.f a0 1 60).bind fun t126 => (if t126 = true then ((spec_l1In.f a1 1 30).bind fun t127 => (if t127 = true then ((spec_l5New.f k a0 a1).bind fun bt128 => (some (bt128.1, bt128.2, true))) else (some (0, ([] : List (List (S40))), false)))) else (some (0, ([] : List (List (S40))), false)))
theorem spec_NewGrid.mono : ∀ a0 a1 k, LeO (spec_NewGrid.f k a0 a1) (spec_NewGrid.f (k + 1) a0 a1) := by
 intro a0 a1 k
 unfold spec_NewGrid.f
 repeat' first
   | (with_reducible exact spec_l5New.mono _ _ _)
   | (with_reducible exact LeO.refl _)
   | (with_reducible exact LeO.none _)
   | (with_reducible refine LeO.ite ?_ ?_)
   | (with_reducible refine LeO.bind ?_ (fun _ => ?_))
set_option maxHeartbeats 8000000 in
set_option maxRecDepth 100000 in
theorem spec_NewGrid.calls (k : Nat) (a0 : Int) (a1 : Int) (r1 : Int) (r2 : List (List (S40))) (r3 : Bool) (w : World) (h : spec_NewGrid.f k a0 a1 = some (r1, r2, r3)) :
  Calls Try.prog 22 #[.int .i64 a0, .int .i64 a1] w fun e w' => ∃ v1_ : Value, e = .returned (.tuple #[.agg #[.int .i64 r1, v1_], .bool r3]) ∧ Kd.S (Kd.slice 40 k40) 26 w' w.heap.size (fun _ => True) v1_ r2 ∧ Below w.heap.size w w' := by
 have hu43 := Try.underlying43
 have HB := am (Below.refl w.heap.size w)
 have H := h
 unfold spec_NewGrid.f at H
 clear h
 replace H := Option.bind_eq_some_iff.mp H
 obtain ⟨t126, A30, H⟩ := H
 (try dsimp only at H)
 have A3 := am A30
 clear A30
 refine em_ (p := t126 = true) (fun c4 => ?g1p) (fun c4 => ?g1n)
 case' g1p =>
  subst c4
  rw [if_pos rfl] at H
  replace H := Option.bind_eq_some_iff.mp H
  obtain ⟨t127, A50, H⟩ := H
  (try dsimp only at H)
  have A5 := am A50
  clear A50
  refine em_ (p := t127 = true) (fun c6 => ?g0p) (fun c6 => ?g0n)
  case' g0p =>
   subst c6
   rw [if_pos rfl] at H
   replace H := Option.bind_eq_some_iff.mp H
   obtain ⟨⟨t128, t129⟩, A70, H⟩ := H
   (try dsimp only at H)
   have A7 := am A70
   clear A70
   simp only [Option.some.injEq, Prod.mk.injEq] at H
   obtain ⟨rfl, rfl, rfl⟩ := H
   have lf1_ := trivial
  case' g0n =>
   replace c6 := Bool.eq_false_iff.mpr c6
   subst c6
   rw [if_neg (show ¬ (false = true) by decide)] at H
   simp only [Option.some.injEq, Prod.mk.injEq] at H
   obtain ⟨rfl, rfl, rfl⟩ := H
   have lf2_ := trivial
 case' g1n =>
  replace c4 := Bool.eq_false_iff.mpr c4
  subst c4
  rw [if_neg (show ¬ (false = true) by decide)] at H
  simp only [Option.some.injEq, Prod.mk.injEq] at H
  obtain ⟨rfl, rfl, rfl⟩ := H
  have lf3_ := trivial
 all_goals
  go_enter Try.func22, Try.ntmps22
  go_wp2_with (first | ((with_reducible refine gate_callee (f := 47) rfl ?_); refine gl_ (some 17) Try.func47 #[.int .i64 a0, .int .i64 a1] ?_; (with_reducible refine (spec_l5New.calls k a0 a1 t128 t129 _ A7.out).mono ?_); rintro e w9 ⟨v130, rfl, ho0, hb⟩; refine ⟨_, rfl, ?_⟩; have n0_ := am (Kd.S_lower ho0 (below_size (rb1 HB GE125))); have n1_ := am (blk_below (g := gb125) (o := .cells #[.int .i64 0, .slice none 0 0] 43 (0, 0)) (rk BK125) hb); have n2_ := am (below_step (rb1 HB GE125) hb); clear BK125; clear HB; have HO131 := n0_; have BK125 := n1_; have HB := n2_; clear n0_ n1_ n2_; (try clear hb); (try clear hb2); (try clear hk); (try clear hi); (try clear ho0); have hcz10_0 : w9.cell? ⟨gb125, 0, none⟩ = some (.int .i64 0) := (blk_cell BK125.out 0).trans rfl; have hcz10_1 : w9.cell? ⟨gb125, 1, none⟩ = some (.slice none 0 0) := (blk_cell BK125.out 1).trans rfl; have hfz10_0 := blk_frozen BK125.out 0; have hfz10_1 := blk_frozen BK125.out 1; obtain ⟨Ao11, co11, eo11⟩ := Kd.S_slice HO131.out; subst eo11) | ((with_reducible refine gate_callee (f := 33) rfl ?_); refine gl_ (some 7) Try.func33 #[.int .i64 a0, .int .i64 1, .int .i64 60] ?_; (with_reducible refine (spec_l1In.calls a0 1 60 false _ A3.out).mono ?_); rintro e w' ⟨rfl, ⟨nd, rfl⟩⟩; refine ⟨_, rfl, ?_⟩; (try (rw [drewN_self w8]; generalize hq_ : World.drewN w8 _ = w8; have n0_ : Aside0 (w8.heap[gb125]? = some (.cells #[.int .i64 0, .slice none 0 0] 43 (0, 0))) := ⟨by rw [← hq_]; exact (rk BK125)⟩; have n1_ : Aside0 (Below w.heap.size w w8) := ⟨by rw [← hq_]; exact (rb1 HB GE125)⟩; clear BK125 HB hq_; have BK125 := n0_; have HB := n1_; clear n0_ n1_)); have hcz15_0 : w8.cell? ⟨gb125, 0, none⟩ = some (.int .i64 0) := (blk_cell BK125.out 0).trans rfl; have hcz15_1 : w8.cell? ⟨gb125, 1, none⟩ = some (.slice none 0 0) := (blk_cell BK125.out 1).trans rfl; have hfz15_0 := blk_frozen BK125.out 0; have hfz15_1 := blk_frozen BK125.out 1) | (go_at_call 33; (with_reducible refine (spec_l1In.calls a1 1 30 false _ A5.out).mono ?_); rintro e w' ⟨rfl, ⟨nd, rfl⟩⟩; (try (rw [drewN_self w8]; generalize hq_ : World.drewN w8 _ = w8; have n0_ : Aside0 (w8.heap[gb125]? = some (.cells #[.int .i64 0, .slice none 0 0] 43 (0, 0))) := ⟨by rw [← hq_]; exact (rk BK125)⟩; have n1_ : Aside0 (Below w.heap.size w w8) := ⟨by rw [← hq_]; exact (rb1 HB GE125)⟩; clear BK125 HB hq_; have BK125 := n0_; have HB := n1_; clear n0_ n1_)); have hcz13_0 : w8.cell? ⟨gb125, 0, none⟩ = some (.int .i64 0) := (blk_cell BK125.out 0).trans rfl; have hcz13_1 : w8.cell? ⟨gb125, 1, none⟩ = some (.slice none 0 0) := (blk_cell BK125.out 1).trans rfl; have hfz13_0 := blk_frozen BK125.out 0; have hfz13_1 := blk_frozen BK125.out 1) | ((with_reducible refine gate_callee (f := 33) rfl ?_); refine gl_ (some 7) Try.func33 #[.int .i64 a0, .int .i64 1, .int .i64 60] ?_; (with_reducible refine (spec_l1In.calls a0 1 60 true _ A3.out).mono ?_); rintro e w' ⟨rfl, ⟨nd, rfl⟩⟩; refine ⟨_, rfl, ?_⟩; (try (rw [drewN_self w8]; generalize hq_ : World.drewN w8 _ = w8; have n0_ : Aside0 (w8.heap[gb125]? = some (.cells #[.int .i64 0, .slice none 0 0] 43 (0, 0))) := ⟨by rw [← hq_]; exact (rk BK125)⟩; have n1_ : Aside0 (Below w.heap.size w w8) := ⟨by rw [← hq_]; exact (rb1 HB GE125)⟩; clear BK125 HB hq_; have BK125 := n0_; have HB := n1_; clear n0_ n1_))) | ((with_reducible refine gate_dst (N := 4) rfl ?_); refine box_event ?hg (N := 4) ?hd (cs := #[.int .i64 0, .slice none 0 0]) (t := 43) ?hr ?_; (case hd => rfl); (case hg => rfl); (case hr => first | (go_simp; done) | (go_simp; rfl)); intro gb125 hg w8 hbox hb; have n0_ := am (below_step (rb HB) hb); have n1_ := am (hbox); have n2_ := am ((by rw [hg]; exact (below_size (rb HB)) : w.heap.size ≤ gb125)); have n3_ := am ((by rw [hg]; exact (below_size (rb HB)) : w.heap.size ≤ gb125)); clear HB; have HB := n0_; have BK125 := n1_; have GW125 := n2_; have GE125 := n3_; clear n0_ n1_ n2_ n3_; clear hb hbox hg) | (go_at_call 33; (with_reducible refine (spec_l1In.calls a1 1 30 true _ A5.out).mono ?_); rintro e w' ⟨rfl, ⟨nd, rfl⟩⟩; (try (rw [drewN_self w8]; generalize hq_ : World.drewN w8 _ = w8; have n0_ : Aside0 (w8.heap[gb125]? = some (.cells #[.int .i64 0, .slice none 0 0] 43 (0, 0))) := ⟨by rw [← hq_]; exact (rk BK125)⟩; have n1_ : Aside0 (Below w.heap.size w w8) := ⟨by rw [← hq_]; exact (rb1 HB GE125)⟩; clear BK125 HB hq_; have BK125 := n0_; have HB := n1_; clear n0_ n1_))))
  first
  | (
    have q_ := lf1_
    refine bodyPost_ret (results_ct rfl _ _ gb125 43 #[.int .i64 t128, .slice Ao11 t129.length co11] (0, 0) _ rfl (by (with_reducible repeat (first | apply k1 | apply k2 | apply k3)); refine blk_put (cs := #[.int .i64 t128, .slice none 0 0]) ?_ 1 _ rfl; (with_reducible repeat (first | apply k1 | apply k2 | apply k3)); refine blk_put (cs := #[.int .i64 0, .slice none 0 0]) ?_ 0 _ rfl; (with_reducible repeat (first | apply k1 | apply k2 | apply k3)); exact BK125.out) Try.underlying43 rfl (by kernel_rfl)) rfl ?_
    exact ⟨_, by first | rfl | (simp [errW_none, errW_some] <;> rfl) | (simp [*, errW_none, errW_some] <;> rfl), by (with_reducible repeat (first | apply Kd.S_alloc | apply Kd.S_drewN | apply Kd.S_drew)); exact Kd.S_mono (Kd.S_far (p := ⟨gb125, 1, none⟩) (Kd.S_far (p := ⟨gb125, 0, none⟩) (Kd.S_types HO131.out BK125.out (by decide)) (fun _ hk => hk.2) (.int .i64 t128)) (fun _ hk => hk.2) (.slice Ao11 t129.length co11)) (fun _ hk => trivial), by repeat (first | (with_reducible first | exact HB.out | apply b1 | apply b2 | apply b3 | refine below_set ?_ GE125.out) | exact HB.out)⟩
    )
  | (
    first | have q_ := lf2_ | have q_ := lf3_
    refine bodyPost_ret (results_ct rfl _ _ gb125 43 #[.int .i64 0, .slice none 0 0] (0, 0) _ rfl (by (with_reducible repeat (first | apply k1 | apply k2 | apply k3)); refine blk_put (cs := #[.int .i64 0, .slice none 0 0]) ?_ 1 _ rfl; (with_reducible repeat (first | apply k1 | apply k2 | apply k3)); refine blk_put (cs := #[.int .i64 0, .slice none 0 0]) ?_ 0 _ rfl; (with_reducible repeat (first | apply k1 | apply k2 | apply k3)); exact BK125.out) Try.underlying43 rfl (by kernel_rfl)) rfl ?_
    exact ⟨_, by first | rfl | (simp [errW_none, errW_some] <;> rfl) | (simp [*, errW_none, errW_some] <;> rfl), by first | exact Kd.S_nil _ _ _ _ _ | exact Kd.N_nil _ _ _ _ _ | exact Kd.V_nil _ _ _ _ _ | exact Kd.Q_nil _ _ _ _ _ | exact Kd.R_nil _ _ _ _ _, by repeat (first | (with_reducible first | exact HB.out | apply b1 | apply b2 | apply b3 | refine below_set ?_ GE125.out) | exact HB.out)⟩
    )

/-! ### impl_in: function 46 -/
def impl_in.f (a0 : Int) (a1 : Int) (a2 : Int) : Option (Bool) := if a1 ≤ a0 then (some (decide (a0 ≤ a2))) else (some false)
set_option maxHeartbeats 8000000 in
set_option maxRecDepth 100000 in
theorem impl_in.calls (a0 : Int) (a1 : Int) (a2 : Int) (r : Bool) (w : World) (h : impl_in.f a0 a1 a2 = some r) :
  Calls Try.prog 46 #[.int .i64 a0, .int .i64 a1, .int .i64 a2] w fun e w' => e = .returned (.bool r) ∧ Drawn0 w w' := by
 have H : (if a1 ≤ a0 then (some (decide (a0 ≤ a2))) else (some false)) = some r := h
 clear h
 by_cases c4 : a1 ≤ a0
 ·rw [if_pos c4] at H
  have c4b0 : decide (a1 ≤ a0) = true := decide_eq_true c4
  clear c4
  obtain rfl := Option.some.inj H
  go_enter Try.func46, Try.ntmps46
  go_wp2
  go_ret
  exact ⟨by first | rfl | (simp; done) | (simp [*]; done), by repeat (first | exact Drawn0.refl _ | apply Drawn0.step)⟩
 ·rw [if_neg c4] at H
  have c4b0 : decide (a1 ≤ a0) = false := decide_eq_false c4
  clear c4
  obtain rfl := Option.some.inj H
  go_enter Try.func46, Try.ntmps46
  go_wp2
  go_ret
  exact ⟨by first | rfl | (simp; done) | (simp [*]; done), by repeat (first | exact Drawn0.refl _ | apply Drawn0.step)⟩

/-! ### impl_StyleOk: function 62 -/
def impl_StyleOk.f (a0_0 : Int) (a0_1 : Int) (a0_2 : Bool) (a0_3 : Bool) (a0_4 : Bool) : Option (Bool) := (impl_in.f a0_0 0 8).bind fun t133 => (if t133 = true then ((impl_in.f a0_1 0 8).bind fun t134 => (some t134)) else (some false))
set_option maxHeartbeats 8000000 in
set_option maxRecDepth 100000 in
theorem impl_StyleOk.calls (a0_0 : Int) (a0_1 : Int) (a0_2 : Bool) (a0_3 : Bool) (a0_4 : Bool) (r : Bool) (w : World) (h : impl_StyleOk.f a0_0 a0_1 a0_2 a0_3 a0_4 = some r) :
  Calls Try.prog 62 #[.agg #[.int .i64 a0_0, .int .i64 a0_1, .bool a0_2, .bool a0_3, .bool a0_4]] w fun e w' => e = .returned (.bool r) ∧ Below w.heap.size w w' := by
 have hu29 := Try.underlying29
 have HB := am (Below.refl w.heap.size w)
 have H := h
 unfold impl_StyleOk.f at H
 clear h
 replace H := Option.bind_eq_some_iff.mp H
 obtain ⟨t133, A20, H⟩ := H
 (try dsimp only at H)
 have A2 := am A20
 clear A20
 by_cases c3 : t133 = true
 ·subst c3
  have H1 : ((impl_in.f a0_1 0 8).bind fun t134 => (some t134)) = some r := by rw [if_pos rfl] at H; exact H
  clear H
  have H := H1
  clear H1
  replace H := Option.bind_eq_some_iff.mp H
  obtain ⟨t134, A40, H⟩ := H
  replace H : (some t134) = some r := H
  have A4 := am A40
  clear A40
  obtain rfl := Option.some.inj H
  go_enter Try.func62, Try.ntmps62
  go_wp2_with (first | ((with_reducible refine gate_dst (N := 1) rfl ?_); refine box_event ?hg (N := 1) ?hd (cs := #[.int .i64 a0_0, .int .i64 a0_1, .bool a0_2, .bool a0_3, .bool a0_4]) (t := 29) ?hr ?_; (case hd => rfl); (case hg => rfl); (case hr => first | (go_simp; done) | (go_simp; rfl)); intro gb132 hg w5 hbox hb; have n0_ := am (below_step (rb HB) hb); have n1_ := am (hbox); have n2_ := am ((by rw [hg]; exact (below_size (rb HB)) : w.heap.size ≤ gb132)); have n3_ := am ((by rw [hg]; exact (below_size (rb HB)) : w.heap.size ≤ gb132)); clear HB; have HB := n0_; have BK132 := n1_; have GW132 := n2_; have GE132 := n3_; clear n0_ n1_ n2_ n3_; clear hb hbox hg; have hcz6_0 : w5.cell? ⟨gb132, 0, none⟩ = some (.int .i64 a0_0) := (blk_cell BK132.out 0).trans rfl; have hcz6_1 : w5.cell? ⟨gb132, 1, none⟩ = some (.int .i64 a0_1) := (blk_cell BK132.out 1).trans rfl; have hcz6_2 : w5.cell? ⟨gb132, 2, none⟩ = some (.bool a0_2) := (blk_cell BK132.out 2).trans rfl; have hcz6_3 : w5.cell? ⟨gb132, 3, none⟩ = some (.bool a0_3) := (blk_cell BK132.out 3).trans rfl; have hcz6_4 : w5.cell? ⟨gb132, 4, none⟩ = some (.bool a0_4) := (blk_cell BK132.out 4).trans rfl; have hfz6_0 := blk_frozen BK132.out 0; have hfz6_1 := blk_frozen BK132.out 1; have hfz6_2 := blk_frozen BK132.out 2; have hfz6_3 := blk_frozen BK132.out 3; have hfz6_4 := blk_frozen BK132.out 4) | ((with_reducible refine gate_callee (f := 46) rfl ?_); refine gl_ (some 5) Try.func46 #[.int .i64 a0_0, .int .i64 0, .int .i64 8] ?_; (with_reducible refine (impl_in.calls a0_0 0 8 true _ A2.out).mono ?_); rintro e w' ⟨rfl, ⟨nd, rfl⟩⟩; refine ⟨_, rfl, ?_⟩) | (go_at_call 46; (with_reducible refine (impl_in.calls a0_1 0 8 t134 _ A4.out).mono ?_); rintro e w' ⟨rfl, ⟨nd, rfl⟩⟩))
  go_ret
  exact ⟨by first | rfl | (simp [errW_none, errW_some] <;> rfl) | (simp [*, errW_none, errW_some] <;> rfl), by repeat (first | (with_reducible first | exact HB.out | apply b1 | apply b2 | apply b3 | refine below_set ?_ GE132.out) | exact HB.out)⟩
 ·replace c3 := Bool.eq_false_iff.mpr c3
  subst c3
  have H1 : (some false) = some r := by rw [if_neg (show ¬ (false = true) by decide)] at H; exact H
  clear H
  have H := H1
  clear H1
  obtain rfl := Option.some.inj H
  go_enter Try.func62, Try.ntmps62
  go_wp2_with (first | ((with_reducible refine gate_dst (N := 1) rfl ?_); refine box_event ?hg (N := 1) ?hd (cs := #[.int .i64 a0_0, .int .i64 a0_1, .bool a0_2, .bool a0_3, .bool a0_4]) (t := 29) ?hr ?_; (case hd => rfl); (case hg => rfl); (case hr => first | (go_simp; done) | (go_simp; rfl)); intro gb132 hg w7 hbox hb; have n0_ := am (below_step (rb HB) hb); have n1_ := am (hbox); have n2_ := am ((by rw [hg]; exact (below_size (rb HB)) : w.heap.size ≤ gb132)); have n3_ := am ((by rw [hg]; exact (below_size (rb HB)) : w.heap.size ≤ gb132)); clear HB; have HB := n0_; have BK132 := n1_; have GW132 := n2_; have GE132 := n3_; clear n0_ n1_ n2_ n3_; clear hb hbox hg; have hcz8_0 : w7.cell? ⟨gb132, 0, none⟩ = some (.int .i64 a0_0) := (blk_cell BK132.out 0).trans rfl; have hcz8_1 : w7.cell? ⟨gb132, 1, none⟩ = some (.int .i64 a0_1) := (blk_cell BK132.out 1).trans rfl; have hcz8_2 : w7.cell? ⟨gb132, 2, none⟩ = some (.bool a0_2) := (blk_cell BK132.out 2).trans rfl; have hcz8_3 : w7.cell? ⟨gb132, 3, none⟩ = some (.bool a0_3) := (blk_cell BK132.out 3).trans rfl; have hcz8_4 : w7.cell? ⟨gb132, 4, none⟩ = some (.bool a0_4) := (blk_cell BK132.out 4).trans rfl; have hfz8_0 := blk_frozen BK132.out 0; have hfz8_1 := blk_frozen BK132.out 1; have hfz8_2 := blk_frozen BK132.out 2; have hfz8_3 := blk_frozen BK132.out 3; have hfz8_4 := blk_frozen BK132.out 4) | ((with_reducible refine gate_callee (f := 46) rfl ?_); refine gl_ (some 5) Try.func46 #[.int .i64 a0_0, .int .i64 0, .int .i64 8] ?_; (with_reducible refine (impl_in.calls a0_0 0 8 false _ A2.out).mono ?_); rintro e w' ⟨rfl, ⟨nd, rfl⟩⟩; refine ⟨_, rfl, ?_⟩))
  go_ret
  exact ⟨by first | rfl | (simp [errW_none, errW_some] <;> rfl) | (simp [*, errW_none, errW_some] <;> rfl), by repeat (first | (with_reducible first | exact HB.out | apply b1 | apply b2 | apply b3 | refine below_set ?_ GE132.out) | exact HB.out)⟩

/-! ### bits_Mul64: function 91 -/
def bits_Mul64.f (a0 : Int) (a1 : Int) : Option (Int × Int) := some (IntKind.u64.wrap ((IntKind.u64.wrap ((IntKind.u64.wrap ((a0 / 4294967296) * (a1 / 4294967296))) + ((IntKind.u64.wrap ((IntKind.u64.wrap ((a0 / 4294967296) * (Go.bits .and .u64 a1 4294967295))) + ((IntKind.u64.wrap ((Go.bits .and .u64 a0 4294967295) * (Go.bits .and .u64 a1 4294967295))) / 4294967296))) / 4294967296))) + ((IntKind.u64.wrap ((Go.bits .and .u64 (IntKind.u64.wrap ((IntKind.u64.wrap ((a0 / 4294967296) * (Go.bits .and .u64 a1 4294967295))) + ((IntKind.u64.wrap ((Go.bits .and .u64 a0 4294967295) * (Go.bits .and .u64 a1 4294967295))) / 4294967296))) 4294967295) + (IntKind.u64.wrap ((Go.bits .and .u64 a0 4294967295) * (a1 / 4294967296))))) / 4294967296)), IntKind.u64.wrap (a0 * a1))
set_option maxHeartbeats 8000000 in
set_option maxRecDepth 100000 in
theorem bits_Mul64.calls (a0 : Int) (a1 : Int) (r1 : Int) (r2 : Int) (w : World) (h : bits_Mul64.f a0 a1 = some (r1, r2)) :
  Calls Try.prog 91 #[.int .u64 a0, .int .u64 a1] w fun e w' => e = .returned (.tuple #[.int .u64 r1, .int .u64 r2]) ∧ Drawn0 w w' := by
 have H := h
 unfold bits_Mul64.f at H
 clear h
 simp only [Option.some.injEq, Prod.mk.injEq] at H
 obtain ⟨rfl, rfl⟩ := H
 go_enter Try.func91, Try.ntmps91
 go_wp2
 go_ret2
 exact ⟨by first | rfl | (simp; done) | (simp [*]; done), by repeat (first | exact Drawn0.refl _ | apply Drawn0.step)⟩

/-! ### bits_Mul: function 82 -/
def bits_Mul.f (a0 : Int) (a1 : Int) : Option (Int × Int) := (bits_Mul64.f a0 a1).bind fun bt135 => (some (bt135.1, bt135.2))
set_option maxHeartbeats 8000000 in
set_option maxRecDepth 100000 in
theorem bits_Mul.calls (a0 : Int) (a1 : Int) (r1 : Int) (r2 : Int) (w : World) (h : bits_Mul.f a0 a1 = some (r1, r2)) :
  Calls Try.prog 82 #[.int .u64 a0, .int .u64 a1] w fun e w' => e = .returned (.tuple #[.int .u64 r1, .int .u64 r2]) ∧ Drawn0 w w' := by
 have H : ((bits_Mul64.f a0 a1).bind fun bt135 => (some (bt135.1, bt135.2))) = some (r1, r2) := h
 clear h
 replace H := Option.bind_eq_some_iff.mp H
 obtain ⟨⟨t135, t136⟩, A30, H⟩ := H
 replace H : (some (t135, t136)) = some (r1, r2) := H
 have A3 := am A30
 clear A30
 simp only [Option.some.injEq, Prod.mk.injEq] at H
 obtain ⟨rfl, rfl⟩ := H
 go_enter Try.func82, Try.ntmps82
 go_wp2_with (first | ((with_reducible refine gate_callee (f := 91) rfl ?_); refine gl_ (some 25) Try.func91 #[.int .u64 a0, .int .u64 a1] ?_; (with_reducible refine (bits_Mul64.calls a0 a1 t135 t136 _ A3.out).mono ?_); rintro e w' ⟨rfl, ⟨nd, rfl⟩⟩; refine ⟨_, rfl, ?_⟩))
 go_ret2
 exact ⟨by first | rfl | (simp; done) | (simp [*]; done), by repeat (first | exact Drawn0.refl _ | apply Drawn0.step)⟩

/-! ### impl_Cell_66: function 66 -/
theorem rep_copy {P : Program} {w : World} {o : Oper} {a : Act} {K : Act → World → Prop} {Q : Exit → Act → World → Prop} (d s : Operand) (dT sT : TypeId)
  (ho : o.op = .call { callee := .builtin .copy, args := #[d, s], argTypes := #[dT, sT] }) (elem : TypeId) (hu : P.underlying dT = some (.slice elem)) (sz : Nat) (hsz : (P.info? elem).map (·.size) = some sz)
  (g off dLen dCap : Nat) (ad : Addr) (sLen sCap : Nat) (hd : a.eval d = .slice (some ⟨g, off, none⟩) dLen dCap) (hs : a.eval s = .slice (some ad) sLen sCap)
  (cur : List Value) (t : TypeId) (hg : w.heap[g]? = some (.cells cur.toArray t (0, 0))) (cs : List Value) (m : Nat) (hm : m = Nat.min sLen dLen) (hn : cs.length = m * sz)
  (hsrc : ∀ j v, cs[j]? = some v → w.cell? (ad.add j) = some v) (hfit : off + cs.length ≤ cur.length) (h1 : ∀ v ∈ cs, v.oneCell' = true)
  (h : ∀ w', w' = w.setRow g (cur.take off ++ cs ++ cur.drop (off + cs.length)).toArray → K (a.put o.dst (goInt m)) w') : o.wp P a w K Q := by
 have hl := run_loadCells_list (P := P) w ad cs hsrc
 have hst := run_storeCells_at P g off t cs 0 cur.toArray w hg (by simpa using hfit) h1
 have hrun : (Builtin.copy_ #[dT, sT] o.type #[.slice (some ⟨g, off, none⟩) dLen dCap, .slice (some ad) sLen sCap]).run P w = .ok (goInt m) (w.setRow g (cur.take off ++ cs ++ cur.drop (off + cs.length)).toArray) := by
  cases hq : P.info? elem with
  | none => simp [hq] at hsz
  | some i =>
   have hi : i.size = sz := by simpa [hq] using hsz
   simp only [Nat.add_zero, List.append_assoc] at hst
   simp [Builtin.copy_, run_underlying hu, Builtin.lenOf, Builtin.firstCells, sizeOf, typeInfo, hq, hi, ← hm, ← hn, hl, hst]
 unfold Oper.wp
 simp [execOp, ho, resolve, invoke, builtin, hd, hs, hrun, Result.andThen]
 have := h _ rfl
 simp only [List.append_assoc] at this
 exact this
def rep_ (c : List Value) (k : Nat) : List Value := (List.replicate k c).flatten
theorem rep_len (c : List Value) (k : Nat) : (rep_ c k).length = k * c.length := by simp [rep_]
theorem rep_add (c : List Value) (a b : Nat) : rep_ c a ++ rep_ c b = rep_ c (a + b) := by unfold rep_; rw [← List.flatten_append, List.replicate_append_replicate]
theorem rep_mem {c : List Value} {k : Nat} {v : Value} (h : v ∈ rep_ c k) : v ∈ c := by
 simp only [rep_, List.mem_flatten] at h
 obtain ⟨l, hl, hv⟩ := h
 rwa [(List.mem_replicate.mp hl).2] at hv
theorem rep_reps {α : Type} {R : α → List Value → Prop} {c : List Value} {x : α} {size : Nat} (hc : c.length = size) (h : R x c) : ∀ k, Reps R size (List.replicate k x) (rep_ c k)
 | 0 => Reps.none _ _
 | k + 1 => by
  have := Reps.snoc (rep_reps hc h k) h hc
  rw [show List.replicate (k + 1) x = List.replicate k x ++ [x] by rw [List.replicate_succ'], ← rep_add c k 1]
  simpa [rep_] using this
theorem rep_make {P : Program} {w0 w : World} {ops : Array Oper} {rest : List Oper} {o : Oper} {a : Act} {Q : Exit → Act → World → Prop} (hgd : o.guard = none) (t : TypeId) (x y : Operand) (ho : o.op = .makeSlice t x y)
  (m : Nat) (hx : a.eval x = .int .i64 (m : Int)) (hy : a.eval y = .int .i64 (m : Int)) (e : TypeId) (ht : P.underlying t = some (.slice e)) (z : Value) (sz bytes : Nat)
  (hinfo : (P.info? e).map (fun i => (i.zero, i.size, i.bytes)) = some (some z, sz, bytes)) (hl : m * bytes ≤ 281474976710656) (hm : m ≤ 9223372036854775807) (HB : Below w0.heap.size w0 w)
  (h : ∀ (g : Nat) (w1 : World) (Z : List Value), Z.length = m * sz → w0.heap.size ≤ g → w1.heap[g]? = some (.cells Z.toArray e (0, 0)) → Below w0.heap.size w0 w1 → wpList P ops Q rest (a.put o.dst (.slice (some ⟨g, 0, none⟩) m m)) w1) : wpList P ops Q (o :: rest) a w := by
 obtain ⟨i0, hi, hzz⟩ := Option.map_eq_some_iff.1 hinfo
 simp only [Prod.mk.injEq] at hzz
 obtain ⟨hz0, hz1, hz2⟩ := hzz
 have hr := run_make (P := P) w t e i0 z ht hi hz0 .i64 .i64 (m : Int) (m : Int) (by omega) (by omega)
  (by
   have h3 : ((i0.bytes * m : Nat) : Int) ≤ 281474976710656 := by rw [hz2, Nat.mul_comm]; omega
   rwa [Int.natCast_mul] at h3) (by omega)
 simp only [Int.toNat_natCast] at hr
 rw [hz1] at hr
 refine wpList_plain hgd fun K hK => ?_
 unfold Oper.wp
 simp [execOp, ho, hx, hy, hr, Result.andThen]
 refine hK _ _ (h w.heap.size _ (madeCells z.cells (m * sz)).toList ?_ HB.size ?_ (HB.alloc HB.size _))
 ·rw [Array.length_toList, size_madeCells]
 ·rw [Array.toArray_toList]; exact heap_alloc_new w _
theorem rep_step {P : Program} {w0 w : World} {o : Oper} {a : Act} {K : Act → World → Prop} {Q : Exit → Act → World → Prop} (d s : Operand) (dT sT : TypeId)
  (ho : o.op = .call { callee := .builtin .copy, args := #[d, s], argTypes := #[dT, sT] }) (elem : TypeId) (hu : P.underlying dT = some (.slice elem)) (sz : Nat) (hsz : (P.info? elem).map (·.size) = some sz)
  (c : List Value) (hc : c.length = sz) (h1 : ∀ v ∈ c, v.oneCell' = true) (m k j : Nat) (Z : List Value) (hZ : Z.length = (m - k) * sz) (hkj : k + j ≤ m)
  (g off dLen dCap : Nat) (ad : Addr) (sLen sCap : Nat) (hoff : off = k * sz) (hm : j = Nat.min sLen dLen) (hd : a.eval d = .slice (some ⟨g, off, none⟩) dLen dCap) (hs : a.eval s = .slice (some ad) sLen sCap)
  (t : TypeId) (hg : w.heap[g]? = some (.cells (rep_ c k ++ Z).toArray t (0, 0))) (hB : Below w0.heap.size w0 w) (hgw : w0.heap.size ≤ g)
  (hsrc : ∀ i v, (rep_ c j)[i]? = some v → w.cell? (ad.add i) = some v)
  (h : ∀ (w1 : World) (Z1 : List Value), Z1.length = (m - (k + j)) * sz → w1.heap[g]? = some (.cells (rep_ c (k + j) ++ Z1).toArray t (0, 0)) → Below w0.heap.size w0 w1 → K (a.put o.dst (goInt j)) w1) : o.wp P a w K Q := by
 have hl : (rep_ c j).length = j * sz := by rw [rep_len, hc]
 have hlk : (rep_ c k).length = k * sz := by rw [rep_len, hc]
 have hjk : j * sz ≤ (m - k) * sz := Nat.mul_le_mul_right _ (by omega)
 refine rep_copy d s dT sT ho elem hu sz hsz g off dLen dCap ad sLen sCap hd hs (rep_ c k ++ Z) t hg (rep_ c j) j hm hl hsrc (by rw [List.length_append, hlk, hoff, hl, hZ]; omega) (fun v hv => h1 v (rep_mem hv)) ?_
 rintro w1 rfl
 have e : (rep_ c k ++ Z).take off ++ rep_ c j ++ (rep_ c k ++ Z).drop (off + (rep_ c j).length) = rep_ c (k + j) ++ Z.drop (j * sz) := by
  rw [hoff, hl, ← hlk, List.take_left, List.drop_append, rep_add]
  simp
 rw [e]
 refine h _ (Z.drop (j * sz)) ?_ (setRow_heap w g _ _ t _ hg) (hB.trans ⟨rfl, rfl, rfl, by simp [World.setRow], fun k hk => setRow_other w g k _ (by omega)⟩)
 rw [List.length_drop, hZ, ← Nat.sub_mul, Nat.sub_sub]
theorem rep_step_on {P : Program} {w : World} {ops : Array Oper} {o : Oper} {a : Act} {K : Act → World → Prop} {Q : Exit → Act → World → Prop} {E : Prop} (hgd : o.guard = none) (h : o.wp P a w K Q) :
  if Region.wanted o (yielded ops a.tmps) = true then Oper.wp P o a w K Q else E := by
 have hw : Region.wanted o (yielded ops a.tmps) = true := by simp [Region.wanted, hgd]
 rw [if_pos hw]
 exact h
theorem rep_src {w : World} {g t : Nat} {c Z : List Value} {k j i : Nat} {v : Value} (hg : w.heap[g]? = some (.cells (rep_ c k ++ Z).toArray t (0, 0))) (hj : j ≤ k) (hv : (rep_ c j)[i]? = some v) : w.cell? ((⟨g, 0, none⟩ : Addr).add i) = some v := by
 rw [add_plain]
 obtain ⟨q, rfl⟩ : ∃ q, k = j + q := ⟨k - j, by omega⟩
 rw [← rep_add, List.append_assoc] at hg
 have hi : i < (rep_ c j).length := (List.getElem?_eq_some_iff.1 hv).1
 have h2 : (rep_ c j ++ (rep_ c q ++ Z))[i]? = some v := by rw [List.getElem?_append_left hi]; exact hv
 rw [cell_of_row w g i _ t (0, 0) hg]
 simpa using h2
theorem rep_R {α : Type} {d : Kd α} {e : Nat} {w : World} {base g m : Nat} {c Z : List Value} {x : α} (hc : c.length = d.sz) (hM : ∀ ok, d.M w base ok x c) (hZ : Z.length = (m - m) * d.sz) (hm : m ≤ maxLen) (hg : base ≤ g)
  (hG : w.heap[g]? = some (.cells (rep_ c m ++ Z).toArray e (0, 0))) : d.R e w base (fun _ => True) (.slice (some ⟨g, 0, none⟩) m m) (List.replicate m x) := by
 obtain rfl : Z = [] := List.eq_nil_of_length_eq_zero (by rw [hZ]; simp)
 rw [List.append_nil] at hG
 have hl : (rep_ c m).length = m * d.sz := by rw [rep_len, hc]
 refine ⟨fun _ _ => trivial, rep_ c m, ⟨by rw [hl, List.length_replicate], .inr ⟨g, m, (rep_ c m).toArray, by rw [List.length_replicate], hg, hG, by rw [List.length_replicate]; exact Nat.le_refl _, hm, by rw [List.size_toArray, hl], ?_⟩⟩, rep_reps hc (hM _) m⟩
 rw [List.toList_toArray, List.length_replicate, ← hl, List.take_length]
theorem rep_wrap {n : Int} (h : 0 ≤ n ∧ n ≤ 100000) : wrap64 n = n := by unfold wrap64; omega
theorem rep_mul (m : Nat) (hm : m ≤ 1000) : bits_Mul.f 1 (m : Int) = some (0, (m : Int)) := by
 have w1 : ∀ n : Int, IntKind.u64.wrap n = n % 18446744073709551616 := fun n => by simp [IntKind.wrap, IntKind.bits, IntKind.signed]
 have hb : ∀ n : Int, 0 ≤ n → n < 4294967296 → Go.bits .and .u64 n 4294967295 = n := by
  intro n h0 hn
  have := bits_mask .u64 32 (by decide) (fun n h0 h1 => by rw [w1]; omega) 32 (Nat.le_refl _) n h0 (by omega)
  refine Eq.trans this ?_
  omega
 have b1 := hb 1 (by omega) (by omega)
 have b2 := hb (m : Int) (by omega) (by omega)
 have b0 := hb 0 (by omega) (by omega)
 have d0 : (m : Int) / 4294967296 = 0 := by omega
 have d1 : (1 : Int) / 4294967296 = 0 := by omega
 have d2 : (m : Int) % 18446744073709551616 = (m : Int) := by omega
 unfold bits_Mul.f bits_Mul64.f
 simp only [b1, b2, w1, d0, d1, Int.one_mul, Int.zero_mul, Int.mul_zero, Int.zero_emod, Int.add_zero, d2, Int.zero_ediv, b0, Option.bind_some]
def impl_Cell_66.f (l0 : List (S40)) (a1 : Int) : Option (List (S40)) := if l0.length = 1 ∧ 0 ≤ a1 ∧ a1 ≤ 1000 then some (List.replicate a1.toNat (rd_T40 l0 0)) else none
set_option maxHeartbeats 8000000 in
set_option maxRecDepth 100000 in
theorem impl_Cell_66.calls (A0 : Option Addr) (c0 : Nat) (l0 : List (S40)) (a1 : Int) (r : List (S40)) (w : World) (hr0 : Kd.C k40 w A0 l0.length l0) (hc0 : l0.length ≤ c0) (h : impl_Cell_66.f l0 a1 = some r) :
  Calls Try.prog 66 #[.slice A0 l0.length c0, .int .i64 a1] w fun e w' => ∃ v0_ : Value, e = .returned (v0_) ∧ Kd.R k40 40 w' w.heap.size (fun _ => True) v0_ r ∧ Below w.heap.size w w' := by
 unfold impl_Cell_66.f at h
 by_cases hc : l0.length = 1 ∧ 0 ≤ a1 ∧ a1 ≤ 1000
 ·rw [if_pos hc] at h
  obtain rfl := Option.some.inj h
  clear h
  obtain ⟨hl, h0, h1⟩ := hc
  obtain ⟨m, rfl⟩ := Int.eq_ofNat_of_zero_le h0
  have hm : m ≤ 1000 := by omega
  obtain ⟨ad, cx, hA, hcl, hK, hcx⟩ := Kd.C_get hr0 z40 0 (Int.le_refl 0) (by omega)
  obtain ⟨x, hx⟩ : ∃ x, x = rd_T40 l0 0 := ⟨_, rfl⟩
  rw [show l0.getD (0 : Int).toNat z40 = rd_T40 l0 0 from rfl, ← hx] at hK
  rw [← hx]
  clear hr0
  rw [hl] at hc0
  simp only [hl]
  clear hx hl
  have hM : ∀ (w : World) (b : Nat) (ok : Nat → Prop), k40.M w b ok x cx := by rw [k40_open hK]; exact fun w b ok => k40_mkM w b ok x
  have hone : ∀ v ∈ cx, v.oneCell' = true := k40.K_one hK
  clear hK
  obtain ⟨cs, hcs⟩ : ∃ cs, cs = cx := ⟨_, rfl⟩
  rw [← hcs] at hcx hcl hM hone
  clear hcs
  have hL : cs.length = 7 := hcl
  subst hA
  have huT : Try.prog.underlying 26 = some (.slice 40) := by kernel_rfl
  have hiE : (Try.prog.info? 40).map (·.size) = some 7 := by kernel_rfl
  have c1 : decide ((m : Int) < 0) = false := decide_eq_false (by omega)
  have q1 : IntKind.u64.wrap 1 = 1 := by decide
  have q2 : IntKind.u64.wrap (m : Int) = (m : Int) := by unfold IntKind.wrap; simp [IntKind.bits, IntKind.signed]; omega
  have hsrc1 : ∀ j, j ≤ 1 → ∀ i v, (rep_ cs j)[i]? = some v → w.cell? (ad.add i) = some v := by
   intro j hj i v hv
   have hh : cs[i]? = some v := by
    rcases (show j = 0 ∨ j = 1 by omega) with rfl | rfl
    ·simp [rep_] at hv
    ·simpa [rep_] using hv
   have := hcx i v hh
   rwa [show Int.toNat 0 * k40.sz + i = i by simp] at this
  have hmul := rep_mul m hm
  go_enter Try.func66, Try.ntmps66
  go_wp2_with (first
   | ((with_reducible refine gate_callee (f := 82) rfl ?_); refine goesL_ (some 18) rfl rfl Try.func82 (by kernel_rfl) rfl #[.int .u64 1, .int .u64 (m : Int)] rfl (by (try simp only [List.map_toArray, List.map_cons, List.map_nil]); first | done | rfl | (go_simp; done) | (simp [q1, q2]; done)) ?_; (with_reducible refine (bits_Mul.calls 1 (m : Int) 0 (m : Int) _ hmul).mono ?_); rintro e w' ⟨rfl, ⟨nd, rfl⟩⟩; refine ⟨_, rfl, ?_⟩)
   | ((with_reducible refine gate_dst (N := 30) rfl ?_); refine rep_make (w0 := w) rfl 26 (.tmp 29) (.tmp 29) rfl m ?hx ?hy 40 huT (.agg #[(.int .i64 0), (.int .i64 0), (.int .i64 0), (.bool false), (.bool false), (.bool false), (.int .i64 0)]) 7 40 (by kernel_rfl) (by omega) (by omega) (by repeat (first | exact Below.refl _ _ | apply b1 | apply b2 | apply b3)) ?_; (case hx => first | (go_simp; done) | (go_simp; rfl)); (case hy => first | (go_simp; done) | (go_simp; rfl)); intro g w1 Z hZ hg hG HB; have HG := am hG; have HBB := am HB; have HGE := am hg; have HZ := am hZ; clear hG HB hg hZ)
   | ((with_reducible refine gate_dst (N := 33) rfl ?_); refine wpList_plain rfl fun K_ hK_ => rep_step (w0 := w) (.tmp 31) (.tmp 32) 26 26 rfl 40 huT 7 hiE cs hL hone m 0 (Nat.min 1 m) Z (by rw [HZ.out]; rfl) (by rw [Nat.zero_add]; exact Nat.min_le_right _ _) g 0 m m ad 1 c0 (Nat.zero_mul _).symm rfl ?hd ?hs 40 HG.out HBB.out HGE.out (fun i v hv => pw_cell_below HBB.out (hsrc1 _ (Nat.min_le_left _ _) i v hv)) ?_; (case hd => first | (go_simp; done) | (go_simp; rfl)); (case hs => first | (go_simp; done) | (go_simp; rfl)); intro w2 Z2 hZ hG HB; refine hK_ _ _ ?_; have HG2 := am hG; have HBB2 := am HB; have HZ2 := am hZ; clear hG HB hZ HG HBB HZ))
  go_loopg [8] m (fun gk v8 wr => ∃ (k : Nat) (Z3 : List Value), v8 = .int .i64 (k : Int) ∧ Aside0 (k ≤ m ∧ m - k ≤ gk ∧ (m = 0 ∨ 1 ≤ k) ∧ Z3.length = (m - k) * 7) ∧ Aside0 (wr.heap[g]? = some (.cells (rep_ cs k ++ Z3).toArray 40 (0, 0))) ∧ Aside0 (Below w.heap.size w wr))
  case atStart => exact ⟨0 + Nat.min 1 m, Z2, (by first | rfl | (simp [goInt]; done)), ⟨by rw [Nat.zero_add]; exact Nat.min_le_right _ _, by omega, (by have : Nat.min 1 m = min 1 m := rfl; omega), HZ2.out⟩, HG2, HBB2⟩
  case round =>
   obtain ⟨k, Z3, rfl, H1, HG3, HB3⟩ := hrel
   obtain ⟨hk, hgk, hk1, hZ3⟩ := H1.out
   clear H1
   have HZ3 := am hZ3
   clear hZ3 HG2 HZ2
   by_cases hkm : k < m
   ·obtain ⟨g1, rfl⟩ : ∃ q, gk = q + 1 := ⟨gk - 1, by omega⟩
    have d1 : decide ((k : Int) < (m : Int)) = true := decide_eq_true (by omega)
    obtain ⟨ti, hti, hts⟩ := Option.map_eq_some_iff.1 hiE
    have e41 : ∀ W : World, (Instr.slice 26 (.slice (some ⟨g, 0, none⟩) m m) (some (.int .i64 (k : Int))) none none).run Try.prog W = .ok (.slice (some ⟨g, k * 7, none⟩) (m - k) (m - k)) W := by
     intro W
     rw [cut_from 26 40 .i64 huT hti 7 hts (some ⟨g, 0, none⟩) m m (k : Int) (by omega) (by omega) W, Int.toNat_natCast, if_neg (by omega)]
     simp [add_plain]
    have e44 : ∀ W : World, (Instr.slice 26 (.slice (some ⟨g, 0, none⟩) m m) none (some (.int .i64 (k : Int))) none).run Try.prog W = .ok (.slice (some ⟨g, 0, none⟩) k m) W := by
     intro W
     rw [cut_to 26 40 .i64 huT hti (some ⟨g, 0, none⟩) m m (k : Int) (by omega) (by omega) (Nat.le_refl _) W, Int.toNat_natCast]
    obtain ⟨j, hj⟩ : ∃ j, j = Nat.min k (m - k) := ⟨_, rfl⟩
    have hj2 : j ≤ k ∧ j ≤ m - k ∧ (1 ≤ k → 1 ≤ j) := by
     have : Nat.min k (m - k) = min k (m - k) := rfl
     omega
    have e46 : IntKind.i64.wrap ((k : Int) + (j : Int)) = ((k + j : Nat) : Int) := by rw [IntKind.wrap_i64]; omega
    have HJ := am hj
    clear hj
    have HJK := am (show k + j ≤ m by omega)
    go_wp2
    go_region_held3 (fun _ => True) (trivial) ((refine rep_step_on (by rfl) (rep_step (w0 := w) (.tmp 41) (.tmp 44) 26 26 (by rfl) 40 huT 7 hiE cs hL hone m k j Z3 HZ3.out HJK.out g (k * 7) (m - k) (m - k) ⟨g, 0, none⟩ k m rfl HJ.out (by rfl) (by rfl) 40 (show _ = _ from HG3.out) (below_drew1 HB3.out) HGE.out (fun i v hv => rep_src (show _ = _ from HG3.out) hj2.1 hv) ?_); intro w4 Z4 hZ hG HB; have HG4 := am hG; have HBB4 := am HB; have HZ4 := am hZ; clear hG HB hZ HG3 HB3 HZ3))
    go_wp2
    go_roundg g1
    case measure => omega
    case rel => exact ⟨k + j, Z4, (by first | rfl | (simp [goInt]; done)), ⟨by omega, by omega, by omega, HZ4.out⟩, HG4, HBB4⟩
   ·have d1 : decide ((k : Int) < (m : Int)) = false := decide_eq_false (by omega)
    have hke : k = m := by omega
    subst hke
    go_wp2
    go_ret
    exact ⟨_, rfl, rep_R hL (hM _ _) HZ3.out (by unfold maxLen; omega) HGE.out HG3.out, HB3.out⟩
 ·rw [if_neg hc] at h; cases h

/-! ### impl_blank: function 67 -/
def impl_blank.f (a0_0 : Int) (a0_1 : Int) (a0_2 : Bool) (a0_3 : Bool) (a0_4 : Bool) : Option (Int × Int × Int × Bool × Bool × Bool × Int) := some (32, a0_0, a0_1, a0_2, a0_3, a0_4, 0)
set_option maxHeartbeats 8000000 in
set_option maxRecDepth 100000 in
theorem impl_blank.calls (a0_0 : Int) (a0_1 : Int) (a0_2 : Bool) (a0_3 : Bool) (a0_4 : Bool) (r1 : Int) (r2 : Int) (r3 : Int) (r4 : Bool) (r5 : Bool) (r6 : Bool) (r7 : Int) (w : World) (h : impl_blank.f a0_0 a0_1 a0_2 a0_3 a0_4 = some (r1, r2, r3, r4, r5, r6, r7)) :
  Calls Try.prog 67 #[.agg #[.int .i64 a0_0, .int .i64 a0_1, .bool a0_2, .bool a0_3, .bool a0_4]] w fun e w' => e = .returned (.agg #[.int .i64 r1, .int .i64 r2, .int .i64 r3, .bool r4, .bool r5, .bool r6, .int .i64 r7]) ∧ Below w.heap.size w w' := by
 have hu29 := Try.underlying29
 have hu40 := Try.underlying40
 have HB := am (Below.refl w.heap.size w)
 have H : (some (32, a0_0, a0_1, a0_2, a0_3, a0_4, 0)) = some (r1, r2, r3, r4, r5, r6, r7) := h
 clear h
 simp only [Option.some.injEq, Prod.mk.injEq] at H
 obtain ⟨rfl, rfl, rfl, rfl, rfl, rfl, rfl⟩ := H
 go_enter Try.func67, Try.ntmps67
 go_wp2_with (first | ((with_reducible refine gate_dst (N := 1) rfl ?_); refine box_event ?hg (N := 1) ?hd (cs := #[.int .i64 a0_0, .int .i64 a0_1, .bool a0_2, .bool a0_3, .bool a0_4]) (t := 29) ?hr ?_; (case hd => rfl); (case hg => rfl); (case hr => first | (go_simp; done) | (go_simp; rfl)); intro gb137 hg w2 hbox hb; have n0_ := am (below_step (rb HB) hb); have n1_ := am (hbox); have n2_ := am ((by rw [hg]; exact (below_size (rb HB)) : w.heap.size ≤ gb137)); have n3_ := am ((by rw [hg]; exact (below_size (rb HB)) : w.heap.size ≤ gb137)); clear HB; have HB := n0_; have BK137 := n1_; have GW137 := n2_; have GE137 := n3_; clear n0_ n1_ n2_ n3_; clear hb hbox hg) | ((with_reducible refine gate_dst (N := 2) rfl ?_); refine box_event ?hg (N := 2) ?hd (cs := #[.int .i64 0, .int .i64 0, .int .i64 0, .bool false, .bool false, .bool false, .int .i64 0]) (t := 40) ?hr ?_; (case hd => rfl); (case hg => rfl); (case hr => first | (go_simp; done) | (go_simp; rfl)); intro gb138 hg w3 hbox hb; have n0_ := am (blk_below (g := gb137) (o := .cells #[.int .i64 a0_0, .int .i64 a0_1, .bool a0_2, .bool a0_3, .bool a0_4] 29 (0, 0)) (rk BK137) hb); have n1_ := am (below_step (rb1 HB GE137) hb); have n2_ := am (hbox); have n3_ := am ((by rw [hg]; exact (below_size (rb1 HB GE137)) : w.heap.size ≤ gb138)); have n4_ := am ((by rw [hg]; exact (below_size (rb1 HB GE137)) : w.heap.size ≤ gb138)); have n5_ := am ((by rw [hg]; exact Nat.ne_of_lt (blk_lt (g := gb137) (o := .cells #[.int .i64 a0_0, .int .i64 a0_1, .bool a0_2, .bool a0_3, .bool a0_4] 29 (0, 0)) (rk BK137)) : gb137 ≠ gb138)); have n6_ := am ((by rw [hg]; exact Nat.ne_of_gt (blk_lt (g := gb137) (o := .cells #[.int .i64 a0_0, .int .i64 a0_1, .bool a0_2, .bool a0_3, .bool a0_4] 29 (0, 0)) (rk BK137)) : gb138 ≠ gb137)); clear BK137; clear HB; have BK137 := n0_; have HB := n1_; have BK138 := n2_; have GW138 := n3_; have GE138 := n4_; have NB137_138 := n5_; have NB138_137 := n6_; clear n0_ n1_ n2_ n3_ n4_ n5_ n6_; clear hb hbox hg; have hnb4 := NB137_138.out; have hnc4 := NB138_137.out; have hcz5_0 : w3.cell? ⟨gb137, 0, none⟩ = some (.int .i64 a0_0) := (blk_cell BK137.out 0).trans rfl; have hcz5_1 : w3.cell? ⟨gb137, 1, none⟩ = some (.int .i64 a0_1) := (blk_cell BK137.out 1).trans rfl; have hcz5_2 : w3.cell? ⟨gb137, 2, none⟩ = some (.bool a0_2) := (blk_cell BK137.out 2).trans rfl; have hcz5_3 : w3.cell? ⟨gb137, 3, none⟩ = some (.bool a0_3) := (blk_cell BK137.out 3).trans rfl; have hcz5_4 : w3.cell? ⟨gb137, 4, none⟩ = some (.bool a0_4) := (blk_cell BK137.out 4).trans rfl; have hfz5_0 := blk_frozen BK137.out 0; have hfz5_1 := blk_frozen BK137.out 1; have hfz5_2 := blk_frozen BK137.out 2; have hfz5_3 := blk_frozen BK137.out 3; have hfz5_4 := blk_frozen BK137.out 4; have hcz6_0 : w3.cell? ⟨gb138, 0, none⟩ = some (.int .i64 0) := (blk_cell BK138.out 0).trans rfl; have hcz6_1 : w3.cell? ⟨gb138, 1, none⟩ = some (.int .i64 0) := (blk_cell BK138.out 1).trans rfl; have hcz6_2 : w3.cell? ⟨gb138, 2, none⟩ = some (.int .i64 0) := (blk_cell BK138.out 2).trans rfl; have hcz6_3 : w3.cell? ⟨gb138, 3, none⟩ = some (.bool false) := (blk_cell BK138.out 3).trans rfl; have hcz6_4 : w3.cell? ⟨gb138, 4, none⟩ = some (.bool false) := (blk_cell BK138.out 4).trans rfl; have hcz6_5 : w3.cell? ⟨gb138, 5, none⟩ = some (.bool false) := (blk_cell BK138.out 5).trans rfl; have hcz6_6 : w3.cell? ⟨gb138, 6, none⟩ = some (.int .i64 0) := (blk_cell BK138.out 6).trans rfl; have hfz6_0 := blk_frozen BK138.out 0; have hfz6_1 := blk_frozen BK138.out 1; have hfz6_2 := blk_frozen BK138.out 2; have hfz6_3 := blk_frozen BK138.out 3; have hfz6_4 := blk_frozen BK138.out 4; have hfz6_5 := blk_frozen BK138.out 5; have hfz6_6 := blk_frozen BK138.out 6))
 refine bodyPost_ret (results_cell_row rfl _ _ gb138 40 #[.int .i64 32, .int .i64 a0_0, .int .i64 a0_1, .bool a0_2, .bool a0_3, .bool a0_4, .int .i64 0] (0, 0) _ rfl (by (with_reducible repeat (first | apply k1 | apply k2 | apply k3)); refine blk_put (cs := #[.int .i64 32, .int .i64 a0_0, .int .i64 a0_1, .bool a0_2, .bool a0_3, .bool a0_4, .int .i64 0]) ?_ 6 _ rfl; (with_reducible repeat (first | apply k1 | apply k2 | apply k3)); refine blk_put (cs := #[.int .i64 32, .int .i64 a0_0, .int .i64 a0_1, .bool a0_2, .bool a0_3, .bool false, .int .i64 0]) ?_ 5 _ rfl; (with_reducible repeat (first | apply k1 | apply k2 | apply k3)); refine blk_put (cs := #[.int .i64 32, .int .i64 a0_0, .int .i64 a0_1, .bool a0_2, .bool false, .bool false, .int .i64 0]) ?_ 4 _ rfl; (with_reducible repeat (first | apply k1 | apply k2 | apply k3)); refine blk_put (cs := #[.int .i64 32, .int .i64 a0_0, .int .i64 a0_1, .bool false, .bool false, .bool false, .int .i64 0]) ?_ 3 _ rfl; (with_reducible repeat (first | apply k1 | apply k2 | apply k3)); refine blk_put (cs := #[.int .i64 32, .int .i64 a0_0, .int .i64 0, .bool false, .bool false, .bool false, .int .i64 0]) ?_ 2 _ rfl; (with_reducible repeat (first | apply k1 | apply k2 | apply k3)); refine blk_put (cs := #[.int .i64 32, .int .i64 0, .int .i64 0, .bool false, .bool false, .bool false, .int .i64 0]) ?_ 1 _ rfl; (with_reducible repeat (first | apply k1 | apply k2 | apply k3)); refine blk_put (cs := #[.int .i64 0, .int .i64 0, .int .i64 0, .bool false, .bool false, .bool false, .int .i64 0]) ?_ 0 _ rfl; (with_reducible repeat (first | apply k1 | apply k2 | apply k3)); exact BK138.out) Try.underlying40 rfl (by kernel_rfl)) rfl ?_
 exact ⟨by first | rfl | (simp [errW_none, errW_some] <;> rfl) | (simp [*, errW_none, errW_some] <;> rfl), rb2 HB GE137 GE138⟩

end Go.Proofs.Ytfhkpneffmcdbaa.QE
