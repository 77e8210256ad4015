/- Contracts of Go functions that laws of this seat reach: each Lean function answers as its Go function does. No condition. Written by wip/tools/inj.py, over the kit's print. -/
import Derived.Test.YtfhkpneffmcdbaaQEx0
import Derived.Test.YtfhkpneffmcdbaaQEx9
import Derived.Test.YtfhkpneffmcdbaaQEx11
import Derived.Test.YtfhkpneffmcdbaaQEx12
import Derived.Test.YtfhkpneffmcdbaaQEx20
import Derived.Test.YtfhkpneffmcdbaaQEx21
import Derived.Test.YtfhkpneffmcdbaaQEx27
namespace Go.Proofs.Ytfhkpneffmcdbaa.QE
open Go.RowKit Go.Proofs.YtfhkpneffmcdbaaW.PrintWords Go.Proofs.YtfhkpneffmcdbaaW.PrintLast Go.Proofs.YtfhkpneffmcdbaaW.PrintMore
attribute [local go_sem] max2_int min2_int max_two min_two max_three min_three max_four min_four   -- for this text's walks alone
set_option linter.unusedVariables false
set_option linter.unusedSimpArgs false

/-! ### laws_FnExactResized: function 7 -/
def laws_FnExactResized.f (k : Nat) (a0_0 : Int) (l0_1 : List (List (S60))) (a1 : Int) (a2 : Int) : Option (Bool) := (laws_szGrid.f k a0_0 l0_1 1048576).bind fun t498 => (if t498 < 0 then (some true) else ((laws_toGrid.f k a0_0 l0_1).bind fun bt499 => ((spec_Resized.f k bt499.1 bt499.2 a1 a2).bind fun bt503 => ((laws_toGrid.f k a0_0 l0_1).bind fun bt508 => ((impl_Resized.f k bt508.1 bt508.2 a1 a2).bind fun bt513 => ((laws_eqGrid.f k bt513.1 bt513.2 bt503.1 bt503.2).bind fun t518 => (if t518 = true then ((laws_toGrid.f k a0_0 l0_1).bind fun bt519 => ((laws_eqGrid.f k bt508.1 bt508.2 bt519.1 bt519.2).bind fun t523 => (if t523 = true then ((laws_markGrid.f k bt508.1 bt508.2 1).bind fun bt524 => (if bt524.1 < 0 then (some false) else ((laws_eqGrid.f k bt513.1 bt513.2 bt503.1 bt503.2).bind fun t526 => (if t526 = true then ((laws_markGrid.f k bt513.1 bt513.2 1).bind fun bt527 => ((laws_heldGrid.f k bt513.1 bt527.2 1).bind fun t529 => (if t529 < 0 then (some false) else (if t529 = bt527.1 then ((laws_toGrid.f k a0_0 l0_1).bind fun bt530 => ((impl_Resized.f k bt530.1 bt530.2 a1 a2).bind fun bt534 => ((laws_eqGrid.f k bt534.1 bt534.2 bt503.1 bt503.2).bind fun t539 => (if t539 = true then ((laws_heldGrid.f k bt513.1 bt527.2 1).bind fun t540 => (if t540 < 0 then (some false) else (if t540 = bt527.1 then (some true) else (some false)))) else (some false))))) else (some false))))) else (some false))))) else (some false)))) else (some false))))))))
theorem laws_FnExactResized.mono : ∀ a0 a1 a2 a3 k, LeO (laws_FnExactResized.f k a0 a1 a2 a3) (laws_FnExactResized.f (k + 1) a0 a1 a2 a3) := by
 intro a0 a1 a2 a3 k
 unfold laws_FnExactResized.f
 repeat' first
   | (with_reducible exact impl_Resized.mono _ _ _ _ _)
   | (with_reducible exact laws_eqGrid.mono _ _ _ _ _)
   | (with_reducible exact laws_heldGrid.mono _ _ _ _)
   | (with_reducible exact laws_markGrid.mono _ _ _ _)
   | (with_reducible exact laws_szGrid.mono _ _ _ _)
   | (with_reducible exact laws_toGrid.mono _ _ _)
   | (with_reducible exact spec_Resized.mono _ _ _ _ _)
   | (with_reducible exact LeO.refl _)
   | (with_reducible exact LeO.none _)
   | (with_reducible refine LeO.ite ?_ ?_)
   | (with_reducible refine LeO.bind ?_ (fun _ => ?_))
set_option maxHeartbeats 8000000 in
set_option maxRecDepth 100000 in
theorem laws_FnExactResized.calls (k : Nat) (a0_0 : Int) (A0_1 : Option Addr) (c0_1 : Nat) (l0_1 : List (List (S60))) (a1 : Int) (a2 : Int) (r : Bool) (w : World) (hr0_1 : Kd.C (Kd.slice 60 k60) w A0_1 l0_1.length l0_1) (hc0_1 : l0_1.length ≤ c0_1) (h : laws_FnExactResized.f k a0_0 l0_1 a1 a2 = some r) (hT_ : r = true) :
  Calls Try.prog 7 #[.agg #[.int .i64 a0_0, .slice A0_1 l0_1.length c0_1], .int .i64 a1, .int .i64 a2] w fun e w' => e = .returned (.bool r) ∧ Below w.heap.size w w' := by
 have hu51 := Try.underlying51
 have hu43 := Try.underlying43
 have HR0_1 := am hr0_1
 have HC0_1 := am hc0_1
 clear hr0_1 hc0_1
 have HB := am (Below.refl w.heap.size w)
 have H := h
 unfold laws_FnExactResized.f at H
 clear h
 replace H := Option.bind_eq_some_iff.mp H
 obtain ⟨t498, A40, H⟩ := H
 (try dsimp only at H)
 have A4 := am A40
 clear A40
 by_cases c5 : t498 < 0
 ·rw [if_pos c5] at H
  have c5b0 : decide (t498 < 0) = true := decide_eq_true c5
  clear c5
  obtain rfl := Option.some.inj H
  go_enter Try.func7, Try.ntmps7
  go_wp2_with (first | ((with_reducible refine gate_dst (N := 3) rfl ?_); refine box_event ?hg (N := 3) ?hd (cs := #[.int .i64 a0_0, .slice A0_1 l0_1.length c0_1]) (t := 51) ?hr ?_; (case hd => rfl); (case hg => rfl); (case hr => first | (go_simp; done) | (go_simp; rfl)); intro gb497 hg w6 hbox hb; have n0_ := am (below_step (rb HB) hb); have n1_ := am (hbox); have n2_ := am ((by rw [hg]; exact (below_size (rb HB)) : w.heap.size ≤ gb497)); have n3_ := am ((by rw [hg]; exact (below_size (rb HB)) : w.heap.size ≤ gb497)); clear HB; have HB := n0_; have BK497 := n1_; have GW497 := n2_; have GE497 := n3_; clear n0_ n1_ n2_ n3_; clear hb hbox hg; have hcz7_0 : w6.cell? ⟨gb497, 0, none⟩ = some (.int .i64 a0_0) := (blk_cell BK497.out 0).trans rfl; have hcz7_1 : w6.cell? ⟨gb497, 1, none⟩ = some (.slice A0_1 l0_1.length c0_1) := (blk_cell BK497.out 1).trans rfl; have hfz7_0 := blk_frozen BK497.out 0; have hfz7_1 := blk_frozen BK497.out 1) | ((with_reducible refine gate_callee (f := 27) rfl ?_); refine gl_ (some 17) Try.func27 #[.agg #[.int .i64 a0_0, .slice A0_1 l0_1.length c0_1], .int .i64 1048576] ?_; (with_reducible refine (laws_szGrid.calls k a0_0 _ _ l0_1 1048576 t498 _ ?side1 ?side2 A4.out).mono ?_); (case side1 => exact rc ((Kd.C_below HR0_1.out HB.out))); (case side2 => exact HC0_1.out); rintro e w8 ⟨rfl, hb⟩; refine ⟨_, rfl, ?_⟩; have n0_ := am (blk_below (g := gb497) (o := .cells #[.int .i64 a0_0, .slice A0_1 l0_1.length c0_1] 51 (0, 0)) (rk BK497) hb); have n1_ := am (below_step (rb1 HB GE497) hb); clear BK497; clear HB; have BK497 := n0_; have HB := n1_; clear n0_ n1_; (try clear hb); (try clear hb2); (try clear hk); (try clear hi)))
  go_ret
  exact ⟨by first | rfl | (simp [errW_none, errW_some] <;> rfl) | (simp [*, errW_none, errW_some] <;> rfl), by repeat (first | (with_reducible first | exact HB.out | apply b1 | apply b2 | apply b3 | refine below_set ?_ GE497.out) | exact HB.out)⟩
 ·rw [if_neg c5] at H
  have c5b0 : decide (t498 < 0) = false := decide_eq_false c5
  clear c5
  replace H := Option.bind_eq_some_iff.mp H
  obtain ⟨⟨t499, t500⟩, A90, H⟩ := H
  (try dsimp only at H)
  have A9 := am A90
  clear A90
  replace H := Option.bind_eq_some_iff.mp H
  obtain ⟨⟨t503, t504⟩, A100, H⟩ := H
  (try dsimp only at H)
  have A10 := am A100
  clear A100
  replace H := Option.bind_eq_some_iff.mp H
  obtain ⟨⟨t508, t509⟩, A110, H⟩ := H
  (try dsimp only at H)
  have A11 := am A110
  clear A110
  replace H := Option.bind_eq_some_iff.mp H
  obtain ⟨⟨t513, t514⟩, A120, H⟩ := H
  (try dsimp only at H)
  have A12 := am A120
  clear A120
  replace H := Option.bind_eq_some_iff.mp H
  obtain ⟨t518, A130, H⟩ := H
  (try dsimp only at H)
  have A13 := am A130
  clear A130
  refine em_ (p := t518 = true) (fun c14 => ?g8p) (fun c14 => ?g8n)
  case' g8p =>
   subst c14
   rw [if_pos rfl] at H
   replace H := Option.bind_eq_some_iff.mp H
   obtain ⟨⟨t519, t520⟩, A150, H⟩ := H
   (try dsimp only at H)
   have A15 := am A150
   clear A150
   replace H := Option.bind_eq_some_iff.mp H
   obtain ⟨t523, A160, H⟩ := H
   (try dsimp only at H)
   have A16 := am A160
   clear A160
   refine em_ (p := t523 = true) (fun c17 => ?g7p) (fun c17 => ?g7n)
   case' g7p =>
    subst c17
    rw [if_pos rfl] at H
    replace H := Option.bind_eq_some_iff.mp H
    obtain ⟨⟨t524, t525⟩, A180, H⟩ := H
    (try dsimp only at H)
    have A18 := am A180
    clear A180
    refine em_ (p := t524 < 0) (fun c19 => ?g6p) (fun c19 => ?g6n)
    case g6p =>
     rw [if_pos c19] at H
     have c19b0 : decide (t524 < 0) = true := decide_eq_true c19
     clear c19
     exact absurd (Option.some.inj (H.trans (congrArg some hT_))) Bool.false_ne_true
    case' g6n =>
     rw [if_neg c19] at H
     have c19b0 : decide (t524 < 0) = false := decide_eq_false c19
     clear c19
     replace H := Option.bind_eq_some_iff.mp H
     obtain ⟨t526, A590, H⟩ := H
     (try dsimp only at H)
     have A59 := am A590
     clear A590
     refine em_ (p := t526 = true) (fun c60 => ?g5p) (fun c60 => ?g5n)
     case' g5p =>
      subst c60
      rw [if_pos rfl] at H
      replace H := Option.bind_eq_some_iff.mp H
      obtain ⟨⟨t527, t528⟩, A610, H⟩ := H
      (try dsimp only at H)
      have A61 := am A610
      clear A610
      replace H := Option.bind_eq_some_iff.mp H
      obtain ⟨t529, A620, H⟩ := H
      (try dsimp only at H)
      have A62 := am A620
      clear A620
      refine em_ (p := t529 < 0) (fun c63 => ?g4p) (fun c63 => ?g4n)
      case g4p =>
       rw [if_pos c63] at H
       have c63b0 : decide (t529 < 0) = true := decide_eq_true c63
       clear c63
       exact absurd (Option.some.inj (H.trans (congrArg some hT_))) Bool.false_ne_true
      case' g4n =>
       rw [if_neg c63] at H
       have c63b0 : decide (t529 < 0) = false := decide_eq_false c63
       clear c63
       refine em_ (p := t529 = t527) (fun c111 => ?g3p) (fun c111 => ?g3n)
       case' g3p =>
        rw [if_pos c111] at H
        have c111b0 : (t529 == t527) = true := beq_iff_eq.mpr c111
        have c111b1 : (t529 != t527) = false := bne_eq_false_iff_eq.mpr c111
        clear c111
        replace H := Option.bind_eq_some_iff.mp H
        obtain ⟨⟨t530, t531⟩, A1120, H⟩ := H
        (try dsimp only at H)
        have A112 := am A1120
        clear A1120
        replace H := Option.bind_eq_some_iff.mp H
        obtain ⟨⟨t534, t535⟩, A1130, H⟩ := H
        (try dsimp only at H)
        have A113 := am A1130
        clear A1130
        replace H := Option.bind_eq_some_iff.mp H
        obtain ⟨t539, A1140, H⟩ := H
        (try dsimp only at H)
        have A114 := am A1140
        clear A1140
        refine em_ (p := t539 = true) (fun c115 => ?g2p) (fun c115 => ?g2n)
        case' g2p =>
         subst c115
         rw [if_pos rfl] at H
         replace H := Option.bind_eq_some_iff.mp H
         obtain ⟨t540, A1160, H⟩ := H
         (try dsimp only at H)
         have A116 := am A1160
         clear A1160
         refine em_ (p := t540 < 0) (fun c117 => ?g1p) (fun c117 => ?g1n)
         case g1p =>
          rw [if_pos c117] at H
          have c117b0 : decide (t540 < 0) = true := decide_eq_true c117
          clear c117
          exact absurd (Option.some.inj (H.trans (congrArg some hT_))) Bool.false_ne_true
         case' g1n =>
          rw [if_neg c117] at H
          have c117b0 : decide (t540 < 0) = false := decide_eq_false c117
          clear c117
          refine em_ (p := t540 = t527) (fun c182 => ?g0p) (fun c182 => ?g0n)
          case' g0p =>
           rw [if_pos c182] at H
           have c182b0 : (t540 == t527) = true := beq_iff_eq.mpr c182
           have c182b1 : (t540 != t527) = false := bne_eq_false_iff_eq.mpr c182
           clear c182
           obtain rfl := Option.some.inj H
           have lf2_ := trivial
          case g0n =>
           rw [if_neg c182] at H
           have c182b0 : (t540 == t527) = false := beq_eq_false_iff_ne.mpr c182
           have c182b1 : (t540 != t527) = true := bne_iff_ne.mpr c182
           exact absurd (Option.some.inj (H.trans (congrArg some hT_))) Bool.false_ne_true
        case g2n =>
         replace c115 := Bool.eq_false_iff.mpr c115
         subst c115
         have H1 : (some false) = some r := by rw [if_neg (show ¬ (false = true) by decide)] at H; exact H
         clear H
         have H := H1
         clear H1
         exact absurd (Option.some.inj (H.trans (congrArg some hT_))) Bool.false_ne_true
       case g3n =>
        rw [if_neg c111] at H
        have c111b0 : (t529 == t527) = false := beq_eq_false_iff_ne.mpr c111
        have c111b1 : (t529 != t527) = true := bne_iff_ne.mpr c111
        exact absurd (Option.some.inj (H.trans (congrArg some hT_))) Bool.false_ne_true
     case g5n =>
      replace c60 := Bool.eq_false_iff.mpr c60
      subst c60
      have H1 : (some false) = some r := by rw [if_neg (show ¬ (false = true) by decide)] at H; exact H
      clear H
      have H := H1
      clear H1
      exact absurd (Option.some.inj (H.trans (congrArg some hT_))) Bool.false_ne_true
   case g7n =>
    replace c17 := Bool.eq_false_iff.mpr c17
    subst c17
    have H1 : (some false) = some r := by rw [if_neg (show ¬ (false = true) by decide)] at H; exact H
    clear H
    have H := H1
    clear H1
    exact absurd (Option.some.inj (H.trans (congrArg some hT_))) Bool.false_ne_true
  case g8n =>
   replace c14 := Bool.eq_false_iff.mpr c14
   subst c14
   have H1 : (some false) = some r := by rw [if_neg (show ¬ (false = true) by decide)] at H; exact H
   clear H
   have H := H1
   clear H1
   exact absurd (Option.some.inj (H.trans (congrArg some hT_))) Bool.false_ne_true
  all_goals
   go_enter Try.func7, Try.ntmps7
   try go_wp2_with (first | ((with_reducible refine gate_dst (N := 3) rfl ?_); refine box_event ?hg (N := 3) ?hd (cs := #[.int .i64 a0_0, .slice A0_1 l0_1.length c0_1]) (t := 51) ?hr ?_; (case hd => rfl); (case hg => rfl); (case hr => first | (go_simp; done) | (go_simp; rfl)); intro gb497 hg w183 hbox hb; have n0_ := am (below_step (rb HB) hb); have n1_ := am (hbox); have n2_ := am ((by rw [hg]; exact (below_size (rb HB)) : w.heap.size ≤ gb497)); have n3_ := am ((by rw [hg]; exact (below_size (rb HB)) : w.heap.size ≤ gb497)); clear HB; have HB := n0_; have BK497 := n1_; have GW497 := n2_; have GE497 := n3_; clear n0_ n1_ n2_ n3_; clear hb hbox hg; have hcz184_0 : w183.cell? ⟨gb497, 0, none⟩ = some (.int .i64 a0_0) := (blk_cell BK497.out 0).trans rfl; have hcz184_1 : w183.cell? ⟨gb497, 1, none⟩ = some (.slice A0_1 l0_1.length c0_1) := (blk_cell BK497.out 1).trans rfl; have hfz184_0 := blk_frozen BK497.out 0; have hfz184_1 := blk_frozen BK497.out 1) | ((with_reducible refine gate_callee (f := 27) rfl ?_); refine gl_ (some 17) Try.func27 #[.agg #[.int .i64 a0_0, .slice A0_1 l0_1.length c0_1], .int .i64 1048576] ?_; (with_reducible refine (laws_szGrid.calls k a0_0 _ _ l0_1 1048576 t498 _ ?side1 ?side2 A4.out).mono ?_); (case side1 => exact rc ((Kd.C_below HR0_1.out HB.out))); (case side2 => exact HC0_1.out); rintro e w185 ⟨rfl, hb⟩; refine ⟨_, rfl, ?_⟩; have n0_ := am (blk_below (g := gb497) (o := .cells #[.int .i64 a0_0, .slice A0_1 l0_1.length c0_1] 51 (0, 0)) (rk BK497) hb); have n1_ := am (below_step (rb1 HB GE497) hb); clear BK497; clear HB; have BK497 := n0_; have HB := n1_; clear n0_ n1_; (try clear hb); (try clear hb2); (try clear hk); (try clear hi); have hcz186_0 : w185.cell? ⟨gb497, 0, none⟩ = some (.int .i64 a0_0) := (blk_cell BK497.out 0).trans rfl; have hcz186_1 : w185.cell? ⟨gb497, 1, none⟩ = some (.slice A0_1 l0_1.length c0_1) := (blk_cell BK497.out 1).trans rfl; have hfz186_0 := blk_frozen BK497.out 0; have hfz186_1 := blk_frozen BK497.out 1) | ((with_reducible refine gate_callee (f := 29) rfl ?_); refine gl_ (some 21) Try.func29 #[.agg #[.int .i64 a0_0, .slice A0_1 l0_1.length c0_1]] ?_; (with_reducible refine (laws_toGrid.calls k a0_0 _ _ l0_1 t499 t500 _ ?side1 ?side2 A9.out).mono ?_); (case side1 => exact rc ((Kd.C_below HR0_1.out HB.out))); (case side2 => exact HC0_1.out); rintro e w187 ⟨v501, rfl, ho0, hb⟩; refine ⟨_, rfl, ?_⟩; have n0_ := am (Kd.S_lower (Sx_floor ho0) (below_size (rb1 HB GE497))); have n1_ := am (blk_below (g := gb497) (o := .cells #[.int .i64 a0_0, .slice A0_1 l0_1.length c0_1] 51 (0, 0)) (rk BK497) hb); have n2_ := am (below_step (rb1 HB GE497) hb); clear BK497; clear HB; have HO502 := n0_; have BK497 := n1_; have HB := n2_; clear n0_ n1_ n2_; (try clear hb); (try clear hb2); (try clear hk); (try clear hi); (try clear ho0); obtain ⟨Ao189, co189, eo189⟩ := Kd.S_slice HO502.out; subst eo189) | ((with_reducible refine gate_callee (f := 28) rfl ?_); refine gl_ (some 24) Try.func28 #[.agg #[.int .i64 t499, .slice Ao189 t500.length co189], .int .i64 a1, .int .i64 a2] ?_; (with_reducible refine (spec_Resized.calls k t499 _ _ t500 a1 a2 t503 t504 _ ?side1 ?side2 A10.out).mono ?_); (case side1 => repeat (first | exact (Kd.S_reads' HO502.out).2.2 | (with_reducible refine Kd.C_alloc ?_ _) | (with_reducible refine Kd.C_drewN ?_ _) | (with_reducible refine Kd.C_drew ?_))); (case side2 => exact (Kd.S_reads' HO502.out).2.1); rintro e w190 ⟨v505, rfl, ho0, hb⟩; refine ⟨_, rfl, ?_⟩; have n0_ := am (Kd.S_elder' (Sx_cap (rs HO502)) (Kd.S_base ho0) hb); have n1_ := am (Kd.S_lower (Kd.S_new' (Sx_floor ho0) (Kd.S_lt (rs HO502))) (below_size (rb1 HB GE497))); have n2_ := am (blk_below (g := gb497) (o := .cells #[.int .i64 a0_0, .slice A0_1 l0_1.length c0_1] 51 (0, 0)) (rk BK497) hb); have n3_ := am (below_step (rb1 HB GE497) hb); clear HO502; clear BK497; clear HB; have HO502 := n0_; have HO506 := n1_; have BK497 := n2_; have HB := n3_; clear n0_ n1_ n2_ n3_; (try clear hb); (try clear hb2); (try clear hk); (try clear hi); (try clear ho0)) | ((with_reducible refine gate_dst (N := 8) rfl ?_); refine box_event ?hg (N := 8) ?hd (cs := #[.int .i64 0, .slice none 0 0]) (t := 43) ?hr ?_; (case hd => rfl); (case hg => rfl); (case hr => first | (go_simp; done) | (go_simp; rfl)); intro gb507 hg w192 hbox hb; have n0_ := am (Kd.S_below (rs HO502) hb); have n1_ := am (Kd.S_below (rs HO506) hb); have n2_ := am (blk_below (g := gb497) (o := .cells #[.int .i64 a0_0, .slice A0_1 l0_1.length c0_1] 51 (0, 0)) (rk BK497) hb); have n3_ := am (below_step (rb1 HB GE497) hb); have n4_ := am (hbox); have n5_ := am ((by rw [hg]; exact (below_size (rb1 HB GE497)) : w.heap.size ≤ gb507)); have n6_ := am ((by rw [hg]; exact (below_size (rb1 HB GE497)) : w.heap.size ≤ gb507)); have n7_ := am ((by rw [hg]; exact Nat.ne_of_lt (blk_lt (g := gb497) (o := .cells #[.int .i64 a0_0, .slice A0_1 l0_1.length c0_1] 51 (0, 0)) (rk BK497)) : gb497 ≠ gb507)); have n8_ := am ((by rw [hg]; exact Nat.ne_of_gt (blk_lt (g := gb497) (o := .cells #[.int .i64 a0_0, .slice A0_1 l0_1.length c0_1] 51 (0, 0)) (rk BK497)) : gb507 ≠ gb497)); clear HO502; clear HO506; clear BK497; clear HB; have HO502 := n0_; have HO506 := n1_; have BK497 := n2_; have HB := n3_; have BK507 := n4_; have GW507 := n5_; have GE507 := n6_; have NB497_507 := n7_; have NB507_497 := n8_; clear n0_ n1_ n2_ n3_ n4_ n5_ n6_ n7_ n8_; clear hb hbox hg; have hnb193 := NB507_497.out; have hnc193 := NB497_507.out; have hcz194_0 : w192.cell? ⟨gb507, 0, none⟩ = some (.int .i64 0) := (blk_cell BK507.out 0).trans rfl; have hcz194_1 : w192.cell? ⟨gb507, 1, none⟩ = some (.slice none 0 0) := (blk_cell BK507.out 1).trans rfl; have hfz194_0 := blk_frozen BK507.out 0; have hfz194_1 := blk_frozen BK507.out 1; obtain ⟨Ao195, co195, eo195⟩ := Kd.S_slice HO506.out; subst eo195; have hcz196_0 : w192.cell? ⟨gb497, 0, none⟩ = some (.int .i64 a0_0) := (blk_cell BK497.out 0).trans rfl; have hcz196_1 : w192.cell? ⟨gb497, 1, none⟩ = some (.slice A0_1 l0_1.length c0_1) := (blk_cell BK497.out 1).trans rfl; have hfz196_0 := blk_frozen BK497.out 0; have hfz196_1 := blk_frozen BK497.out 1) | ((with_reducible refine gate_callee (f := 29) rfl ?_); refine gl_ (some 26) Try.func29 #[.agg #[.int .i64 a0_0, .slice A0_1 l0_1.length c0_1]] ?_; (with_reducible refine (laws_toGrid.calls k a0_0 _ _ l0_1 t508 t509 _ ?side1 ?side2 A11.out).mono ?_); (case side1 => exact Kd.C_below HR0_1.out (rb2 HB GE497 GE507)); (case side2 => exact HC0_1.out); rintro e w197 ⟨v510, rfl, ho0, hb⟩; refine ⟨_, rfl, ?_⟩; have n0_ := am (Kd.S_elder' (Sx_cap (by (with_reducible repeat (first | apply Kd.S_alloc | apply Kd.S_drewN | apply Kd.S_drew)); exact (Kd.S_mono (Kd.S_far (p := ⟨gb507, 1, none⟩) (Kd.S_far (p := ⟨gb507, 0, none⟩) (Kd.S_types HO502.out BK507.out (by decide)) (fun _ hk => hk.2) (.int .i64 t503)) (fun _ hk => hk.2) (.slice Ao195 t504.length co195)) (fun _ h_ => h_.1)))) (Kd.S_base ho0) hb); have n1_ := am (Kd.S_elder' (Sx_cap (by (with_reducible repeat (first | apply Kd.S_alloc | apply Kd.S_drewN | apply Kd.S_drew)); exact (Kd.S_mono (Kd.S_far (p := ⟨gb507, 1, none⟩) (Kd.S_far (p := ⟨gb507, 0, none⟩) (Kd.S_types HO506.out BK507.out (by decide)) (fun _ hk => hk.2) (.int .i64 t503)) (fun _ hk => hk.2) (.slice Ao195 t504.length co195)) (fun _ h_ => h_.1)))) (Kd.S_base ho0) hb); have n2_ := am (Kd.S_lower (Kd.S_new' (Kd.S_new' (Sx_floor ho0) (Kd.S_lt (by (with_reducible repeat (first | apply Kd.S_alloc | apply Kd.S_drewN | apply Kd.S_drew)); exact (Kd.S_mono (Kd.S_far (p := ⟨gb507, 1, none⟩) (Kd.S_far (p := ⟨gb507, 0, none⟩) (Kd.S_types HO502.out BK507.out (by decide)) (fun _ hk => hk.2) (.int .i64 t503)) (fun _ hk => hk.2) (.slice Ao195 t504.length co195)) (fun _ h_ => h_.1))))) (Kd.S_lt (by (with_reducible repeat (first | apply Kd.S_alloc | apply Kd.S_drewN | apply Kd.S_drew)); exact (Kd.S_mono (Kd.S_far (p := ⟨gb507, 1, none⟩) (Kd.S_far (p := ⟨gb507, 0, none⟩) (Kd.S_types HO506.out BK507.out (by decide)) (fun _ hk => hk.2) (.int .i64 t503)) (fun _ hk => hk.2) (.slice Ao195 t504.length co195)) (fun _ h_ => h_.1))))) (below_size (rb2 HB GE497 GE507))); have n3_ := am (blk_below (g := gb497) (o := .cells #[.int .i64 a0_0, .slice A0_1 l0_1.length c0_1] 51 (0, 0)) (by (with_reducible repeat (first | apply k1 | apply k2 | apply k3)); refine blk_far ?_ NB497_507.out _; (with_reducible repeat (first | apply k1 | apply k2 | apply k3)); refine blk_far ?_ NB497_507.out _; (with_reducible repeat (first | apply k1 | apply k2 | apply k3)); exact BK497.out) hb); have n4_ := am (blk_below (g := gb507) (o := .cells #[.int .i64 t503, .slice Ao195 t504.length co195] 43 (0, 0)) (by (with_reducible repeat (first | apply k1 | apply k2 | apply k3)); refine blk_put (cs := #[.int .i64 t503, .slice none 0 0]) ?_ 1 _ rfl; (with_reducible repeat (first | apply k1 | apply k2 | apply k3)); refine blk_put (cs := #[.int .i64 0, .slice none 0 0]) ?_ 0 _ rfl; (with_reducible repeat (first | apply k1 | apply k2 | apply k3)); exact BK507.out) hb); have n5_ := am (below_step (rb2 HB GE497 GE507) hb); clear HO502; clear HO506; clear BK497; clear BK507; clear HB; have HO502 := n0_; have HO506 := n1_; have HO511 := n2_; have BK497 := n3_; have BK507 := n4_; have HB := n5_; clear n0_ n1_ n2_ n3_ n4_ n5_; (try clear hb); (try clear hb2); (try clear hk); (try clear hi); (try clear ho0)) | ((with_reducible refine gate_dst (N := 9) rfl ?_); refine box_event ?hg (N := 9) ?hd (cs := #[.int .i64 0, .slice none 0 0]) (t := 43) ?hr ?_; (case hd => rfl); (case hg => rfl); (case hr => first | (go_simp; done) | (go_simp; rfl)); intro gb512 hg w199 hbox hb; have n0_ := am (Kd.S_below (rs HO502) hb); have n1_ := am (Kd.S_below (rs HO506) hb); have n2_ := am (Kd.S_below (rs HO511) hb); have n3_ := am (blk_below (g := gb497) (o := .cells #[.int .i64 a0_0, .slice A0_1 l0_1.length c0_1] 51 (0, 0)) (rk BK497) hb); have n4_ := am (blk_below (g := gb507) (o := .cells #[.int .i64 t503, .slice Ao195 t504.length co195] 43 (0, 0)) (rk BK507) hb); have n5_ := am (below_step (rb2 HB GE497 GE507) hb); have n6_ := am (hbox); have n7_ := am ((by rw [hg]; exact (below_size (rb2 HB GE497 GE507)) : w.heap.size ≤ gb512)); have n8_ := am ((by rw [hg]; exact (below_size (rb2 HB GE497 GE507)) : w.heap.size ≤ gb512)); have n9_ := am ((by rw [hg]; exact Nat.ne_of_lt (blk_lt (g := gb497) (o := .cells #[.int .i64 a0_0, .slice A0_1 l0_1.length c0_1] 51 (0, 0)) (rk BK497)) : gb497 ≠ gb512)); have n10_ := am ((by rw [hg]; exact Nat.ne_of_gt (blk_lt (g := gb497) (o := .cells #[.int .i64 a0_0, .slice A0_1 l0_1.length c0_1] 51 (0, 0)) (rk BK497)) : gb512 ≠ gb497)); have n11_ := am ((by rw [hg]; exact Nat.ne_of_lt (blk_lt (g := gb507) (o := .cells #[.int .i64 t503, .slice Ao195 t504.length co195] 43 (0, 0)) (rk BK507)) : gb507 ≠ gb512)); have n12_ := am ((by rw [hg]; exact Nat.ne_of_gt (blk_lt (g := gb507) (o := .cells #[.int .i64 t503, .slice Ao195 t504.length co195] 43 (0, 0)) (rk BK507)) : gb512 ≠ gb507)); clear HO502; clear HO506; clear HO511; clear BK497; clear BK507; clear HB; have HO502 := n0_; have HO506 := n1_; have HO511 := n2_; have BK497 := n3_; have BK507 := n4_; have HB := n5_; have BK512 := n6_; have GW512 := n7_; have GE512 := n8_; have NB497_512 := n9_; have NB512_497 := n10_; have NB507_512 := n11_; have NB512_507 := n12_; clear n0_ n1_ n2_ n3_ n4_ n5_ n6_ n7_ n8_ n9_ n10_ n11_ n12_; clear hb hbox hg; have hnb200 := NB512_497.out; have hnc200 := NB497_512.out; have hnb201 := NB512_507.out; have hnc201 := NB507_512.out; have hcz202_0 : w199.cell? ⟨gb512, 0, none⟩ = some (.int .i64 0) := (blk_cell BK512.out 0).trans rfl; have hcz202_1 : w199.cell? ⟨gb512, 1, none⟩ = some (.slice none 0 0) := (blk_cell BK512.out 1).trans rfl; have hfz202_0 := blk_frozen BK512.out 0; have hfz202_1 := blk_frozen BK512.out 1; obtain ⟨Ao203, co203, eo203⟩ := Kd.S_slice HO511.out; subst eo203) | ((with_reducible refine gate_callee (f := 30) rfl ?_); refine gl_ (some 30) Try.func30 #[.agg #[.int .i64 t508, .slice Ao203 t509.length co203], .int .i64 a1, .int .i64 a2] ?_; (with_reducible refine (impl_Resized.calls k t508 _ _ t509 a1 a2 t513 t514 _ ?side1 ?side2 A12.out).mono ?_); (case side1 => refine (Kd.S_reads' (e := 26) (base := w.heap.size) (ok := fun _ => True) (n := t509.length) (c := co203) ?_).2.2; exact (by (with_reducible repeat (first | apply Kd.S_alloc | apply Kd.S_drewN | apply Kd.S_drew)); exact Kd.S_mono (Kd.S_far (p := ⟨gb512, 1, none⟩) (Kd.S_far (p := ⟨gb512, 0, none⟩) (Kd.S_types HO511.out BK512.out (by decide)) (fun _ hk => hk.2) (.int .i64 t508)) (fun _ hk => hk.2) (.slice Ao203 t509.length co203)) (fun _ hk => trivial))); (case side2 => exact (Kd.S_reads' HO511.out).2.1); rintro e w204 ⟨v515, rfl, ho0, hb⟩; refine ⟨_, rfl, ?_⟩; have n0_ := am (Kd.S_elder' (Sx_cap (by (with_reducible repeat (first | apply Kd.S_alloc | apply Kd.S_drewN | apply Kd.S_drew)); exact (Kd.S_mono (Kd.S_far (p := ⟨gb512, 1, none⟩) (Kd.S_far (p := ⟨gb512, 0, none⟩) (Kd.S_types HO502.out BK512.out (by decide)) (fun _ hk => hk.2) (.int .i64 t508)) (fun _ hk => hk.2) (.slice Ao203 t509.length co203)) (fun _ h_ => h_.1)))) (Kd.S_base ho0) hb); have n1_ := am (Kd.S_elder' (Sx_cap (by (with_reducible repeat (first | apply Kd.S_alloc | apply Kd.S_drewN | apply Kd.S_drew)); exact (Kd.S_mono (Kd.S_far (p := ⟨gb512, 1, none⟩) (Kd.S_far (p := ⟨gb512, 0, none⟩) (Kd.S_types HO506.out BK512.out (by decide)) (fun _ hk => hk.2) (.int .i64 t508)) (fun _ hk => hk.2) (.slice Ao203 t509.length co203)) (fun _ h_ => h_.1)))) (Kd.S_base ho0) hb); have n2_ := am (Kd.S_elder' (Sx_cap (by (with_reducible repeat (first | apply Kd.S_alloc | apply Kd.S_drewN | apply Kd.S_drew)); exact (Kd.S_mono (Kd.S_far (p := ⟨gb512, 1, none⟩) (Kd.S_far (p := ⟨gb512, 0, none⟩) (Kd.S_types HO511.out BK512.out (by decide)) (fun _ hk => hk.2) (.int .i64 t508)) (fun _ hk => hk.2) (.slice Ao203 t509.length co203)) (fun _ h_ => h_.1)))) (Kd.S_base ho0) hb); have n3_ := am (Kd.S_lower (Kd.S_new' (Kd.S_new' (Kd.S_new' (Sx_floor ho0) (Kd.S_lt (by (with_reducible repeat (first | apply Kd.S_alloc | apply Kd.S_drewN | apply Kd.S_drew)); exact (Kd.S_mono (Kd.S_far (p := ⟨gb512, 1, none⟩) (Kd.S_far (p := ⟨gb512, 0, none⟩) (Kd.S_types HO502.out BK512.out (by decide)) (fun _ hk => hk.2) (.int .i64 t508)) (fun _ hk => hk.2) (.slice Ao203 t509.length co203)) (fun _ h_ => h_.1))))) (Kd.S_lt (by (with_reducible repeat (first | apply Kd.S_alloc | apply Kd.S_drewN | apply Kd.S_drew)); exact (Kd.S_mono (Kd.S_far (p := ⟨gb512, 1, none⟩) (Kd.S_far (p := ⟨gb512, 0, none⟩) (Kd.S_types HO506.out BK512.out (by decide)) (fun _ hk => hk.2) (.int .i64 t508)) (fun _ hk => hk.2) (.slice Ao203 t509.length co203)) (fun _ h_ => h_.1))))) (Kd.S_lt (by (with_reducible repeat (first | apply Kd.S_alloc | apply Kd.S_drewN | apply Kd.S_drew)); exact (Kd.S_mono (Kd.S_far (p := ⟨gb512, 1, none⟩) (Kd.S_far (p := ⟨gb512, 0, none⟩) (Kd.S_types HO511.out BK512.out (by decide)) (fun _ hk => hk.2) (.int .i64 t508)) (fun _ hk => hk.2) (.slice Ao203 t509.length co203)) (fun _ h_ => h_.1))))) (below_size (rb3 HB GE497 GE507 GE512))); have n4_ := am (blk_below (g := gb497) (o := .cells #[.int .i64 a0_0, .slice A0_1 l0_1.length c0_1] 51 (0, 0)) (by (with_reducible repeat (first | apply k1 | apply k2 | apply k3)); refine blk_far ?_ NB497_512.out _; (with_reducible repeat (first | apply k1 | apply k2 | apply k3)); refine blk_far ?_ NB497_512.out _; (with_reducible repeat (first | apply k1 | apply k2 | apply k3)); exact BK497.out) hb); have n5_ := am (blk_below (g := gb507) (o := .cells #[.int .i64 t503, .slice Ao195 t504.length co195] 43 (0, 0)) (by (with_reducible repeat (first | apply k1 | apply k2 | apply k3)); refine blk_far ?_ NB507_512.out _; (with_reducible repeat (first | apply k1 | apply k2 | apply k3)); refine blk_far ?_ NB507_512.out _; (with_reducible repeat (first | apply k1 | apply k2 | apply k3)); exact BK507.out) hb); have n6_ := am (blk_below (g := gb512) (o := .cells #[.int .i64 t508, .slice Ao203 t509.length co203] 43 (0, 0)) (by (with_reducible repeat (first | apply k1 | apply k2 | apply k3)); refine blk_put (cs := #[.int .i64 t508, .slice none 0 0]) ?_ 1 _ rfl; (with_reducible repeat (first | apply k1 | apply k2 | apply k3)); refine blk_put (cs := #[.int .i64 0, .slice none 0 0]) ?_ 0 _ rfl; (with_reducible repeat (first | apply k1 | apply k2 | apply k3)); exact BK512.out) hb); have n7_ := am (below_step (rb3 HB GE497 GE507 GE512) hb); clear HO502; clear HO506; clear HO511; clear BK497; clear BK507; clear BK512; clear HB; have HO502 := n0_; have HO506 := n1_; have HO511 := n2_; have HO516 := n3_; have BK497 := n4_; have BK507 := n5_; have BK512 := n6_; have HB := n7_; clear n0_ n1_ n2_ n3_ n4_ n5_ n6_ n7_; (try clear hb); (try clear hb2); (try clear hk); (try clear hi); (try clear ho0)) | ((with_reducible refine gate_dst (N := 10) rfl ?_); refine box_event ?hg (N := 10) ?hd (cs := #[.int .i64 0, .slice none 0 0]) (t := 43) ?hr ?_; (case hd => rfl); (case hg => rfl); (case hr => first | (go_simp; done) | (go_simp; rfl)); intro gb517 hg w206 hbox hb; have n0_ := am (Kd.S_below (rs HO502) hb); have n1_ := am (Kd.S_below (rs HO506) hb); have n2_ := am (Kd.S_below (rs HO511) hb); have n3_ := am (Kd.S_below (rs HO516) hb); have n4_ := am (blk_below (g := gb497) (o := .cells #[.int .i64 a0_0, .slice A0_1 l0_1.length c0_1] 51 (0, 0)) (rk BK497) hb); have n5_ := am (blk_below (g := gb507) (o := .cells #[.int .i64 t503, .slice Ao195 t504.length co195] 43 (0, 0)) (rk BK507) hb); have n6_ := am (blk_below (g := gb512) (o := .cells #[.int .i64 t508, .slice Ao203 t509.length co203] 43 (0, 0)) (rk BK512) hb); have n7_ := am (below_step (rb3 HB GE497 GE507 GE512) hb); have n8_ := am (hbox); have n9_ := am ((by rw [hg]; exact (below_size (rb3 HB GE497 GE507 GE512)) : w.heap.size ≤ gb517)); have n10_ := am ((by rw [hg]; exact (below_size (rb3 HB GE497 GE507 GE512)) : w.heap.size ≤ gb517)); have n11_ := am ((by rw [hg]; exact Nat.ne_of_lt (blk_lt (g := gb497) (o := .cells #[.int .i64 a0_0, .slice A0_1 l0_1.length c0_1] 51 (0, 0)) (rk BK497)) : gb497 ≠ gb517)); have n12_ := am ((by rw [hg]; exact Nat.ne_of_gt (blk_lt (g := gb497) (o := .cells #[.int .i64 a0_0, .slice A0_1 l0_1.length c0_1] 51 (0, 0)) (rk BK497)) : gb517 ≠ gb497)); have n13_ := am ((by rw [hg]; exact Nat.ne_of_lt (blk_lt (g := gb507) (o := .cells #[.int .i64 t503, .slice Ao195 t504.length co195] 43 (0, 0)) (rk BK507)) : gb507 ≠ gb517)); have n14_ := am ((by rw [hg]; exact Nat.ne_of_gt (blk_lt (g := gb507) (o := .cells #[.int .i64 t503, .slice Ao195 t504.length co195] 43 (0, 0)) (rk BK507)) : gb517 ≠ gb507)); have n15_ := am ((by rw [hg]; exact Nat.ne_of_lt (blk_lt (g := gb512) (o := .cells #[.int .i64 t508, .slice Ao203 t509.length co203] 43 (0, 0)) (rk BK512)) : gb512 ≠ gb517)); have n16_ := am ((by rw [hg]; exact Nat.ne_of_gt (blk_lt (g := gb512) (o := .cells #[.int .i64 t508, .slice Ao203 t509.length co203] 43 (0, 0)) (rk BK512)) : gb517 ≠ gb512)); clear HO502; clear HO506; clear HO511; clear HO516; clear BK497; clear BK507; clear BK512; clear HB; have HO502 := n0_; have HO506 := n1_; have HO511 := n2_; have HO516 := n3_; have BK497 := n4_; have BK507 := n5_; have BK512 := n6_; have HB := n7_; have BK517 := n8_; have GW517 := n9_; have GE517 := n10_; have NB497_517 := n11_; have NB517_497 := n12_; have NB507_517 := n13_; have NB517_507 := n14_; have NB512_517 := n15_; have NB517_512 := n16_; clear n0_ n1_ n2_ n3_ n4_ n5_ n6_ n7_ n8_ n9_ n10_ n11_ n12_ n13_ n14_ n15_ n16_; clear hb hbox hg; have hnb207 := NB517_497.out; have hnc207 := NB497_517.out; have hnb208 := NB517_507.out; have hnc208 := NB507_517.out; have hnb209 := NB517_512.out; have hnc209 := NB512_517.out; have hcz210_0 : w206.cell? ⟨gb517, 0, none⟩ = some (.int .i64 0) := (blk_cell BK517.out 0).trans rfl; have hcz210_1 : w206.cell? ⟨gb517, 1, none⟩ = some (.slice none 0 0) := (blk_cell BK517.out 1).trans rfl; have hfz210_0 := blk_frozen BK517.out 0; have hfz210_1 := blk_frozen BK517.out 1; obtain ⟨Ao211, co211, eo211⟩ := Kd.S_slice HO516.out; subst eo211; have hcz212_0 : w206.cell? ⟨gb507, 0, none⟩ = some (.int .i64 t503) := (blk_cell BK507.out 0).trans rfl; have hcz212_1 : w206.cell? ⟨gb507, 1, none⟩ = some (.slice Ao195 t504.length co195) := (blk_cell BK507.out 1).trans rfl; have hfz212_0 := blk_frozen BK507.out 0; have hfz212_1 := blk_frozen BK507.out 1) | ((with_reducible refine gate_callee (f := 24) rfl ?_); refine gl_ (some 33) Try.func24 #[.agg #[.int .i64 t513, .slice Ao211 t514.length co211], .agg #[.int .i64 t503, .slice Ao195 t504.length co195]] ?_; (with_reducible refine (laws_eqGrid.calls k t513 _ _ t514 t503 _ _ t504 true _ ?side1 ?side2 ?side3 ?side4 A13.out).mono ?_); (case side1 => refine (Kd.S_reads' (e := 26) (base := w.heap.size) (ok := fun _ => True) (n := t514.length) (c := co211) ?_).2.2; exact (by (with_reducible repeat (first | apply Kd.S_alloc | apply Kd.S_drewN | apply Kd.S_drew)); exact Kd.S_mono (Kd.S_far (p := ⟨gb517, 1, none⟩) (Kd.S_far (p := ⟨gb517, 0, none⟩) (Kd.S_types HO516.out BK517.out (by decide)) (fun _ hk => hk.2) (.int .i64 t513)) (fun _ hk => hk.2) (.slice Ao211 t514.length co211)) (fun _ hk => trivial))); (case side2 => exact (Kd.S_reads' HO516.out).2.1); (case side3 => refine (Kd.S_reads' (e := 26) (base := w.heap.size) (ok := fun _ => True) (n := t504.length) (c := co195) ?_).2.2; exact (by (with_reducible repeat (first | apply Kd.S_alloc | apply Kd.S_drewN | apply Kd.S_drew)); exact Kd.S_mono (Kd.S_far (p := ⟨gb517, 1, none⟩) (Kd.S_far (p := ⟨gb517, 0, none⟩) (Kd.S_types HO506.out BK517.out (by decide)) (fun _ hk => hk.2) (.int .i64 t513)) (fun _ hk => hk.2) (.slice Ao211 t514.length co211)) (fun _ hk => trivial))); (case side4 => exact (Kd.S_reads' HO506.out).2.1); rintro e w213 ⟨rfl, hb⟩; refine ⟨_, rfl, ?_⟩; have n0_ := am (Kd.S_below (by (with_reducible repeat (first | apply Kd.S_alloc | apply Kd.S_drewN | apply Kd.S_drew)); exact (Kd.S_mono (Kd.S_far (p := ⟨gb517, 1, none⟩) (Kd.S_far (p := ⟨gb517, 0, none⟩) (Kd.S_types HO502.out BK517.out (by decide)) (fun _ hk => hk.2) (.int .i64 t513)) (fun _ hk => hk.2) (.slice Ao211 t514.length co211)) (fun _ h_ => h_.1))) hb); have n1_ := am (Kd.S_below (by (with_reducible repeat (first | apply Kd.S_alloc | apply Kd.S_drewN | apply Kd.S_drew)); exact (Kd.S_mono (Kd.S_far (p := ⟨gb517, 1, none⟩) (Kd.S_far (p := ⟨gb517, 0, none⟩) (Kd.S_types HO506.out BK517.out (by decide)) (fun _ hk => hk.2) (.int .i64 t513)) (fun _ hk => hk.2) (.slice Ao211 t514.length co211)) (fun _ h_ => h_.1))) hb); have n2_ := am (Kd.S_below (by (with_reducible repeat (first | apply Kd.S_alloc | apply Kd.S_drewN | apply Kd.S_drew)); exact (Kd.S_mono (Kd.S_far (p := ⟨gb517, 1, none⟩) (Kd.S_far (p := ⟨gb517, 0, none⟩) (Kd.S_types HO511.out BK517.out (by decide)) (fun _ hk => hk.2) (.int .i64 t513)) (fun _ hk => hk.2) (.slice Ao211 t514.length co211)) (fun _ h_ => h_.1))) hb); have n3_ := am (Kd.S_below (by (with_reducible repeat (first | apply Kd.S_alloc | apply Kd.S_drewN | apply Kd.S_drew)); exact (Kd.S_mono (Kd.S_far (p := ⟨gb517, 1, none⟩) (Kd.S_far (p := ⟨gb517, 0, none⟩) (Kd.S_types HO516.out BK517.out (by decide)) (fun _ hk => hk.2) (.int .i64 t513)) (fun _ hk => hk.2) (.slice Ao211 t514.length co211)) (fun _ h_ => h_.1))) hb); have n4_ := am (blk_below (g := gb497) (o := .cells #[.int .i64 a0_0, .slice A0_1 l0_1.length c0_1] 51 (0, 0)) (by (with_reducible repeat (first | apply k1 | apply k2 | apply k3)); refine blk_far ?_ NB497_517.out _; (with_reducible repeat (first | apply k1 | apply k2 | apply k3)); refine blk_far ?_ NB497_517.out _; (with_reducible repeat (first | apply k1 | apply k2 | apply k3)); exact BK497.out) hb); have n5_ := am (blk_below (g := gb507) (o := .cells #[.int .i64 t503, .slice Ao195 t504.length co195] 43 (0, 0)) (by (with_reducible repeat (first | apply k1 | apply k2 | apply k3)); refine blk_far ?_ NB507_517.out _; (with_reducible repeat (first | apply k1 | apply k2 | apply k3)); refine blk_far ?_ NB507_517.out _; (with_reducible repeat (first | apply k1 | apply k2 | apply k3)); exact BK507.out) hb); have n6_ := am (blk_below (g := gb512) (o := .cells #[.int .i64 t508, .slice Ao203 t509.length co203] 43 (0, 0)) (by (with_reducible repeat (first | apply k1 | apply k2 | apply k3)); refine blk_far ?_ NB512_517.out _; (with_reducible repeat (first | apply k1 | apply k2 | apply k3)); refine blk_far ?_ NB512_517.out _; (with_reducible repeat (first | apply k1 | apply k2 | apply k3)); exact BK512.out) hb); have n7_ := am (blk_below (g := gb517) (o := .cells #[.int .i64 t513, .slice Ao211 t514.length co211] 43 (0, 0)) (by (with_reducible repeat (first | apply k1 | apply k2 | apply k3)); refine blk_put (cs := #[.int .i64 t513, .slice none 0 0]) ?_ 1 _ rfl; (with_reducible repeat (first | apply k1 | apply k2 | apply k3)); refine blk_put (cs := #[.int .i64 0, .slice none 0 0]) ?_ 0 _ rfl; (with_reducible repeat (first | apply k1 | apply k2 | apply k3)); exact BK517.out) hb); have n8_ := am (below_step (rb4 HB GE497 GE507 GE512 GE517) hb); clear HO502; clear HO506; clear HO511; clear HO516; clear BK497; clear BK507; clear BK512; clear BK517; clear HB; have HO502 := n0_; have HO506 := n1_; have HO511 := n2_; have HO516 := n3_; have BK497 := n4_; have BK507 := n5_; have BK512 := n6_; have BK517 := n7_; have HB := n8_; clear n0_ n1_ n2_ n3_ n4_ n5_ n6_ n7_ n8_; (try clear hb); (try clear hb2); (try clear hk); (try clear hi)))
   have n0_ := am (Kd.S_drew HO502.out)
   have n1_ := am (Kd.S_drew HO506.out)
   have n2_ := am (Kd.S_drew HO511.out)
   have n3_ := am (Kd.S_drew HO516.out)
   have n4_ := am (blk_drew BK497.out)
   have n5_ := am (blk_drew BK507.out)
   have n6_ := am (blk_drew BK512.out)
   have n7_ := am (blk_drew BK517.out)
   have n8_ := am (below_drew1 HB.out)
   clear HO502
   clear HO506
   clear HO511
   clear HO516
   clear BK497
   clear BK507
   clear BK512
   clear BK517
   clear HB
   have HO502 := n0_
   have HO506 := n1_
   have HO511 := n2_
   have HO516 := n3_
   have BK497 := n4_
   have BK507 := n5_
   have BK512 := n6_
   have BK517 := n7_
   have HB := n8_
   clear n0_ n1_ n2_ n3_ n4_ n5_ n6_ n7_ n8_
   refine start_ (n := 5) (S := fun w' => w'.cell? ⟨gb512, 0, none⟩ = some (.int .i64 t508) ∧ w'.cell? ⟨gb512, 1, none⟩ = some (.slice Ao203 t509.length co203) ∧ w'.cell? ⟨gb497, 0, none⟩ = some (.int .i64 a0_0) ∧ w'.cell? ⟨gb497, 1, none⟩ = some (.slice A0_1 l0_1.length c0_1)) (ds := []) (bm 5 0) (by kernel_rfl) rfl rfl ⟨(blk_cell BK512.out 0).trans rfl, (blk_cell BK512.out 1).trans rfl, (blk_cell BK497.out 0).trans rfl, (blk_cell BK497.out 1).trans rfl⟩ (fun hHeld => ?_)
   generalize w213.drew = w214 at HO502 HO506 HO511 HO516 BK497 BK507 BK512 BK517 HB hHeld ⊢
   refine take_ (i := 0) (N := some 35) (v := ?_) (a' := ?_) (bm 5 1) rfl rfl (by kernel_rfl) (fun _ _ _ h => h) (Or.inl ⟨by rfl, ?_⟩) hHeld ?_ ?_
   rotate_left
   ·rintro w' ⟨s0, s1, s2, s3⟩
    go_simp
    with_reducible rfl
   rotate_left
   ·simp only [Act.put, List.setIfInBounds_toArray, List.set_cons_zero, List.set_cons_succ, i64_w, i32_w]
    rfl
   refine take_ (i := 1) (N := some 36) (v := ?_) (a' := ?_) (bm 5 3) rfl rfl (by kernel_rfl) (fun _ _ _ h => h) (Or.inl ⟨by rfl, ?_⟩) hHeld ?_ ?_
   rotate_left
   ·rintro w' ⟨s0, s1, s2, s3⟩
    go_simp
    with_reducible rfl
   rotate_left
   ·simp only [Act.put, List.setIfInBounds_toArray, List.set_cons_zero, List.set_cons_succ, i64_w, i32_w]
    rfl
   refine one_ (i := 2) (N := some 37) (bm 5 7) rfl rfl (by kernel_rfl) (by decide) (fun K hK => ?_)
   refine goes_ Try.func29 (by kernel_rfl) rfl #[.agg #[.int .i64 a0_0, .slice A0_1 l0_1.length c0_1]] (by rfl) rfl rfl (by (try simp only [List.map_toArray, List.map_cons, List.map_nil]); first | done | rfl | (simp only [List.length_drop, List.length_take]; rfl)) ?_
   with_reducible refine (laws_toGrid.calls k a0_0 _ _ l0_1 t519 t520 _ ?side1 ?side2 A15.out).mono ?_
   (case side1 => exact rc ((Kd.C_below HR0_1.out HB.out)))
   (case side2 => exact HC0_1.out)
   rintro e w215 ⟨v521, rfl, ho0, hb⟩
   refine ⟨_, rfl, ?_⟩
   have n0_ := am (Kd.S_elder' (Sx_cap (rs HO502)) (Kd.S_base ho0) hb)
   have n1_ := am (Kd.S_elder' (Sx_cap (rs HO506)) (Kd.S_base ho0) hb)
   have n2_ := am (Kd.S_elder' (Sx_cap (rs HO511)) (Kd.S_base ho0) hb)
   have n3_ := am (Kd.S_elder' (Sx_cap (rs HO516)) (Kd.S_base ho0) hb)
   have n4_ := am (Kd.S_lower (Kd.S_new' (Kd.S_new' (Kd.S_new' (Kd.S_new' (Sx_floor ho0) (Kd.S_lt (rs HO502))) (Kd.S_lt (rs HO506))) (Kd.S_lt (rs HO511))) (Kd.S_lt (rs HO516))) (below_size (rb4 HB GE497 GE507 GE512 GE517)))
   have n5_ := am (blk_below (g := gb497) (o := .cells #[.int .i64 a0_0, .slice A0_1 l0_1.length c0_1] 51 (0, 0)) (rk BK497) hb)
   have n6_ := am (blk_below (g := gb507) (o := .cells #[.int .i64 t503, .slice Ao195 t504.length co195] 43 (0, 0)) (rk BK507) hb)
   have n7_ := am (blk_below (g := gb512) (o := .cells #[.int .i64 t508, .slice Ao203 t509.length co203] 43 (0, 0)) (rk BK512) hb)
   have n8_ := am (blk_below (g := gb517) (o := .cells #[.int .i64 t513, .slice Ao211 t514.length co211] 43 (0, 0)) (rk BK517) hb)
   have n9_ := am (below_step (rb4 HB GE497 GE507 GE512 GE517) hb)
   clear HO502
   clear HO506
   clear HO511
   clear HO516
   clear BK497
   clear BK507
   clear BK512
   clear BK517
   clear HB
   have HO502 := n0_
   have HO506 := n1_
   have HO511 := n2_
   have HO516 := n3_
   have HO522 := n4_
   have BK497 := n5_
   have BK507 := n6_
   have BK512 := n7_
   have BK517 := n8_
   have HB := n9_
   clear n0_ n1_ n2_ n3_ n4_ n5_ n6_ n7_ n8_ n9_
   (try clear hb)
   (try clear hb2)
   (try clear hk)
   (try clear hi)
   (try clear ho0)
   obtain ⟨Ao217, co217, eo217⟩ := Kd.S_slice HO522.out
   (first | subst eo217 | (injection eo217 with f1_ f2_ f3_; have f4_ := f1_.symm; have f5_ := f3_.symm; clear f1_ f2_ f3_; subst f4_; subst f5_))
   refine hK.out _ _ ⟨(blk_cell BK512.out 0).trans rfl, (blk_cell BK512.out 1).trans rfl, (blk_cell BK497.out 0).trans rfl, (blk_cell BK497.out 1).trans rfl⟩ (fun hHeld => ?_)
   clear hK K
   refine norm_ (a' := ?_) ?_ ?_
   rotate_left
   ·show Act.put _ (some 37) _ = _
    simp only [Act.put, List.setIfInBounds_toArray, List.set_cons_zero, List.set_cons_succ, i64_w, i32_w]
    rfl
   refine one_ (i := 3) (N := some 38) (bm 5 15) rfl rfl (by kernel_rfl) (by decide) (fun K hK => ?_)
   refine goes_ Try.func24 (by kernel_rfl) rfl #[.agg #[.int .i64 t508, .slice Ao203 t509.length co203], .agg #[.int .i64 t519, .slice Ao217 t520.length co217]] (by rfl) rfl rfl (by (try simp only [List.map_toArray, List.map_cons, List.map_nil]); first | done | rfl | (simp only [List.length_drop, List.length_take]; rfl)) ?_
   with_reducible refine (laws_eqGrid.calls k t508 _ _ t509 t519 _ _ t520 true _ ?side1 ?side2 ?side3 ?side4 A16.out).mono ?_
   (case side1 => repeat (first | exact (Kd.S_reads' HO511.out).2.2 | (with_reducible refine Kd.C_alloc ?_ _) | (with_reducible refine Kd.C_drewN ?_ _) | (with_reducible refine Kd.C_drew ?_)))
   (case side2 => exact (Kd.S_reads' HO511.out).2.1)
   (case side3 => repeat (first | exact (Kd.S_reads' HO522.out).2.2 | (with_reducible refine Kd.C_alloc ?_ _) | (with_reducible refine Kd.C_drewN ?_ _) | (with_reducible refine Kd.C_drew ?_)))
   (case side4 => exact (Kd.S_reads' HO522.out).2.1)
   rintro e w218 ⟨rfl, hb⟩
   refine ⟨_, rfl, ?_⟩
   have n0_ := am (Kd.S_below (rs HO502) hb)
   have n1_ := am (Kd.S_below (rs HO506) hb)
   have n2_ := am (Kd.S_below (rs HO511) hb)
   have n3_ := am (Kd.S_below (rs HO516) hb)
   have n4_ := am (Kd.S_below (rs HO522) hb)
   have n5_ := am (blk_below (g := gb497) (o := .cells #[.int .i64 a0_0, .slice A0_1 l0_1.length c0_1] 51 (0, 0)) (rk BK497) hb)
   have n6_ := am (blk_below (g := gb507) (o := .cells #[.int .i64 t503, .slice Ao195 t504.length co195] 43 (0, 0)) (rk BK507) hb)
   have n7_ := am (blk_below (g := gb512) (o := .cells #[.int .i64 t508, .slice Ao203 t509.length co203] 43 (0, 0)) (rk BK512) hb)
   have n8_ := am (blk_below (g := gb517) (o := .cells #[.int .i64 t513, .slice Ao211 t514.length co211] 43 (0, 0)) (rk BK517) hb)
   have n9_ := am (below_step (rb4 HB GE497 GE507 GE512 GE517) hb)
   clear HO502
   clear HO506
   clear HO511
   clear HO516
   clear HO522
   clear BK497
   clear BK507
   clear BK512
   clear BK517
   clear HB
   have HO502 := n0_
   have HO506 := n1_
   have HO511 := n2_
   have HO516 := n3_
   have HO522 := n4_
   have BK497 := n5_
   have BK507 := n6_
   have BK512 := n7_
   have BK517 := n8_
   have HB := n9_
   clear n0_ n1_ n2_ n3_ n4_ n5_ n6_ n7_ n8_ n9_
   (try clear hb)
   (try clear hb2)
   (try clear hk)
   (try clear hi)
   refine hK.out _ _ ⟨(blk_cell BK512.out 0).trans rfl, (blk_cell BK512.out 1).trans rfl, (blk_cell BK497.out 0).trans rfl, (blk_cell BK497.out 1).trans rfl⟩ (fun hHeld => ?_)
   clear hK K
   refine norm_ (a' := ?_) ?_ ?_
   rotate_left
   ·show Act.put _ (some 38) _ = _
    simp only [Act.put, List.setIfInBounds_toArray, List.set_cons_zero, List.set_cons_succ, i64_w, i32_w]
    rfl
   refine pure_ (i := 4) (N := some 39) (v := ?_) (a' := ?_) (bm 5 31) rfl rfl (by kernel_rfl) (fun _ _ _ h => h) (Or.inl ⟨by rfl, ?_⟩) ?_ ?_
   rotate_left
   ·intro w'
    go_simp
    with_reducible rfl
   rotate_left
   ·simp only [Act.put, List.setIfInBounds_toArray, List.set_cons_zero, List.set_cons_succ, i64_w, i32_w]
    rfl
   refine done_ (by kernel_rfl) ?_
   have hcz219_0 : w218.cell? ⟨gb512, 0, none⟩ = some (.int .i64 t508) := (blk_cell BK512.out 0).trans rfl
   have hcz219_1 : w218.cell? ⟨gb512, 1, none⟩ = some (.slice Ao203 t509.length co203) := (blk_cell BK512.out 1).trans rfl
   have hfz219_0 := blk_frozen BK512.out 0
   have hfz219_1 := blk_frozen BK512.out 1
   obtain ⟨PX220, hPS220, hPX220⟩ := Sx_named (Kd.S_bound HO511.out)
   try go_wp2_with (first | ((with_reducible refine gate_callee (f := 25) rfl ?_); refine gl_ (some 42) Try.func25 #[.agg #[.int .i64 t508, .slice Ao203 t509.length co203], .int .i64 1] ?_; (with_reducible refine (laws_markGrid.calls k t508 PX220 (.slice Ao203 t509.length co203) t509 1 t524 t525 w _ ?side1 ?side2 A18.out).mono ?_); (case side1 => repeat (first | (with_reducible first | exact HB.out | apply b1 | apply b2 | apply b3 | refine below_set ?_ GE497.out | refine below_set ?_ GE507.out | refine below_set ?_ GE512.out | refine below_set ?_ GE517.out) | exact HB.out)); (case side2 => exact hPS220); rintro e w221 ⟨rfl, hy0, hb, hkp⟩; refine ⟨_, rfl, ?_⟩; have n0_ := am (blk_kept (rk BK497) hkp (fun hs_ => (fun e_ => Sx_box BK497.out (by decide) (hPX220 _ e_).2.2.2) hs_)); have n1_ := am (Kd.S_kept (HO502.out) hkp (fun k_ hk_ hs_ => (fun e_ => Nat.not_lt.2 ((hPX220 k_ e_).1.1.1.1.1.1.1.2) (hk_.1.1.1.1.1.2)) hs_)); have n2_ := am (Kd.S_kept (HO506.out) hkp (fun k_ hk_ hs_ => (fun e_ => Nat.not_lt.2 ((hPX220 k_ e_).1.1.1.1.1.1.1.2) (hk_.1.1.1.1.1.2)) hs_)); have n3_ := am (blk_kept (rk BK507) hkp (fun hs_ => (fun e_ => Sx_box BK507.out (by decide) (hPX220 _ e_).2.2.2) hs_)); have n4_ := am (Kd.S_mono hy0 (fun k_ h_ => (hPX220 k_ h_).1)); have n5_ := am (blk_kept (rk BK512) hkp (fun hs_ => (fun e_ => Sx_box BK512.out (by decide) (hPX220 _ e_).2.2.2) hs_)); have n6_ := am (Kd.S_kept (HO516.out) hkp (fun k_ hk_ hs_ => (fun e_ => Nat.not_lt.2 (hk_.1.1.1.1.1.2) ((hPX220 k_ e_).1.1.1.1.2)) hs_)); have n7_ := am (blk_kept (rk BK517) hkp (fun hs_ => (fun e_ => Sx_box BK517.out (by decide) (hPX220 _ e_).2.2.2) hs_)); have n8_ := am (Kd.S_kept (HO522.out) hkp (fun k_ hk_ hs_ => (fun e_ => Nat.not_lt.2 (hk_.1.1.1.1.2) ((hPX220 k_ e_).1.1.2)) hs_)); have n9_ := am (hb); clear BK497; clear HO502; clear HO506; clear BK507; clear HO511; clear BK512; clear HO516; clear BK517; clear HO522; clear HB; have BK497 := n0_; have HO502 := n1_; have HO506 := n2_; have BK507 := n3_; have HO511 := n4_; have BK512 := n5_; have HO516 := n6_; have BK517 := n7_; have HO522 := n8_; have HB := n9_; clear n0_ n1_ n2_ n3_ n4_ n5_ n6_ n7_ n8_ n9_; (try clear hPS220 hPX220); (try clear hb); (try clear hkp); (try clear hy0); have hcz222_0 : w221.cell? ⟨gb517, 0, none⟩ = some (.int .i64 t513) := (blk_cell BK517.out 0).trans rfl; have hcz222_1 : w221.cell? ⟨gb517, 1, none⟩ = some (.slice Ao211 t514.length co211) := (blk_cell BK517.out 1).trans rfl; have hfz222_0 := blk_frozen BK517.out 0; have hfz222_1 := blk_frozen BK517.out 1; have hcz223_0 : w221.cell? ⟨gb507, 0, none⟩ = some (.int .i64 t503) := (blk_cell BK507.out 0).trans rfl; have hcz223_1 : w221.cell? ⟨gb507, 1, none⟩ = some (.slice Ao195 t504.length co195) := (blk_cell BK507.out 1).trans rfl; have hfz223_0 := blk_frozen BK507.out 0; have hfz223_1 := blk_frozen BK507.out 1) | (go_at_call 24; (with_reducible refine (laws_eqGrid.calls k t513 _ _ t514 t503 _ _ t504 true _ ?side1 ?side2 ?side3 ?side4 A59.out).mono ?_); (case side1 => repeat (first | exact (Kd.S_reads' HO516.out).2.2 | (with_reducible refine Kd.C_alloc ?_ _) | (with_reducible refine Kd.C_drewN ?_ _) | (with_reducible refine Kd.C_drew ?_))); (case side2 => exact (Kd.S_reads' HO516.out).2.1); (case side3 => repeat (first | exact (Kd.S_reads' HO506.out).2.2 | (with_reducible refine Kd.C_alloc ?_ _) | (with_reducible refine Kd.C_drewN ?_ _) | (with_reducible refine Kd.C_drew ?_))); (case side4 => exact (Kd.S_reads' HO506.out).2.1); rintro e w224 ⟨rfl, hb⟩; have n0_ := am (Kd.S_below (rs HO502) hb); have n1_ := am (Kd.S_below (rs HO506) hb); have n2_ := am (Kd.S_below (rs HO511) hb); have n3_ := am (Kd.S_below (rs HO516) hb); have n4_ := am (Kd.S_below (rs HO522) hb); have n5_ := am (blk_below (g := gb497) (o := .cells #[.int .i64 a0_0, .slice A0_1 l0_1.length c0_1] 51 (0, 0)) (rk BK497) hb); have n6_ := am (blk_below (g := gb507) (o := .cells #[.int .i64 t503, .slice Ao195 t504.length co195] 43 (0, 0)) (rk BK507) hb); have n7_ := am (blk_below (g := gb512) (o := .cells #[.int .i64 t508, .slice Ao203 t509.length co203] 43 (0, 0)) (rk BK512) hb); have n8_ := am (blk_below (g := gb517) (o := .cells #[.int .i64 t513, .slice Ao211 t514.length co211] 43 (0, 0)) (rk BK517) hb); have n9_ := am (below_step (rb4 HB GE497 GE507 GE512 GE517) hb); clear HO502; clear HO506; clear HO511; clear HO516; clear HO522; clear BK497; clear BK507; clear BK512; clear BK517; clear HB; have HO502 := n0_; have HO506 := n1_; have HO511 := n2_; have HO516 := n3_; have HO522 := n4_; have BK497 := n5_; have BK507 := n6_; have BK512 := n7_; have BK517 := n8_; have HB := n9_; clear n0_ n1_ n2_ n3_ n4_ n5_ n6_ n7_ n8_ n9_; (try clear hb); (try clear hb2); (try clear hk); (try clear hi); have hcz225_0 : w224.cell? ⟨gb517, 0, none⟩ = some (.int .i64 t513) := (blk_cell BK517.out 0).trans rfl; have hcz225_1 : w224.cell? ⟨gb517, 1, none⟩ = some (.slice Ao211 t514.length co211) := (blk_cell BK517.out 1).trans rfl; have hfz225_0 := blk_frozen BK517.out 0; have hfz225_1 := blk_frozen BK517.out 1; obtain ⟨PX226, hPS226, hPX226⟩ := Sx_named (Kd.S_bound HO516.out)) | ((with_reducible refine gate_callee (f := 25) rfl ?_); refine gl_ (some 53) Try.func25 #[.agg #[.int .i64 t513, .slice Ao211 t514.length co211], .int .i64 1] ?_; (with_reducible refine (laws_markGrid.calls k t513 PX226 (.slice Ao211 t514.length co211) t514 1 t527 t528 w _ ?side1 ?side2 A61.out).mono ?_); (case side1 => repeat (first | (with_reducible first | exact HB.out | apply b1 | apply b2 | apply b3 | refine below_set ?_ GE497.out | refine below_set ?_ GE507.out | refine below_set ?_ GE512.out | refine below_set ?_ GE517.out) | exact HB.out)); (case side2 => exact hPS226); rintro e w227 ⟨rfl, hy0, hb, hkp⟩; refine ⟨_, rfl, ?_⟩; have n0_ := am (blk_kept (rk BK497) hkp (fun hs_ => (fun e_ => Sx_box BK497.out (by decide) (hPX226 _ e_).2.2.2) hs_)); have n1_ := am (Kd.S_kept (HO502.out) hkp (fun k_ hk_ hs_ => (fun e_ => Nat.not_lt.2 ((hPX226 k_ e_).1.1.1.1.1.1.2) (hk_.1.1.1.2)) hs_)); have n2_ := am (Kd.S_kept (HO506.out) hkp (fun k_ hk_ hs_ => (fun e_ => Nat.not_lt.2 ((hPX226 k_ e_).1.1.1.1.1.1.2) (hk_.1.1.1.2)) hs_)); have n3_ := am (blk_kept (rk BK507) hkp (fun hs_ => (fun e_ => Sx_box BK507.out (by decide) (hPX226 _ e_).2.2.2) hs_)); have n4_ := am (Kd.S_kept (HO511.out) hkp (fun k_ hk_ hs_ => (fun e_ => Nat.not_lt.2 ((hPX226 k_ e_).1.1.1.1.1.1.2) (hk_.1.1.1.2)) hs_)); have n5_ := am (blk_kept (rk BK512) hkp (fun hs_ => (fun e_ => Sx_box BK512.out (by decide) (hPX226 _ e_).2.2.2) hs_)); have n6_ := am (Kd.S_mono hy0 (fun k_ h_ => (hPX226 k_ h_).1)); have n7_ := am (blk_kept (rk BK517) hkp (fun hs_ => (fun e_ => Sx_box BK517.out (by decide) (hPX226 _ e_).2.2.2) hs_)); have n8_ := am (Kd.S_kept (HO522.out) hkp (fun k_ hk_ hs_ => (fun e_ => Nat.not_lt.2 (hk_.1.1.1.1.2) ((hPX226 k_ e_).1.1.2)) hs_)); have n9_ := am (hb); clear BK497; clear HO502; clear HO506; clear BK507; clear HO511; clear BK512; clear HO516; clear BK517; clear HO522; clear HB; have BK497 := n0_; have HO502 := n1_; have HO506 := n2_; have BK507 := n3_; have HO511 := n4_; have BK512 := n5_; have HO516 := n6_; have BK517 := n7_; have HO522 := n8_; have HB := n9_; clear n0_ n1_ n2_ n3_ n4_ n5_ n6_ n7_ n8_ n9_; (try clear hPS226 hPX226); (try clear hb); (try clear hkp); (try clear hy0); have hcz228_0 : w227.cell? ⟨gb517, 0, none⟩ = some (.int .i64 t513) := (blk_cell BK517.out 0).trans rfl; have hcz228_1 : w227.cell? ⟨gb517, 1, none⟩ = some (.slice Ao211 t514.length co211) := (blk_cell BK517.out 1).trans rfl; have hfz228_0 := blk_frozen BK517.out 0; have hfz228_1 := blk_frozen BK517.out 1) | ((with_reducible refine gate_callee (f := 26) rfl ?_); refine goesL_ (some 56) rfl rfl Try.func26 (by kernel_rfl) rfl #[.agg #[.int .i64 t513, .slice Ao211 t528.length co211], .int .i64 1] rfl (by (try simp only [List.map_toArray, List.map_cons, List.map_nil]); first | done | (rw [show t528.length = t514.length from (Kd.S_reads' HO516.out).1.symm] <;> rfl) | rfl | (simp only [List.length_drop, List.length_take]; rfl)) ?_; (with_reducible refine (laws_heldGrid.calls k t513 _ _ t528 1 t529 _ ?side1 ?side2 A62.out).mono ?_); (case side1 => repeat (first | exact (Kd.S_reads' HO516.out).2.2 | (with_reducible refine Kd.C_alloc ?_ _) | (with_reducible refine Kd.C_drewN ?_ _) | (with_reducible refine Kd.C_drew ?_))); (case side2 => rw [show t528.length = t514.length from (Kd.S_reads' HO516.out).1.symm]; exact (Kd.S_reads' HO516.out).2.1); rintro e w229 ⟨rfl, hb⟩; refine ⟨_, rfl, ?_⟩; have n0_ := am (Kd.S_below (rs HO502) hb); have n1_ := am (Kd.S_below (rs HO506) hb); have n2_ := am (Kd.S_below (rs HO511) hb); have n3_ := am (Kd.S_below (rs HO516) hb); have n4_ := am (Kd.S_below (rs HO522) hb); have n5_ := am (blk_below (g := gb497) (o := .cells #[.int .i64 a0_0, .slice A0_1 l0_1.length c0_1] 51 (0, 0)) (rk BK497) hb); have n6_ := am (blk_below (g := gb507) (o := .cells #[.int .i64 t503, .slice Ao195 t504.length co195] 43 (0, 0)) (rk BK507) hb); have n7_ := am (blk_below (g := gb512) (o := .cells #[.int .i64 t508, .slice Ao203 t509.length co203] 43 (0, 0)) (rk BK512) hb); have n8_ := am (blk_below (g := gb517) (o := .cells #[.int .i64 t513, .slice Ao211 t514.length co211] 43 (0, 0)) (rk BK517) hb); have n9_ := am (below_step (rb4 HB GE497 GE507 GE512 GE517) hb); clear HO502; clear HO506; clear HO511; clear HO516; clear HO522; clear BK497; clear BK507; clear BK512; clear BK517; clear HB; have HO502 := n0_; have HO506 := n1_; have HO511 := n2_; have HO516 := n3_; have HO522 := n4_; have BK497 := n5_; have BK507 := n6_; have BK512 := n7_; have BK517 := n8_; have HB := n9_; clear n0_ n1_ n2_ n3_ n4_ n5_ n6_ n7_ n8_ n9_; (try clear hb); (try clear hb2); (try clear hk); (try clear hi); have hcz230_0 : w229.cell? ⟨gb497, 0, none⟩ = some (.int .i64 a0_0) := (blk_cell BK497.out 0).trans rfl; have hcz230_1 : w229.cell? ⟨gb497, 1, none⟩ = some (.slice A0_1 l0_1.length c0_1) := (blk_cell BK497.out 1).trans rfl; have hfz230_0 := blk_frozen BK497.out 0; have hfz230_1 := blk_frozen BK497.out 1) | ((with_reducible refine gate_callee (f := 29) rfl ?_); refine gl_ (some 63) Try.func29 #[.agg #[.int .i64 a0_0, .slice A0_1 l0_1.length c0_1]] ?_; (with_reducible refine (laws_toGrid.calls k a0_0 _ _ l0_1 t530 t531 _ ?side1 ?side2 A112.out).mono ?_); (case side1 => exact rc ((Kd.C_below HR0_1.out HB.out))); (case side2 => exact HC0_1.out); rintro e w231 ⟨v532, rfl, ho0, hb⟩; refine ⟨_, rfl, ?_⟩; have n0_ := am (Kd.S_elder' (Sx_cap (rs HO502)) (Kd.S_base ho0) hb); have n1_ := am (Kd.S_elder' (Sx_cap (rs HO506)) (Kd.S_base ho0) hb); have n2_ := am (Kd.S_elder' (Sx_cap (rs HO511)) (Kd.S_base ho0) hb); have n3_ := am (Kd.S_elder' (Sx_cap (rs HO516)) (Kd.S_base ho0) hb); have n4_ := am (Kd.S_elder' (Sx_cap (rs HO522)) (Kd.S_base ho0) hb); have n5_ := am (Kd.S_lower (Kd.S_new' (Kd.S_new' (Kd.S_new' (Kd.S_new' (Kd.S_new' (Sx_floor ho0) (Kd.S_lt (rs HO502))) (Kd.S_lt (rs HO506))) (Kd.S_lt (rs HO511))) (Kd.S_lt (rs HO516))) (Kd.S_lt (rs HO522))) (below_size (rb4 HB GE497 GE507 GE512 GE517))); have n6_ := am (blk_below (g := gb497) (o := .cells #[.int .i64 a0_0, .slice A0_1 l0_1.length c0_1] 51 (0, 0)) (rk BK497) hb); have n7_ := am (blk_below (g := gb507) (o := .cells #[.int .i64 t503, .slice Ao195 t504.length co195] 43 (0, 0)) (rk BK507) hb); have n8_ := am (blk_below (g := gb512) (o := .cells #[.int .i64 t508, .slice Ao203 t509.length co203] 43 (0, 0)) (rk BK512) hb); have n9_ := am (blk_below (g := gb517) (o := .cells #[.int .i64 t513, .slice Ao211 t514.length co211] 43 (0, 0)) (rk BK517) hb); have n10_ := am (below_step (rb4 HB GE497 GE507 GE512 GE517) hb); clear HO502; clear HO506; clear HO511; clear HO516; clear HO522; clear BK497; clear BK507; clear BK512; clear BK517; clear HB; have HO502 := n0_; have HO506 := n1_; have HO511 := n2_; have HO516 := n3_; have HO522 := n4_; have HO533 := n5_; have BK497 := n6_; have BK507 := n7_; have BK512 := n8_; have BK517 := n9_; have HB := n10_; clear n0_ n1_ n2_ n3_ n4_ n5_ n6_ n7_ n8_ n9_ n10_; (try clear hb); (try clear hb2); (try clear hk); (try clear hi); (try clear ho0); obtain ⟨Ao233, co233, eo233⟩ := Kd.S_slice HO533.out; subst eo233) | ((with_reducible refine gate_callee (f := 30) rfl ?_); refine gl_ (some 66) Try.func30 #[.agg #[.int .i64 t530, .slice Ao233 t531.length co233], .int .i64 a1, .int .i64 a2] ?_; (with_reducible refine (impl_Resized.calls k t530 _ _ t531 a1 a2 t534 t535 _ ?side1 ?side2 A113.out).mono ?_); (case side1 => repeat (first | exact (Kd.S_reads' HO533.out).2.2 | (with_reducible refine Kd.C_alloc ?_ _) | (with_reducible refine Kd.C_drewN ?_ _) | (with_reducible refine Kd.C_drew ?_))); (case side2 => exact (Kd.S_reads' HO533.out).2.1); rintro e w234 ⟨v536, rfl, ho0, hb⟩; refine ⟨_, rfl, ?_⟩; have n0_ := am (Kd.S_elder' (Sx_cap (rs HO502)) (Kd.S_base ho0) hb); have n1_ := am (Kd.S_elder' (Sx_cap (rs HO506)) (Kd.S_base ho0) hb); have n2_ := am (Kd.S_elder' (Sx_cap (rs HO511)) (Kd.S_base ho0) hb); have n3_ := am (Kd.S_elder' (Sx_cap (rs HO516)) (Kd.S_base ho0) hb); have n4_ := am (Kd.S_elder' (Sx_cap (rs HO522)) (Kd.S_base ho0) hb); have n5_ := am (Kd.S_elder' (Sx_cap (rs HO533)) (Kd.S_base ho0) hb); have n6_ := am (Kd.S_lower (Kd.S_new' (Kd.S_new' (Kd.S_new' (Kd.S_new' (Kd.S_new' (Kd.S_new' (Sx_floor ho0) (Kd.S_lt (rs HO502))) (Kd.S_lt (rs HO506))) (Kd.S_lt (rs HO511))) (Kd.S_lt (rs HO516))) (Kd.S_lt (rs HO522))) (Kd.S_lt (rs HO533))) (below_size (rb4 HB GE497 GE507 GE512 GE517))); have n7_ := am (blk_below (g := gb497) (o := .cells #[.int .i64 a0_0, .slice A0_1 l0_1.length c0_1] 51 (0, 0)) (rk BK497) hb); have n8_ := am (blk_below (g := gb507) (o := .cells #[.int .i64 t503, .slice Ao195 t504.length co195] 43 (0, 0)) (rk BK507) hb); have n9_ := am (blk_below (g := gb512) (o := .cells #[.int .i64 t508, .slice Ao203 t509.length co203] 43 (0, 0)) (rk BK512) hb); have n10_ := am (blk_below (g := gb517) (o := .cells #[.int .i64 t513, .slice Ao211 t514.length co211] 43 (0, 0)) (rk BK517) hb); have n11_ := am (below_step (rb4 HB GE497 GE507 GE512 GE517) hb); clear HO502; clear HO506; clear HO511; clear HO516; clear HO522; clear HO533; clear BK497; clear BK507; clear BK512; clear BK517; clear HB; have HO502 := n0_; have HO506 := n1_; have HO511 := n2_; have HO516 := n3_; have HO522 := n4_; have HO533 := n5_; have HO537 := n6_; have BK497 := n7_; have BK507 := n8_; have BK512 := n9_; have BK517 := n10_; have HB := n11_; clear n0_ n1_ n2_ n3_ n4_ n5_ n6_ n7_ n8_ n9_ n10_ n11_; (try clear hb); (try clear hb2); (try clear hk); (try clear hi); (try clear ho0)) | ((with_reducible refine gate_dst (N := 14) rfl ?_); refine box_event ?hg (N := 14) ?hd (cs := #[.int .i64 0, .slice none 0 0]) (t := 43) ?hr ?_; (case hd => rfl); (case hg => rfl); (case hr => first | (go_simp; done) | (go_simp; rfl)); intro gb538 hg w236 hbox hb; have n0_ := am (Kd.S_below (rs HO502) hb); have n1_ := am (Kd.S_below (rs HO506) hb); have n2_ := am (Kd.S_below (rs HO511) hb); have n3_ := am (Kd.S_below (rs HO516) hb); have n4_ := am (Kd.S_below (rs HO522) hb); have n5_ := am (Kd.S_below (rs HO533) hb); have n6_ := am (Kd.S_below (rs HO537) hb); have n7_ := am (blk_below (g := gb497) (o := .cells #[.int .i64 a0_0, .slice A0_1 l0_1.length c0_1] 51 (0, 0)) (rk BK497) hb); have n8_ := am (blk_below (g := gb507) (o := .cells #[.int .i64 t503, .slice Ao195 t504.length co195] 43 (0, 0)) (rk BK507) hb); have n9_ := am (blk_below (g := gb512) (o := .cells #[.int .i64 t508, .slice Ao203 t509.length co203] 43 (0, 0)) (rk BK512) hb); have n10_ := am (blk_below (g := gb517) (o := .cells #[.int .i64 t513, .slice Ao211 t514.length co211] 43 (0, 0)) (rk BK517) hb); have n11_ := am (below_step (rb4 HB GE497 GE507 GE512 GE517) hb); have n12_ := am (hbox); have n13_ := am ((by rw [hg]; exact (below_size (rb4 HB GE497 GE507 GE512 GE517)) : w.heap.size ≤ gb538)); have n14_ := am ((by rw [hg]; exact (below_size (rb4 HB GE497 GE507 GE512 GE517)) : w.heap.size ≤ gb538)); have n15_ := am ((by rw [hg]; exact Nat.ne_of_lt (blk_lt (g := gb497) (o := .cells #[.int .i64 a0_0, .slice A0_1 l0_1.length c0_1] 51 (0, 0)) (rk BK497)) : gb497 ≠ gb538)); have n16_ := am ((by rw [hg]; exact Nat.ne_of_gt (blk_lt (g := gb497) (o := .cells #[.int .i64 a0_0, .slice A0_1 l0_1.length c0_1] 51 (0, 0)) (rk BK497)) : gb538 ≠ gb497)); have n17_ := am ((by rw [hg]; exact Nat.ne_of_lt (blk_lt (g := gb507) (o := .cells #[.int .i64 t503, .slice Ao195 t504.length co195] 43 (0, 0)) (rk BK507)) : gb507 ≠ gb538)); have n18_ := am ((by rw [hg]; exact Nat.ne_of_gt (blk_lt (g := gb507) (o := .cells #[.int .i64 t503, .slice Ao195 t504.length co195] 43 (0, 0)) (rk BK507)) : gb538 ≠ gb507)); have n19_ := am ((by rw [hg]; exact Nat.ne_of_lt (blk_lt (g := gb512) (o := .cells #[.int .i64 t508, .slice Ao203 t509.length co203] 43 (0, 0)) (rk BK512)) : gb512 ≠ gb538)); have n20_ := am ((by rw [hg]; exact Nat.ne_of_gt (blk_lt (g := gb512) (o := .cells #[.int .i64 t508, .slice Ao203 t509.length co203] 43 (0, 0)) (rk BK512)) : gb538 ≠ gb512)); have n21_ := am ((by rw [hg]; exact Nat.ne_of_lt (blk_lt (g := gb517) (o := .cells #[.int .i64 t513, .slice Ao211 t514.length co211] 43 (0, 0)) (rk BK517)) : gb517 ≠ gb538)); have n22_ := am ((by rw [hg]; exact Nat.ne_of_gt (blk_lt (g := gb517) (o := .cells #[.int .i64 t513, .slice Ao211 t514.length co211] 43 (0, 0)) (rk BK517)) : gb538 ≠ gb517)); clear HO502; clear HO506; clear HO511; clear HO516; clear HO522; clear HO533; clear HO537; clear BK497; clear BK507; clear BK512; clear BK517; clear HB; have HO502 := n0_; have HO506 := n1_; have HO511 := n2_; have HO516 := n3_; have HO522 := n4_; have HO533 := n5_; have HO537 := n6_; have BK497 := n7_; have BK507 := n8_; have BK512 := n9_; have BK517 := n10_; have HB := n11_; have BK538 := n12_; have GW538 := n13_; have GE538 := n14_; have NB497_538 := n15_; have NB538_497 := n16_; have NB507_538 := n17_; have NB538_507 := n18_; have NB512_538 := n19_; have NB538_512 := n20_; have NB517_538 := n21_; have NB538_517 := n22_; clear n0_ n1_ n2_ n3_ n4_ n5_ n6_ n7_ n8_ n9_ n10_ n11_ n12_ n13_ n14_ n15_ n16_ n17_ n18_ n19_ n20_ n21_ n22_; clear hb hbox hg; have hnb237 := NB538_497.out; have hnc237 := NB497_538.out; have hnb238 := NB538_507.out; have hnc238 := NB507_538.out; have hnb239 := NB538_512.out; have hnc239 := NB512_538.out; have hnb240 := NB538_517.out; have hnc240 := NB517_538.out; have hcz241_0 : w236.cell? ⟨gb538, 0, none⟩ = some (.int .i64 0) := (blk_cell BK538.out 0).trans rfl; have hcz241_1 : w236.cell? ⟨gb538, 1, none⟩ = some (.slice none 0 0) := (blk_cell BK538.out 1).trans rfl; have hfz241_0 := blk_frozen BK538.out 0; have hfz241_1 := blk_frozen BK538.out 1; obtain ⟨Ao242, co242, eo242⟩ := Kd.S_slice HO537.out; subst eo242; have hcz243_0 : w236.cell? ⟨gb507, 0, none⟩ = some (.int .i64 t503) := (blk_cell BK507.out 0).trans rfl; have hcz243_1 : w236.cell? ⟨gb507, 1, none⟩ = some (.slice Ao195 t504.length co195) := (blk_cell BK507.out 1).trans rfl; have hfz243_0 := blk_frozen BK507.out 0; have hfz243_1 := blk_frozen BK507.out 1) | ((with_reducible refine gate_callee (f := 24) rfl ?_); refine gl_ (some 69) Try.func24 #[.agg #[.int .i64 t534, .slice Ao242 t535.length co242], .agg #[.int .i64 t503, .slice Ao195 t504.length co195]] ?_; (with_reducible refine (laws_eqGrid.calls k t534 _ _ t535 t503 _ _ t504 true _ ?side1 ?side2 ?side3 ?side4 A114.out).mono ?_); (case side1 => refine (Kd.S_reads' (e := 26) (base := w.heap.size) (ok := fun _ => True) (n := t535.length) (c := co242) ?_).2.2; exact (by (with_reducible repeat (first | apply Kd.S_alloc | apply Kd.S_drewN | apply Kd.S_drew)); exact Kd.S_mono (Kd.S_far (p := ⟨gb538, 1, none⟩) (Kd.S_far (p := ⟨gb538, 0, none⟩) (Kd.S_types HO537.out BK538.out (by decide)) (fun _ hk => hk.2) (.int .i64 t534)) (fun _ hk => hk.2) (.slice Ao242 t535.length co242)) (fun _ hk => trivial))); (case side2 => exact (Kd.S_reads' HO537.out).2.1); (case side3 => refine (Kd.S_reads' (e := 26) (base := w.heap.size) (ok := fun _ => True) (n := t504.length) (c := co195) ?_).2.2; exact (by (with_reducible repeat (first | apply Kd.S_alloc | apply Kd.S_drewN | apply Kd.S_drew)); exact Kd.S_mono (Kd.S_far (p := ⟨gb538, 1, none⟩) (Kd.S_far (p := ⟨gb538, 0, none⟩) (Kd.S_types HO506.out BK538.out (by decide)) (fun _ hk => hk.2) (.int .i64 t534)) (fun _ hk => hk.2) (.slice Ao242 t535.length co242)) (fun _ hk => trivial))); (case side4 => exact (Kd.S_reads' HO506.out).2.1); rintro e w244 ⟨rfl, hb⟩; refine ⟨_, rfl, ?_⟩; have n0_ := am (Kd.S_below (by (with_reducible repeat (first | apply Kd.S_alloc | apply Kd.S_drewN | apply Kd.S_drew)); exact (Kd.S_mono (Kd.S_far (p := ⟨gb538, 1, none⟩) (Kd.S_far (p := ⟨gb538, 0, none⟩) (Kd.S_types HO502.out BK538.out (by decide)) (fun _ hk => hk.2) (.int .i64 t534)) (fun _ hk => hk.2) (.slice Ao242 t535.length co242)) (fun _ h_ => h_.1))) hb); have n1_ := am (Kd.S_below (by (with_reducible repeat (first | apply Kd.S_alloc | apply Kd.S_drewN | apply Kd.S_drew)); exact (Kd.S_mono (Kd.S_far (p := ⟨gb538, 1, none⟩) (Kd.S_far (p := ⟨gb538, 0, none⟩) (Kd.S_types HO506.out BK538.out (by decide)) (fun _ hk => hk.2) (.int .i64 t534)) (fun _ hk => hk.2) (.slice Ao242 t535.length co242)) (fun _ h_ => h_.1))) hb); have n2_ := am (Kd.S_below (by (with_reducible repeat (first | apply Kd.S_alloc | apply Kd.S_drewN | apply Kd.S_drew)); exact (Kd.S_mono (Kd.S_far (p := ⟨gb538, 1, none⟩) (Kd.S_far (p := ⟨gb538, 0, none⟩) (Kd.S_types HO511.out BK538.out (by decide)) (fun _ hk => hk.2) (.int .i64 t534)) (fun _ hk => hk.2) (.slice Ao242 t535.length co242)) (fun _ h_ => h_.1))) hb); have n3_ := am (Kd.S_below (by (with_reducible repeat (first | apply Kd.S_alloc | apply Kd.S_drewN | apply Kd.S_drew)); exact (Kd.S_mono (Kd.S_far (p := ⟨gb538, 1, none⟩) (Kd.S_far (p := ⟨gb538, 0, none⟩) (Kd.S_types HO516.out BK538.out (by decide)) (fun _ hk => hk.2) (.int .i64 t534)) (fun _ hk => hk.2) (.slice Ao242 t535.length co242)) (fun _ h_ => h_.1))) hb); have n4_ := am (Kd.S_below (by (with_reducible repeat (first | apply Kd.S_alloc | apply Kd.S_drewN | apply Kd.S_drew)); exact (Kd.S_mono (Kd.S_far (p := ⟨gb538, 1, none⟩) (Kd.S_far (p := ⟨gb538, 0, none⟩) (Kd.S_types HO522.out BK538.out (by decide)) (fun _ hk => hk.2) (.int .i64 t534)) (fun _ hk => hk.2) (.slice Ao242 t535.length co242)) (fun _ h_ => h_.1))) hb); have n5_ := am (Kd.S_below (by (with_reducible repeat (first | apply Kd.S_alloc | apply Kd.S_drewN | apply Kd.S_drew)); exact (Kd.S_mono (Kd.S_far (p := ⟨gb538, 1, none⟩) (Kd.S_far (p := ⟨gb538, 0, none⟩) (Kd.S_types HO533.out BK538.out (by decide)) (fun _ hk => hk.2) (.int .i64 t534)) (fun _ hk => hk.2) (.slice Ao242 t535.length co242)) (fun _ h_ => h_.1))) hb); have n6_ := am (Kd.S_below (by (with_reducible repeat (first | apply Kd.S_alloc | apply Kd.S_drewN | apply Kd.S_drew)); exact (Kd.S_mono (Kd.S_far (p := ⟨gb538, 1, none⟩) (Kd.S_far (p := ⟨gb538, 0, none⟩) (Kd.S_types HO537.out BK538.out (by decide)) (fun _ hk => hk.2) (.int .i64 t534)) (fun _ hk => hk.2) (.slice Ao242 t535.length co242)) (fun _ h_ => h_.1))) hb); have n7_ := am (blk_below (g := gb497) (o := .cells #[.int .i64 a0_0, .slice A0_1 l0_1.length c0_1] 51 (0, 0)) (by (with_reducible repeat (first | apply k1 | apply k2 | apply k3)); refine blk_far ?_ NB497_538.out _; (with_reducible repeat (first | apply k1 | apply k2 | apply k3)); refine blk_far ?_ NB497_538.out _; (with_reducible repeat (first | apply k1 | apply k2 | apply k3)); exact BK497.out) hb); have n8_ := am (blk_below (g := gb507) (o := .cells #[.int .i64 t503, .slice Ao195 t504.length co195] 43 (0, 0)) (by (with_reducible repeat (first | apply k1 | apply k2 | apply k3)); refine blk_far ?_ NB507_538.out _; (with_reducible repeat (first | apply k1 | apply k2 | apply k3)); refine blk_far ?_ NB507_538.out _; (with_reducible repeat (first | apply k1 | apply k2 | apply k3)); exact BK507.out) hb); have n9_ := am (blk_below (g := gb512) (o := .cells #[.int .i64 t508, .slice Ao203 t509.length co203] 43 (0, 0)) (by (with_reducible repeat (first | apply k1 | apply k2 | apply k3)); refine blk_far ?_ NB512_538.out _; (with_reducible repeat (first | apply k1 | apply k2 | apply k3)); refine blk_far ?_ NB512_538.out _; (with_reducible repeat (first | apply k1 | apply k2 | apply k3)); exact BK512.out) hb); have n10_ := am (blk_below (g := gb517) (o := .cells #[.int .i64 t513, .slice Ao211 t514.length co211] 43 (0, 0)) (by (with_reducible repeat (first | apply k1 | apply k2 | apply k3)); refine blk_far ?_ NB517_538.out _; (with_reducible repeat (first | apply k1 | apply k2 | apply k3)); refine blk_far ?_ NB517_538.out _; (with_reducible repeat (first | apply k1 | apply k2 | apply k3)); exact BK517.out) hb); have n11_ := am (blk_below (g := gb538) (o := .cells #[.int .i64 t534, .slice Ao242 t535.length co242] 43 (0, 0)) (by (with_reducible repeat (first | apply k1 | apply k2 | apply k3)); refine blk_put (cs := #[.int .i64 t534, .slice none 0 0]) ?_ 1 _ rfl; (with_reducible repeat (first | apply k1 | apply k2 | apply k3)); refine blk_put (cs := #[.int .i64 0, .slice none 0 0]) ?_ 0 _ rfl; (with_reducible repeat (first | apply k1 | apply k2 | apply k3)); exact BK538.out) hb); have n12_ := am (below_step (by repeat (first | (with_reducible first | exact HB.out | apply b1 | apply b2 | apply b3 | refine below_set ?_ GE497.out | refine below_set ?_ GE507.out | refine below_set ?_ GE512.out | refine below_set ?_ GE517.out | refine below_set ?_ GE538.out) | exact HB.out)) hb); clear HO502; clear HO506; clear HO511; clear HO516; clear HO522; clear HO533; clear HO537; clear BK497; clear BK507; clear BK512; clear BK517; clear BK538; clear HB; have HO502 := n0_; have HO506 := n1_; have HO511 := n2_; have HO516 := n3_; have HO522 := n4_; have HO533 := n5_; have HO537 := n6_; have BK497 := n7_; have BK507 := n8_; have BK512 := n9_; have BK517 := n10_; have BK538 := n11_; have HB := n12_; clear n0_ n1_ n2_ n3_ n4_ n5_ n6_ n7_ n8_ n9_ n10_ n11_ n12_; (try clear hb); (try clear hb2); (try clear hk); (try clear hi); have hcz245_0 : w244.cell? ⟨gb517, 0, none⟩ = some (.int .i64 t513) := (blk_cell BK517.out 0).trans rfl; have hcz245_1 : w244.cell? ⟨gb517, 1, none⟩ = some (.slice Ao211 t514.length co211) := (blk_cell BK517.out 1).trans rfl; have hfz245_0 := blk_frozen BK517.out 0; have hfz245_1 := blk_frozen BK517.out 1) | ((with_reducible refine gate_callee (f := 26) rfl ?_); refine goesL_ (some 73) rfl rfl Try.func26 (by kernel_rfl) rfl #[.agg #[.int .i64 t513, .slice Ao211 t528.length co211], .int .i64 1] rfl (by (try simp only [List.map_toArray, List.map_cons, List.map_nil]); first | done | (rw [show t528.length = t514.length from (Kd.S_reads' HO516.out).1.symm] <;> rfl) | rfl | (simp only [List.length_drop, List.length_take]; rfl)) ?_; (with_reducible refine (laws_heldGrid.calls k t513 _ _ t528 1 t540 _ ?side1 ?side2 A116.out).mono ?_); (case side1 => repeat (first | exact (Kd.S_reads' HO516.out).2.2 | (with_reducible refine Kd.C_alloc ?_ _) | (with_reducible refine Kd.C_drewN ?_ _) | (with_reducible refine Kd.C_drew ?_))); (case side2 => rw [show t528.length = t514.length from (Kd.S_reads' HO516.out).1.symm]; exact (Kd.S_reads' HO516.out).2.1); rintro e w246 ⟨rfl, hb⟩; refine ⟨_, rfl, ?_⟩; have n0_ := am (Kd.S_below (rs HO502) hb); have n1_ := am (Kd.S_below (rs HO506) hb); have n2_ := am (Kd.S_below (rs HO511) hb); have n3_ := am (Kd.S_below (rs HO516) hb); have n4_ := am (Kd.S_below (rs HO522) hb); have n5_ := am (Kd.S_below (rs HO533) hb); have n6_ := am (Kd.S_below (rs HO537) hb); have n7_ := am (blk_below (g := gb497) (o := .cells #[.int .i64 a0_0, .slice A0_1 l0_1.length c0_1] 51 (0, 0)) (rk BK497) hb); have n8_ := am (blk_below (g := gb507) (o := .cells #[.int .i64 t503, .slice Ao195 t504.length co195] 43 (0, 0)) (rk BK507) hb); have n9_ := am (blk_below (g := gb512) (o := .cells #[.int .i64 t508, .slice Ao203 t509.length co203] 43 (0, 0)) (rk BK512) hb); have n10_ := am (blk_below (g := gb517) (o := .cells #[.int .i64 t513, .slice Ao211 t514.length co211] 43 (0, 0)) (rk BK517) hb); have n11_ := am (blk_below (g := gb538) (o := .cells #[.int .i64 t534, .slice Ao242 t535.length co242] 43 (0, 0)) (rk BK538) hb); have n12_ := am (below_step (by repeat (first | (with_reducible first | exact HB.out | apply b1 | apply b2 | apply b3 | refine below_set ?_ GE497.out | refine below_set ?_ GE507.out | refine below_set ?_ GE512.out | refine below_set ?_ GE517.out | refine below_set ?_ GE538.out) | exact HB.out)) hb); clear HO502; clear HO506; clear HO511; clear HO516; clear HO522; clear HO533; clear HO537; clear BK497; clear BK507; clear BK512; clear BK517; clear BK538; clear HB; have HO502 := n0_; have HO506 := n1_; have HO511 := n2_; have HO516 := n3_; have HO522 := n4_; have HO533 := n5_; have HO537 := n6_; have BK497 := n7_; have BK507 := n8_; have BK512 := n9_; have BK517 := n10_; have BK538 := n11_; have HB := n12_; clear n0_ n1_ n2_ n3_ n4_ n5_ n6_ n7_ n8_ n9_ n10_ n11_ n12_; (try clear hb); (try clear hb2); (try clear hk); (try clear hi)))
   go_ret
   exact ⟨by first | rfl | (simp [errW_none, errW_some] <;> rfl) | (simp [*, errW_none, errW_some] <;> rfl), by repeat (first | (with_reducible first | exact HB.out | apply b1 | apply b2 | apply b3 | refine below_set ?_ GE497.out | refine below_set ?_ GE507.out | refine below_set ?_ GE512.out | refine below_set ?_ GE517.out | refine below_set ?_ GE538.out) | exact HB.out)⟩

end Go.Proofs.Ytfhkpneffmcdbaa.QE
