/- Contracts of Go functions that laws of this seat reach: each Lean function answers as its Go function does. No condition. Written by wip/tools/inj.py, over the kit's print. -/
import Derived.Test.YtfhkpneffmcdbaaQDx0
import Derived.Test.YtfhkpneffmcdbaaQDx3
import Derived.Test.YtfhkpneffmcdbaaQDx4
import Derived.Test.YtfhkpneffmcdbaaQDx6
import Derived.Test.YtfhkpneffmcdbaaQDx7
namespace Go.Proofs.Ytfhkpneffmcdbaa.QD
open Go.RowKit Go.Proofs.YtfhkpneffmcdbaaW.PrintWords Go.Proofs.YtfhkpneffmcdbaaW.PrintLast Go.Proofs.YtfhkpneffmcdbaaW.PrintMore
attribute [local go_sem] max2_int min2_int max_two min_two max_three min_three max_four min_four   -- for this text's walks alone
set_option linter.unusedVariables false
set_option linter.unusedSimpArgs false

/-! ### spec_l4Pushed: function 39 -/
def spec_l4Pushed.f (k : Nat) (l0 : List (S40)) (a1 : Int) (a2 : Int) (a3_0 : Int) (a3_1 : Int) (a3_2 : Bool) (a3_3 : Bool) (a3_4 : Bool) : Option ((List (S40))) := if a2 = 0 then ((some (([] : List (S40)) : List (S40))).bind fun y437 => (if y437.length + l0.length < 3518437208883 then (some (y437 ++ l0)) else (none))) else (if 0 ≤ a1 then (if a1 ≤ (l0.length : Int) then ((spec_l4Mended.f k (l0.take (a1 : Int).toNat)).bind fun t447 => ((spec_l4Row.f k a2 a3_0 a3_1 a3_2 a3_3 a3_4).bind fun t450 => (if t447.length + t450.length < 3518437208883 then ((some (t447 ++ t450 : List (S40))).bind fun y453 => ((spec_l4Mended.f k (l0.drop (a1 : Int).toNat)).bind fun t460 => (if y453.length + t460.length < 3518437208883 then ((some (y453 ++ t460 : List (S40))).bind fun y463 => (if 0 ≤ (l0.length : Int) then (if (l0.length : Int) ≤ (y463.length : Int) then ((spec_l4Mended.f k (y463.take ((l0.length : Int) : Int).toNat)).bind fun t470 => (some t470)) else (none)) else (none))) else (none)))) else (none)))) else (none)) else (none))
theorem spec_l4Pushed.mono : ∀ a0 a1 a2 a3 a4 a5 a6 a7 k, LeO (spec_l4Pushed.f k a0 a1 a2 a3 a4 a5 a6 a7) (spec_l4Pushed.f (k + 1) a0 a1 a2 a3 a4 a5 a6 a7) := by
 intro a0 a1 a2 a3 a4 a5 a6 a7 k
 unfold spec_l4Pushed.f
 repeat' first
   | (with_reducible exact spec_l4Mended.mono _ _)
   | (with_reducible exact spec_l4Row.mono _ _ _ _ _ _ _)
   | (with_reducible exact LeO.refl _)
   | (with_reducible exact LeO.none _)
   | (with_reducible refine LeO.ite ?_ ?_)
   | (with_reducible refine LeO.bind ?_ (fun _ => ?_))
set_option maxHeartbeats 8000000 in
set_option maxRecDepth 100000 in
theorem spec_l4Pushed.calls (k : Nat) (A0 : Option Addr) (c0 : Nat) (l0 : List (S40)) (a1 : Int) (a2 : Int) (a3_0 : Int) (a3_1 : Int) (a3_2 : Bool) (a3_3 : Bool) (a3_4 : Bool) (r : List (S40)) (w : World) (hr0 : Kd.C k40 w A0 l0.length l0) (hc0 : l0.length ≤ c0) (h : spec_l4Pushed.f k l0 a1 a2 a3_0 a3_1 a3_2 a3_3 a3_4 = some r) :
  Calls Try.prog 39 #[.slice A0 l0.length c0, .int .i64 a1, .int .i64 a2, .agg #[.int .i64 a3_0, .int .i64 a3_1, .bool a3_2, .bool a3_3, .bool a3_4]] w fun e w' => ∃ v0_ : Value, e = .returned (v0_) ∧ Kd.R k40 40 w' w.heap.size (fun _ => True) v0_ r ∧ Below w.heap.size w w' := by
 have hu29 := Try.underlying29
 have HR0 := am hr0
 have HC0 := am hc0
 clear hr0 hc0
 have HB := am (Below.refl w.heap.size w)
 have H := h
 unfold spec_l4Pushed.f at H
 clear h
 by_cases c5 : a2 = 0
 ·rw [if_pos c5] at H
  have c5b0 : (a2 == 0) = true := beq_iff_eq.mpr c5
  have c5b1 : (a2 != 0) = false := bne_eq_false_iff_eq.mpr c5
  clear c5
  obtain ⟨y437, hy437⟩ : ∃ y_ : List (S40), y_ = (([] : List (S40))) := ⟨_, rfl⟩
  replace H : (if y437.length + l0.length < 3518437208883 then (some (y437 ++ l0)) else (none)) = some r := by first | (rw [hy437]; with_reducible exact H) | (rw [hy437]; exact H) | exact H
  have Ny437 := am hy437
  clear hy437
  refine em_ (p := y437.length + l0.length < 3518437208883) (fun c6 => ?g0p) (fun c6 => ?g0n)
  case' g0p =>
   rw [if_pos c6] at H
   have LMc6 := am c6
   clear c6
   obtain ⟨y440, hy440⟩ : ∃ y_ : List (S40), y_ = (y437 ++ l0) := ⟨_, rfl⟩
   replace H : (some y440) = some r := by first | (rw [hy440]; with_reducible exact H) | (rw [hy440]; exact H) | exact H
   have Ny440 := am hy440
   clear hy440
   obtain rfl := Option.some.inj H
   have lf1_ := trivial
  case g0n =>
   rw [if_neg c6] at H
   exact absurd H (by simp)
  all_goals
   go_enter Try.func39, Try.ntmps39
   go_wp2_with (first | ((with_reducible refine gate_dst (N := 7) rfl ?_); refine box_event ?hg (N := 7) ?hd (cs := #[.int .i64 a3_0, .int .i64 a3_1, .bool a3_2, .bool a3_3, .bool a3_4]) (t := 29) ?hr ?_; (case hd => rfl); (case hg => rfl); (case hr => first | (go_simp; done) | (go_simp; rfl)); intro gb436 hg w7 hbox hb; have n0_ := am (below_step (rb HB) hb); have n1_ := am (hbox); have n2_ := am ((by rw [hg]; exact (below_size (rb HB)) : w.heap.size ≤ gb436)); have n3_ := am ((by rw [hg]; exact (below_size (rb HB)) : w.heap.size ≤ gb436)); clear HB; have HB := n0_; have BK436 := n1_; have GW436 := n2_; have GE436 := n3_; clear n0_ n1_ n2_ n3_; clear hb hbox hg) | ((with_reducible refine gate_dst (N := 12) rfl ?_); refine Kd.R_lit k40 _ 40 ?hg (N := 12) ?hd (xs := ([] : List (S40))) (inner := []) (ok := fun _ => True) (okp := fun _ => True) ?hr ?hp (fun _ hk => hk) trivial (Below.refl _ _) (Nat.le_refl _) (by simp) ?_; (case hd => rfl); (case hg => rfl); (case hr => first | (go_simp; done) | (go_simp; rfl)); (case hp => exact (Reps.none _ _)); intro v438 w8 ho9 hb hg_ hnew_; clear hg_ hnew_; (first | rw [← Ny437.out] at ho9 | (simp only [Int.reduceToNat] at ho9; rw [← Ny437.out] at ho9)); have n0_ := am (Kd.R_lower ho9 (below_size (rb1 HB GE436))); have n1_ := am (blk_below (g := gb436) (o := .cells #[.int .i64 a3_0, .int .i64 a3_1, .bool a3_2, .bool a3_3, .bool a3_4] 29 (0, 0)) (rk BK436) hb); have n2_ := am (below_step (rb1 HB GE436) hb); clear BK436; clear HB; have HO439 := n0_; have BK436 := n1_; have HB := n2_; clear n0_ n1_ n2_; clear hb ho9) | ((with_reducible refine gate_builtin (b := .append) (xs := #[.tmp 12, .tmp 13]) rfl ?_); at_builtin; refine Kd.R_append_rows k40 (w0 := w) w.heap.size rfl (.tmp 12) (.tmp 13) 26 40 (.agg #[(.int .i64 0), (.int .i64 0), (.int .i64 0), (.bool false), (.bool false), (.bool false), (.int .i64 0)]) 40 rfl Try.underlying26 info40 rfl (by decide) (by omega) v438 y437 l0 _ _ _ (fun _ => True) (fun _ => False) rfl rfl ?aO ?aR (fun _ _ h => h) (fun _ h => h.elim) ?aF ?aB ?aS ?aL ?_; (case aR => repeat (first | exact (Kd.C_below HR0.out HB.out) | (with_reducible refine Kd.C_alloc ?_ _) | (with_reducible refine Kd.C_drewN ?_ _) | (with_reducible refine Kd.C_drew ?_))); (case aB => exact (rb1 HB GE436)); (case aF => exact (fun _ _ => trivial)); (case aO => exact (rr HO439)); (case aS => exact (below_size (rb1 HB GE436))); (case aL => have := LMc6.out; omega); intro v441 w10 ho hb hg hat; rw [← Ny440.out] at ho; have n0_ := am (blk_grown (g := gb436) (o := .cells #[.int .i64 a3_0, .int .i64 a3_1, .bool a3_2, .bool a3_3, .bool a3_4] 29 (0, 0)) (rk BK436) hg (Kd.R_ne HO439.out BK436.out (by decide))); have n1_ := am (hb); have n2_ := am (ho); clear BK436; clear HB; clear HO439; have BK436 := n0_; have HB := n1_; have HO442 := n2_; clear n0_ n1_ n2_; clear ho hb hg hat))
   go_ret
   exact ⟨_, by first | rfl | (simp [errW_none, errW_some] <;> rfl) | (simp [*, errW_none, errW_some] <;> rfl), by (with_reducible repeat (first | apply r1 | apply r2 | apply r3)); exact HO442.out, by repeat (first | (with_reducible first | exact HB.out | apply b1 | apply b2 | apply b3 | refine below_set ?_ GE436.out) | exact HB.out)⟩
 ·rw [if_neg c5] at H
  have c5b0 : (a2 == 0) = false := beq_eq_false_iff_ne.mpr c5
  have c5b1 : (a2 != 0) = true := bne_iff_ne.mpr c5
  refine em_ (p := 0 ≤ a1) (fun c11 => ?g6p) (fun c11 => ?g6n)
  case' g6p =>
   rw [if_pos c11] at H
   have c11b0 := eq_true c11
   have c11b1 : decide (0 ≤ a1) = true := decide_eq_true c11
   clear c11
   refine em_ (p := a1 ≤ (l0.length : Int)) (fun c12 => ?g5p) (fun c12 => ?g5n)
   case' g5p =>
    rw [if_pos c12] at H
    have c12b0 := eq_true c12
    have c12b1 : decide (a1 ≤ (l0.length : Int)) = true := decide_eq_true c12
    clear c12
    obtain ⟨y443, hy443⟩ : ∃ y_ : List (S40), y_ = (l0.take (a1 : Int).toNat) := ⟨_, rfl⟩
    replace H : ((spec_l4Mended.f k y443).bind fun t447 => ((spec_l4Row.f k a2 a3_0 a3_1 a3_2 a3_3 a3_4).bind fun t450 => (if t447.length + t450.length < 3518437208883 then ((some (t447 ++ t450 : List (S40))).bind fun y453 => ((spec_l4Mended.f k (l0.drop (a1 : Int).toNat)).bind fun t460 => (if y453.length + t460.length < 3518437208883 then ((some (y453 ++ t460 : List (S40))).bind fun y463 => (if 0 ≤ (l0.length : Int) then (if (l0.length : Int) ≤ (y463.length : Int) then ((spec_l4Mended.f k (y463.take ((l0.length : Int) : Int).toNat)).bind fun t470 => (some t470)) else (none)) else (none))) else (none)))) else (none)))) = some r := by first | (rw [hy443]; with_reducible exact H) | (rw [hy443]; exact H) | exact H
    have Ny443 := am hy443
    clear hy443
    replace H := Option.bind_eq_some_iff.mp H
    obtain ⟨t447, A130, H⟩ := H
    (try dsimp only at H)
    have A13 := am A130
    clear A130
    replace H := Option.bind_eq_some_iff.mp H
    obtain ⟨t450, A140, H⟩ := H
    (try dsimp only at H)
    have A14 := am A140
    clear A140
    refine em_ (p := t447.length + t450.length < 3518437208883) (fun c15 => ?g4p) (fun c15 => ?g4n)
    case' g4p =>
     rw [if_pos c15] at H
     have LMc15 := am c15
     clear c15
     obtain ⟨y453, hy453⟩ : ∃ y_ : List (S40), y_ = (t447 ++ t450) := ⟨_, rfl⟩
     replace H : ((spec_l4Mended.f k (l0.drop (a1 : Int).toNat)).bind fun t460 => (if y453.length + t460.length < 3518437208883 then ((some (y453 ++ t460 : List (S40))).bind fun y463 => (if 0 ≤ (l0.length : Int) then (if (l0.length : Int) ≤ (y463.length : Int) then ((spec_l4Mended.f k (y463.take ((l0.length : Int) : Int).toNat)).bind fun t470 => (some t470)) else (none)) else (none))) else (none))) = some r := by first | (rw [hy453]; with_reducible exact H) | (rw [hy453]; exact H) | exact H
     have Ny453 := am hy453
     clear hy453
     have c16b0 := eq_true (dt_ : 0 ≤ a1)
     have c17b0 := eq_true (dt_ : a1 ≤ (l0.length : Int))
     obtain ⟨y456, hy456⟩ : ∃ y_ : List (S40), y_ = (l0.drop (a1 : Int).toNat) := ⟨_, rfl⟩
     replace H : ((spec_l4Mended.f k y456).bind fun t460 => (if y453.length + t460.length < 3518437208883 then ((some (y453 ++ t460 : List (S40))).bind fun y463 => (if 0 ≤ (l0.length : Int) then (if (l0.length : Int) ≤ (y463.length : Int) then ((spec_l4Mended.f k (y463.take ((l0.length : Int) : Int).toNat)).bind fun t470 => (some t470)) else (none)) else (none))) else (none))) = some r := by first | (rw [hy456]; with_reducible exact H) | (rw [hy456]; exact H) | exact H
     have Ny456 := am hy456
     clear hy456
     replace H := Option.bind_eq_some_iff.mp H
     obtain ⟨t460, A180, H⟩ := H
     (try dsimp only at H)
     have A18 := am A180
     clear A180
     refine em_ (p := y453.length + t460.length < 3518437208883) (fun c19 => ?g3p) (fun c19 => ?g3n)
     case' g3p =>
      rw [if_pos c19] at H
      have LMc19 := am c19
      clear c19
      obtain ⟨y463, hy463⟩ : ∃ y_ : List (S40), y_ = (y453 ++ t460) := ⟨_, rfl⟩
      replace H : (if 0 ≤ (l0.length : Int) then (if (l0.length : Int) ≤ (y463.length : Int) then ((spec_l4Mended.f k (y463.take ((l0.length : Int) : Int).toNat)).bind fun t470 => (some t470)) else (none)) else (none)) = some r := by first | (rw [hy463]; with_reducible exact H) | (rw [hy463]; exact H) | exact H
      have Ny463 := am hy463
      clear hy463
      refine em_ (p := 0 ≤ (l0.length : Int)) (fun c20 => ?g2p) (fun c20 => ?g2n)
      case' g2p =>
       rw [if_pos c20] at H
       have c20b0 := eq_true c20
       have c20b1 : decide (0 ≤ (l0.length : Int)) = true := decide_eq_true c20
       clear c20
       refine em_ (p := (l0.length : Int) ≤ (y463.length : Int)) (fun c21 => ?g1p) (fun c21 => ?g1n)
       case' g1p =>
        rw [if_pos c21] at H
        have c21b0 := eq_true c21
        have c21b1 : decide ((l0.length : Int) ≤ (y463.length : Int)) = true := decide_eq_true c21
        clear c21
        obtain ⟨y466, hy466⟩ : ∃ y_ : List (S40), y_ = (y463.take ((l0.length : Int) : Int).toNat) := ⟨_, rfl⟩
        replace H : ((spec_l4Mended.f k y466).bind fun t470 => (some t470)) = some r := by first | (rw [hy466]; with_reducible exact H) | (rw [hy466]; exact H) | exact H
        have Ny466 := am hy466
        clear hy466
        replace H := Option.bind_eq_some_iff.mp H
        obtain ⟨t470, A220, H⟩ := H
        replace H : (some t470) = some r := H
        have A22 := am A220
        clear A220
        obtain rfl := Option.some.inj H
        have lf2_ := trivial
       case g1n =>
        rw [if_neg c21] at H
        exact absurd H (by simp)
      case g2n =>
       rw [if_neg c20] at H
       exact absurd H (by simp)
     case g3n =>
      rw [if_neg c19] at H
      exact absurd H (by simp)
    case g4n =>
     rw [if_neg c15] at H
     exact absurd H (by simp)
   case g5n =>
    rw [if_neg c12] at H
    exact absurd H (by simp)
  case g6n =>
   rw [if_neg c11] at H
   exact absurd H (by simp)
  all_goals
   go_enter Try.func39, Try.ntmps39
   go_wp2_with (first | ((with_reducible refine gate_dst (N := 7) rfl ?_); refine box_event ?hg (N := 7) ?hd (cs := #[.int .i64 a3_0, .int .i64 a3_1, .bool a3_2, .bool a3_3, .bool a3_4]) (t := 29) ?hr ?_; (case hd => rfl); (case hg => rfl); (case hr => first | (go_simp; done) | (go_simp; rfl)); intro gb436 hg w23 hbox hb; have n0_ := am (below_step (rb HB) hb); have n1_ := am (hbox); have n2_ := am ((by rw [hg]; exact (below_size (rb HB)) : w.heap.size ≤ gb436)); have n3_ := am ((by rw [hg]; exact (below_size (rb HB)) : w.heap.size ≤ gb436)); clear HB; have HB := n0_; have BK436 := n1_; have GW436 := n2_; have GE436 := n3_; clear n0_ n1_ n2_ n3_; clear hb hbox hg; have q24 : (a1 : Int) ≤ ((l0.length : Int) : Int) := dt_; obtain ⟨i024, hi024, _, hsz24, _⟩ := info_parts info40; have hroom24 : l0.length ≤ c0 := HC0.out; have hC24 : Kd.C k40 _ A0 l0.length l0 := HR0.out; have hcut24 := cut_to (P := Try.prog) 26 40 .i64 Try.underlying26 hi024 A0 l0.length c0 a1 dt_ q24 hroom24; have hr24 := Kd.C_take (m := (a1 : Int).toNat) hC24 (by omega); have hy24 : y443.length = (a1 : Int).toNat := (by rw [Ny443.out, List.length_take]; omega); rw [← Ny443.out] at hr24; rw [← hy24] at hcut24; have HR446 := am hr24; have HC446 := am (show y443.length ≤ c0 from by omega); clear hr24 hC24 hroom24 hi024 hsz24; have KY24 := am hy24; clear hy24; replace q24 := eq_true q24) | ((with_reducible refine gate_callee (f := 60) rfl ?_); refine gl_ (some 18) Try.func60 #[.slice A0 y443.length c0] ?_; (with_reducible refine (spec_l4Mended.calls k _ _ y443 t447 _ ?side1 ?side2 A13.out).mono ?_); (case side1 => exact rc ((Kd.C_below HR446.out HB.out))); (case side2 => exact HC446.out); rintro e w25 ⟨v448, rfl, ho0, hb⟩; refine ⟨_, rfl, ?_⟩; have n0_ := am (Kd.R_lower ho0 (below_size (rb1 HB GE436))); have n1_ := am (blk_below (g := gb436) (o := .cells #[.int .i64 a3_0, .int .i64 a3_1, .bool a3_2, .bool a3_3, .bool a3_4] 29 (0, 0)) (rk BK436) hb); have n2_ := am (below_step (rb1 HB GE436) hb); clear BK436; clear HB; have HO449 := n0_; have BK436 := n1_; have HB := n2_; clear n0_ n1_ n2_; (try clear hb); (try clear hb2); (try clear hk); (try clear hi); (try clear ho0); have hcz26_0 : w25.cell? ⟨gb436, 0, none⟩ = some (.int .i64 a3_0) := (blk_cell BK436.out 0).trans rfl; have hcz26_1 : w25.cell? ⟨gb436, 1, none⟩ = some (.int .i64 a3_1) := (blk_cell BK436.out 1).trans rfl; have hcz26_2 : w25.cell? ⟨gb436, 2, none⟩ = some (.bool a3_2) := (blk_cell BK436.out 2).trans rfl; have hcz26_3 : w25.cell? ⟨gb436, 3, none⟩ = some (.bool a3_3) := (blk_cell BK436.out 3).trans rfl; have hcz26_4 : w25.cell? ⟨gb436, 4, none⟩ = some (.bool a3_4) := (blk_cell BK436.out 4).trans rfl; have hfz26_0 := blk_frozen BK436.out 0; have hfz26_1 := blk_frozen BK436.out 1; have hfz26_2 := blk_frozen BK436.out 2; have hfz26_3 := blk_frozen BK436.out 3; have hfz26_4 := blk_frozen BK436.out 4) | ((with_reducible refine gate_callee (f := 61) rfl ?_); refine gl_ (some 22) Try.func61 #[.int .i64 a2, .agg #[.int .i64 a3_0, .int .i64 a3_1, .bool a3_2, .bool a3_3, .bool a3_4]] ?_; (with_reducible refine (spec_l4Row.calls k a2 a3_0 a3_1 a3_2 a3_3 a3_4 t450 _ A14.out).mono ?_); rintro e w27 ⟨v451, rfl, ho0, hb⟩; refine ⟨_, rfl, ?_⟩; have n0_ := am (Kd.R_elder' (rr HO449) (Kd.R_base ho0) hb); have n1_ := am (Kd.R_lower (Kd.R_new' ho0 (Kd.R_lt (rr HO449))) (below_size (rb1 HB GE436))); have n2_ := am (blk_below (g := gb436) (o := .cells #[.int .i64 a3_0, .int .i64 a3_1, .bool a3_2, .bool a3_3, .bool a3_4] 29 (0, 0)) (rk BK436) hb); have n3_ := am (below_step (rb1 HB GE436) hb); clear HO449; clear BK436; clear HB; have HO449 := n0_; have HO452 := n1_; have BK436 := n2_; have HB := n3_; clear n0_ n1_ n2_ n3_; (try clear hb); (try clear hb2); (try clear hk); (try clear hi); (try clear ho0); obtain ⟨Ao29, co29, eo29⟩ := Kd.R_slice HO452.out; subst eo29) | ((with_reducible refine gate_builtin (b := .append) (xs := #[.tmp 19, .tmp 22]) rfl ?_); at_builtin; refine Kd.R_append_rows k40 (w0 := w) w.heap.size rfl (.tmp 19) (.tmp 22) 26 40 (.agg #[(.int .i64 0), (.int .i64 0), (.int .i64 0), (.bool false), (.bool false), (.bool false), (.int .i64 0)]) 40 rfl Try.underlying26 info40 rfl (by decide) (by omega) v448 t447 t450 _ _ _ (fun k_ => some k_ ≠ (.slice Ao29 t450.length co29 : Value).ownBlock) (fun _ => False) rfl rfl ?aO ?aR (fun _ _ h => h) (fun _ h => h.elim) ?aF ?aB ?aS ?aL ?_; (case aR => repeat (first | exact (Kd.R_reads' HO452.out).2.2 | (with_reducible refine Kd.C_alloc ?_ _) | (with_reducible refine Kd.C_drewN ?_ _) | (with_reducible refine Kd.C_drew ?_))); (case aB => exact (rb1 HB GE436)); (case aF => exact (fun k_ hk => Kd.fresh' (Kd.R_lt (rr HO452)) k_ hk)); (case aO => exact (by (with_reducible repeat (first | apply r1 | apply r2 | apply r3)); exact Kd.R_mono HO449.out (fun _ hk => hk.2))); (case aS => exact (below_size (rb1 HB GE436))); (case aL => have := LMc15.out; omega); intro v454 w28 ho hb hg hat; rw [← Ny453.out] at ho; have n0_ := am (blk_grown (g := gb436) (o := .cells #[.int .i64 a3_0, .int .i64 a3_1, .bool a3_2, .bool a3_3, .bool a3_4] 29 (0, 0)) (rk BK436) hg (Kd.R_ne HO449.out BK436.out (by decide))); have n1_ := am (Kd.R_after (ok := (fun _ => True)) (rr HO452) hg hat); have n2_ := am (hb); have n3_ := am (ho); clear BK436; clear HO452; clear HB; clear HO449; have BK436 := n0_; have HO452 := n1_; have HB := n2_; have HO455 := n3_; clear n0_ n1_ n2_ n3_; clear ho hb hg hat; have q30 : (a1 : Int) ≤ ((l0.length : Int) : Int) := dt_; obtain ⟨i030, hi030, _, hsz30, _⟩ := info_parts info40; have hroom30 : l0.length ≤ c0 := HC0.out; have hC30 : Kd.C k40 _ A0 l0.length l0 := HR0.out; have q030 : (0 : Int) ≤ (a1 : Int) := dt_; have hcut30 := cut_from (P := Try.prog) 26 40 .i64 Try.underlying26 hi030 7 hsz30 A0 l0.length c0 a1 q030 q30; have hr30 := Kd.C_drop (m := (a1 : Int).toNat) (c := c0) hC30 (by omega) hroom30; obtain ⟨A30, hA30⟩ : ∃ A1, A1 = (if c0 = (a1 : Int).toNat then A0 else (A0 : Option Addr).map (·.add ((a1 : Int).toNat * 7))) := ⟨_, rfl⟩; obtain ⟨c30, hc30⟩ : ∃ c1, c1 = c0 - (a1 : Int).toNat := ⟨_, rfl⟩; have hy30 : y456.length = l0.length - (a1 : Int).toNat := (by rw [Ny456.out, List.length_drop] <;> omega); rw [show (l0).drop (a1 : Int).toNat = y456 from Ny456.out.symm] at hr30; replace hr30 : Kd.C k40 _ A30 y456.length y456 := (by rw [hA30]; exact hr30); rw [← hy30, ← hA30, ← hc30] at hcut30; have HR459 := am hr30; have HC459 := am (show y456.length ≤ c30 from by rw [hy30, hc30]; exact Nat.sub_le_sub_right hroom30 _); clear hr30 hC30 hroom30 hi030 hsz30 hc30; have KY30 := am hy30; have KA30 := am hA30; clear hy30 hA30; replace q30 := eq_true q30) | ((with_reducible refine gate_callee (f := 60) rfl ?_); refine gl_ (some 28) Try.func60 #[.slice A30 y456.length c30] ?_; (with_reducible refine (spec_l4Mended.calls k _ _ y456 t460 _ ?side1 ?side2 A18.out).mono ?_); (case side1 => exact rc ((Kd.C_below HR459.out HB.out))); (case side2 => exact HC459.out); rintro e w31 ⟨v461, rfl, ho0, hb⟩; refine ⟨_, rfl, ?_⟩; have n0_ := am (Kd.R_elder' (rr HO452) (Kd.R_base ho0) hb); have n1_ := am (Kd.R_elder' (rr HO455) (Kd.R_base ho0) hb); have n2_ := am (Kd.R_lower (Kd.R_new' (Kd.R_new' ho0 (Kd.R_lt (rr HO452))) (Kd.R_lt (rr HO455))) (below_size (rb1 HB GE436))); have n3_ := am (blk_below (g := gb436) (o := .cells #[.int .i64 a3_0, .int .i64 a3_1, .bool a3_2, .bool a3_3, .bool a3_4] 29 (0, 0)) (rk BK436) hb); have n4_ := am (below_step (rb1 HB GE436) hb); clear HO452; clear HO455; clear BK436; clear HB; have HO452 := n0_; have HO455 := n1_; have HO462 := n2_; have BK436 := n3_; have HB := n4_; clear n0_ n1_ n2_ n3_ n4_; (try clear hb); (try clear hb2); (try clear hk); (try clear hi); (try clear ho0); obtain ⟨Ao33, co33, eo33⟩ := Kd.R_slice HO462.out; subst eo33) | ((with_reducible refine gate_builtin (b := .append) (xs := #[.tmp 24, .tmp 28]) rfl ?_); at_builtin; refine Kd.R_append_rows k40 (w0 := w) w.heap.size rfl (.tmp 24) (.tmp 28) 26 40 (.agg #[(.int .i64 0), (.int .i64 0), (.int .i64 0), (.bool false), (.bool false), (.bool false), (.int .i64 0)]) 40 rfl Try.underlying26 info40 rfl (by decide) (by omega) v454 y453 t460 _ _ _ (fun k_ => some k_ ≠ (.slice Ao29 t450.length co29 : Value).ownBlock ∧ some k_ ≠ (.slice Ao33 t460.length co33 : Value).ownBlock) (fun _ => False) rfl rfl ?aO ?aR (fun _ _ h => h) (fun _ h => h.elim) ?aF ?aB ?aS ?aL ?_; (case aR => repeat (first | exact (Kd.R_reads' HO462.out).2.2 | (with_reducible refine Kd.C_alloc ?_ _) | (with_reducible refine Kd.C_drewN ?_ _) | (with_reducible refine Kd.C_drew ?_))); (case aB => exact (rb1 HB GE436)); (case aF => exact (fun k_ hk => ⟨Kd.fresh' (Kd.R_lt (rr HO452)) k_ hk, Kd.fresh' (Kd.R_lt (rr HO462)) k_ hk⟩)); (case aO => exact (rr HO455)); (case aS => exact (below_size (rb1 HB GE436))); (case aL => have := LMc19.out; omega); intro v464 w32 ho hb hg hat; rw [← Ny463.out] at ho; have n0_ := am (blk_grown (g := gb436) (o := .cells #[.int .i64 a3_0, .int .i64 a3_1, .bool a3_2, .bool a3_3, .bool a3_4] 29 (0, 0)) (rk BK436) hg (Kd.R_ne HO455.out BK436.out (by decide))); have n1_ := am (Kd.R_after (ok := (fun k_ => some k_ ≠ (.slice Ao33 t460.length co33 : Value).ownBlock)) (by (with_reducible repeat (first | apply r1 | apply r2 | apply r3)); exact Kd.R_mono HO452.out (fun _ hk => ⟨hk.2, hk.1.2⟩)) hg hat); have n2_ := am (Kd.R_after (ok := (fun k_ => some k_ ≠ (.slice Ao29 t450.length co29 : Value).ownBlock)) (by (with_reducible repeat (first | apply r1 | apply r2 | apply r3)); exact Kd.R_mono HO462.out (fun _ hk => ⟨hk.1.2, hk.2⟩)) hg hat); have n3_ := am (hb); have n4_ := am (ho); clear BK436; clear HO452; clear HO462; clear HB; clear HO455; have BK436 := n0_; have HO452 := n1_; have HO462 := n2_; have HB := n3_; have HO465 := n4_; clear n0_ n1_ n2_ n3_ n4_; clear ho hb hg hat; obtain ⟨Ao35, co35, eo35⟩ := Kd.R_slice HO465.out; subst eo35; have q34 : ((l0.length : Int) : Int) ≤ ((y463.length : Int) : Int) := dt_; obtain ⟨i034, hi034, _, hsz34, _⟩ := info_parts info40; have hroom34 : y463.length ≤ co35 := (Kd.R_reads' HO465.out).2.1; have hC34 : Kd.C k40 _ Ao35 y463.length y463 := (Kd.R_reads' HO465.out).2.2; have hcut34 := cut_to (P := Try.prog) 26 40 .i64 Try.underlying26 hi034 Ao35 y463.length co35 (l0.length : Int) dt_ q34 hroom34; have hr34 := Kd.C_take (m := ((l0.length : Int) : Int).toNat) hC34 (by omega); have hy34 : y466.length = ((l0.length : Int) : Int).toNat := (by rw [Ny466.out, List.length_take]; omega); rw [← Ny466.out] at hr34; rw [← hy34] at hcut34; have HR469 := am hr34; have HC469 := am (show y466.length ≤ co35 from by omega); clear hr34 hC34 hroom34 hi034 hsz34; have KY34 := am hy34; clear hy34; have KL34 := am (show ((l0.length : Int) : Int).toNat ≤ y463.length from by omega); replace q34 := eq_true q34) | ((with_reducible refine gate_callee (f := 60) rfl ?_); refine gl_ (some 34) Try.func60 #[.slice Ao35 y466.length co35] ?_; (with_reducible refine (spec_l4Mended.calls k _ _ y466 t470 _ ?side1 ?side2 A22.out).mono ?_); (case side1 => repeat (first | exact (by repeat (first | (with_reducible exact HR469.out) | (with_reducible refine Kd.C_alloc ?_ _) | (with_reducible refine Kd.C_drewN ?_ _) | (with_reducible refine Kd.C_drew ?_) | exact HR469.out)) | (with_reducible refine Kd.C_alloc ?_ _) | (with_reducible refine Kd.C_drewN ?_ _) | (with_reducible refine Kd.C_drew ?_))); (case side2 => exact HC469.out); rintro e w36 ⟨v471, rfl, ho0, hb⟩; refine ⟨_, rfl, ?_⟩; have n0_ := am (Kd.R_elder' (rr HO452) (Kd.R_base ho0) hb); have n1_ := am (Kd.R_elder' (rr HO462) (Kd.R_base ho0) hb); have n2_ := am (Kd.R_elder' (rr HO465) (Kd.R_base ho0) hb); have n3_ := am (Kd.R_lower (Kd.R_new' (Kd.R_new' (Kd.R_new' ho0 (Kd.R_lt (rr HO452))) (Kd.R_lt (rr HO462))) (Kd.R_lt (rr HO465))) (below_size (rb1 HB GE436))); have n4_ := am (blk_below (g := gb436) (o := .cells #[.int .i64 a3_0, .int .i64 a3_1, .bool a3_2, .bool a3_3, .bool a3_4] 29 (0, 0)) (rk BK436) hb); have n5_ := am (Kd.C_below (by repeat (first | (with_reducible exact HR469.out) | (with_reducible refine Kd.C_alloc ?_ _) | (with_reducible refine Kd.C_drewN ?_ _) | (with_reducible refine Kd.C_drew ?_) | exact HR469.out)) hb); have n6_ := am (below_step (rb1 HB GE436) hb); clear HO452; clear HO462; clear HO465; clear BK436; clear HR469; clear HB; have HO452 := n0_; have HO462 := n1_; have HO465 := n2_; have HO472 := n3_; have BK436 := n4_; have HR469 := n5_; have HB := n6_; clear n0_ n1_ n2_ n3_ n4_ n5_ n6_; (try clear hb); (try clear hb2); (try clear hk); (try clear hi); (try clear ho0)))
   go_ret
   exact ⟨_, by first | rfl | (simp [errW_none, errW_some] <;> rfl) | (simp [*, errW_none, errW_some] <;> rfl), by (with_reducible repeat (first | apply r1 | apply r2 | apply r3)); exact Kd.R_mono HO472.out (fun _ hk => trivial), by repeat (first | (with_reducible first | exact HB.out | apply b1 | apply b2 | apply b3 | refine below_set ?_ GE436.out) | exact HB.out)⟩

/-! ### spec_Pushed: function 16 -/
def spec_Pushed.f (k : Nat) (l0 : List (S40)) (a1 : Int) (a2 : Int) (a3_0 : Int) (a3_1 : Int) (a3_2 : Bool) (a3_3 : Bool) (a3_4 : Bool) : Option ((List (S40))) := (spec_RowOk.f k l0).bind fun t474 => (if t474 = true then ((spec_StyleOk.f a3_0 a3_1 a3_2 a3_3 a3_4).bind fun t475 => (if t475 = true then ((spec_l1In.f a1 0 (wrap64 ((l0.length : Int) - 1))).bind fun t476 => (if t476 = true then ((spec_l1In.f a2 0 (l0.length : Int)).bind fun t477 => (if t477 = true then ((spec_l4Pushed.f k l0 a1 a2 a3_0 a3_1 a3_2 a3_3 a3_4).bind fun t478 => (some t478)) else (some (([] : List (S40)))))) else (some (([] : List (S40)))))) else (some (([] : List (S40)))))) else (some (([] : List (S40)))))
theorem spec_Pushed.mono : ∀ a0 a1 a2 a3 a4 a5 a6 a7 k, LeO (spec_Pushed.f k a0 a1 a2 a3 a4 a5 a6 a7) (spec_Pushed.f (k + 1) a0 a1 a2 a3 a4 a5 a6 a7) := by
 intro a0 a1 a2 a3 a4 a5 a6 a7 k
 unfold spec_Pushed.f
 repeat' first
   | (with_reducible exact spec_RowOk.mono _ _)
   | (with_reducible exact spec_l4Pushed.mono _ _ _ _ _ _ _ _ _)
   | (with_reducible exact LeO.refl _)
   | (with_reducible exact LeO.none _)
   | (with_reducible refine LeO.ite ?_ ?_)
   | (with_reducible refine LeO.bind ?_ (fun _ => ?_))
set_option maxHeartbeats 8000000 in
set_option maxRecDepth 100000 in
theorem spec_Pushed.calls (k : Nat) (A0 : Option Addr) (c0 : Nat) (l0 : List (S40)) (a1 : Int) (a2 : Int) (a3_0 : Int) (a3_1 : Int) (a3_2 : Bool) (a3_3 : Bool) (a3_4 : Bool) (r : List (S40)) (w : World) (hr0 : Kd.C k40 w A0 l0.length l0) (hc0 : l0.length ≤ c0) (h : spec_Pushed.f k l0 a1 a2 a3_0 a3_1 a3_2 a3_3 a3_4 = some r) :
  Calls Try.prog 16 #[.slice A0 l0.length c0, .int .i64 a1, .int .i64 a2, .agg #[.int .i64 a3_0, .int .i64 a3_1, .bool a3_2, .bool a3_3, .bool a3_4]] w fun e w' => ∃ v0_ : Value, e = .returned (v0_) ∧ Kd.R k40 40 w' w.heap.size (fun _ => True) v0_ r ∧ Below w.heap.size w w' := by
 have hu29 := Try.underlying29
 have HR0 := am hr0
 have HC0 := am hc0
 clear hr0 hc0
 have HB := am (Below.refl w.heap.size w)
 have H := h
 unfold spec_Pushed.f at H
 clear h
 replace H := Option.bind_eq_some_iff.mp H
 obtain ⟨t474, A50, H⟩ := H
 (try dsimp only at H)
 have A5 := am A50
 clear A50
 refine em_ (p := t474 = true) (fun c6 => ?g10p) (fun c6 => ?g10n)
 case' g10p =>
  subst c6
  rw [if_pos rfl] at H
  replace H := Option.bind_eq_some_iff.mp H
  obtain ⟨t475, A70, H⟩ := H
  (try dsimp only at H)
  have A7 := am A70
  clear A70
  refine em_ (p := t475 = true) (fun c8 => ?g9p) (fun c8 => ?g9n)
  case' g9p =>
   subst c8
   rw [if_pos rfl] at H
   replace H := Option.bind_eq_some_iff.mp H
   obtain ⟨t476, A90, H⟩ := H
   (try dsimp only at H)
   have A9 := am A90
   clear A90
   refine em_ (p := t476 = true) (fun c10 => ?g8p) (fun c10 => ?g8n)
   case' g8p =>
    subst c10
    rw [if_pos rfl] at H
    replace H := Option.bind_eq_some_iff.mp H
    obtain ⟨t477, A110, H⟩ := H
    (try dsimp only at H)
    have A11 := am A110
    clear A110
    refine em_ (p := t477 = true) (fun c12 => ?g7p) (fun c12 => ?g7n)
    case' g7p =>
     subst c12
     rw [if_pos rfl] at H
     replace H := Option.bind_eq_some_iff.mp H
     obtain ⟨t478, A130, H⟩ := H
     replace H : (some t478) = some r := H
     have A13 := am A130
     clear A130
     obtain rfl := Option.some.inj H
     have lf3_ := trivial
    case' g7n =>
     replace c12 := Bool.eq_false_iff.mpr c12
     subst c12
     have H1 : (some (([] : List (S40)))) = some r := by rw [if_neg (show ¬ (false = true) by decide)] at H; exact H
     clear H
     have H := H1
     clear H1
     obtain ⟨y481, hy481⟩ : ∃ y_ : List (S40), y_ = (([] : List (S40))) := ⟨_, rfl⟩
     replace H : (some y481) = some r := by first | (rw [hy481]; with_reducible exact H) | (rw [hy481]; exact H) | exact H
     have Ny481 := am hy481
     clear hy481
     obtain rfl := Option.some.inj H
     have lf4_ := trivial
   case' g8n =>
    replace c10 := Bool.eq_false_iff.mpr c10
    subst c10
    have H1 : (some (([] : List (S40)))) = some r := by rw [if_neg (show ¬ (false = true) by decide)] at H; exact H
    clear H
    have H := H1
    clear H1
    obtain ⟨y484, hy484⟩ : ∃ y_ : List (S40), y_ = (([] : List (S40))) := ⟨_, rfl⟩
    replace H : (some y484) = some r := by first | (rw [hy484]; with_reducible exact H) | (rw [hy484]; exact H) | exact H
    have Ny484 := am hy484
    clear hy484
    obtain rfl := Option.some.inj H
    have lf5_ := trivial
  case' g9n =>
   replace c8 := Bool.eq_false_iff.mpr c8
   subst c8
   have H1 : (some (([] : List (S40)))) = some r := by rw [if_neg (show ¬ (false = true) by decide)] at H; exact H
   clear H
   have H := H1
   clear H1
   obtain ⟨y487, hy487⟩ : ∃ y_ : List (S40), y_ = (([] : List (S40))) := ⟨_, rfl⟩
   replace H : (some y487) = some r := by first | (rw [hy487]; with_reducible exact H) | (rw [hy487]; exact H) | exact H
   have Ny487 := am hy487
   clear hy487
   obtain rfl := Option.some.inj H
   have lf6_ := trivial
 case' g10n =>
  replace c6 := Bool.eq_false_iff.mpr c6
  subst c6
  have H1 : (some (([] : List (S40)))) = some r := by rw [if_neg (show ¬ (false = true) by decide)] at H; exact H
  clear H
  have H := H1
  clear H1
  obtain ⟨y490, hy490⟩ : ∃ y_ : List (S40), y_ = (([] : List (S40))) := ⟨_, rfl⟩
  replace H : (some y490) = some r := by first | (rw [hy490]; with_reducible exact H) | (rw [hy490]; exact H) | exact H
  have Ny490 := am hy490
  clear hy490
  obtain rfl := Option.some.inj H
  have lf7_ := trivial
 all_goals
  go_enter Try.func16, Try.ntmps16
  go_wp2_with (first | ((with_reducible refine gate_callee (f := 31) rfl ?_); refine gl_ (some 10) Try.func31 #[.slice A0 l0.length c0] ?_; (with_reducible refine (spec_RowOk.calls k _ _ l0 true _ ?side1 ?side2 A5.out).mono ?_); (case side1 => exact rc ((Kd.C_below HR0.out HB.out))); (case side2 => exact HC0.out); rintro e w15 ⟨rfl, hb⟩; refine ⟨_, rfl, ?_⟩; have n0_ := am (blk_below (g := gb473) (o := .cells #[.int .i64 a3_0, .int .i64 a3_1, .bool a3_2, .bool a3_3, .bool a3_4] 29 (0, 0)) (rk BK473) hb); have n1_ := am (below_step (rb1 HB GE473) hb); clear BK473; clear HB; have BK473 := n0_; have HB := n1_; clear n0_ n1_; (try clear hb); (try clear hb2); (try clear hk); (try clear hi); have hcz16_0 : w15.cell? ⟨gb473, 0, none⟩ = some (.int .i64 a3_0) := (blk_cell BK473.out 0).trans rfl; have hcz16_1 : w15.cell? ⟨gb473, 1, none⟩ = some (.int .i64 a3_1) := (blk_cell BK473.out 1).trans rfl; have hcz16_2 : w15.cell? ⟨gb473, 2, none⟩ = some (.bool a3_2) := (blk_cell BK473.out 2).trans rfl; have hcz16_3 : w15.cell? ⟨gb473, 3, none⟩ = some (.bool a3_3) := (blk_cell BK473.out 3).trans rfl; have hcz16_4 : w15.cell? ⟨gb473, 4, none⟩ = some (.bool a3_4) := (blk_cell BK473.out 4).trans rfl; have hfz16_0 := blk_frozen BK473.out 0; have hfz16_1 := blk_frozen BK473.out 1; have hfz16_2 := blk_frozen BK473.out 2; have hfz16_3 := blk_frozen BK473.out 3; have hfz16_4 := blk_frozen BK473.out 4) | ((with_reducible refine gate_dst (N := 32) rfl ?_); (try (refine gate_guard (by rfl) ?_; dsimp only)); refine Kd.R_lit k40 _ 40 ?hg (N := 32) ?hd (xs := ([] : List (S40))) (inner := []) (ok := fun _ => True) (okp := fun _ => True) ?hr ?hp (fun _ hk => hk) trivial (Below.refl _ _) (Nat.le_refl _) (by simp) ?_; (case hd => rfl); (case hg => rfl); (case hr => first | (go_simp; done) | (go_simp; rfl)); (case hp => exact (Reps.none _ _)); intro v482 w24 ho25 hb hg_ hnew_; clear hg_ hnew_; (first | rw [← Ny481.out] at ho25 | (simp only [Int.reduceToNat] at ho25; rw [← Ny481.out] at ho25)); have n0_ := am (Kd.R_lower ho25 (below_size (rb1 HB GE473))); have n1_ := am (blk_below (g := gb473) (o := .cells #[.int .i64 a3_0, .int .i64 a3_1, .bool a3_2, .bool a3_3, .bool a3_4] 29 (0, 0)) (rk BK473) hb); have n2_ := am (below_step (rb1 HB GE473) hb); clear BK473; clear HB; have HO480 := n0_; have BK473 := n1_; have HB := n2_; clear n0_ n1_ n2_; clear hb ho25) | ((with_reducible refine gate_dst (N := 32) rfl ?_); (try (refine gate_guard (by rfl) ?_; dsimp only)); refine Kd.R_lit k40 _ 40 ?hg (N := 32) ?hd (xs := ([] : List (S40))) (inner := []) (ok := fun _ => True) (okp := fun _ => True) ?hr ?hp (fun _ hk => hk) trivial (Below.refl _ _) (Nat.le_refl _) (by simp) ?_; (case hd => rfl); (case hg => rfl); (case hr => first | (go_simp; done) | (go_simp; rfl)); (case hp => exact (Reps.none _ _)); intro v485 w30 ho31 hb hg_ hnew_; clear hg_ hnew_; (first | rw [← Ny484.out] at ho31 | (simp only [Int.reduceToNat] at ho31; rw [← Ny484.out] at ho31)); have n0_ := am (Kd.R_lower ho31 (below_size (rb1 HB GE473))); have n1_ := am (blk_below (g := gb473) (o := .cells #[.int .i64 a3_0, .int .i64 a3_1, .bool a3_2, .bool a3_3, .bool a3_4] 29 (0, 0)) (rk BK473) hb); have n2_ := am (below_step (rb1 HB GE473) hb); clear BK473; clear HB; have HO480 := n0_; have BK473 := n1_; have HB := n2_; clear n0_ n1_ n2_; clear hb ho31) | ((with_reducible refine gate_dst (N := 32) rfl ?_); (try (refine gate_guard (by rfl) ?_; dsimp only)); refine Kd.R_lit k40 _ 40 ?hg (N := 32) ?hd (xs := ([] : List (S40))) (inner := []) (ok := fun _ => True) (okp := fun _ => True) ?hr ?hp (fun _ hk => hk) trivial (Below.refl _ _) (Nat.le_refl _) (by simp) ?_; (case hd => rfl); (case hg => rfl); (case hr => first | (go_simp; done) | (go_simp; rfl)); (case hp => exact (Reps.none _ _)); intro v488 w36 ho37 hb hg_ hnew_; clear hg_ hnew_; (first | rw [← Ny487.out] at ho37 | (simp only [Int.reduceToNat] at ho37; rw [← Ny487.out] at ho37)); have n0_ := am (Kd.R_lower ho37 (below_size (rb1 HB GE473))); have n1_ := am (blk_below (g := gb473) (o := .cells #[.int .i64 a3_0, .int .i64 a3_1, .bool a3_2, .bool a3_3, .bool a3_4] 29 (0, 0)) (rk BK473) hb); have n2_ := am (below_step (rb1 HB GE473) hb); clear BK473; clear HB; have HO480 := n0_; have BK473 := n1_; have HB := n2_; clear n0_ n1_ n2_; clear hb ho37) | ((with_reducible refine gate_dst (N := 32) rfl ?_); (try (refine gate_guard (by rfl) ?_; dsimp only)); refine Kd.R_lit k40 _ 40 ?hg (N := 32) ?hd (xs := ([] : List (S40))) (inner := []) (ok := fun _ => True) (okp := fun _ => True) ?hr ?hp (fun _ hk => hk) trivial (Below.refl _ _) (Nat.le_refl _) (by simp) ?_; (case hd => rfl); (case hg => rfl); (case hr => first | (go_simp; done) | (go_simp; rfl)); (case hp => exact (Reps.none _ _)); intro v491 w40 ho41 hb hg_ hnew_; clear hg_ hnew_; (first | rw [← Ny490.out] at ho41 | (simp only [Int.reduceToNat] at ho41; rw [← Ny490.out] at ho41)); have n0_ := am (Kd.R_lower ho41 (below_size (rb1 HB GE473))); have n1_ := am (blk_below (g := gb473) (o := .cells #[.int .i64 a3_0, .int .i64 a3_1, .bool a3_2, .bool a3_3, .bool a3_4] 29 (0, 0)) (rk BK473) hb); have n2_ := am (below_step (rb1 HB GE473) hb); clear BK473; clear HB; have HO480 := n0_; have BK473 := n1_; have HB := n2_; clear n0_ n1_ n2_; clear hb ho41) | ((with_reducible refine gate_callee (f := 39) rfl ?_); refine gl_ (some 37) Try.func39 #[.slice A0 l0.length c0, .int .i64 a1, .int .i64 a2, .agg #[.int .i64 a3_0, .int .i64 a3_1, .bool a3_2, .bool a3_3, .bool a3_4]] ?_; (with_reducible refine (spec_l4Pushed.calls k _ _ l0 a1 a2 a3_0 a3_1 a3_2 a3_3 a3_4 t478 _ ?side1 ?side2 A13.out).mono ?_); (case side1 => exact rc ((Kd.C_below HR0.out (rb1 HB GE473)))); (case side2 => exact HC0.out); rintro e w19 ⟨v479, rfl, ho0, hb⟩; refine ⟨_, rfl, ?_⟩; have n0_ := am (Kd.R_lower ho0 (below_size (rb1 HB GE473))); have n1_ := am (blk_below (g := gb473) (o := .cells #[.int .i64 a3_0, .int .i64 a3_1, .bool a3_2, .bool a3_3, .bool a3_4] 29 (0, 0)) (rk BK473) hb); have n2_ := am (below_step (rb1 HB GE473) hb); clear BK473; clear HB; have HO480 := n0_; have BK473 := n1_; have HB := n2_; clear n0_ n1_ n2_; (try clear hb); (try clear hb2); (try clear hk); (try clear hi); (try clear ho0)) | (go_at_call 33; (with_reducible refine (spec_l1In.calls a2 0 (l0.length : Int) true _ A11.out).mono ?_); rintro e w' ⟨rfl, ⟨nd, rfl⟩⟩; have hcz18_0 : w17.cell? ⟨gb473, 0, none⟩ = some (.int .i64 a3_0) := (blk_cell BK473.out 0).trans rfl; have hcz18_1 : w17.cell? ⟨gb473, 1, none⟩ = some (.int .i64 a3_1) := (blk_cell BK473.out 1).trans rfl; have hcz18_2 : w17.cell? ⟨gb473, 2, none⟩ = some (.bool a3_2) := (blk_cell BK473.out 2).trans rfl; have hcz18_3 : w17.cell? ⟨gb473, 3, none⟩ = some (.bool a3_3) := (blk_cell BK473.out 3).trans rfl; have hcz18_4 : w17.cell? ⟨gb473, 4, none⟩ = some (.bool a3_4) := (blk_cell BK473.out 4).trans rfl; have hfz18_0 := blk_frozen BK473.out 0; have hfz18_1 := blk_frozen BK473.out 1; have hfz18_2 := blk_frozen BK473.out 2; have hfz18_3 := blk_frozen BK473.out 3; have hfz18_4 := blk_frozen BK473.out 4) | ((with_reducible refine gate_dst (N := 7) rfl ?_); (try (refine gate_guard (by rfl) ?_; dsimp only)); refine box_event ?hg (N := 7) ?hd (cs := #[.int .i64 a3_0, .int .i64 a3_1, .bool a3_2, .bool a3_3, .bool a3_4]) (t := 29) ?hr ?_; (case hd => rfl); (case hg => rfl); (case hr => first | (go_simp; done) | (go_simp; rfl)); intro gb473 hg w14 hbox hb; have n0_ := am (below_step (rb HB) hb); have n1_ := am (hbox); have n2_ := am ((by rw [hg]; exact (below_size (rb HB)) : w.heap.size ≤ gb473)); have n3_ := am ((by rw [hg]; exact (below_size (rb HB)) : w.heap.size ≤ gb473)); clear HB; have HB := n0_; have BK473 := n1_; have GW473 := n2_; have GE473 := n3_; clear n0_ n1_ n2_ n3_; clear hb hbox hg) | ((with_reducible refine gate_callee (f := 31) rfl ?_); refine gl_ (some 10) Try.func31 #[.slice A0 l0.length c0] ?_; (with_reducible refine (spec_RowOk.calls k _ _ l0 false _ ?side1 ?side2 A5.out).mono ?_); (case side1 => exact rc ((Kd.C_below HR0.out HB.out))); (case side2 => exact HC0.out); rintro e w39 ⟨rfl, hb⟩; refine ⟨_, rfl, ?_⟩; have n0_ := am (blk_below (g := gb473) (o := .cells #[.int .i64 a3_0, .int .i64 a3_1, .bool a3_2, .bool a3_3, .bool a3_4] 29 (0, 0)) (rk BK473) hb); have n1_ := am (below_step (rb1 HB GE473) hb); clear BK473; clear HB; have BK473 := n0_; have HB := n1_; clear n0_ n1_; (try clear hb); (try clear hb2); (try clear hk); (try clear hi)) | (go_at_call 32; (with_reducible refine (spec_StyleOk.calls a3_0 a3_1 a3_2 a3_3 a3_4 false _ A7.out).mono ?_); rintro e w35 ⟨rfl, hb⟩; have n0_ := am (blk_below (g := gb473) (o := .cells #[.int .i64 a3_0, .int .i64 a3_1, .bool a3_2, .bool a3_3, .bool a3_4] 29 (0, 0)) (rk BK473) hb); have n1_ := am (below_step (rb1 HB GE473) hb); clear BK473; clear HB; have BK473 := n0_; have HB := n1_; clear n0_ n1_; (try clear hb); (try clear hb2); (try clear hk); (try clear hi)) | (go_at_call 32; (with_reducible refine (spec_StyleOk.calls a3_0 a3_1 a3_2 a3_3 a3_4 true _ A7.out).mono ?_); rintro e w17 ⟨rfl, hb⟩; have n0_ := am (blk_below (g := gb473) (o := .cells #[.int .i64 a3_0, .int .i64 a3_1, .bool a3_2, .bool a3_3, .bool a3_4] 29 (0, 0)) (rk BK473) hb); have n1_ := am (below_step (rb1 HB GE473) hb); clear BK473; clear HB; have BK473 := n0_; have HB := n1_; clear n0_ n1_; (try clear hb); (try clear hb2); (try clear hk); (try clear hi)) | (go_at_call 33; (with_reducible refine (spec_l1In.calls a1 0 (wrap64 ((l0.length : Int) - 1)) false _ A9.out).mono ?_); rintro e w' ⟨rfl, ⟨nd, rfl⟩⟩) | (go_at_call 33; (with_reducible refine (spec_l1In.calls a1 0 (wrap64 ((l0.length : Int) - 1)) true _ A9.out).mono ?_); rintro e w' ⟨rfl, ⟨nd, rfl⟩⟩) | (go_at_call 33; (with_reducible refine (spec_l1In.calls a2 0 (l0.length : Int) false _ A11.out).mono ?_); rintro e w' ⟨rfl, ⟨nd, rfl⟩⟩))
  go_ret
  exact ⟨_, by first | rfl | (simp [errW_none, errW_some] <;> rfl) | (simp [*, errW_none, errW_some] <;> rfl), by (with_reducible repeat (first | apply r1 | apply r2 | apply r3)); exact HO480.out, by repeat (first | (with_reducible first | exact HB.out | apply b1 | apply b2 | apply b3 | refine below_set ?_ GE473.out) | exact HB.out)⟩

-- NOT PRINTED: function 83 (impl_Cell_83)

end Go.Proofs.Ytfhkpneffmcdbaa.QD
