/- Contracts of Go functions that laws of this seat reach: each Lean function answers as its Go function does. No condition. Written by wip/tools/inj.py, over the kit's print. -/
import Derived.Test.YtfhkpneffmcdbaaQEx0
import Derived.Test.YtfhkpneffmcdbaaQEx3
import Derived.Test.YtfhkpneffmcdbaaQEx5
import Derived.Test.YtfhkpneffmcdbaaQEx9
import Derived.Test.YtfhkpneffmcdbaaQEx10
namespace Go.Proofs.Ytfhkpneffmcdbaa.QE
open Go.RowKit Go.Proofs.YtfhkpneffmcdbaaW.PrintWords Go.Proofs.YtfhkpneffmcdbaaW.PrintLast Go.Proofs.YtfhkpneffmcdbaaW.PrintMore
attribute [local go_sem] max2_int min2_int max_two min_two max_three min_three max_four min_four   -- for this text's walks alone
set_option linter.unusedVariables false
set_option linter.unusedSimpArgs false

/-! ### laws_heldCellSS: function 51 -/
def laws_heldCellSS.l0 : Nat → List (List (S40)) → Int → Int → Option (Int)
 | 0, _, _, _ => none
 | k + 1, x0, x1, x5 => if x5 < (x0.length : Int) then (if 0 ≤ x5 then ((laws_heldCellS.f k (rd_L4 x0 x5) x1).bind fun t194 => (if t194 < 0 then (some (-1)) else (laws_heldCellSS.l0 k x0 t194 (wrap64 (x5 + 1))))) else (none)) else (some x1)
def laws_heldCellSS.f (k : Nat) (l0 : List (List (S40))) (a1 : Int) : Option (Int) := laws_heldCellSS.l0 k l0 a1 0
theorem laws_heldCellSS.mono_l : ∀ k, (∀ y0 y1 y2, LeO (laws_heldCellSS.l0 k y0 y1 y2) (laws_heldCellSS.l0 (k + 1) y0 y1 y2))
 | 0 => fun _ _ _ r h => by simp [laws_heldCellSS.l0] at h
 | k + 1 => by
  have ih0 := laws_heldCellSS.mono_l k
  ·intro y0 y1 y2
   unfold laws_heldCellSS.l0
   repeat' first
   | (with_reducible exact ih0 _ _ _)
   | (with_reducible exact laws_heldCellS.mono _ _ _)
   | (with_reducible exact LeO.refl _)
   | (with_reducible exact LeO.none _)
   | (with_reducible refine LeO.ite ?_ ?_)
   | (with_reducible refine LeO.bind ?_ (fun _ => ?_))
theorem laws_heldCellSS.mono : ∀ a0 a1 k, LeO (laws_heldCellSS.f k a0 a1) (laws_heldCellSS.f (k + 1) a0 a1) := by
 intro a0 a1 k
 have ih0 := laws_heldCellSS.mono_l k
 unfold laws_heldCellSS.f
 repeat' first
   | (with_reducible exact ih0 _ _ _)
   | (with_reducible exact laws_heldCellS.mono _ _ _)
   | (with_reducible exact LeO.refl _)
   | (with_reducible exact LeO.none _)
   | (with_reducible refine LeO.ite ?_ ?_)
   | (with_reducible refine LeO.bind ?_ (fun _ => ?_))
set_option maxHeartbeats 8000000 in
set_option maxRecDepth 100000 in
theorem laws_heldCellSS.calls (k : Nat) (A0 : Option Addr) (c0 : Nat) (l0 : List (List (S40))) (a1 : Int) (r : Int) (w : World) (hr0 : Kd.C (Kd.slice 40 k40) w A0 l0.length l0) (hc0 : l0.length ≤ c0) (h : laws_heldCellSS.f k l0 a1 = some r) :
  Calls Try.prog 51 #[.slice A0 l0.length c0, .int .i64 a1] w fun e w' => e = .returned (.int .i64 r) ∧ Drawn0 w w' := by
 have HR0 := am hr0
 have HC0 := am hc0
 clear hr0 hc0
 have H : (laws_heldCellSS.l0 k l0 a1 0) = some r := h
 clear h
 have H' := am H
 clear H
 go_enter Try.func51, Try.ntmps51
 go_wp2
 go_loopg [1, 5] k (fun kq v1 v5 w' => ∃ (x1_1 : Int) (x5_1 : Int), v1 = .int .i64 x1_1 ∧ v5 = .int .i64 x5_1 ∧ Aside0 (laws_heldCellSS.l0 kq l0 x1_1 x5_1 = some r) ∧ Aside0 (kq ≤ k) ∧ Drawn0 w w')
 case atStart => exact ⟨(a1), (0), (by first | rfl | (simp; done) | (simp [*]; done)), (by first | rfl | (simp; done) | (simp [*]; done)), H', ⟨Nat.le_refl _⟩, by repeat (first | exact Drawn0.refl _ | apply Drawn0.step)⟩
 case round =>
  clear H'
  try clear p2
  obtain ⟨x1_1, x5_1, rfl, rfl, HA, HK1, ⟨m1, rfl⟩⟩ := hrel
  cases gk with
  | zero => exact absurd HA.out (by simp [laws_heldCellSS.l0])
  | succ k1 =>
   have H := HA.out
   clear HA
   simp only [laws_heldCellSS.l0] at H
   by_cases c3 : x5_1 < (l0.length : Int)
   ·rw [if_pos c3] at H
    have c3b0 : decide (x5_1 < (l0.length : Int)) = true := decide_eq_true c3
    clear c3
    by_cases c4 : 0 ≤ x5_1
    ·rw [if_pos c4] at H
     have c4b0 : decide (0 ≤ x5_1) = true := decide_eq_true c4
     clear c4
     replace H := Option.bind_eq_some_iff.mp H
     obtain ⟨t194, A50, H⟩ := H
     (try dsimp only at H)
     have A5 := am A50
     clear A50
     by_cases c6 : t194 < 0
     ·rw [if_pos c6] at H
      have c6b0 : decide (t194 < 0) = true := decide_eq_true c6
      clear c6
      obtain rfl := Option.some.inj H
      have p193 : 0 ≤ (x5_1 : Int) := dt_
      have q193 : x5_1 < (l0.length : Int) := dt_
      obtain ⟨ad193, A193_0, c193_0, e193, hx193_0, hl193_0, hi193_0⟩ := at_L4 HR0.out x5_1 p193 q193
      cases e193
      have HR193_0 := am hi193_0
      have HC193_0 := am hl193_0
      clear hi193_0 hl193_0
      replace p193 := eq_true p193
      replace q193 := eq_true q193
      go_wp2_with (first | ((with_reducible refine gate_callee (f := 15) rfl ?_); refine gl_ (some 17) Try.func15 #[.slice A193_0 (rd_L4 l0 x5_1).length c193_0, .int .i64 x1_1] ?_; (with_reducible refine (laws_heldCellS.calls k1 _ _ (rd_L4 l0 x5_1) x1_1 t194 _ ?side1 ?side2 A5.out).mono ?_); (case side1 => exact rc (HR193_0.out)); (case side2 => exact HC193_0.out); rintro e w' ⟨rfl, ⟨nd, rfl⟩⟩; refine ⟨_, rfl, ?_⟩))
      go_ret
      exact ⟨by first | rfl | (simp; done) | (simp [*]; done), by repeat (first | exact Drawn0.refl _ | apply Drawn0.step)⟩
     ·rw [if_neg c6] at H
      have c6b0 : decide (t194 < 0) = false := decide_eq_false c6
      clear c6
      have H' := am H
      clear H
      have p193 : 0 ≤ (x5_1 : Int) := dt_
      have q193 : x5_1 < (l0.length : Int) := dt_
      obtain ⟨ad193, A193_0, c193_0, e193, hx193_0, hl193_0, hi193_0⟩ := at_L4 HR0.out x5_1 p193 q193
      cases e193
      have HR193_0 := am hi193_0
      have HC193_0 := am hl193_0
      clear hi193_0 hl193_0
      replace p193 := eq_true p193
      replace q193 := eq_true q193
      go_wp2_with (first | ((with_reducible refine gate_callee (f := 15) rfl ?_); refine gl_ (some 17) Try.func15 #[.slice A193_0 (rd_L4 l0 x5_1).length c193_0, .int .i64 x1_1] ?_; (with_reducible refine (laws_heldCellS.calls k1 _ _ (rd_L4 l0 x5_1) x1_1 t194 _ ?side1 ?side2 A5.out).mono ?_); (case side1 => exact rc (HR193_0.out)); (case side2 => exact HC193_0.out); rintro e w' ⟨rfl, ⟨nd, rfl⟩⟩; refine ⟨_, rfl, ?_⟩))
      go_roundg k1
      case measure => have := HK1.out; omega
      case rel => exact ⟨(t194), (wrap64 (x5_1 + 1)), (by first | rfl | (simp; done) | (simp [*]; done)), (by first | rfl | (simp; done) | (simp [*]; done)), H', ⟨by have := HK1.out; omega⟩, by repeat (first | exact Drawn0.refl _ | apply Drawn0.step)⟩
    ·rw [if_neg c4] at H
     exact absurd H (by simp)
   ·rw [if_neg c3] at H
    have c3b0 : decide (x5_1 < (l0.length : Int)) = false := decide_eq_false c3
    clear c3
    obtain rfl := Option.some.inj H
    go_wp2
    go_ret
    exact ⟨by first | rfl | (simp; done) | (simp [*]; done), by repeat (first | exact Drawn0.refl _ | apply Drawn0.step)⟩

/-! ### laws_heldGrid: function 26 -/
def laws_heldGrid.f (k : Nat) (a0_0 : Int) (l0_1 : List (List (S40))) (a1 : Int) : Option (Int) := (laws_heldCellSS.f k l0_1 a1).bind fun t196 => (if t196 < 0 then (some (-1)) else (some t196))
theorem laws_heldGrid.mono : ∀ a0 a1 a2 k, LeO (laws_heldGrid.f k a0 a1 a2) (laws_heldGrid.f (k + 1) a0 a1 a2) := by
 intro a0 a1 a2 k
 unfold laws_heldGrid.f
 repeat' first
   | (with_reducible exact laws_heldCellSS.mono _ _ _)
   | (with_reducible exact LeO.refl _)
   | (with_reducible exact LeO.none _)
   | (with_reducible refine LeO.ite ?_ ?_)
   | (with_reducible refine LeO.bind ?_ (fun _ => ?_))
set_option maxHeartbeats 8000000 in
set_option maxRecDepth 100000 in
theorem laws_heldGrid.calls (k : Nat) (a0_0 : Int) (A0_1 : Option Addr) (c0_1 : Nat) (l0_1 : List (List (S40))) (a1 : Int) (r : Int) (w : World) (hr0_1 : Kd.C (Kd.slice 40 k40) w A0_1 l0_1.length l0_1) (hc0_1 : l0_1.length ≤ c0_1) (h : laws_heldGrid.f k a0_0 l0_1 a1 = some r) :
  Calls Try.prog 26 #[.agg #[.int .i64 a0_0, .slice A0_1 l0_1.length c0_1], .int .i64 a1] w fun e w' => e = .returned (.int .i64 r) ∧ Below w.heap.size w w' := by
 have hu43 := Try.underlying43
 have HR0_1 := am hr0_1
 have HC0_1 := am hc0_1
 clear hr0_1 hc0_1
 have HB := am (Below.refl w.heap.size w)
 have H : ((laws_heldCellSS.f k l0_1 a1).bind fun t196 => (if t196 < 0 then (some (-1)) else (some t196))) = some r := h
 clear h
 replace H := Option.bind_eq_some_iff.mp H
 obtain ⟨t196, A30, H⟩ := H
 (try dsimp only at H)
 have A3 := am A30
 clear A30
 by_cases c4 : t196 < 0
 ·rw [if_pos c4] at H
  have c4b0 : decide (t196 < 0) = true := decide_eq_true c4
  clear c4
  obtain rfl := Option.some.inj H
  go_enter Try.func26, Try.ntmps26
  go_wp2_with (first | ((with_reducible refine gate_dst (N := 2) rfl ?_); refine box_event ?hg (N := 2) ?hd (cs := #[.int .i64 a0_0, .slice A0_1 l0_1.length c0_1]) (t := 43) ?hr ?_; (case hd => rfl); (case hg => rfl); (case hr => first | (go_simp; done) | (go_simp; rfl)); intro gb195 hg w5 hbox hb; have n0_ := am (below_step (rb HB) hb); have n1_ := am (hbox); have n2_ := am ((by rw [hg]; exact (below_size (rb HB)) : w.heap.size ≤ gb195)); have n3_ := am ((by rw [hg]; exact (below_size (rb HB)) : w.heap.size ≤ gb195)); clear HB; have HB := n0_; have BK195 := n1_; have GW195 := n2_; have GE195 := n3_; clear n0_ n1_ n2_ n3_; clear hb hbox hg; have hcz6_0 : w5.cell? ⟨gb195, 0, none⟩ = some (.int .i64 a0_0) := (blk_cell BK195.out 0).trans rfl; have hcz6_1 : w5.cell? ⟨gb195, 1, none⟩ = some (.slice A0_1 l0_1.length c0_1) := (blk_cell BK195.out 1).trans rfl; have hfz6_0 := blk_frozen BK195.out 0; have hfz6_1 := blk_frozen BK195.out 1) | ((with_reducible refine gate_callee (f := 51) rfl ?_); refine gl_ (some 8) Try.func51 #[.slice A0_1 l0_1.length c0_1, .int .i64 a1] ?_; (with_reducible refine (laws_heldCellSS.calls k _ _ l0_1 a1 t196 _ ?side1 ?side2 A3.out).mono ?_); (case side1 => exact rc ((Kd.C_below HR0_1.out HB.out))); (case side2 => exact HC0_1.out); rintro e w' ⟨rfl, ⟨nd, rfl⟩⟩; refine ⟨_, rfl, ?_⟩))
  go_ret
  exact ⟨by first | rfl | (simp [errW_none, errW_some] <;> rfl) | (simp [*, errW_none, errW_some] <;> rfl), by repeat (first | (with_reducible first | exact HB.out | apply b1 | apply b2 | apply b3 | refine below_set ?_ GE195.out) | exact HB.out)⟩
 ·rw [if_neg c4] at H
  have c4b0 : decide (t196 < 0) = false := decide_eq_false c4
  clear c4
  obtain rfl := Option.some.inj H
  go_enter Try.func26, Try.ntmps26
  go_wp2_with (first | ((with_reducible refine gate_dst (N := 2) rfl ?_); refine box_event ?hg (N := 2) ?hd (cs := #[.int .i64 a0_0, .slice A0_1 l0_1.length c0_1]) (t := 43) ?hr ?_; (case hd => rfl); (case hg => rfl); (case hr => first | (go_simp; done) | (go_simp; rfl)); intro gb195 hg w7 hbox hb; have n0_ := am (below_step (rb HB) hb); have n1_ := am (hbox); have n2_ := am ((by rw [hg]; exact (below_size (rb HB)) : w.heap.size ≤ gb195)); have n3_ := am ((by rw [hg]; exact (below_size (rb HB)) : w.heap.size ≤ gb195)); clear HB; have HB := n0_; have BK195 := n1_; have GW195 := n2_; have GE195 := n3_; clear n0_ n1_ n2_ n3_; clear hb hbox hg; have hcz8_0 : w7.cell? ⟨gb195, 0, none⟩ = some (.int .i64 a0_0) := (blk_cell BK195.out 0).trans rfl; have hcz8_1 : w7.cell? ⟨gb195, 1, none⟩ = some (.slice A0_1 l0_1.length c0_1) := (blk_cell BK195.out 1).trans rfl; have hfz8_0 := blk_frozen BK195.out 0; have hfz8_1 := blk_frozen BK195.out 1) | ((with_reducible refine gate_callee (f := 51) rfl ?_); refine gl_ (some 8) Try.func51 #[.slice A0_1 l0_1.length c0_1, .int .i64 a1] ?_; (with_reducible refine (laws_heldCellSS.calls k _ _ l0_1 a1 t196 _ ?side1 ?side2 A3.out).mono ?_); (case side1 => exact rc ((Kd.C_below HR0_1.out HB.out))); (case side2 => exact HC0_1.out); rintro e w' ⟨rfl, ⟨nd, rfl⟩⟩; refine ⟨_, rfl, ?_⟩))
  go_ret
  exact ⟨by first | rfl | (simp [errW_none, errW_some] <;> rfl) | (simp [*, errW_none, errW_some] <;> rfl), by repeat (first | (with_reducible first | exact HB.out | apply b1 | apply b2 | apply b3 | refine below_set ?_ GE195.out) | exact HB.out)⟩

/-! ### laws_FnExactNewGrid: function 6 -/
def laws_FnExactNewGrid.f (k : Nat) (a0 : Int) (a1 : Int) : Option (Bool) := (spec_NewGrid.f k a0 a1).bind fun bt197 => ((impl_NewGrid.f k a0 a1).bind fun bt203 => ((laws_eqGrid.f k bt203.1 bt203.2.1 bt197.1 bt197.2.1).bind fun t209 => (if t209 = true then (if (bt203.2.2 != bt197.2.2) = true then (some false) else ((laws_markGrid.f k bt203.1 bt203.2.1 1).bind fun bt210 => ((laws_heldGrid.f k bt203.1 bt210.2 1).bind fun t212 => (if t212 < 0 then (some false) else (if t212 = bt210.1 then ((impl_NewGrid.f k a0 a1).bind fun bt213 => ((laws_eqGrid.f k bt213.1 bt213.2.1 bt197.1 bt197.2.1).bind fun t219 => (if t219 = true then (if (bt213.2.2 != bt197.2.2) = true then (some false) else ((laws_heldGrid.f k bt203.1 bt210.2 1).bind fun t220 => (if t220 < 0 then (some false) else (if t220 = bt210.1 then (some true) else (some false))))) else (some false)))) else (some false)))))) else (some false))))
theorem laws_FnExactNewGrid.mono : ∀ a0 a1 k, LeO (laws_FnExactNewGrid.f k a0 a1) (laws_FnExactNewGrid.f (k + 1) a0 a1) := by
 intro a0 a1 k
 unfold laws_FnExactNewGrid.f
 repeat' first
   | (with_reducible exact impl_NewGrid.mono _ _ _)
   | (with_reducible exact laws_eqGrid.mono _ _ _ _ _)
   | (with_reducible exact laws_heldGrid.mono _ _ _ _)
   | (with_reducible exact laws_markGrid.mono _ _ _ _)
   | (with_reducible exact spec_NewGrid.mono _ _ _)
   | (with_reducible exact LeO.refl _)
   | (with_reducible exact LeO.none _)
   | (with_reducible refine LeO.ite ?_ ?_)
   | (with_reducible refine LeO.bind ?_ (fun _ => ?_))
set_option maxHeartbeats 8000000 in
set_option maxRecDepth 100000 in
theorem laws_FnExactNewGrid.calls (k : Nat) (a0 : Int) (a1 : Int) (r : Bool) (w : World) (h : laws_FnExactNewGrid.f k a0 a1 = some r) (hT_ : r = true) :
  Calls Try.prog 6 #[.int .i64 a0, .int .i64 a1] w fun e w' => e = .returned (.bool r) ∧ Below w.heap.size w w' := by
 have hu43 := Try.underlying43
 have HB := am (Below.refl w.heap.size w)
 have H := h
 unfold laws_FnExactNewGrid.f at H
 clear h
 replace H := Option.bind_eq_some_iff.mp H
 obtain ⟨⟨t197, t198, t201⟩, A30, H⟩ := H
 (try dsimp only at H)
 have A3 := am A30
 clear A30
 replace H := Option.bind_eq_some_iff.mp H
 obtain ⟨⟨t203, t204, t207⟩, A40, H⟩ := H
 (try dsimp only at H)
 have A4 := am A40
 clear A40
 replace H := Option.bind_eq_some_iff.mp H
 obtain ⟨t209, A50, H⟩ := H
 (try dsimp only at H)
 have A5 := am A50
 clear A50
 refine em_ (p := t209 = true) (fun c6 => ?g7p) (fun c6 => ?g7n)
 case' g7p =>
  subst c6
  rw [if_pos rfl] at H
  refine em_ (p := (t207 != t201) = true) (fun c7 => ?g6p) (fun c7 => ?g6n)
  case g6p =>
   rw [if_pos c7] at H
   have c7b0 : (t207 != t201) = true := c7
   (try (have c7b1 : decide (t207 = t201) = false := by simpa using c7))
   (try (have c7b2 : (t207 == t201) = false := by simpa using c7))
   (try (have c7b3 : ¬ (t207 = t201) := by simpa using c7))
   clear c7
   exact absurd (Option.some.inj (H.trans (congrArg some hT_))) Bool.false_ne_true
  case' g6n =>
   rw [if_neg c7] at H
   have c7b0 : (t207 != t201) = false := by simpa using c7
   (try (have c7b1 : decide (t207 = t201) = true := by simpa using c7))
   (try (have c7b2 : (t207 == t201) = true := by simpa using c7))
   clear c7
   replace H := Option.bind_eq_some_iff.mp H
   obtain ⟨⟨t210, t211⟩, A210, H⟩ := H
   (try dsimp only at H)
   have A21 := am A210
   clear A210
   replace H := Option.bind_eq_some_iff.mp H
   obtain ⟨t212, A220, H⟩ := H
   (try dsimp only at H)
   have A22 := am A220
   clear A220
   refine em_ (p := t212 < 0) (fun c23 => ?g5p) (fun c23 => ?g5n)
   case g5p =>
    rw [if_pos c23] at H
    have c23b0 : decide (t212 < 0) = true := decide_eq_true c23
    clear c23
    exact absurd (Option.some.inj (H.trans (congrArg some hT_))) Bool.false_ne_true
   case' g5n =>
    rw [if_neg c23] at H
    have c23b0 : decide (t212 < 0) = false := decide_eq_false c23
    clear c23
    refine em_ (p := t212 = t210) (fun c42 => ?g4p) (fun c42 => ?g4n)
    case' g4p =>
     rw [if_pos c42] at H
     have c42b0 : (t212 == t210) = true := beq_iff_eq.mpr c42
     have c42b1 : (t212 != t210) = false := bne_eq_false_iff_eq.mpr c42
     clear c42
     replace H := Option.bind_eq_some_iff.mp H
     obtain ⟨⟨t213, t214, t217⟩, A430, H⟩ := H
     (try dsimp only at H)
     have A43 := am A430
     clear A430
     replace H := Option.bind_eq_some_iff.mp H
     obtain ⟨t219, A440, H⟩ := H
     (try dsimp only at H)
     have A44 := am A440
     clear A440
     refine em_ (p := t219 = true) (fun c45 => ?g3p) (fun c45 => ?g3n)
     case' g3p =>
      subst c45
      rw [if_pos rfl] at H
      refine em_ (p := (t217 != t201) = true) (fun c46 => ?g2p) (fun c46 => ?g2n)
      case g2p =>
       rw [if_pos c46] at H
       have c46b0 : (t217 != t201) = true := c46
       (try (have c46b1 : decide (t217 = t201) = false := by simpa using c46))
       (try (have c46b2 : (t217 == t201) = false := by simpa using c46))
       (try (have c46b3 : ¬ (t217 = t201) := by simpa using c46))
       clear c46
       exact absurd (Option.some.inj (H.trans (congrArg some hT_))) Bool.false_ne_true
      case' g2n =>
       rw [if_neg c46] at H
       have c46b0 : (t217 != t201) = false := by simpa using c46
       (try (have c46b1 : decide (t217 = t201) = true := by simpa using c46))
       (try (have c46b2 : (t217 == t201) = true := by simpa using c46))
       clear c46
       replace H := Option.bind_eq_some_iff.mp H
       obtain ⟨t220, A740, H⟩ := H
       (try dsimp only at H)
       have A74 := am A740
       clear A740
       refine em_ (p := t220 < 0) (fun c75 => ?g1p) (fun c75 => ?g1n)
       case g1p =>
        rw [if_pos c75] at H
        have c75b0 : decide (t220 < 0) = true := decide_eq_true c75
        clear c75
        exact absurd (Option.some.inj (H.trans (congrArg some hT_))) Bool.false_ne_true
       case' g1n =>
        rw [if_neg c75] at H
        have c75b0 : decide (t220 < 0) = false := decide_eq_false c75
        clear c75
        refine em_ (p := t220 = t210) (fun c105 => ?g0p) (fun c105 => ?g0n)
        case' g0p =>
         rw [if_pos c105] at H
         have c105b0 : (t220 == t210) = true := beq_iff_eq.mpr c105
         have c105b1 : (t220 != t210) = false := bne_eq_false_iff_eq.mpr c105
         clear c105
         obtain rfl := Option.some.inj H
         have lf1_ := trivial
        case g0n =>
         rw [if_neg c105] at H
         have c105b0 : (t220 == t210) = false := beq_eq_false_iff_ne.mpr c105
         have c105b1 : (t220 != t210) = true := bne_iff_ne.mpr c105
         exact absurd (Option.some.inj (H.trans (congrArg some hT_))) Bool.false_ne_true
     case g3n =>
      replace c45 := Bool.eq_false_iff.mpr c45
      subst c45
      have H1 : (some false) = some r := by rw [if_neg (show ¬ (false = true) by decide)] at H; exact H
      clear H
      have H := H1
      clear H1
      exact absurd (Option.some.inj (H.trans (congrArg some hT_))) Bool.false_ne_true
    case g4n =>
     rw [if_neg c42] at H
     have c42b0 : (t212 == t210) = false := beq_eq_false_iff_ne.mpr c42
     have c42b1 : (t212 != t210) = true := bne_iff_ne.mpr c42
     exact absurd (Option.some.inj (H.trans (congrArg some hT_))) Bool.false_ne_true
 case g7n =>
  replace c6 := Bool.eq_false_iff.mpr c6
  subst c6
  have H1 : (some false) = some r := by rw [if_neg (show ¬ (false = true) by decide)] at H; exact H
  clear H
  have H := H1
  clear H1
  exact absurd (Option.some.inj (H.trans (congrArg some hT_))) Bool.false_ne_true
 all_goals
  go_enter Try.func6, Try.ntmps6
  go_wp2_with (first | ((with_reducible refine gate_callee (f := 22) rfl ?_); refine gl_ (some 16) Try.func22 #[.int .i64 a0, .int .i64 a1] ?_; (with_reducible refine (spec_NewGrid.calls k a0 a1 t197 t198 t201 _ A3.out).mono ?_); rintro e w106 ⟨v199, rfl, ho0, hb⟩; refine ⟨_, rfl, ?_⟩; have n0_ := am (Kd.S_lower (Sx_floor ho0) (below_size (rb HB))); have n1_ := am (below_step (rb HB) hb); clear HB; have HO200 := n0_; have HB := n1_; clear n0_ n1_; (try clear hb); (try clear hb2); (try clear hk); (try clear hi); (try clear ho0)) | ((with_reducible refine gate_dst (N := 5) rfl ?_); refine box_event ?hg (N := 5) ?hd (cs := #[.int .i64 0, .slice none 0 0]) (t := 43) ?hr ?_; (case hd => rfl); (case hg => rfl); (case hr => first | (go_simp; done) | (go_simp; rfl)); intro gb202 hg w108 hbox hb; have n0_ := am (Kd.S_below (rs HO200) hb); have n1_ := am (below_step (rb HB) hb); have n2_ := am (hbox); have n3_ := am ((by rw [hg]; exact (below_size (rb HB)) : w.heap.size ≤ gb202)); have n4_ := am ((by rw [hg]; exact (below_size (rb HB)) : w.heap.size ≤ gb202)); clear HO200; clear HB; have HO200 := n0_; have HB := n1_; have BK202 := n2_; have GW202 := n3_; have GE202 := n4_; clear n0_ n1_ n2_ n3_ n4_; clear hb hbox hg; have hcz109_0 : w108.cell? ⟨gb202, 0, none⟩ = some (.int .i64 0) := (blk_cell BK202.out 0).trans rfl; have hcz109_1 : w108.cell? ⟨gb202, 1, none⟩ = some (.slice none 0 0) := (blk_cell BK202.out 1).trans rfl; have hfz109_0 := blk_frozen BK202.out 0; have hfz109_1 := blk_frozen BK202.out 1; obtain ⟨Ao110, co110, eo110⟩ := Kd.S_slice HO200.out; subst eo110) | ((with_reducible refine gate_callee (f := 23) rfl ?_); refine gl_ (some 22) Try.func23 #[.int .i64 a0, .int .i64 a1] ?_; (with_reducible refine (impl_NewGrid.calls k a0 a1 t203 t204 t207 _ A4.out).mono ?_); rintro e w111 ⟨v205, rfl, ho0, hb⟩; refine ⟨_, rfl, ?_⟩; have n0_ := am (Kd.S_elder' (Sx_cap (by (with_reducible repeat (first | apply Kd.S_alloc | apply Kd.S_drewN | apply Kd.S_drew)); exact (Kd.S_mono (Kd.S_far (p := ⟨gb202, 1, none⟩) (Kd.S_far (p := ⟨gb202, 0, none⟩) (Kd.S_types HO200.out BK202.out (by decide)) (fun _ hk => hk.2) (.int .i64 t197)) (fun _ hk => hk.2) (.slice Ao110 t198.length co110)) (fun _ h_ => h_.1)))) (Kd.S_base ho0) hb); have n1_ := am (Kd.S_lower (Kd.S_new' (Sx_floor ho0) (Kd.S_lt (by (with_reducible repeat (first | apply Kd.S_alloc | apply Kd.S_drewN | apply Kd.S_drew)); exact (Kd.S_mono (Kd.S_far (p := ⟨gb202, 1, none⟩) (Kd.S_far (p := ⟨gb202, 0, none⟩) (Kd.S_types HO200.out BK202.out (by decide)) (fun _ hk => hk.2) (.int .i64 t197)) (fun _ hk => hk.2) (.slice Ao110 t198.length co110)) (fun _ h_ => h_.1))))) (below_size (rb1 HB GE202))); have n2_ := am (blk_below (g := gb202) (o := .cells #[.int .i64 t197, .slice Ao110 t198.length co110] 43 (0, 0)) (by (with_reducible repeat (first | apply k1 | apply k2 | apply k3)); refine blk_put (cs := #[.int .i64 t197, .slice none 0 0]) ?_ 1 _ rfl; (with_reducible repeat (first | apply k1 | apply k2 | apply k3)); refine blk_put (cs := #[.int .i64 0, .slice none 0 0]) ?_ 0 _ rfl; (with_reducible repeat (first | apply k1 | apply k2 | apply k3)); exact BK202.out) hb); have n3_ := am (below_step (rb1 HB GE202) hb); clear HO200; clear BK202; clear HB; have HO200 := n0_; have HO206 := n1_; have BK202 := n2_; have HB := n3_; clear n0_ n1_ n2_ n3_; (try clear hb); (try clear hb2); (try clear hk); (try clear hi); (try clear ho0)) | ((with_reducible refine gate_dst (N := 7) rfl ?_); refine box_event ?hg (N := 7) ?hd (cs := #[.int .i64 0, .slice none 0 0]) (t := 43) ?hr ?_; (case hd => rfl); (case hg => rfl); (case hr => first | (go_simp; done) | (go_simp; rfl)); intro gb208 hg w113 hbox hb; have n0_ := am (Kd.S_below (rs HO200) hb); have n1_ := am (Kd.S_below (rs HO206) hb); have n2_ := am (blk_below (g := gb202) (o := .cells #[.int .i64 t197, .slice Ao110 t198.length co110] 43 (0, 0)) (rk BK202) hb); have n3_ := am (below_step (rb1 HB GE202) hb); have n4_ := am (hbox); have n5_ := am ((by rw [hg]; exact (below_size (rb1 HB GE202)) : w.heap.size ≤ gb208)); have n6_ := am ((by rw [hg]; exact (below_size (rb1 HB GE202)) : w.heap.size ≤ gb208)); have n7_ := am ((by rw [hg]; exact Nat.ne_of_lt (blk_lt (g := gb202) (o := .cells #[.int .i64 t197, .slice Ao110 t198.length co110] 43 (0, 0)) (rk BK202)) : gb202 ≠ gb208)); have n8_ := am ((by rw [hg]; exact Nat.ne_of_gt (blk_lt (g := gb202) (o := .cells #[.int .i64 t197, .slice Ao110 t198.length co110] 43 (0, 0)) (rk BK202)) : gb208 ≠ gb202)); clear HO200; clear HO206; clear BK202; clear HB; have HO200 := n0_; have HO206 := n1_; have BK202 := n2_; have HB := n3_; have BK208 := n4_; have GW208 := n5_; have GE208 := n6_; have NB202_208 := n7_; have NB208_202 := n8_; clear n0_ n1_ n2_ n3_ n4_ n5_ n6_ n7_ n8_; clear hb hbox hg; have hnb114 := NB208_202.out; have hnc114 := NB202_208.out; have hcz115_0 : w113.cell? ⟨gb208, 0, none⟩ = some (.int .i64 0) := (blk_cell BK208.out 0).trans rfl; have hcz115_1 : w113.cell? ⟨gb208, 1, none⟩ = some (.slice none 0 0) := (blk_cell BK208.out 1).trans rfl; have hfz115_0 := blk_frozen BK208.out 0; have hfz115_1 := blk_frozen BK208.out 1; obtain ⟨Ao116, co116, eo116⟩ := Kd.S_slice HO206.out; subst eo116; have hcz117_0 : w113.cell? ⟨gb202, 0, none⟩ = some (.int .i64 t197) := (blk_cell BK202.out 0).trans rfl; have hcz117_1 : w113.cell? ⟨gb202, 1, none⟩ = some (.slice Ao110 t198.length co110) := (blk_cell BK202.out 1).trans rfl; have hfz117_0 := blk_frozen BK202.out 0; have hfz117_1 := blk_frozen BK202.out 1) | ((with_reducible refine gate_callee (f := 24) rfl ?_); refine gl_ (some 27) Try.func24 #[.agg #[.int .i64 t203, .slice Ao116 t204.length co116], .agg #[.int .i64 t197, .slice Ao110 t198.length co110]] ?_; (with_reducible refine (laws_eqGrid.calls k t203 _ _ t204 t197 _ _ t198 true _ ?side1 ?side2 ?side3 ?side4 A5.out).mono ?_); (case side1 => refine (Kd.S_reads' (e := 26) (base := w.heap.size) (ok := fun _ => True) (n := t204.length) (c := co116) ?_).2.2; exact (by (with_reducible repeat (first | apply Kd.S_alloc | apply Kd.S_drewN | apply Kd.S_drew)); exact Kd.S_mono (Kd.S_far (p := ⟨gb208, 1, none⟩) (Kd.S_far (p := ⟨gb208, 0, none⟩) (Kd.S_types HO206.out BK208.out (by decide)) (fun _ hk => hk.2) (.int .i64 t203)) (fun _ hk => hk.2) (.slice Ao116 t204.length co116)) (fun _ hk => trivial))); (case side2 => exact (Kd.S_reads' HO206.out).2.1); (case side3 => refine (Kd.S_reads' (e := 26) (base := w.heap.size) (ok := fun _ => True) (n := t198.length) (c := co110) ?_).2.2; exact (by (with_reducible repeat (first | apply Kd.S_alloc | apply Kd.S_drewN | apply Kd.S_drew)); exact Kd.S_mono (Kd.S_far (p := ⟨gb208, 1, none⟩) (Kd.S_far (p := ⟨gb208, 0, none⟩) (Kd.S_types HO200.out BK208.out (by decide)) (fun _ hk => hk.2) (.int .i64 t203)) (fun _ hk => hk.2) (.slice Ao116 t204.length co116)) (fun _ hk => trivial))); (case side4 => exact (Kd.S_reads' HO200.out).2.1); rintro e w118 ⟨rfl, hb⟩; refine ⟨_, rfl, ?_⟩; have n0_ := am (Kd.S_below (by (with_reducible repeat (first | apply Kd.S_alloc | apply Kd.S_drewN | apply Kd.S_drew)); exact (Kd.S_mono (Kd.S_far (p := ⟨gb208, 1, none⟩) (Kd.S_far (p := ⟨gb208, 0, none⟩) (Kd.S_types HO200.out BK208.out (by decide)) (fun _ hk => hk.2) (.int .i64 t203)) (fun _ hk => hk.2) (.slice Ao116 t204.length co116)) (fun _ h_ => h_.1))) hb); have n1_ := am (Kd.S_below (by (with_reducible repeat (first | apply Kd.S_alloc | apply Kd.S_drewN | apply Kd.S_drew)); exact (Kd.S_mono (Kd.S_far (p := ⟨gb208, 1, none⟩) (Kd.S_far (p := ⟨gb208, 0, none⟩) (Kd.S_types HO206.out BK208.out (by decide)) (fun _ hk => hk.2) (.int .i64 t203)) (fun _ hk => hk.2) (.slice Ao116 t204.length co116)) (fun _ h_ => h_.1))) hb); have n2_ := am (blk_below (g := gb202) (o := .cells #[.int .i64 t197, .slice Ao110 t198.length co110] 43 (0, 0)) (by (with_reducible repeat (first | apply k1 | apply k2 | apply k3)); refine blk_far ?_ NB202_208.out _; (with_reducible repeat (first | apply k1 | apply k2 | apply k3)); refine blk_far ?_ NB202_208.out _; (with_reducible repeat (first | apply k1 | apply k2 | apply k3)); exact BK202.out) hb); have n3_ := am (blk_below (g := gb208) (o := .cells #[.int .i64 t203, .slice Ao116 t204.length co116] 43 (0, 0)) (by (with_reducible repeat (first | apply k1 | apply k2 | apply k3)); refine blk_put (cs := #[.int .i64 t203, .slice none 0 0]) ?_ 1 _ rfl; (with_reducible repeat (first | apply k1 | apply k2 | apply k3)); refine blk_put (cs := #[.int .i64 0, .slice none 0 0]) ?_ 0 _ rfl; (with_reducible repeat (first | apply k1 | apply k2 | apply k3)); exact BK208.out) hb); have n4_ := am (below_step (rb2 HB GE202 GE208) hb); clear HO200; clear HO206; clear BK202; clear BK208; clear HB; have HO200 := n0_; have HO206 := n1_; have BK202 := n2_; have BK208 := n3_; have HB := n4_; clear n0_ n1_ n2_ n3_ n4_; (try clear hb); (try clear hb2); (try clear hk); (try clear hi); have hcz119_0 : w118.cell? ⟨gb208, 0, none⟩ = some (.int .i64 t203) := (blk_cell BK208.out 0).trans rfl; have hcz119_1 : w118.cell? ⟨gb208, 1, none⟩ = some (.slice Ao116 t204.length co116) := (blk_cell BK208.out 1).trans rfl; have hfz119_0 := blk_frozen BK208.out 0; have hfz119_1 := blk_frozen BK208.out 1; obtain ⟨PX120, hPS120, hPX120⟩ := Sx_named (Kd.S_bound HO206.out)) | ((with_reducible refine gate_callee (f := 25) rfl ?_); refine gl_ (some 36) Try.func25 #[.agg #[.int .i64 t203, .slice Ao116 t204.length co116], .int .i64 1] ?_; (with_reducible refine (laws_markGrid.calls k t203 PX120 (.slice Ao116 t204.length co116) t204 1 t210 t211 w _ ?side1 ?side2 A21.out).mono ?_); (case side1 => repeat (first | (with_reducible first | exact HB.out | apply b1 | apply b2 | apply b3 | refine below_set ?_ GE202.out | refine below_set ?_ GE208.out) | exact HB.out)); (case side2 => exact hPS120); rintro e w121 ⟨rfl, hy0, hb, hkp⟩; refine ⟨_, rfl, ?_⟩; have n0_ := am (Kd.S_kept (HO200.out) hkp (fun k_ hk_ hs_ => (fun e_ => Nat.not_lt.2 ((hPX120 k_ e_).1.1.2) (hk_.1.2)) hs_)); have n1_ := am (blk_kept (rk BK202) hkp (fun hs_ => (fun e_ => Sx_box BK202.out (by decide) (hPX120 _ e_).2.2.2) hs_)); have n2_ := am (Kd.S_mono hy0 (fun k_ h_ => (hPX120 k_ h_).1)); have n3_ := am (blk_kept (rk BK208) hkp (fun hs_ => (fun e_ => Sx_box BK208.out (by decide) (hPX120 _ e_).2.2.2) hs_)); have n4_ := am (hb); clear HO200; clear BK202; clear HO206; clear BK208; clear HB; have HO200 := n0_; have BK202 := n1_; have HO206 := n2_; have BK208 := n3_; have HB := n4_; clear n0_ n1_ n2_ n3_ n4_; (try clear hPS120 hPX120); (try clear hb); (try clear hkp); (try clear hy0); have hcz122_0 : w121.cell? ⟨gb208, 0, none⟩ = some (.int .i64 t203) := (blk_cell BK208.out 0).trans rfl; have hcz122_1 : w121.cell? ⟨gb208, 1, none⟩ = some (.slice Ao116 t204.length co116) := (blk_cell BK208.out 1).trans rfl; have hfz122_0 := blk_frozen BK208.out 0; have hfz122_1 := blk_frozen BK208.out 1) | ((with_reducible refine gate_callee (f := 26) rfl ?_); refine goesL_ (some 39) rfl rfl Try.func26 (by kernel_rfl) rfl #[.agg #[.int .i64 t203, .slice Ao116 t211.length co116], .int .i64 1] rfl (by (try simp only [List.map_toArray, List.map_cons, List.map_nil]); first | done | (rw [show t211.length = t204.length from (Kd.S_reads' HO206.out).1.symm] <;> rfl) | rfl | (simp only [List.length_drop, List.length_take]; rfl)) ?_; (with_reducible refine (laws_heldGrid.calls k t203 _ _ t211 1 t212 _ ?side1 ?side2 A22.out).mono ?_); (case side1 => repeat (first | exact (Kd.S_reads' HO206.out).2.2 | (with_reducible refine Kd.C_alloc ?_ _) | (with_reducible refine Kd.C_drewN ?_ _) | (with_reducible refine Kd.C_drew ?_))); (case side2 => rw [show t211.length = t204.length from (Kd.S_reads' HO206.out).1.symm]; exact (Kd.S_reads' HO206.out).2.1); rintro e w123 ⟨rfl, hb⟩; refine ⟨_, rfl, ?_⟩; have n0_ := am (Kd.S_below (rs HO200) hb); have n1_ := am (Kd.S_below (rs HO206) hb); have n2_ := am (blk_below (g := gb202) (o := .cells #[.int .i64 t197, .slice Ao110 t198.length co110] 43 (0, 0)) (rk BK202) hb); have n3_ := am (blk_below (g := gb208) (o := .cells #[.int .i64 t203, .slice Ao116 t204.length co116] 43 (0, 0)) (rk BK208) hb); have n4_ := am (below_step (rb2 HB GE202 GE208) hb); clear HO200; clear HO206; clear BK202; clear BK208; clear HB; have HO200 := n0_; have HO206 := n1_; have BK202 := n2_; have BK208 := n3_; have HB := n4_; clear n0_ n1_ n2_ n3_ n4_; (try clear hb); (try clear hb2); (try clear hk); (try clear hi)) | ((with_reducible refine gate_callee (f := 23) rfl ?_); refine gl_ (some 48) Try.func23 #[.int .i64 a0, .int .i64 a1] ?_; (with_reducible refine (impl_NewGrid.calls k a0 a1 t213 t214 t217 _ A43.out).mono ?_); rintro e w124 ⟨v215, rfl, ho0, hb⟩; refine ⟨_, rfl, ?_⟩; have n0_ := am (Kd.S_elder' (Sx_cap (rs HO200)) (Kd.S_base ho0) hb); have n1_ := am (Kd.S_elder' (Sx_cap (rs HO206)) (Kd.S_base ho0) hb); have n2_ := am (Kd.S_lower (Kd.S_new' (Kd.S_new' (Sx_floor ho0) (Kd.S_lt (rs HO200))) (Kd.S_lt (rs HO206))) (below_size (rb2 HB GE202 GE208))); have n3_ := am (blk_below (g := gb202) (o := .cells #[.int .i64 t197, .slice Ao110 t198.length co110] 43 (0, 0)) (rk BK202) hb); have n4_ := am (blk_below (g := gb208) (o := .cells #[.int .i64 t203, .slice Ao116 t204.length co116] 43 (0, 0)) (rk BK208) hb); have n5_ := am (below_step (rb2 HB GE202 GE208) hb); clear HO200; clear HO206; clear BK202; clear BK208; clear HB; have HO200 := n0_; have HO206 := n1_; have HO216 := n2_; have BK202 := n3_; have BK208 := n4_; have HB := n5_; clear n0_ n1_ n2_ n3_ n4_ n5_; (try clear hb); (try clear hb2); (try clear hk); (try clear hi); (try clear ho0)) | ((with_reducible refine gate_dst (N := 11) rfl ?_); refine box_event ?hg (N := 11) ?hd (cs := #[.int .i64 0, .slice none 0 0]) (t := 43) ?hr ?_; (case hd => rfl); (case hg => rfl); (case hr => first | (go_simp; done) | (go_simp; rfl)); intro gb218 hg w126 hbox hb; have n0_ := am (Kd.S_below (rs HO200) hb); have n1_ := am (Kd.S_below (rs HO206) hb); have n2_ := am (Kd.S_below (rs HO216) hb); have n3_ := am (blk_below (g := gb202) (o := .cells #[.int .i64 t197, .slice Ao110 t198.length co110] 43 (0, 0)) (rk BK202) hb); have n4_ := am (blk_below (g := gb208) (o := .cells #[.int .i64 t203, .slice Ao116 t204.length co116] 43 (0, 0)) (rk BK208) hb); have n5_ := am (below_step (rb2 HB GE202 GE208) hb); have n6_ := am (hbox); have n7_ := am ((by rw [hg]; exact (below_size (rb2 HB GE202 GE208)) : w.heap.size ≤ gb218)); have n8_ := am ((by rw [hg]; exact (below_size (rb2 HB GE202 GE208)) : w.heap.size ≤ gb218)); have n9_ := am ((by rw [hg]; exact Nat.ne_of_lt (blk_lt (g := gb202) (o := .cells #[.int .i64 t197, .slice Ao110 t198.length co110] 43 (0, 0)) (rk BK202)) : gb202 ≠ gb218)); have n10_ := am ((by rw [hg]; exact Nat.ne_of_gt (blk_lt (g := gb202) (o := .cells #[.int .i64 t197, .slice Ao110 t198.length co110] 43 (0, 0)) (rk BK202)) : gb218 ≠ gb202)); have n11_ := am ((by rw [hg]; exact Nat.ne_of_lt (blk_lt (g := gb208) (o := .cells #[.int .i64 t203, .slice Ao116 t204.length co116] 43 (0, 0)) (rk BK208)) : gb208 ≠ gb218)); have n12_ := am ((by rw [hg]; exact Nat.ne_of_gt (blk_lt (g := gb208) (o := .cells #[.int .i64 t203, .slice Ao116 t204.length co116] 43 (0, 0)) (rk BK208)) : gb218 ≠ gb208)); clear HO200; clear HO206; clear HO216; clear BK202; clear BK208; clear HB; have HO200 := n0_; have HO206 := n1_; have HO216 := n2_; have BK202 := n3_; have BK208 := n4_; have HB := n5_; have BK218 := n6_; have GW218 := n7_; have GE218 := n8_; have NB202_218 := n9_; have NB218_202 := n10_; have NB208_218 := n11_; have NB218_208 := n12_; clear n0_ n1_ n2_ n3_ n4_ n5_ n6_ n7_ n8_ n9_ n10_ n11_ n12_; clear hb hbox hg; have hnb127 := NB218_202.out; have hnc127 := NB202_218.out; have hnb128 := NB218_208.out; have hnc128 := NB208_218.out; have hcz129_0 : w126.cell? ⟨gb218, 0, none⟩ = some (.int .i64 0) := (blk_cell BK218.out 0).trans rfl; have hcz129_1 : w126.cell? ⟨gb218, 1, none⟩ = some (.slice none 0 0) := (blk_cell BK218.out 1).trans rfl; have hfz129_0 := blk_frozen BK218.out 0; have hfz129_1 := blk_frozen BK218.out 1; obtain ⟨Ao130, co130, eo130⟩ := Kd.S_slice HO216.out; subst eo130; have hcz131_0 : w126.cell? ⟨gb202, 0, none⟩ = some (.int .i64 t197) := (blk_cell BK202.out 0).trans rfl; have hcz131_1 : w126.cell? ⟨gb202, 1, none⟩ = some (.slice Ao110 t198.length co110) := (blk_cell BK202.out 1).trans rfl; have hfz131_0 := blk_frozen BK202.out 0; have hfz131_1 := blk_frozen BK202.out 1) | ((with_reducible refine gate_callee (f := 24) rfl ?_); refine gl_ (some 53) Try.func24 #[.agg #[.int .i64 t213, .slice Ao130 t214.length co130], .agg #[.int .i64 t197, .slice Ao110 t198.length co110]] ?_; (with_reducible refine (laws_eqGrid.calls k t213 _ _ t214 t197 _ _ t198 true _ ?side1 ?side2 ?side3 ?side4 A44.out).mono ?_); (case side1 => refine (Kd.S_reads' (e := 26) (base := w.heap.size) (ok := fun _ => True) (n := t214.length) (c := co130) ?_).2.2; exact (by (with_reducible repeat (first | apply Kd.S_alloc | apply Kd.S_drewN | apply Kd.S_drew)); exact Kd.S_mono (Kd.S_far (p := ⟨gb218, 1, none⟩) (Kd.S_far (p := ⟨gb218, 0, none⟩) (Kd.S_types HO216.out BK218.out (by decide)) (fun _ hk => hk.2) (.int .i64 t213)) (fun _ hk => hk.2) (.slice Ao130 t214.length co130)) (fun _ hk => trivial))); (case side2 => exact (Kd.S_reads' HO216.out).2.1); (case side3 => refine (Kd.S_reads' (e := 26) (base := w.heap.size) (ok := fun _ => True) (n := t198.length) (c := co110) ?_).2.2; exact (by (with_reducible repeat (first | apply Kd.S_alloc | apply Kd.S_drewN | apply Kd.S_drew)); exact Kd.S_mono (Kd.S_far (p := ⟨gb218, 1, none⟩) (Kd.S_far (p := ⟨gb218, 0, none⟩) (Kd.S_types HO200.out BK218.out (by decide)) (fun _ hk => hk.2) (.int .i64 t213)) (fun _ hk => hk.2) (.slice Ao130 t214.length co130)) (fun _ hk => trivial))); (case side4 => exact (Kd.S_reads' HO200.out).2.1); rintro e w132 ⟨rfl, hb⟩; refine ⟨_, rfl, ?_⟩; have n0_ := am (Kd.S_below (by (with_reducible repeat (first | apply Kd.S_alloc | apply Kd.S_drewN | apply Kd.S_drew)); exact (Kd.S_mono (Kd.S_far (p := ⟨gb218, 1, none⟩) (Kd.S_far (p := ⟨gb218, 0, none⟩) (Kd.S_types HO200.out BK218.out (by decide)) (fun _ hk => hk.2) (.int .i64 t213)) (fun _ hk => hk.2) (.slice Ao130 t214.length co130)) (fun _ h_ => h_.1))) hb); have n1_ := am (Kd.S_below (by (with_reducible repeat (first | apply Kd.S_alloc | apply Kd.S_drewN | apply Kd.S_drew)); exact (Kd.S_mono (Kd.S_far (p := ⟨gb218, 1, none⟩) (Kd.S_far (p := ⟨gb218, 0, none⟩) (Kd.S_types HO206.out BK218.out (by decide)) (fun _ hk => hk.2) (.int .i64 t213)) (fun _ hk => hk.2) (.slice Ao130 t214.length co130)) (fun _ h_ => h_.1))) hb); have n2_ := am (Kd.S_below (by (with_reducible repeat (first | apply Kd.S_alloc | apply Kd.S_drewN | apply Kd.S_drew)); exact (Kd.S_mono (Kd.S_far (p := ⟨gb218, 1, none⟩) (Kd.S_far (p := ⟨gb218, 0, none⟩) (Kd.S_types HO216.out BK218.out (by decide)) (fun _ hk => hk.2) (.int .i64 t213)) (fun _ hk => hk.2) (.slice Ao130 t214.length co130)) (fun _ h_ => h_.1))) hb); have n3_ := am (blk_below (g := gb202) (o := .cells #[.int .i64 t197, .slice Ao110 t198.length co110] 43 (0, 0)) (by (with_reducible repeat (first | apply k1 | apply k2 | apply k3)); refine blk_far ?_ NB202_218.out _; (with_reducible repeat (first | apply k1 | apply k2 | apply k3)); refine blk_far ?_ NB202_218.out _; (with_reducible repeat (first | apply k1 | apply k2 | apply k3)); exact BK202.out) hb); have n4_ := am (blk_below (g := gb208) (o := .cells #[.int .i64 t203, .slice Ao116 t204.length co116] 43 (0, 0)) (by (with_reducible repeat (first | apply k1 | apply k2 | apply k3)); refine blk_far ?_ NB208_218.out _; (with_reducible repeat (first | apply k1 | apply k2 | apply k3)); refine blk_far ?_ NB208_218.out _; (with_reducible repeat (first | apply k1 | apply k2 | apply k3)); exact BK208.out) hb); have n5_ := am (blk_below (g := gb218) (o := .cells #[.int .i64 t213, .slice Ao130 t214.length co130] 43 (0, 0)) (by (with_reducible repeat (first | apply k1 | apply k2 | apply k3)); refine blk_put (cs := #[.int .i64 t213, .slice none 0 0]) ?_ 1 _ rfl; (with_reducible repeat (first | apply k1 | apply k2 | apply k3)); refine blk_put (cs := #[.int .i64 0, .slice none 0 0]) ?_ 0 _ rfl; (with_reducible repeat (first | apply k1 | apply k2 | apply k3)); exact BK218.out) hb); have n6_ := am (below_step (rb3 HB GE202 GE208 GE218) hb); clear HO200; clear HO206; clear HO216; clear BK202; clear BK208; clear BK218; clear HB; have HO200 := n0_; have HO206 := n1_; have HO216 := n2_; have BK202 := n3_; have BK208 := n4_; have BK218 := n5_; have HB := n6_; clear n0_ n1_ n2_ n3_ n4_ n5_ n6_; (try clear hb); (try clear hb2); (try clear hk); (try clear hi); have hcz133_0 : w132.cell? ⟨gb208, 0, none⟩ = some (.int .i64 t203) := (blk_cell BK208.out 0).trans rfl; have hcz133_1 : w132.cell? ⟨gb208, 1, none⟩ = some (.slice Ao116 t204.length co116) := (blk_cell BK208.out 1).trans rfl; have hfz133_0 := blk_frozen BK208.out 0; have hfz133_1 := blk_frozen BK208.out 1) | ((with_reducible refine gate_callee (f := 26) rfl ?_); refine goesL_ (some 62) rfl rfl Try.func26 (by kernel_rfl) rfl #[.agg #[.int .i64 t203, .slice Ao116 t211.length co116], .int .i64 1] rfl (by (try simp only [List.map_toArray, List.map_cons, List.map_nil]); first | done | (rw [show t211.length = t204.length from (Kd.S_reads' HO206.out).1.symm] <;> rfl) | rfl | (simp only [List.length_drop, List.length_take]; rfl)) ?_; (with_reducible refine (laws_heldGrid.calls k t203 _ _ t211 1 t220 _ ?side1 ?side2 A74.out).mono ?_); (case side1 => repeat (first | exact (Kd.S_reads' HO206.out).2.2 | (with_reducible refine Kd.C_alloc ?_ _) | (with_reducible refine Kd.C_drewN ?_ _) | (with_reducible refine Kd.C_drew ?_))); (case side2 => rw [show t211.length = t204.length from (Kd.S_reads' HO206.out).1.symm]; exact (Kd.S_reads' HO206.out).2.1); rintro e w134 ⟨rfl, hb⟩; refine ⟨_, rfl, ?_⟩; have n0_ := am (Kd.S_below (rs HO200) hb); have n1_ := am (Kd.S_below (rs HO206) hb); have n2_ := am (Kd.S_below (rs HO216) hb); have n3_ := am (blk_below (g := gb202) (o := .cells #[.int .i64 t197, .slice Ao110 t198.length co110] 43 (0, 0)) (rk BK202) hb); have n4_ := am (blk_below (g := gb208) (o := .cells #[.int .i64 t203, .slice Ao116 t204.length co116] 43 (0, 0)) (rk BK208) hb); have n5_ := am (blk_below (g := gb218) (o := .cells #[.int .i64 t213, .slice Ao130 t214.length co130] 43 (0, 0)) (rk BK218) hb); have n6_ := am (below_step (rb3 HB GE202 GE208 GE218) hb); clear HO200; clear HO206; clear HO216; clear BK202; clear BK208; clear BK218; clear HB; have HO200 := n0_; have HO206 := n1_; have HO216 := n2_; have BK202 := n3_; have BK208 := n4_; have BK218 := n5_; have HB := n6_; clear n0_ n1_ n2_ n3_ n4_ n5_ n6_; (try clear hb); (try clear hb2); (try clear hk); (try clear hi)))
  go_ret
  exact ⟨by first | rfl | (simp [errW_none, errW_some] <;> rfl) | (simp [*, errW_none, errW_some] <;> rfl), rb3 HB GE202 GE208 GE218⟩

/-- THE ONE PURE STATEMENT of laws_FnExactNewGrid: yours. -/
def laws_FnExactNewGrid.Pure : Prop := ∀ (a0 : Int) (a1 : Int), (Lit.int .i64 a0).wf = true → (Lit.int .i64 a1).wf = true → ∃ k, laws_FnExactNewGrid.f k a0 a1 = some true
theorem laws_FnExactNewGrid.walk (P : laws_FnExactNewGrid.Pure) (a0 : Int) (a1 : Int) (w : World) (w0 : (Lit.int .i64 a0).wf = true) (w1 : (Lit.int .i64 a1).wf = true) :
  Calls Try.prog 6 #[.int .i64 a0, .int .i64 a1] w fun e w' => e = .returned (.bool true) ∧ Below w.heap.size w w' := by
 obtain ⟨k, h⟩ := P a0 a1 w0 w1
 refine (laws_FnExactNewGrid.calls k a0 a1 true w h rfl).mono ?_
 rintro e w' ⟨rfl, hd⟩
 exact ⟨rfl, hd⟩

/-! ### laws_szCellS: function 8 -/
def laws_szCellS.f (l0 : List (S60)) (a1 : Int) : Option (Int) := if (wrap64 (a1 - (l0.length : Int))) < 0 then (some (-1)) else (some (wrap64 (a1 - (l0.length : Int))))
set_option maxHeartbeats 8000000 in
set_option maxRecDepth 100000 in
theorem laws_szCellS.calls (A0 : Option Addr) (c0 : Nat) (l0 : List (S60)) (a1 : Int) (r : Int) (w : World) (hr0 : Kd.C k60 w A0 l0.length l0) (hc0 : l0.length ≤ c0) (h : laws_szCellS.f l0 a1 = some r) :
  Calls Try.prog 8 #[.slice A0 l0.length c0, .int .i64 a1] w fun e w' => e = .returned (.int .i64 r) ∧ Drawn0 w w' := by
 have HR0 := am hr0
 have HC0 := am hc0
 clear hr0 hc0
 have H := h
 unfold laws_szCellS.f at H
 clear h
 by_cases c3 : (wrap64 (a1 - (l0.length : Int))) < 0
 ·rw [if_pos c3] at H
  have c3b0 : decide ((wrap64 (a1 - (l0.length : Int))) < 0) = true := decide_eq_true c3
  clear c3
  obtain rfl := Option.some.inj H
  go_enter Try.func8, Try.ntmps8
  go_wp2
  go_ret
  exact ⟨by first | rfl | (simp; done) | (simp [*]; done), by repeat (first | exact Drawn0.refl _ | apply Drawn0.step)⟩
 ·rw [if_neg c3] at H
  have c3b0 : decide ((wrap64 (a1 - (l0.length : Int))) < 0) = false := decide_eq_false c3
  clear c3
  obtain rfl := Option.some.inj H
  go_enter Try.func8, Try.ntmps8
  go_wp2
  go_ret
  exact ⟨by first | rfl | (simp; done) | (simp [*]; done), by repeat (first | exact Drawn0.refl _ | apply Drawn0.step)⟩

end Go.Proofs.Ytfhkpneffmcdbaa.QE
