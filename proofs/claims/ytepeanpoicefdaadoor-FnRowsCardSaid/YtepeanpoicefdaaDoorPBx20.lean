/- Contracts of Go functions that laws of this seat reach: each Lean function answers as its Go function does. No condition. Written by wip/tools/inj.py, over the kit's print. -/
import Derived.Test.YtepeanpoicefdaaDoorPBx0
import Derived.Test.YtepeanpoicefdaaDoorPBx2
import Derived.Test.YtepeanpoicefdaaDoorPBx4
namespace Go.Proofs.YtepeanpoicefdaaDoor.PB
open Go.RowKit Go.Proofs.YtepeanpoicefdaaDoorW.PrintWords Go.Proofs.YtepeanpoicefdaaDoorW.PrintLast Go.Proofs.YtepeanpoicefdaaDoorW.PrintMore
attribute [local go_sem] max2_int min2_int max_two min_two max_three min_three max_four min_four   -- for this text's walks alone
set_option linter.unusedVariables false
set_option linter.unusedSimpArgs false

attribute [local go_sem high] eqA48
/-! ### laws_likeRow: function 17 -/
def laws_likeRow.l0 : Nat → List (S48) → List (S48) → Int → Option (Bool)
 | 0, _, _, _ => none
 | k + 1, x0, x1, x5 => if x5 < (x0.length : Int) then (if 0 ≤ x5 then (if x5 < (x1.length : Int) then (if (!(((rd_T48 x0 x5).f0) == ((rd_T48 x1 x5).f0)) || ((!(((rd_T48 x0 x5).f1.f0) == ((rd_T48 x1 x5).f1.f0)) || (!(((rd_T48 x0 x5).f1.f1) == ((rd_T48 x1 x5).f1.f1)) || (!(((rd_T48 x0 x5).f1.f2) == ((rd_T48 x1 x5).f1.f2)) || (!(((rd_T48 x0 x5).f1.f3) == ((rd_T48 x1 x5).f1.f3)) || (!(((rd_T48 x0 x5).f1.f4) == ((rd_T48 x1 x5).f1.f4))))))) || (!(((rd_T48 x0 x5).f2) == ((rd_T48 x1 x5).f2))))) = true then (some false) else (laws_likeRow.l0 k x0 x1 (wrap64 (x5 + 1)))) else (none)) else (none)) else (some true)
def laws_likeRow.f (k : Nat) (l0 : List (S48)) (l1 : List (S48)) : Option (Bool) := if (l0.length : Int) = (l1.length : Int) then (laws_likeRow.l0 k l0 l1 0) else (some false)
theorem laws_likeRow.mono_l : ∀ k, (∀ y0 y1 y2, LeO (laws_likeRow.l0 k y0 y1 y2) (laws_likeRow.l0 (k + 1) y0 y1 y2))
 | 0 => fun _ _ _ r h => by simp [laws_likeRow.l0] at h
 | k + 1 => by
  have ih0 := laws_likeRow.mono_l k
  ·intro y0 y1 y2
   unfold laws_likeRow.l0
   repeat' first
   | (with_reducible exact ih0 _ _ _)
   | (with_reducible exact LeO.refl _)
   | (with_reducible exact LeO.none _)
   | (with_reducible refine LeO.ite ?_ ?_)
   | (with_reducible refine LeO.bind ?_ (fun _ => ?_))
theorem laws_likeRow.mono : ∀ a0 a1 k, LeO (laws_likeRow.f k a0 a1) (laws_likeRow.f (k + 1) a0 a1) := by
 intro a0 a1 k
 have ih0 := laws_likeRow.mono_l k
 unfold laws_likeRow.f
 repeat' first
   | (with_reducible exact ih0 _ _ _)
   | (with_reducible exact LeO.refl _)
   | (with_reducible exact LeO.none _)
   | (with_reducible refine LeO.ite ?_ ?_)
   | (with_reducible refine LeO.bind ?_ (fun _ => ?_))
set_option maxHeartbeats 8000000 in
set_option maxRecDepth 100000 in
theorem laws_likeRow.calls (k : Nat) (A0 : Option Addr) (c0 : Nat) (l0 : List (S48)) (A1 : Option Addr) (c1 : Nat) (l1 : List (S48)) (r : Bool) (w : World) (hr0 : Kd.C k48 w A0 l0.length l0) (hc0 : l0.length ≤ c0) (hr1 : Kd.C k48 w A1 l1.length l1) (hc1 : l1.length ≤ c1) (h : laws_likeRow.f k l0 l1 = some r) :
  Calls Tryd.prog 17 #[.slice A0 l0.length c0, .slice A1 l1.length c1] w fun e w' => e = .returned (.bool r) ∧ Drawn0 w w' := by
 have hu48 := Tryd.underlying48
 have HR0 := am hr0
 have HC0 := am hc0
 clear hr0 hc0
 have HR1 := am hr1
 have HC1 := am hc1
 clear hr1 hc1
 have H : (if (l0.length : Int) = (l1.length : Int) then (laws_likeRow.l0 k l0 l1 0) else (some false)) = some r := h
 clear h
 by_cases c3 : (l0.length : Int) = (l1.length : Int)
 ·rw [if_pos c3] at H
  have c3b0 : ((l0.length : Int) == (l1.length : Int)) = true := beq_iff_eq.mpr c3
  have c3b1 : ((l0.length : Int) != (l1.length : Int)) = false := bne_eq_false_iff_eq.mpr c3
  have c3b2 : (l0.length == l1.length) = true := by first | simpa using c3 | (simp at c3 ⊢; omega)
  clear c3
  have H' := am H
  clear H
  go_enter Tryd.func17, Tryd.ntmps17
  go_wp2
  repeat (go_quiet (fail); try go_wp2)
  go_loopg [5] k (fun kq v5 w' => ∃ (x5_1 : Int), v5 = .int .i64 x5_1 ∧ Aside0 (laws_likeRow.l0 kq l0 l1 x5_1 = some r) ∧ Aside0 (kq ≤ k) ∧ Drawn0 w w')
  case atStart => exact ⟨(0), (by first | rfl | (simp; done) | (simp [*]; done)), H', ⟨Nat.le_refl _⟩, by repeat (first | exact Drawn0.refl _ | apply Drawn0.step)⟩
  case round =>
   clear H'
   try clear c1
   try clear p2
   try clear c3
   try clear c3b0
   try clear c3b1
   try clear c3b2
   obtain ⟨x5_1, rfl, HA, HK1, ⟨m1, rfl⟩⟩ := hrel
   cases gk with
   | zero => exact absurd HA.out (by simp [laws_likeRow.l0])
   | succ k1 =>
    have H := HA.out
    clear HA
    simp only [laws_likeRow.l0] at H
    by_cases c4 : x5_1 < (l0.length : Int)
    ·rw [if_pos c4] at H
     have c4b0 : decide (x5_1 < (l0.length : Int)) = true := decide_eq_true c4
     clear c4
     by_cases c5 : 0 ≤ x5_1
     ·rw [if_pos c5] at H
      have c5b0 : decide (0 ≤ x5_1) = true := decide_eq_true c5
      clear c5
      by_cases c6 : x5_1 < (l1.length : Int)
      ·rw [if_pos c6] at H
       have c6b0 : decide (x5_1 < (l1.length : Int)) = true := decide_eq_true c6
       clear c6
       by_cases c7 : (!(((rd_T48 l0 x5_1).f0) == ((rd_T48 l1 x5_1).f0)) || ((!(((rd_T48 l0 x5_1).f1.f0) == ((rd_T48 l1 x5_1).f1.f0)) || (!(((rd_T48 l0 x5_1).f1.f1) == ((rd_T48 l1 x5_1).f1.f1)) || (!(((rd_T48 l0 x5_1).f1.f2) == ((rd_T48 l1 x5_1).f1.f2)) || (!(((rd_T48 l0 x5_1).f1.f3) == ((rd_T48 l1 x5_1).f1.f3)) || (!(((rd_T48 l0 x5_1).f1.f4) == ((rd_T48 l1 x5_1).f1.f4))))))) || (!(((rd_T48 l0 x5_1).f2) == ((rd_T48 l1 x5_1).f2))))) = true
       ·rw [if_pos c7] at H
        have c7b0 : (!(((rd_T48 l0 x5_1).f0) == ((rd_T48 l1 x5_1).f0)) || ((!(((rd_T48 l0 x5_1).f1.f0) == ((rd_T48 l1 x5_1).f1.f0)) || (!(((rd_T48 l0 x5_1).f1.f1) == ((rd_T48 l1 x5_1).f1.f1)) || (!(((rd_T48 l0 x5_1).f1.f2) == ((rd_T48 l1 x5_1).f1.f2)) || (!(((rd_T48 l0 x5_1).f1.f3) == ((rd_T48 l1 x5_1).f1.f3)) || (!(((rd_T48 l0 x5_1).f1.f4) == ((rd_T48 l1 x5_1).f1.f4))))))) || (!(((rd_T48 l0 x5_1).f2) == ((rd_T48 l1 x5_1).f2))))) = true := c7
        clear c7
        obtain rfl := Option.some.inj H
        have p560 : 0 ≤ (x5_1 : Int) := dt_
        have q560 : x5_1 < (l0.length : Int) := dt_
        obtain ⟨ad560, e560, hx560_0, hx560_1, hx560_2, hx560_3, hx560_4, hx560_5, hx560_6⟩ := at_T48 HR0.out x5_1 p560 q560
        cases e560
        replace p560 := eq_true p560
        replace q560 := eq_true q560
        have p561 : 0 ≤ (x5_1 : Int) := dt_
        have q561 : x5_1 < (l1.length : Int) := dt_
        obtain ⟨ad561, e561, hx561_0, hx561_1, hx561_2, hx561_3, hx561_4, hx561_5, hx561_6⟩ := at_T48 HR1.out x5_1 p561 q561
        cases e561
        replace p561 := eq_true p561
        replace q561 := eq_true q561
        go_wp2
        repeat (go_quiet (fail); try go_wp2)
        go_ret
        exact ⟨by first | rfl | (simp; done) | (simp [*]; done), by repeat (first | exact Drawn0.refl _ | apply Drawn0.step)⟩
       ·rw [if_neg c7] at H
        have c7b0 : (!(((rd_T48 l0 x5_1).f0) == ((rd_T48 l1 x5_1).f0)) || ((!(((rd_T48 l0 x5_1).f1.f0) == ((rd_T48 l1 x5_1).f1.f0)) || (!(((rd_T48 l0 x5_1).f1.f1) == ((rd_T48 l1 x5_1).f1.f1)) || (!(((rd_T48 l0 x5_1).f1.f2) == ((rd_T48 l1 x5_1).f1.f2)) || (!(((rd_T48 l0 x5_1).f1.f3) == ((rd_T48 l1 x5_1).f1.f3)) || (!(((rd_T48 l0 x5_1).f1.f4) == ((rd_T48 l1 x5_1).f1.f4))))))) || (!(((rd_T48 l0 x5_1).f2) == ((rd_T48 l1 x5_1).f2))))) = false := by simpa using c7
        clear c7
        have H' := am H
        clear H
        have p560 : 0 ≤ (x5_1 : Int) := dt_
        have q560 : x5_1 < (l0.length : Int) := dt_
        obtain ⟨ad560, e560, hx560_0, hx560_1, hx560_2, hx560_3, hx560_4, hx560_5, hx560_6⟩ := at_T48 HR0.out x5_1 p560 q560
        cases e560
        replace p560 := eq_true p560
        replace q560 := eq_true q560
        have p561 : 0 ≤ (x5_1 : Int) := dt_
        have q561 : x5_1 < (l1.length : Int) := dt_
        obtain ⟨ad561, e561, hx561_0, hx561_1, hx561_2, hx561_3, hx561_4, hx561_5, hx561_6⟩ := at_T48 HR1.out x5_1 p561 q561
        cases e561
        replace p561 := eq_true p561
        replace q561 := eq_true q561
        go_wp2
        repeat (go_quiet (fail); try go_wp2)
        go_roundg k1
        case measure => have := HK1.out; omega
        case rel => exact ⟨(wrap64 (x5_1 + 1)), (by first | rfl | (simp; done) | (simp [*]; done)), H', ⟨by have := HK1.out; omega⟩, by repeat (first | exact Drawn0.refl _ | apply Drawn0.step)⟩
      ·rw [if_neg c6] at H
       exact absurd H (by simp)
     ·rw [if_neg c5] at H
      exact absurd H (by simp)
    ·rw [if_neg c4] at H
     have c4b0 : decide (x5_1 < (l0.length : Int)) = false := decide_eq_false c4
     clear c4
     obtain rfl := Option.some.inj H
     go_wp2
     repeat (go_quiet (fail); try go_wp2)
     go_ret
     exact ⟨by first | rfl | (simp; done) | (simp [*]; done), by repeat (first | exact Drawn0.refl _ | apply Drawn0.step)⟩
 ·rw [if_neg c3] at H
  have c3b0 : ((l0.length : Int) == (l1.length : Int)) = false := beq_eq_false_iff_ne.mpr c3
  have c3b1 : ((l0.length : Int) != (l1.length : Int)) = true := bne_iff_ne.mpr c3
  have c3b2 : (l0.length == l1.length) = false := by first | simpa using c3 | (simp at c3 ⊢; omega)
  obtain rfl := Option.some.inj H
  go_enter Tryd.func17, Tryd.ntmps17
  go_wp2
  repeat (go_quiet (fail); try go_wp2)
  go_ret
  exact ⟨by first | rfl | (simp; done) | (simp [*]; done), by repeat (first | exact Drawn0.refl _ | apply Drawn0.step)⟩

/-! ### spec_StyleOk: function 52 -/
def spec_StyleOk.f (a0_0 : Int) (a0_1 : Int) (a0_2 : Bool) (a0_3 : Bool) (a0_4 : Bool) : Option (Bool) := (spec_l1In.f a0_0 0 8).bind fun t563 => (if t563 = true then ((spec_l1In.f a0_1 0 8).bind fun t564 => (some t564)) else (some false))
set_option maxHeartbeats 8000000 in
set_option maxRecDepth 100000 in
theorem spec_StyleOk.calls (a0_0 : Int) (a0_1 : Int) (a0_2 : Bool) (a0_3 : Bool) (a0_4 : Bool) (r : Bool) (w : World) (h : spec_StyleOk.f a0_0 a0_1 a0_2 a0_3 a0_4 = some r) :
  Calls Tryd.prog 52 #[.agg #[.int .i64 a0_0, .int .i64 a0_1, .bool a0_2, .bool a0_3, .bool a0_4]] w fun e w' => e = .returned (.bool r) ∧ Below w.heap.size w w' := by
 have hu37 := Tryd.underlying37
 have HB := am (Below.refl w.heap.size w)
 have H := h
 unfold spec_StyleOk.f at H
 clear h
 replace H := Option.bind_eq_some_iff.mp H
 obtain ⟨t563, A20, H⟩ := H
 (try dsimp only at H)
 have A2 := am A20
 clear A20
 by_cases c3 : t563 = true
 ·subst c3
  have H1 : ((spec_l1In.f a0_1 0 8).bind fun t564 => (some t564)) = some r := by rw [if_pos rfl] at H; exact H
  clear H
  have H := H1
  clear H1
  replace H := Option.bind_eq_some_iff.mp H
  obtain ⟨t564, A40, H⟩ := H
  replace H : (some t564) = some r := H
  have A4 := am A40
  clear A40
  obtain rfl := Option.some.inj H
  go_enter Tryd.func52, Tryd.ntmps52
  go_wp2_with (first | ((with_reducible refine gate_dst (N := 1) rfl ?_); refine box_event ?hg (N := 1) ?hd (cs := #[.int .i64 a0_0, .int .i64 a0_1, .bool a0_2, .bool a0_3, .bool a0_4]) (t := 37) ?hr ?_; (case hd => rfl); (case hg => rfl); (case hr => first | (go_simp; done) | (go_simp; rfl)); intro gb562 hg w5 hbox hb; have n0_ := am (below_step (rb HB) hb); have n1_ := am (hbox); have n2_ := am ((by rw [hg]; exact (below_size (rb HB)) : w.heap.size ≤ gb562)); have n3_ := am ((by rw [hg]; exact (below_size (rb HB)) : w.heap.size ≤ gb562)); clear HB; have HB := n0_; have BK562 := n1_; have GW562 := n2_; have GE562 := n3_; clear n0_ n1_ n2_ n3_; clear hb hbox hg; have hcz6_0 : w5.cell? ⟨gb562, 0, none⟩ = some (.int .i64 a0_0) := (blk_cell BK562.out 0).trans rfl; have hcz6_1 : w5.cell? ⟨gb562, 1, none⟩ = some (.int .i64 a0_1) := (blk_cell BK562.out 1).trans rfl; have hcz6_2 : w5.cell? ⟨gb562, 2, none⟩ = some (.bool a0_2) := (blk_cell BK562.out 2).trans rfl; have hcz6_3 : w5.cell? ⟨gb562, 3, none⟩ = some (.bool a0_3) := (blk_cell BK562.out 3).trans rfl; have hcz6_4 : w5.cell? ⟨gb562, 4, none⟩ = some (.bool a0_4) := (blk_cell BK562.out 4).trans rfl; have hfz6_0 := blk_frozen BK562.out 0; have hfz6_1 := blk_frozen BK562.out 1; have hfz6_2 := blk_frozen BK562.out 2; have hfz6_3 := blk_frozen BK562.out 3; have hfz6_4 := blk_frozen BK562.out 4) | ((with_reducible refine gate_callee (f := 51) rfl ?_); refine gl_ (some 5) Tryd.func51 #[.int .i64 a0_0, .int .i64 0, .int .i64 8] ?_; (with_reducible refine (spec_l1In.calls a0_0 0 8 true _ A2.out).mono ?_); rintro e w' ⟨rfl, ⟨nd, rfl⟩⟩; refine ⟨_, rfl, ?_⟩) | (go_at_call 51; (with_reducible refine (spec_l1In.calls a0_1 0 8 t564 _ A4.out).mono ?_); rintro e w' ⟨rfl, ⟨nd, rfl⟩⟩))
  go_ret
  exact ⟨by first | rfl | (simp [errW_none, errW_some] <;> rfl) | (simp [*, errW_none, errW_some] <;> rfl), by repeat (first | (with_reducible first | exact HB.out | apply b1 | apply b2 | apply b3 | refine below_set ?_ GE562.out) | exact HB.out)⟩
 ·replace c3 := Bool.eq_false_iff.mpr c3
  subst c3
  have H1 : (some false) = some r := by rw [if_neg (show ¬ (false = true) by decide)] at H; exact H
  clear H
  have H := H1
  clear H1
  obtain rfl := Option.some.inj H
  go_enter Tryd.func52, Tryd.ntmps52
  go_wp2_with (first | ((with_reducible refine gate_dst (N := 1) rfl ?_); refine box_event ?hg (N := 1) ?hd (cs := #[.int .i64 a0_0, .int .i64 a0_1, .bool a0_2, .bool a0_3, .bool a0_4]) (t := 37) ?hr ?_; (case hd => rfl); (case hg => rfl); (case hr => first | (go_simp; done) | (go_simp; rfl)); intro gb562 hg w7 hbox hb; have n0_ := am (below_step (rb HB) hb); have n1_ := am (hbox); have n2_ := am ((by rw [hg]; exact (below_size (rb HB)) : w.heap.size ≤ gb562)); have n3_ := am ((by rw [hg]; exact (below_size (rb HB)) : w.heap.size ≤ gb562)); clear HB; have HB := n0_; have BK562 := n1_; have GW562 := n2_; have GE562 := n3_; clear n0_ n1_ n2_ n3_; clear hb hbox hg; have hcz8_0 : w7.cell? ⟨gb562, 0, none⟩ = some (.int .i64 a0_0) := (blk_cell BK562.out 0).trans rfl; have hcz8_1 : w7.cell? ⟨gb562, 1, none⟩ = some (.int .i64 a0_1) := (blk_cell BK562.out 1).trans rfl; have hcz8_2 : w7.cell? ⟨gb562, 2, none⟩ = some (.bool a0_2) := (blk_cell BK562.out 2).trans rfl; have hcz8_3 : w7.cell? ⟨gb562, 3, none⟩ = some (.bool a0_3) := (blk_cell BK562.out 3).trans rfl; have hcz8_4 : w7.cell? ⟨gb562, 4, none⟩ = some (.bool a0_4) := (blk_cell BK562.out 4).trans rfl; have hfz8_0 := blk_frozen BK562.out 0; have hfz8_1 := blk_frozen BK562.out 1; have hfz8_2 := blk_frozen BK562.out 2; have hfz8_3 := blk_frozen BK562.out 3; have hfz8_4 := blk_frozen BK562.out 4) | ((with_reducible refine gate_callee (f := 51) rfl ?_); refine gl_ (some 5) Tryd.func51 #[.int .i64 a0_0, .int .i64 0, .int .i64 8] ?_; (with_reducible refine (spec_l1In.calls a0_0 0 8 false _ A2.out).mono ?_); rintro e w' ⟨rfl, ⟨nd, rfl⟩⟩; refine ⟨_, rfl, ?_⟩))
  go_ret
  exact ⟨by first | rfl | (simp [errW_none, errW_some] <;> rfl) | (simp [*, errW_none, errW_some] <;> rfl), by repeat (first | (with_reducible first | exact HB.out | apply b1 | apply b2 | apply b3 | refine below_set ?_ GE562.out) | exact HB.out)⟩

end Go.Proofs.YtepeanpoicefdaaDoor.PB
