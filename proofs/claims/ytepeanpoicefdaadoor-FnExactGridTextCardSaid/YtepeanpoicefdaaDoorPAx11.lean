/- Contracts of Go functions that laws of this seat reach: each Lean function answers as its Go function does. No condition. Written by wip/tools/inj.py, over the kit's print. -/
import Derived.Test.YtepeanpoicefdaaDoorPAx0
import Derived.Test.YtepeanpoicefdaaDoorPAx1
import Derived.Test.YtepeanpoicefdaaDoorPAx9
import Derived.Test.YtepeanpoicefdaaDoorPAx10
namespace Go.Proofs.YtepeanpoicefdaaDoor.PA
open Go.RowKit Go.Proofs.YtepeanpoicefdaaDoorW.PrintWords Go.Proofs.YtepeanpoicefdaaDoorW.PrintLast Go.Proofs.YtepeanpoicefdaaDoorW.PrintMore
attribute [local go_sem] max2_int min2_int max_two min_two max_three min_three max_four min_four   -- for this text's walks alone
set_option linter.unusedVariables false
set_option linter.unusedSimpArgs false

attribute [local go_sem high] eqA37
/-! ### impl_RowOk: function 21 -/
def impl_RowOk.l0 : Nat → List (S48) → List (S48) → Int → Int → Option (Bool)
 | 0, _, _, _, _ => none
 | k + 1, x0, x6, x7, x8 => if x8 < x7 then (if 0 ≤ x8 then (if x8 < (x6.length : Int) then (if x8 > 0 then (if 0 ≤ (wrap64 (x8 - 1)) then (if (wrap64 (x8 - 1)) < (x0.length : Int) then ((impl_isCell.f k ((rd_T48 x6 x8).f0) ((rd_T48 x6 x8).f1.f0) ((rd_T48 x6 x8).f1.f1) ((rd_T48 x6 x8).f1.f2) ((rd_T48 x6 x8).f1.f3) ((rd_T48 x6 x8).f1.f4) ((rd_T48 x6 x8).f2)).bind fun t231 => (if t231 = true then (if ((((rd_T48 x0 (wrap64 (x8 - 1))).f2) == 1) != (((rd_T48 x6 x8).f2) == 2)) = true then (some false) else (if ((rd_T48 x0 (wrap64 (x8 - 1))).f2) = 1 then (if (!(((rd_T48 x0 (wrap64 (x8 - 1))).f1.f0) == ((rd_T48 x6 x8).f1.f0)) || (!(((rd_T48 x0 (wrap64 (x8 - 1))).f1.f1) == ((rd_T48 x6 x8).f1.f1)) || (!(((rd_T48 x0 (wrap64 (x8 - 1))).f1.f2) == ((rd_T48 x6 x8).f1.f2)) || (!(((rd_T48 x0 (wrap64 (x8 - 1))).f1.f3) == ((rd_T48 x6 x8).f1.f3)) || (!(((rd_T48 x0 (wrap64 (x8 - 1))).f1.f4) == ((rd_T48 x6 x8).f1.f4))))))) = true then (some false) else (impl_RowOk.l0 k x0 x6 x7 (wrap64 (x8 + 1)))) else (impl_RowOk.l0 k x0 x6 x7 (wrap64 (x8 + 1))))) else (some false))) else (none)) else (none)) else ((impl_isCell.f k ((rd_T48 x6 x8).f0) ((rd_T48 x6 x8).f1.f0) ((rd_T48 x6 x8).f1.f1) ((rd_T48 x6 x8).f1.f2) ((rd_T48 x6 x8).f1.f3) ((rd_T48 x6 x8).f1.f4) ((rd_T48 x6 x8).f2)).bind fun t233 => (if t233 = true then (if (false != (((rd_T48 x6 x8).f2) == 2)) = true then (some false) else (impl_RowOk.l0 k x0 x6 x7 (wrap64 (x8 + 1)))) else (some false)))) else (none)) else (none)) else ((impl_in.f (x0.length : Int) 1 60).bind fun t234 => (if t234 = true then (if 0 ≤ (wrap64 ((x0.length : Int) - 1)) then (if (wrap64 ((x0.length : Int) - 1)) < (x0.length : Int) then (some (((rd_T48 x0 (wrap64 ((x0.length : Int) - 1))).f2) != 1)) else (none)) else (none)) else (some false)))
def impl_RowOk.f (k : Nat) (l0 : List (S48)) : Option (Bool) := impl_RowOk.l0 k l0 l0 (l0.length : Int) 0
theorem impl_RowOk.mono_l : ∀ k, (∀ y0 y1 y2 y3, LeO (impl_RowOk.l0 k y0 y1 y2 y3) (impl_RowOk.l0 (k + 1) y0 y1 y2 y3))
 | 0 => fun _ _ _ _ r h => by simp [impl_RowOk.l0] at h
 | k + 1 => by
  have ih0 := impl_RowOk.mono_l k
  ·intro y0 y1 y2 y3
   unfold impl_RowOk.l0
   repeat' first
   | (with_reducible exact ih0 _ _ _ _)
   | (with_reducible exact impl_isCell.mono _ _ _ _ _ _ _ _)
   | (with_reducible exact LeO.refl _)
   | (with_reducible exact LeO.none _)
   | (with_reducible refine LeO.ite ?_ ?_)
   | (with_reducible refine LeO.bind ?_ (fun _ => ?_))
   | exact ih0 _ _ _ _
   | exact impl_isCell.mono _ _ _ _ _ _ _ _
   | exact LeO.none _
   | refine LeO.ite ?_ ?_
   | refine LeO.bind ?_ (fun _ => ?_)
theorem impl_RowOk.mono : ∀ a0 k, LeO (impl_RowOk.f k a0) (impl_RowOk.f (k + 1) a0) := by
 intro a0 k
 have ih0 := impl_RowOk.mono_l k
 unfold impl_RowOk.f
 repeat' first
   | (with_reducible exact ih0 _ _ _ _)
   | (with_reducible exact impl_isCell.mono _ _ _ _ _ _ _ _)
   | (with_reducible exact LeO.refl _)
   | (with_reducible exact LeO.none _)
   | (with_reducible refine LeO.ite ?_ ?_)
   | (with_reducible refine LeO.bind ?_ (fun _ => ?_))
   | exact ih0 _ _ _ _
   | exact impl_isCell.mono _ _ _ _ _ _ _ _
   | exact LeO.none _
   | refine LeO.ite ?_ ?_
   | refine LeO.bind ?_ (fun _ => ?_)
def impl_RowOk.T5 : Bool × List (List Nat × List Nat) := (true, [([], []), ([0], [0]), ([1], [1]), ([2, 1], [2]), ([3], [3]), ([3], [3]), ([5, 3], [3, 5]), ([6, 3], [3, 6]), ([4, 7, 3], [3, 4, 7]), ([3, 8], [3, 8]), ([9, 3], [9]), ([10], [10]), ([11, 10, 10], [10, 11]), ([12], [12]), ([12], [12]), ([14, 12], [12, 14]), ([13, 15, 12], [12, 13, 15]), ([16, 12], [12, 16]), ([17, 12], [12, 17]), ([12], [12]), ([19, 12], [12, 19]), ([18, 20, 12], [12, 18, 20]), ([12, 21, 10], [10, 12, 21]), ([10, 22], [10, 22])])
def impl_RowOk.B5 : List Nat := [0, 1, 3, 7, 15, 15, 47, 111, 255, 511, 1023, 2047, 4095, 8191, 8191, 24575, 65535, 131071, 262143, 8191, 532479, 2097151, 4194303, 8388607]
theorem impl_RowOk.tab5 : rtab .any (opsOf Tryd.f21 5) = impl_RowOk.T5 := by kernel_rfl
theorem impl_RowOk.bits5 : waitsOk impl_RowOk.T5.2 impl_RowOk.B5 = true := by kernel_rfl
set_option maxHeartbeats 8000000 in
set_option maxRecDepth 100000 in
theorem impl_RowOk.calls (k : Nat) (A0 : Option Addr) (c0 : Nat) (l0 : List (S48)) (r : Bool) (w : World) (hr0 : Kd.C k48 w A0 l0.length l0) (hc0 : l0.length ≤ c0) (h : impl_RowOk.f k l0 = some r) :
  Calls Tryd.prog 21 #[.slice A0 l0.length c0] w fun e w' => e = .returned (.bool r) ∧ Below w.heap.size w w' := by
 have hu48 := Tryd.underlying48
 have hu37 := Tryd.underlying37
 have HR0 := am hr0
 have HC0 := am hc0
 clear hr0 hc0
 have HB := am (Below.refl w.heap.size w)
 have H : (impl_RowOk.l0 k l0 l0 (l0.length : Int) 0) = some r := h
 clear h
 have H' := am H
 clear H
 go_enter Tryd.func21, Tryd.ntmps21
 go_wp2
 go_loopg [8] k (fun kq v8 w' => ∃ (x8_1 : Int), v8 = .int .i64 x8_1 ∧ Aside0 (impl_RowOk.l0 kq l0 l0 (l0.length : Int) x8_1 = some r) ∧ Aside0 (kq ≤ k) ∧ Aside0 (Below w.heap.size w w'))
 case atStart => exact ⟨(0), (by first | rfl | (simp; done) | (simp [*]; done)), H', ⟨Nat.le_refl _⟩, ⟨rb HB⟩⟩
 case round =>
  clear H'
  obtain ⟨x8_1, rfl, HA, HK1, HB⟩ := hrel
  cases gk with
  | zero => exact absurd HA.out (by simp [impl_RowOk.l0])
  | succ k1 =>
   have H := HA.out
   clear HA
   simp only [impl_RowOk.l0] at H
   by_cases c2 : x8_1 < (l0.length : Int)
   ·rw [if_pos c2] at H
    have c2b0 : decide (x8_1 < (l0.length : Int)) = true := decide_eq_true c2
    clear c2
    by_cases c3 : 0 ≤ x8_1
    ·rw [if_pos c3] at H
     have c3b0 : decide (0 ≤ x8_1) = true := decide_eq_true c3
     clear c3
     by_cases c4 : x8_1 < (l0.length : Int)
     ·rw [if_pos c4] at H
      have c4b0 : decide (x8_1 < (l0.length : Int)) = true := decide_eq_true c4
      clear c4
      by_cases c5 : x8_1 > 0
      ·rw [if_pos c5] at H
       have c5b0 : decide (0 < x8_1) = true := decide_eq_true c5
       clear c5
       obtain ⟨ji6, hji6⟩ : ∃ j_ : Int, (wrap64 (x8_1 - 1)) = j_ := ⟨_, rfl⟩
       replace H : (if 0 ≤ (ji6) then (if (ji6) < (l0.length : Int) then ((impl_isCell.f k1 ((rd_T48 l0 x8_1).f0) ((rd_T48 l0 x8_1).f1.f0) ((rd_T48 l0 x8_1).f1.f1) ((rd_T48 l0 x8_1).f1.f2) ((rd_T48 l0 x8_1).f1.f3) ((rd_T48 l0 x8_1).f1.f4) ((rd_T48 l0 x8_1).f2)).bind fun t231 => (if t231 = true then (if ((((rd_T48 l0 (ji6)).f2) == 1) != (((rd_T48 l0 x8_1).f2) == 2)) = true then (some false) else (if ((rd_T48 l0 (ji6)).f2) = 1 then (if (!(((rd_T48 l0 (ji6)).f1.f0) == ((rd_T48 l0 x8_1).f1.f0)) || (!(((rd_T48 l0 (ji6)).f1.f1) == ((rd_T48 l0 x8_1).f1.f1)) || (!(((rd_T48 l0 (ji6)).f1.f2) == ((rd_T48 l0 x8_1).f1.f2)) || (!(((rd_T48 l0 (ji6)).f1.f3) == ((rd_T48 l0 x8_1).f1.f3)) || (!(((rd_T48 l0 (ji6)).f1.f4) == ((rd_T48 l0 x8_1).f1.f4))))))) = true then (some false) else (impl_RowOk.l0 k1 l0 l0 (l0.length : Int) (wrap64 (x8_1 + 1)))) else (impl_RowOk.l0 k1 l0 l0 (l0.length : Int) (wrap64 (x8_1 + 1))))) else (some false))) else (none)) else (none)) = some r := by first | (rw [hji6] at H; exact H) | (simp only [hji6] at H ⊢; exact H)
       have hji6w : (IntKind.i64.wrap (x8_1 - 1)) = ji6 := (i64_w _).trans hji6
       by_cases c7 : 0 ≤ (ji6)
       ·rw [if_pos c7] at H
        have c7b0 : decide (0 ≤ (ji6)) = true := decide_eq_true c7
        clear c7
        by_cases c8 : (ji6) < (l0.length : Int)
        ·rw [if_pos c8] at H
         have c8b0 : decide ((ji6) < (l0.length : Int)) = true := decide_eq_true c8
         clear c8
         replace H := Option.bind_eq_some_iff.mp H
         obtain ⟨t231, A90, H⟩ := H
         replace H : (if t231 = true then (if ((((rd_T48 l0 (ji6)).f2) == 1) != (((rd_T48 l0 x8_1).f2) == 2)) = true then (some false) else (if ((rd_T48 l0 (ji6)).f2) = 1 then (if (!(((rd_T48 l0 (ji6)).f1.f0) == ((rd_T48 l0 x8_1).f1.f0)) || (!(((rd_T48 l0 (ji6)).f1.f1) == ((rd_T48 l0 x8_1).f1.f1)) || (!(((rd_T48 l0 (ji6)).f1.f2) == ((rd_T48 l0 x8_1).f1.f2)) || (!(((rd_T48 l0 (ji6)).f1.f3) == ((rd_T48 l0 x8_1).f1.f3)) || (!(((rd_T48 l0 (ji6)).f1.f4) == ((rd_T48 l0 x8_1).f1.f4))))))) = true then (some false) else (impl_RowOk.l0 k1 l0 l0 (l0.length : Int) (wrap64 (x8_1 + 1)))) else (impl_RowOk.l0 k1 l0 l0 (l0.length : Int) (wrap64 (x8_1 + 1))))) else (some false)) = some r := H
         have A9 := am A90
         clear A90
         by_cases c10 : t231 = true
         ·subst c10
          have H1 : (if ((((rd_T48 l0 (ji6)).f2) == 1) != (((rd_T48 l0 x8_1).f2) == 2)) = true then (some false) else (if ((rd_T48 l0 (ji6)).f2) = 1 then (if (!(((rd_T48 l0 (ji6)).f1.f0) == ((rd_T48 l0 x8_1).f1.f0)) || (!(((rd_T48 l0 (ji6)).f1.f1) == ((rd_T48 l0 x8_1).f1.f1)) || (!(((rd_T48 l0 (ji6)).f1.f2) == ((rd_T48 l0 x8_1).f1.f2)) || (!(((rd_T48 l0 (ji6)).f1.f3) == ((rd_T48 l0 x8_1).f1.f3)) || (!(((rd_T48 l0 (ji6)).f1.f4) == ((rd_T48 l0 x8_1).f1.f4))))))) = true then (some false) else (impl_RowOk.l0 k1 l0 l0 (l0.length : Int) (wrap64 (x8_1 + 1)))) else (impl_RowOk.l0 k1 l0 l0 (l0.length : Int) (wrap64 (x8_1 + 1))))) = some r := by rw [if_pos rfl] at H; exact H
          clear H
          have H := H1
          clear H1
          by_cases c11 : ((((rd_T48 l0 (ji6)).f2) == 1) != (((rd_T48 l0 x8_1).f2) == 2)) = true
          ·rw [if_pos c11] at H
           have c11b0 : ((((rd_T48 l0 (ji6)).f2) == 1) != (((rd_T48 l0 x8_1).f2) == 2)) = true := c11
           (try (have c11b1 : decide ((((rd_T48 l0 (ji6)).f2) == 1) = (((rd_T48 l0 x8_1).f2) == 2)) = false := by simpa using c11))
           (try (have c11b2 : ((((rd_T48 l0 (ji6)).f2) == 1) == (((rd_T48 l0 x8_1).f2) == 2)) = false := by simpa using c11))
           (try (have c11b3 : ¬ ((((rd_T48 l0 (ji6)).f2) == 1) = (((rd_T48 l0 x8_1).f2) == 2)) := by simpa using c11))
           clear c11
           obtain rfl := Option.some.inj H
           have p228 : 0 ≤ (x8_1 : Int) := dt_
           have q228 : x8_1 < (l0.length : Int) := dt_
           obtain ⟨ad228, e228, hx228_0, hx228_1, hx228_2, hx228_3, hx228_4, hx228_5, hx228_6⟩ := at_T48 HR0.out x8_1 p228 q228
           cases e228
           replace hx228_0 := mv HB.out hx228_0
           replace hx228_1 := mv HB.out hx228_1
           replace hx228_2 := mv HB.out hx228_2
           replace hx228_3 := mv HB.out hx228_3
           replace hx228_4 := mv HB.out hx228_4
           replace hx228_5 := mv HB.out hx228_5
           replace hx228_6 := mv HB.out hx228_6
           replace p228 := eq_true p228
           replace q228 := eq_true q228
           try go_wp2_with (first | ((with_reducible refine gate_dst (N := 4) rfl ?_); (try (refine gate_guard (by rfl) ?_; dsimp only)); refine box_event ?hg (N := 4) ?hd (cs := #[.int .i64 0, .int .i64 0, .int .i64 0, .bool false, .bool false, .bool false, .int .i64 0]) (t := 48) ?hr ?_; (case hd => rfl); (case hg => rfl); (case hr => first | (go_simp; done) | (go_simp; rfl)); intro gb229 hg w12 hbox hb; have n0_ := am (below_step (rb HB) hb); have n1_ := am (hbox); have n2_ := am ((by rw [hg]; exact (below_size (rb HB)) : w.heap.size ≤ gb229)); have n3_ := am ((by rw [hg]; exact (below_size (rb HB)) : w.heap.size ≤ gb229)); clear HB; have HB := n0_; have BK229 := n1_; have GW229 := n2_; have GE229 := n3_; clear n0_ n1_ n2_ n3_; clear hb hbox hg; have hcz13_0 : w12.cell? ⟨gb229, 0, none⟩ = some (.int .i64 0) := (blk_cell BK229.out 0).trans rfl; have hcz13_1 : w12.cell? ⟨gb229, 1, none⟩ = some (.int .i64 0) := (blk_cell BK229.out 1).trans rfl; have hcz13_2 : w12.cell? ⟨gb229, 2, none⟩ = some (.int .i64 0) := (blk_cell BK229.out 2).trans rfl; have hcz13_3 : w12.cell? ⟨gb229, 3, none⟩ = some (.bool false) := (blk_cell BK229.out 3).trans rfl; have hcz13_4 : w12.cell? ⟨gb229, 4, none⟩ = some (.bool false) := (blk_cell BK229.out 4).trans rfl; have hcz13_5 : w12.cell? ⟨gb229, 5, none⟩ = some (.bool false) := (blk_cell BK229.out 5).trans rfl; have hcz13_6 : w12.cell? ⟨gb229, 6, none⟩ = some (.int .i64 0) := (blk_cell BK229.out 6).trans rfl; have hfz13_0 := blk_frozen BK229.out 0; have hfz13_1 := blk_frozen BK229.out 1; have hfz13_2 := blk_frozen BK229.out 2; have hfz13_3 := blk_frozen BK229.out 3; have hfz13_4 := blk_frozen BK229.out 4; have hfz13_5 := blk_frozen BK229.out 5; have hfz13_6 := blk_frozen BK229.out 6; have p230 : 0 ≤ ((ji6) : Int) := dt_; have q230 : (ji6) < (l0.length : Int) := dt_; obtain ⟨ad230, e230, hx230_0, hx230_1, hx230_2, hx230_3, hx230_4, hx230_5, hx230_6⟩ := at_T48 HR0.out (ji6) p230 q230; obtain rfl : ad228 = ad230 := (by injection e230); have hn230_0 : ad228.block ≠ gb229 := Nat.ne_of_lt (Nat.lt_of_lt_of_le (by have := World.block_lt_of_cell? _ _ hx230_0; first | rwa [add_block] at this | exact this) GW229.out); have hn230_1 : ad228.block ≠ gb229 := Nat.ne_of_lt (Nat.lt_of_lt_of_le (by have := World.block_lt_of_cell? _ _ hx230_0; first | rwa [add_block] at this | exact this) GW229.out); have hn230_2 : ad228.block ≠ gb229 := Nat.ne_of_lt (Nat.lt_of_lt_of_le (by have := World.block_lt_of_cell? _ _ hx230_0; first | rwa [add_block] at this | exact this) GW229.out); have hn230_3 : ad228.block ≠ gb229 := Nat.ne_of_lt (Nat.lt_of_lt_of_le (by have := World.block_lt_of_cell? _ _ hx230_0; first | rwa [add_block] at this | exact this) GW229.out); have hn230_4 : ad228.block ≠ gb229 := Nat.ne_of_lt (Nat.lt_of_lt_of_le (by have := World.block_lt_of_cell? _ _ hx230_0; first | rwa [add_block] at this | exact this) GW229.out); have hn230_5 : ad228.block ≠ gb229 := Nat.ne_of_lt (Nat.lt_of_lt_of_le (by have := World.block_lt_of_cell? _ _ hx230_0; first | rwa [add_block] at this | exact this) GW229.out); have hn230_6 : ad228.block ≠ gb229 := Nat.ne_of_lt (Nat.lt_of_lt_of_le (by have := World.block_lt_of_cell? _ _ hx230_0; first | rwa [add_block] at this | exact this) GW229.out); replace hx230_0 := (HB.out.cell (World.block_lt_of_cell? w _ hx230_0)).trans hx230_0; replace hx230_1 := (HB.out.cell (World.block_lt_of_cell? w _ hx230_1)).trans hx230_1; replace hx230_2 := (HB.out.cell (World.block_lt_of_cell? w _ hx230_2)).trans hx230_2; replace hx230_3 := (HB.out.cell (World.block_lt_of_cell? w _ hx230_3)).trans hx230_3; replace hx230_4 := (HB.out.cell (World.block_lt_of_cell? w _ hx230_4)).trans hx230_4; replace hx230_5 := (HB.out.cell (World.block_lt_of_cell? w _ hx230_5)).trans hx230_5; replace hx230_6 := (HB.out.cell (World.block_lt_of_cell? w _ hx230_6)).trans hx230_6; replace hx230_0 := (cell_far (p := ⟨gb229, 0, none⟩) (by first | (rw [add_block]; exact hn230_0) | (show (Addr.add _ _).block ≠ _; rw [add_block]; exact hn230_0) | exact hn230_0) (.int .i64 ((rd_T48 l0 x8_1).f0))).trans hx230_0; replace hx230_1 := (cell_far (p := ⟨gb229, 0, none⟩) (by first | (rw [add_block]; exact hn230_0) | (show (Addr.add _ _).block ≠ _; rw [add_block]; exact hn230_0) | exact hn230_0) (.int .i64 ((rd_T48 l0 x8_1).f0))).trans hx230_1; replace hx230_2 := (cell_far (p := ⟨gb229, 0, none⟩) (by first | (rw [add_block]; exact hn230_0) | (show (Addr.add _ _).block ≠ _; rw [add_block]; exact hn230_0) | exact hn230_0) (.int .i64 ((rd_T48 l0 x8_1).f0))).trans hx230_2; replace hx230_3 := (cell_far (p := ⟨gb229, 0, none⟩) (by first | (rw [add_block]; exact hn230_0) | (show (Addr.add _ _).block ≠ _; rw [add_block]; exact hn230_0) | exact hn230_0) (.int .i64 ((rd_T48 l0 x8_1).f0))).trans hx230_3; replace hx230_4 := (cell_far (p := ⟨gb229, 0, none⟩) (by first | (rw [add_block]; exact hn230_0) | (show (Addr.add _ _).block ≠ _; rw [add_block]; exact hn230_0) | exact hn230_0) (.int .i64 ((rd_T48 l0 x8_1).f0))).trans hx230_4; replace hx230_5 := (cell_far (p := ⟨gb229, 0, none⟩) (by first | (rw [add_block]; exact hn230_0) | (show (Addr.add _ _).block ≠ _; rw [add_block]; exact hn230_0) | exact hn230_0) (.int .i64 ((rd_T48 l0 x8_1).f0))).trans hx230_5; replace hx230_6 := (cell_far (p := ⟨gb229, 0, none⟩) (by first | (rw [add_block]; exact hn230_0) | (show (Addr.add _ _).block ≠ _; rw [add_block]; exact hn230_0) | exact hn230_0) (.int .i64 ((rd_T48 l0 x8_1).f0))).trans hx230_6; replace hx230_0 := (cell_far (p := ⟨gb229, 1, none⟩) (by first | (rw [add_block]; exact hn230_1) | (show (Addr.add _ _).block ≠ _; rw [add_block]; exact hn230_1) | exact hn230_1) (.int .i64 ((rd_T48 l0 x8_1).f1.f0))).trans hx230_0; replace hx230_1 := (cell_far (p := ⟨gb229, 1, none⟩) (by first | (rw [add_block]; exact hn230_1) | (show (Addr.add _ _).block ≠ _; rw [add_block]; exact hn230_1) | exact hn230_1) (.int .i64 ((rd_T48 l0 x8_1).f1.f0))).trans hx230_1; replace hx230_2 := (cell_far (p := ⟨gb229, 1, none⟩) (by first | (rw [add_block]; exact hn230_1) | (show (Addr.add _ _).block ≠ _; rw [add_block]; exact hn230_1) | exact hn230_1) (.int .i64 ((rd_T48 l0 x8_1).f1.f0))).trans hx230_2; replace hx230_3 := (cell_far (p := ⟨gb229, 1, none⟩) (by first | (rw [add_block]; exact hn230_1) | (show (Addr.add _ _).block ≠ _; rw [add_block]; exact hn230_1) | exact hn230_1) (.int .i64 ((rd_T48 l0 x8_1).f1.f0))).trans hx230_3; replace hx230_4 := (cell_far (p := ⟨gb229, 1, none⟩) (by first | (rw [add_block]; exact hn230_1) | (show (Addr.add _ _).block ≠ _; rw [add_block]; exact hn230_1) | exact hn230_1) (.int .i64 ((rd_T48 l0 x8_1).f1.f0))).trans hx230_4; replace hx230_5 := (cell_far (p := ⟨gb229, 1, none⟩) (by first | (rw [add_block]; exact hn230_1) | (show (Addr.add _ _).block ≠ _; rw [add_block]; exact hn230_1) | exact hn230_1) (.int .i64 ((rd_T48 l0 x8_1).f1.f0))).trans hx230_5; replace hx230_6 := (cell_far (p := ⟨gb229, 1, none⟩) (by first | (rw [add_block]; exact hn230_1) | (show (Addr.add _ _).block ≠ _; rw [add_block]; exact hn230_1) | exact hn230_1) (.int .i64 ((rd_T48 l0 x8_1).f1.f0))).trans hx230_6; replace hx230_0 := (cell_far (p := ⟨gb229, 2, none⟩) (by first | (rw [add_block]; exact hn230_2) | (show (Addr.add _ _).block ≠ _; rw [add_block]; exact hn230_2) | exact hn230_2) (.int .i64 ((rd_T48 l0 x8_1).f1.f1))).trans hx230_0; replace hx230_1 := (cell_far (p := ⟨gb229, 2, none⟩) (by first | (rw [add_block]; exact hn230_2) | (show (Addr.add _ _).block ≠ _; rw [add_block]; exact hn230_2) | exact hn230_2) (.int .i64 ((rd_T48 l0 x8_1).f1.f1))).trans hx230_1; replace hx230_2 := (cell_far (p := ⟨gb229, 2, none⟩) (by first | (rw [add_block]; exact hn230_2) | (show (Addr.add _ _).block ≠ _; rw [add_block]; exact hn230_2) | exact hn230_2) (.int .i64 ((rd_T48 l0 x8_1).f1.f1))).trans hx230_2; replace hx230_3 := (cell_far (p := ⟨gb229, 2, none⟩) (by first | (rw [add_block]; exact hn230_2) | (show (Addr.add _ _).block ≠ _; rw [add_block]; exact hn230_2) | exact hn230_2) (.int .i64 ((rd_T48 l0 x8_1).f1.f1))).trans hx230_3; replace hx230_4 := (cell_far (p := ⟨gb229, 2, none⟩) (by first | (rw [add_block]; exact hn230_2) | (show (Addr.add _ _).block ≠ _; rw [add_block]; exact hn230_2) | exact hn230_2) (.int .i64 ((rd_T48 l0 x8_1).f1.f1))).trans hx230_4; replace hx230_5 := (cell_far (p := ⟨gb229, 2, none⟩) (by first | (rw [add_block]; exact hn230_2) | (show (Addr.add _ _).block ≠ _; rw [add_block]; exact hn230_2) | exact hn230_2) (.int .i64 ((rd_T48 l0 x8_1).f1.f1))).trans hx230_5; replace hx230_6 := (cell_far (p := ⟨gb229, 2, none⟩) (by first | (rw [add_block]; exact hn230_2) | (show (Addr.add _ _).block ≠ _; rw [add_block]; exact hn230_2) | exact hn230_2) (.int .i64 ((rd_T48 l0 x8_1).f1.f1))).trans hx230_6; replace hx230_0 := (cell_far (p := ⟨gb229, 3, none⟩) (by first | (rw [add_block]; exact hn230_3) | (show (Addr.add _ _).block ≠ _; rw [add_block]; exact hn230_3) | exact hn230_3) (.bool ((rd_T48 l0 x8_1).f1.f2))).trans hx230_0; replace hx230_1 := (cell_far (p := ⟨gb229, 3, none⟩) (by first | (rw [add_block]; exact hn230_3) | (show (Addr.add _ _).block ≠ _; rw [add_block]; exact hn230_3) | exact hn230_3) (.bool ((rd_T48 l0 x8_1).f1.f2))).trans hx230_1; replace hx230_2 := (cell_far (p := ⟨gb229, 3, none⟩) (by first | (rw [add_block]; exact hn230_3) | (show (Addr.add _ _).block ≠ _; rw [add_block]; exact hn230_3) | exact hn230_3) (.bool ((rd_T48 l0 x8_1).f1.f2))).trans hx230_2; replace hx230_3 := (cell_far (p := ⟨gb229, 3, none⟩) (by first | (rw [add_block]; exact hn230_3) | (show (Addr.add _ _).block ≠ _; rw [add_block]; exact hn230_3) | exact hn230_3) (.bool ((rd_T48 l0 x8_1).f1.f2))).trans hx230_3; replace hx230_4 := (cell_far (p := ⟨gb229, 3, none⟩) (by first | (rw [add_block]; exact hn230_3) | (show (Addr.add _ _).block ≠ _; rw [add_block]; exact hn230_3) | exact hn230_3) (.bool ((rd_T48 l0 x8_1).f1.f2))).trans hx230_4; replace hx230_5 := (cell_far (p := ⟨gb229, 3, none⟩) (by first | (rw [add_block]; exact hn230_3) | (show (Addr.add _ _).block ≠ _; rw [add_block]; exact hn230_3) | exact hn230_3) (.bool ((rd_T48 l0 x8_1).f1.f2))).trans hx230_5; replace hx230_6 := (cell_far (p := ⟨gb229, 3, none⟩) (by first | (rw [add_block]; exact hn230_3) | (show (Addr.add _ _).block ≠ _; rw [add_block]; exact hn230_3) | exact hn230_3) (.bool ((rd_T48 l0 x8_1).f1.f2))).trans hx230_6; replace hx230_0 := (cell_far (p := ⟨gb229, 4, none⟩) (by first | (rw [add_block]; exact hn230_4) | (show (Addr.add _ _).block ≠ _; rw [add_block]; exact hn230_4) | exact hn230_4) (.bool ((rd_T48 l0 x8_1).f1.f3))).trans hx230_0; replace hx230_1 := (cell_far (p := ⟨gb229, 4, none⟩) (by first | (rw [add_block]; exact hn230_4) | (show (Addr.add _ _).block ≠ _; rw [add_block]; exact hn230_4) | exact hn230_4) (.bool ((rd_T48 l0 x8_1).f1.f3))).trans hx230_1; replace hx230_2 := (cell_far (p := ⟨gb229, 4, none⟩) (by first | (rw [add_block]; exact hn230_4) | (show (Addr.add _ _).block ≠ _; rw [add_block]; exact hn230_4) | exact hn230_4) (.bool ((rd_T48 l0 x8_1).f1.f3))).trans hx230_2; replace hx230_3 := (cell_far (p := ⟨gb229, 4, none⟩) (by first | (rw [add_block]; exact hn230_4) | (show (Addr.add _ _).block ≠ _; rw [add_block]; exact hn230_4) | exact hn230_4) (.bool ((rd_T48 l0 x8_1).f1.f3))).trans hx230_3; replace hx230_4 := (cell_far (p := ⟨gb229, 4, none⟩) (by first | (rw [add_block]; exact hn230_4) | (show (Addr.add _ _).block ≠ _; rw [add_block]; exact hn230_4) | exact hn230_4) (.bool ((rd_T48 l0 x8_1).f1.f3))).trans hx230_4; replace hx230_5 := (cell_far (p := ⟨gb229, 4, none⟩) (by first | (rw [add_block]; exact hn230_4) | (show (Addr.add _ _).block ≠ _; rw [add_block]; exact hn230_4) | exact hn230_4) (.bool ((rd_T48 l0 x8_1).f1.f3))).trans hx230_5; replace hx230_6 := (cell_far (p := ⟨gb229, 4, none⟩) (by first | (rw [add_block]; exact hn230_4) | (show (Addr.add _ _).block ≠ _; rw [add_block]; exact hn230_4) | exact hn230_4) (.bool ((rd_T48 l0 x8_1).f1.f3))).trans hx230_6; replace hx230_0 := (cell_far (p := ⟨gb229, 5, none⟩) (by first | (rw [add_block]; exact hn230_5) | (show (Addr.add _ _).block ≠ _; rw [add_block]; exact hn230_5) | exact hn230_5) (.bool ((rd_T48 l0 x8_1).f1.f4))).trans hx230_0; replace hx230_1 := (cell_far (p := ⟨gb229, 5, none⟩) (by first | (rw [add_block]; exact hn230_5) | (show (Addr.add _ _).block ≠ _; rw [add_block]; exact hn230_5) | exact hn230_5) (.bool ((rd_T48 l0 x8_1).f1.f4))).trans hx230_1; replace hx230_2 := (cell_far (p := ⟨gb229, 5, none⟩) (by first | (rw [add_block]; exact hn230_5) | (show (Addr.add _ _).block ≠ _; rw [add_block]; exact hn230_5) | exact hn230_5) (.bool ((rd_T48 l0 x8_1).f1.f4))).trans hx230_2; replace hx230_3 := (cell_far (p := ⟨gb229, 5, none⟩) (by first | (rw [add_block]; exact hn230_5) | (show (Addr.add _ _).block ≠ _; rw [add_block]; exact hn230_5) | exact hn230_5) (.bool ((rd_T48 l0 x8_1).f1.f4))).trans hx230_3; replace hx230_4 := (cell_far (p := ⟨gb229, 5, none⟩) (by first | (rw [add_block]; exact hn230_5) | (show (Addr.add _ _).block ≠ _; rw [add_block]; exact hn230_5) | exact hn230_5) (.bool ((rd_T48 l0 x8_1).f1.f4))).trans hx230_4; replace hx230_5 := (cell_far (p := ⟨gb229, 5, none⟩) (by first | (rw [add_block]; exact hn230_5) | (show (Addr.add _ _).block ≠ _; rw [add_block]; exact hn230_5) | exact hn230_5) (.bool ((rd_T48 l0 x8_1).f1.f4))).trans hx230_5; replace hx230_6 := (cell_far (p := ⟨gb229, 5, none⟩) (by first | (rw [add_block]; exact hn230_5) | (show (Addr.add _ _).block ≠ _; rw [add_block]; exact hn230_5) | exact hn230_5) (.bool ((rd_T48 l0 x8_1).f1.f4))).trans hx230_6; replace hx230_0 := (cell_far (p := ⟨gb229, 6, none⟩) (by first | (rw [add_block]; exact hn230_6) | (show (Addr.add _ _).block ≠ _; rw [add_block]; exact hn230_6) | exact hn230_6) (.int .i64 ((rd_T48 l0 x8_1).f2))).trans hx230_0; replace hx230_1 := (cell_far (p := ⟨gb229, 6, none⟩) (by first | (rw [add_block]; exact hn230_6) | (show (Addr.add _ _).block ≠ _; rw [add_block]; exact hn230_6) | exact hn230_6) (.int .i64 ((rd_T48 l0 x8_1).f2))).trans hx230_1; replace hx230_2 := (cell_far (p := ⟨gb229, 6, none⟩) (by first | (rw [add_block]; exact hn230_6) | (show (Addr.add _ _).block ≠ _; rw [add_block]; exact hn230_6) | exact hn230_6) (.int .i64 ((rd_T48 l0 x8_1).f2))).trans hx230_2; replace hx230_3 := (cell_far (p := ⟨gb229, 6, none⟩) (by first | (rw [add_block]; exact hn230_6) | (show (Addr.add _ _).block ≠ _; rw [add_block]; exact hn230_6) | exact hn230_6) (.int .i64 ((rd_T48 l0 x8_1).f2))).trans hx230_3; replace hx230_4 := (cell_far (p := ⟨gb229, 6, none⟩) (by first | (rw [add_block]; exact hn230_6) | (show (Addr.add _ _).block ≠ _; rw [add_block]; exact hn230_6) | exact hn230_6) (.int .i64 ((rd_T48 l0 x8_1).f2))).trans hx230_4; replace hx230_5 := (cell_far (p := ⟨gb229, 6, none⟩) (by first | (rw [add_block]; exact hn230_6) | (show (Addr.add _ _).block ≠ _; rw [add_block]; exact hn230_6) | exact hn230_6) (.int .i64 ((rd_T48 l0 x8_1).f2))).trans hx230_5; replace hx230_6 := (cell_far (p := ⟨gb229, 6, none⟩) (by first | (rw [add_block]; exact hn230_6) | (show (Addr.add _ _).block ≠ _; rw [add_block]; exact hn230_6) | exact hn230_6) (.int .i64 ((rd_T48 l0 x8_1).f2))).trans hx230_6; clear hn230_0; clear hn230_1; clear hn230_2; clear hn230_3; clear hn230_4; clear hn230_5; clear hn230_6; replace p230 := eq_true p230; replace q230 := eq_true q230))
           have n0_ : Aside0 ((((((((w12.setCell ⟨gb229, 0, none⟩ (.int .i64 ((rd_T48 l0 x8_1).f0))).setCell ⟨gb229, 1, none⟩ (.int .i64 ((rd_T48 l0 x8_1).f1.f0))).setCell ⟨gb229, 2, none⟩ (.int .i64 ((rd_T48 l0 x8_1).f1.f1))).setCell ⟨gb229, 3, none⟩ (.bool ((rd_T48 l0 x8_1).f1.f2))).setCell ⟨gb229, 4, none⟩ (.bool ((rd_T48 l0 x8_1).f1.f3))).setCell ⟨gb229, 5, none⟩ (.bool ((rd_T48 l0 x8_1).f1.f4))).setCell ⟨gb229, 6, none⟩ (.int .i64 ((rd_T48 l0 x8_1).f2))).heap[gb229]? = some (.cells #[.int .i64 ((rd_T48 l0 x8_1).f0), .int .i64 ((rd_T48 l0 x8_1).f1.f0), .int .i64 ((rd_T48 l0 x8_1).f1.f1), .bool ((rd_T48 l0 x8_1).f1.f2), .bool ((rd_T48 l0 x8_1).f1.f3), .bool ((rd_T48 l0 x8_1).f1.f4), .int .i64 ((rd_T48 l0 x8_1).f2)] 48 (0, 0))) := ⟨by (with_reducible repeat (first | apply k1 | apply k2 | apply k3)); refine blk_put (cs := #[.int .i64 ((rd_T48 l0 x8_1).f0), .int .i64 ((rd_T48 l0 x8_1).f1.f0), .int .i64 ((rd_T48 l0 x8_1).f1.f1), .bool ((rd_T48 l0 x8_1).f1.f2), .bool ((rd_T48 l0 x8_1).f1.f3), .bool ((rd_T48 l0 x8_1).f1.f4), .int .i64 0]) ?_ 6 _ rfl; (with_reducible repeat (first | apply k1 | apply k2 | apply k3)); refine blk_put (cs := #[.int .i64 ((rd_T48 l0 x8_1).f0), .int .i64 ((rd_T48 l0 x8_1).f1.f0), .int .i64 ((rd_T48 l0 x8_1).f1.f1), .bool ((rd_T48 l0 x8_1).f1.f2), .bool ((rd_T48 l0 x8_1).f1.f3), .bool false, .int .i64 0]) ?_ 5 _ rfl; (with_reducible repeat (first | apply k1 | apply k2 | apply k3)); refine blk_put (cs := #[.int .i64 ((rd_T48 l0 x8_1).f0), .int .i64 ((rd_T48 l0 x8_1).f1.f0), .int .i64 ((rd_T48 l0 x8_1).f1.f1), .bool ((rd_T48 l0 x8_1).f1.f2), .bool false, .bool false, .int .i64 0]) ?_ 4 _ rfl; (with_reducible repeat (first | apply k1 | apply k2 | apply k3)); refine blk_put (cs := #[.int .i64 ((rd_T48 l0 x8_1).f0), .int .i64 ((rd_T48 l0 x8_1).f1.f0), .int .i64 ((rd_T48 l0 x8_1).f1.f1), .bool false, .bool false, .bool false, .int .i64 0]) ?_ 3 _ rfl; (with_reducible repeat (first | apply k1 | apply k2 | apply k3)); refine blk_put (cs := #[.int .i64 ((rd_T48 l0 x8_1).f0), .int .i64 ((rd_T48 l0 x8_1).f1.f0), .int .i64 0, .bool false, .bool false, .bool false, .int .i64 0]) ?_ 2 _ rfl; (with_reducible repeat (first | apply k1 | apply k2 | apply k3)); refine blk_put (cs := #[.int .i64 ((rd_T48 l0 x8_1).f0), .int .i64 0, .int .i64 0, .bool false, .bool false, .bool false, .int .i64 0]) ?_ 1 _ rfl; (with_reducible repeat (first | apply k1 | apply k2 | apply k3)); refine blk_put (cs := #[.int .i64 0, .int .i64 0, .int .i64 0, .bool false, .bool false, .bool false, .int .i64 0]) ?_ 0 _ rfl; (with_reducible repeat (first | apply k1 | apply k2 | apply k3)); exact BK229.out⟩
           have n1_ : Aside0 (Below w.heap.size w (((((((w12.setCell ⟨gb229, 0, none⟩ (.int .i64 ((rd_T48 l0 x8_1).f0))).setCell ⟨gb229, 1, none⟩ (.int .i64 ((rd_T48 l0 x8_1).f1.f0))).setCell ⟨gb229, 2, none⟩ (.int .i64 ((rd_T48 l0 x8_1).f1.f1))).setCell ⟨gb229, 3, none⟩ (.bool ((rd_T48 l0 x8_1).f1.f2))).setCell ⟨gb229, 4, none⟩ (.bool ((rd_T48 l0 x8_1).f1.f3))).setCell ⟨gb229, 5, none⟩ (.bool ((rd_T48 l0 x8_1).f1.f4))).setCell ⟨gb229, 6, none⟩ (.int .i64 ((rd_T48 l0 x8_1).f2)))) := ⟨by repeat (first | (with_reducible first | exact HB.out | apply b1 | apply b2 | apply b3 | refine below_set ?_ GE229.out) | exact HB.out)⟩
           (try clear BK229)
           (try clear HB)
           generalize (((((((w12.setCell ⟨gb229, 0, none⟩ (.int .i64 ((rd_T48 l0 x8_1).f0))).setCell ⟨gb229, 1, none⟩ (.int .i64 ((rd_T48 l0 x8_1).f1.f0))).setCell ⟨gb229, 2, none⟩ (.int .i64 ((rd_T48 l0 x8_1).f1.f1))).setCell ⟨gb229, 3, none⟩ (.bool ((rd_T48 l0 x8_1).f1.f2))).setCell ⟨gb229, 4, none⟩ (.bool ((rd_T48 l0 x8_1).f1.f3))).setCell ⟨gb229, 5, none⟩ (.bool ((rd_T48 l0 x8_1).f1.f4))).setCell ⟨gb229, 6, none⟩ (.int .i64 ((rd_T48 l0 x8_1).f2))) = w14 at n0_ n1_ ⊢
           have BK229 := n0_
           have HB := n1_
           clear n0_ n1_
           have n0_ := am (blk_drew BK229.out)
           have n1_ := am (below_drew1 HB.out)
           clear BK229
           clear HB
           have BK229 := n0_
           have HB := n1_
           clear n0_ n1_
           refine start_ (n := 24) (S := fun w' => w'.cell? ⟨gb229, 0, none⟩ = some (.int .i64 ((rd_T48 l0 x8_1).f0)) ∧ w'.cell? ⟨gb229, 1, none⟩ = some (.int .i64 ((rd_T48 l0 x8_1).f1.f0)) ∧ w'.cell? ⟨gb229, 2, none⟩ = some (.int .i64 ((rd_T48 l0 x8_1).f1.f1)) ∧ w'.cell? ⟨gb229, 3, none⟩ = some (.bool ((rd_T48 l0 x8_1).f1.f2)) ∧ w'.cell? ⟨gb229, 4, none⟩ = some (.bool ((rd_T48 l0 x8_1).f1.f3)) ∧ w'.cell? ⟨gb229, 5, none⟩ = some (.bool ((rd_T48 l0 x8_1).f1.f4)) ∧ w'.cell? ⟨gb229, 6, none⟩ = some (.int .i64 ((rd_T48 l0 x8_1).f2))) (ds := []) (bm 24 0) (by kernel_rfl) rfl rfl ⟨(blk_cell BK229.out 0).trans rfl, (blk_cell BK229.out 1).trans rfl, (blk_cell BK229.out 2).trans rfl, (blk_cell BK229.out 3).trans rfl, (blk_cell BK229.out 4).trans rfl, (blk_cell BK229.out 5).trans rfl, (blk_cell BK229.out 6).trans rfl⟩ (fun hHeld => ?_); refine with_tabW impl_RowOk.tab5 impl_RowOk.bits5 (fun HT_ HW_ => ?_)
           generalize w14.drew = w15 at BK229 HB hHeld ⊢
           refine take_ (i := 0) (N := some 24) (v := ?_) (a' := ?_) (bm 24 1) rfl rfl (take_ofW HT_.out HW_.out (by kernel_rfl)) (fun _ _ _ h => h) (Or.inl ⟨by rfl, ?_⟩) hHeld ?_ ?_
           rotate_left
           ·rintro w' ⟨s0, s1, s2, s3, s4, s5, s6⟩
            go_simp
            with_reducible rfl
           rotate_left
           ·simp only [Act.put, List.setIfInBounds_toArray, List.set_cons_zero, List.set_cons_succ, i64_w, i32_w]
            rfl
           refine one_ (i := 1) (N := some 25) (bm 24 3) rfl rfl (one_of HT_.out (by kernel_rfl)) (by decide) (fun K hK => ?_)
           refine goes_ Tryd.func56 (by kernel_rfl) rfl #[.agg #[.int .i64 ((rd_T48 l0 x8_1).f0), .int .i64 ((rd_T48 l0 x8_1).f1.f0), .int .i64 ((rd_T48 l0 x8_1).f1.f1), .bool ((rd_T48 l0 x8_1).f1.f2), .bool ((rd_T48 l0 x8_1).f1.f3), .bool ((rd_T48 l0 x8_1).f1.f4), .int .i64 ((rd_T48 l0 x8_1).f2)]] (by rfl) rfl rfl (by (try simp only [List.map_toArray, List.map_cons, List.map_nil]); first | done | rfl | (simp only [List.length_drop, List.length_take]; rfl)) ?_
           with_reducible refine (impl_isCell.calls k1 ((rd_T48 l0 x8_1).f0) ((rd_T48 l0 x8_1).f1.f0) ((rd_T48 l0 x8_1).f1.f1) ((rd_T48 l0 x8_1).f1.f2) ((rd_T48 l0 x8_1).f1.f3) ((rd_T48 l0 x8_1).f1.f4) ((rd_T48 l0 x8_1).f2) true _ A9.out).mono ?_
           rintro e w16 ⟨rfl, hb⟩
           refine ⟨_, rfl, ?_⟩
           have n0_ := am (blk_below (g := gb229) (o := .cells #[.int .i64 ((rd_T48 l0 x8_1).f0), .int .i64 ((rd_T48 l0 x8_1).f1.f0), .int .i64 ((rd_T48 l0 x8_1).f1.f1), .bool ((rd_T48 l0 x8_1).f1.f2), .bool ((rd_T48 l0 x8_1).f1.f3), .bool ((rd_T48 l0 x8_1).f1.f4), .int .i64 ((rd_T48 l0 x8_1).f2)] 48 (0, 0)) (rk BK229) hb)
           have n1_ := am (below_step (rb1 HB GE229) hb)
           clear BK229
           clear HB
           have BK229 := n0_
           have HB := n1_
           clear n0_ n1_
           (try clear hb)
           (try clear hb2)
           (try clear hk)
           (try clear hi)
           refine hK.out _ _ ⟨(blk_cell BK229.out 0).trans rfl, (blk_cell BK229.out 1).trans rfl, (blk_cell BK229.out 2).trans rfl, (blk_cell BK229.out 3).trans rfl, (blk_cell BK229.out 4).trans rfl, (blk_cell BK229.out 5).trans rfl, (blk_cell BK229.out 6).trans rfl⟩ (fun hHeld => ?_)
           clear hK K
           refine norm_ (a' := ?_) ?_ ?_
           rotate_left
           ·show Act.put _ (some 25) _ = _
            simp only [Act.put, List.setIfInBounds_toArray, List.set_cons_zero, List.set_cons_succ, i64_w, i32_w]
            rfl
           refine pu_ 2 26 (bm 24 7) HT_.out ?_
           refine pu_ 3 27 (bm 24 15) HT_.out ?_
           refine pu_ 4 28 (bm 24 31) HT_.out ?_
           refine pu_ 5 29 (bm 24 63) HT_.out ?_
           refine take_ (i := 6) (N := some 30) (v := ?_) (a' := ?_) (bm 24 127) rfl rfl (take_ofW HT_.out HW_.out (by kernel_rfl)) (fun _ _ _ h => h) (Or.inl ⟨by rfl, ?_⟩) hHeld ?_ ?_
           rotate_left
           ·rintro w' ⟨s0, s1, s2, s3, s4, s5, s6⟩
            go_simp
            with_reducible rfl
           rotate_left
           ·simp only [Act.put, List.setIfInBounds_toArray, List.set_cons_zero, List.set_cons_succ, i64_w, i32_w]
            rfl
           refine pu_ 7 31 (bm 24 255) HT_.out ?_
           refine pu_ 8 32 (bm 24 511) HT_.out ?_
           refine pu_ 9 33 (bm 24 1023) HT_.out ?_
           refine pu_ 10 34 (bm 24 2047) HT_.out ?_
           refine un_ 11 35 (bm 24 4095) HT_.out ?_
           refine un_ 12 36 (bm 24 8191) HT_.out ?_
           refine un_ 13 37 (bm 24 16383) HT_.out ?_
           refine un_ 14 38 (bm 24 32767) HT_.out ?_
           refine un_ 15 39 (bm 24 65535) HT_.out ?_
           refine un_ 16 40 (bm 24 131071) HT_.out ?_
           refine un_ 17 41 (bm 24 262143) HT_.out ?_
           refine un_ 18 42 (bm 24 524287) HT_.out ?_
           refine un_ 19 43 (bm 24 1048575) HT_.out ?_
           refine un_ 20 44 (bm 24 2097151) HT_.out ?_
           refine un_ 21 45 (bm 24 4194303) HT_.out ?_
           refine un_ 22 46 (bm 24 8388607) HT_.out ?_
           refine pu_ 23 47 (bm 24 16777215) HT_.out ?_
           refine done_ (done_of HT_.out (by kernel_rfl)) ?_
           try go_wp2
           go_ret
           exact ⟨by first | rfl | (simp [errW_none, errW_some] <;> rfl) | (simp only [← hji6]; first | rfl | (simp [errW_none, errW_some] <;> rfl)) | (simp [*, errW_none, errW_some] <;> rfl), by repeat (first | (with_reducible first | exact HB.out | apply b1 | apply b2 | apply b3 | refine below_set ?_ GE229.out) | exact HB.out)⟩
          ·rw [if_neg c11] at H
           have c11b0 : ((((rd_T48 l0 (ji6)).f2) == 1) != (((rd_T48 l0 x8_1).f2) == 2)) = false := by simpa using c11
           (try (have c11b1 : decide ((((rd_T48 l0 (ji6)).f2) == 1) = (((rd_T48 l0 x8_1).f2) == 2)) = true := by simpa using c11))
           (try (have c11b2 : ((((rd_T48 l0 (ji6)).f2) == 1) == (((rd_T48 l0 x8_1).f2) == 2)) = true := by simpa using c11))
           clear c11
           by_cases c17 : ((rd_T48 l0 (ji6)).f2) = 1
           ·rw [if_pos c17] at H
            have c17b0 : (((rd_T48 l0 (ji6)).f2) == 1) = true := beq_iff_eq.mpr c17
            (try (have c17e : (((rd_T48 l0 x8_1).f2) == 2) = true := by have h_ := c11b0; rw [c17b0] at h_; revert h_; cases (((rd_T48 l0 x8_1).f2) == 2) <;> decide))
            have c17b1 : (((rd_T48 l0 (ji6)).f2) != 1) = false := bne_eq_false_iff_eq.mpr c17
            clear c17
            by_cases c18 : (!(((rd_T48 l0 (ji6)).f1.f0) == ((rd_T48 l0 x8_1).f1.f0)) || (!(((rd_T48 l0 (ji6)).f1.f1) == ((rd_T48 l0 x8_1).f1.f1)) || (!(((rd_T48 l0 (ji6)).f1.f2) == ((rd_T48 l0 x8_1).f1.f2)) || (!(((rd_T48 l0 (ji6)).f1.f3) == ((rd_T48 l0 x8_1).f1.f3)) || (!(((rd_T48 l0 (ji6)).f1.f4) == ((rd_T48 l0 x8_1).f1.f4))))))) = true
            ·rw [if_pos c18] at H
             have c18b0 : (!(((rd_T48 l0 (ji6)).f1.f0) == ((rd_T48 l0 x8_1).f1.f0)) || (!(((rd_T48 l0 (ji6)).f1.f1) == ((rd_T48 l0 x8_1).f1.f1)) || (!(((rd_T48 l0 (ji6)).f1.f2) == ((rd_T48 l0 x8_1).f1.f2)) || (!(((rd_T48 l0 (ji6)).f1.f3) == ((rd_T48 l0 x8_1).f1.f3)) || (!(((rd_T48 l0 (ji6)).f1.f4) == ((rd_T48 l0 x8_1).f1.f4))))))) = true := c18
             clear c18
             obtain rfl := Option.some.inj H
             have p228 : 0 ≤ (x8_1 : Int) := dt_
             have q228 : x8_1 < (l0.length : Int) := dt_
             obtain ⟨ad228, e228, hx228_0, hx228_1, hx228_2, hx228_3, hx228_4, hx228_5, hx228_6⟩ := at_T48 HR0.out x8_1 p228 q228
             cases e228
             replace hx228_0 := mv HB.out hx228_0
             replace hx228_1 := mv HB.out hx228_1
             replace hx228_2 := mv HB.out hx228_2
             replace hx228_3 := mv HB.out hx228_3
             replace hx228_4 := mv HB.out hx228_4
             replace hx228_5 := mv HB.out hx228_5
             replace hx228_6 := mv HB.out hx228_6
             replace p228 := eq_true p228
             replace q228 := eq_true q228
             try go_wp2_with (first | ((with_reducible refine gate_dst (N := 4) rfl ?_); (try (refine gate_guard (by rfl) ?_; dsimp only)); refine box_event ?hg (N := 4) ?hd (cs := #[.int .i64 0, .int .i64 0, .int .i64 0, .bool false, .bool false, .bool false, .int .i64 0]) (t := 48) ?hr ?_; (case hd => rfl); (case hg => rfl); (case hr => first | (go_simp; done) | (go_simp; rfl)); intro gb229 hg w19 hbox hb; have n0_ := am (below_step (rb HB) hb); have n1_ := am (hbox); have n2_ := am ((by rw [hg]; exact (below_size (rb HB)) : w.heap.size ≤ gb229)); have n3_ := am ((by rw [hg]; exact (below_size (rb HB)) : w.heap.size ≤ gb229)); clear HB; have HB := n0_; have BK229 := n1_; have GW229 := n2_; have GE229 := n3_; clear n0_ n1_ n2_ n3_; clear hb hbox hg; have hcz20_0 : w19.cell? ⟨gb229, 0, none⟩ = some (.int .i64 0) := (blk_cell BK229.out 0).trans rfl; have hcz20_1 : w19.cell? ⟨gb229, 1, none⟩ = some (.int .i64 0) := (blk_cell BK229.out 1).trans rfl; have hcz20_2 : w19.cell? ⟨gb229, 2, none⟩ = some (.int .i64 0) := (blk_cell BK229.out 2).trans rfl; have hcz20_3 : w19.cell? ⟨gb229, 3, none⟩ = some (.bool false) := (blk_cell BK229.out 3).trans rfl; have hcz20_4 : w19.cell? ⟨gb229, 4, none⟩ = some (.bool false) := (blk_cell BK229.out 4).trans rfl; have hcz20_5 : w19.cell? ⟨gb229, 5, none⟩ = some (.bool false) := (blk_cell BK229.out 5).trans rfl; have hcz20_6 : w19.cell? ⟨gb229, 6, none⟩ = some (.int .i64 0) := (blk_cell BK229.out 6).trans rfl; have hfz20_0 := blk_frozen BK229.out 0; have hfz20_1 := blk_frozen BK229.out 1; have hfz20_2 := blk_frozen BK229.out 2; have hfz20_3 := blk_frozen BK229.out 3; have hfz20_4 := blk_frozen BK229.out 4; have hfz20_5 := blk_frozen BK229.out 5; have hfz20_6 := blk_frozen BK229.out 6; have p230 : 0 ≤ ((ji6) : Int) := dt_; have q230 : (ji6) < (l0.length : Int) := dt_; obtain ⟨ad230, e230, hx230_0, hx230_1, hx230_2, hx230_3, hx230_4, hx230_5, hx230_6⟩ := at_T48 HR0.out (ji6) p230 q230; obtain rfl : ad228 = ad230 := (by injection e230); have hn230_0 : ad228.block ≠ gb229 := Nat.ne_of_lt (Nat.lt_of_lt_of_le (by have := World.block_lt_of_cell? _ _ hx230_0; first | rwa [add_block] at this | exact this) GW229.out); have hn230_1 : ad228.block ≠ gb229 := Nat.ne_of_lt (Nat.lt_of_lt_of_le (by have := World.block_lt_of_cell? _ _ hx230_0; first | rwa [add_block] at this | exact this) GW229.out); have hn230_2 : ad228.block ≠ gb229 := Nat.ne_of_lt (Nat.lt_of_lt_of_le (by have := World.block_lt_of_cell? _ _ hx230_0; first | rwa [add_block] at this | exact this) GW229.out); have hn230_3 : ad228.block ≠ gb229 := Nat.ne_of_lt (Nat.lt_of_lt_of_le (by have := World.block_lt_of_cell? _ _ hx230_0; first | rwa [add_block] at this | exact this) GW229.out); have hn230_4 : ad228.block ≠ gb229 := Nat.ne_of_lt (Nat.lt_of_lt_of_le (by have := World.block_lt_of_cell? _ _ hx230_0; first | rwa [add_block] at this | exact this) GW229.out); have hn230_5 : ad228.block ≠ gb229 := Nat.ne_of_lt (Nat.lt_of_lt_of_le (by have := World.block_lt_of_cell? _ _ hx230_0; first | rwa [add_block] at this | exact this) GW229.out); have hn230_6 : ad228.block ≠ gb229 := Nat.ne_of_lt (Nat.lt_of_lt_of_le (by have := World.block_lt_of_cell? _ _ hx230_0; first | rwa [add_block] at this | exact this) GW229.out); replace hx230_0 := (HB.out.cell (World.block_lt_of_cell? w _ hx230_0)).trans hx230_0; replace hx230_1 := (HB.out.cell (World.block_lt_of_cell? w _ hx230_1)).trans hx230_1; replace hx230_2 := (HB.out.cell (World.block_lt_of_cell? w _ hx230_2)).trans hx230_2; replace hx230_3 := (HB.out.cell (World.block_lt_of_cell? w _ hx230_3)).trans hx230_3; replace hx230_4 := (HB.out.cell (World.block_lt_of_cell? w _ hx230_4)).trans hx230_4; replace hx230_5 := (HB.out.cell (World.block_lt_of_cell? w _ hx230_5)).trans hx230_5; replace hx230_6 := (HB.out.cell (World.block_lt_of_cell? w _ hx230_6)).trans hx230_6; replace hx230_0 := (cell_far (p := ⟨gb229, 0, none⟩) (by first | (rw [add_block]; exact hn230_0) | (show (Addr.add _ _).block ≠ _; rw [add_block]; exact hn230_0) | exact hn230_0) (.int .i64 ((rd_T48 l0 x8_1).f0))).trans hx230_0; replace hx230_1 := (cell_far (p := ⟨gb229, 0, none⟩) (by first | (rw [add_block]; exact hn230_0) | (show (Addr.add _ _).block ≠ _; rw [add_block]; exact hn230_0) | exact hn230_0) (.int .i64 ((rd_T48 l0 x8_1).f0))).trans hx230_1; replace hx230_2 := (cell_far (p := ⟨gb229, 0, none⟩) (by first | (rw [add_block]; exact hn230_0) | (show (Addr.add _ _).block ≠ _; rw [add_block]; exact hn230_0) | exact hn230_0) (.int .i64 ((rd_T48 l0 x8_1).f0))).trans hx230_2; replace hx230_3 := (cell_far (p := ⟨gb229, 0, none⟩) (by first | (rw [add_block]; exact hn230_0) | (show (Addr.add _ _).block ≠ _; rw [add_block]; exact hn230_0) | exact hn230_0) (.int .i64 ((rd_T48 l0 x8_1).f0))).trans hx230_3; replace hx230_4 := (cell_far (p := ⟨gb229, 0, none⟩) (by first | (rw [add_block]; exact hn230_0) | (show (Addr.add _ _).block ≠ _; rw [add_block]; exact hn230_0) | exact hn230_0) (.int .i64 ((rd_T48 l0 x8_1).f0))).trans hx230_4; replace hx230_5 := (cell_far (p := ⟨gb229, 0, none⟩) (by first | (rw [add_block]; exact hn230_0) | (show (Addr.add _ _).block ≠ _; rw [add_block]; exact hn230_0) | exact hn230_0) (.int .i64 ((rd_T48 l0 x8_1).f0))).trans hx230_5; replace hx230_6 := (cell_far (p := ⟨gb229, 0, none⟩) (by first | (rw [add_block]; exact hn230_0) | (show (Addr.add _ _).block ≠ _; rw [add_block]; exact hn230_0) | exact hn230_0) (.int .i64 ((rd_T48 l0 x8_1).f0))).trans hx230_6; replace hx230_0 := (cell_far (p := ⟨gb229, 1, none⟩) (by first | (rw [add_block]; exact hn230_1) | (show (Addr.add _ _).block ≠ _; rw [add_block]; exact hn230_1) | exact hn230_1) (.int .i64 ((rd_T48 l0 x8_1).f1.f0))).trans hx230_0; replace hx230_1 := (cell_far (p := ⟨gb229, 1, none⟩) (by first | (rw [add_block]; exact hn230_1) | (show (Addr.add _ _).block ≠ _; rw [add_block]; exact hn230_1) | exact hn230_1) (.int .i64 ((rd_T48 l0 x8_1).f1.f0))).trans hx230_1; replace hx230_2 := (cell_far (p := ⟨gb229, 1, none⟩) (by first | (rw [add_block]; exact hn230_1) | (show (Addr.add _ _).block ≠ _; rw [add_block]; exact hn230_1) | exact hn230_1) (.int .i64 ((rd_T48 l0 x8_1).f1.f0))).trans hx230_2; replace hx230_3 := (cell_far (p := ⟨gb229, 1, none⟩) (by first | (rw [add_block]; exact hn230_1) | (show (Addr.add _ _).block ≠ _; rw [add_block]; exact hn230_1) | exact hn230_1) (.int .i64 ((rd_T48 l0 x8_1).f1.f0))).trans hx230_3; replace hx230_4 := (cell_far (p := ⟨gb229, 1, none⟩) (by first | (rw [add_block]; exact hn230_1) | (show (Addr.add _ _).block ≠ _; rw [add_block]; exact hn230_1) | exact hn230_1) (.int .i64 ((rd_T48 l0 x8_1).f1.f0))).trans hx230_4; replace hx230_5 := (cell_far (p := ⟨gb229, 1, none⟩) (by first | (rw [add_block]; exact hn230_1) | (show (Addr.add _ _).block ≠ _; rw [add_block]; exact hn230_1) | exact hn230_1) (.int .i64 ((rd_T48 l0 x8_1).f1.f0))).trans hx230_5; replace hx230_6 := (cell_far (p := ⟨gb229, 1, none⟩) (by first | (rw [add_block]; exact hn230_1) | (show (Addr.add _ _).block ≠ _; rw [add_block]; exact hn230_1) | exact hn230_1) (.int .i64 ((rd_T48 l0 x8_1).f1.f0))).trans hx230_6; replace hx230_0 := (cell_far (p := ⟨gb229, 2, none⟩) (by first | (rw [add_block]; exact hn230_2) | (show (Addr.add _ _).block ≠ _; rw [add_block]; exact hn230_2) | exact hn230_2) (.int .i64 ((rd_T48 l0 x8_1).f1.f1))).trans hx230_0; replace hx230_1 := (cell_far (p := ⟨gb229, 2, none⟩) (by first | (rw [add_block]; exact hn230_2) | (show (Addr.add _ _).block ≠ _; rw [add_block]; exact hn230_2) | exact hn230_2) (.int .i64 ((rd_T48 l0 x8_1).f1.f1))).trans hx230_1; replace hx230_2 := (cell_far (p := ⟨gb229, 2, none⟩) (by first | (rw [add_block]; exact hn230_2) | (show (Addr.add _ _).block ≠ _; rw [add_block]; exact hn230_2) | exact hn230_2) (.int .i64 ((rd_T48 l0 x8_1).f1.f1))).trans hx230_2; replace hx230_3 := (cell_far (p := ⟨gb229, 2, none⟩) (by first | (rw [add_block]; exact hn230_2) | (show (Addr.add _ _).block ≠ _; rw [add_block]; exact hn230_2) | exact hn230_2) (.int .i64 ((rd_T48 l0 x8_1).f1.f1))).trans hx230_3; replace hx230_4 := (cell_far (p := ⟨gb229, 2, none⟩) (by first | (rw [add_block]; exact hn230_2) | (show (Addr.add _ _).block ≠ _; rw [add_block]; exact hn230_2) | exact hn230_2) (.int .i64 ((rd_T48 l0 x8_1).f1.f1))).trans hx230_4; replace hx230_5 := (cell_far (p := ⟨gb229, 2, none⟩) (by first | (rw [add_block]; exact hn230_2) | (show (Addr.add _ _).block ≠ _; rw [add_block]; exact hn230_2) | exact hn230_2) (.int .i64 ((rd_T48 l0 x8_1).f1.f1))).trans hx230_5; replace hx230_6 := (cell_far (p := ⟨gb229, 2, none⟩) (by first | (rw [add_block]; exact hn230_2) | (show (Addr.add _ _).block ≠ _; rw [add_block]; exact hn230_2) | exact hn230_2) (.int .i64 ((rd_T48 l0 x8_1).f1.f1))).trans hx230_6; replace hx230_0 := (cell_far (p := ⟨gb229, 3, none⟩) (by first | (rw [add_block]; exact hn230_3) | (show (Addr.add _ _).block ≠ _; rw [add_block]; exact hn230_3) | exact hn230_3) (.bool ((rd_T48 l0 x8_1).f1.f2))).trans hx230_0; replace hx230_1 := (cell_far (p := ⟨gb229, 3, none⟩) (by first | (rw [add_block]; exact hn230_3) | (show (Addr.add _ _).block ≠ _; rw [add_block]; exact hn230_3) | exact hn230_3) (.bool ((rd_T48 l0 x8_1).f1.f2))).trans hx230_1; replace hx230_2 := (cell_far (p := ⟨gb229, 3, none⟩) (by first | (rw [add_block]; exact hn230_3) | (show (Addr.add _ _).block ≠ _; rw [add_block]; exact hn230_3) | exact hn230_3) (.bool ((rd_T48 l0 x8_1).f1.f2))).trans hx230_2; replace hx230_3 := (cell_far (p := ⟨gb229, 3, none⟩) (by first | (rw [add_block]; exact hn230_3) | (show (Addr.add _ _).block ≠ _; rw [add_block]; exact hn230_3) | exact hn230_3) (.bool ((rd_T48 l0 x8_1).f1.f2))).trans hx230_3; replace hx230_4 := (cell_far (p := ⟨gb229, 3, none⟩) (by first | (rw [add_block]; exact hn230_3) | (show (Addr.add _ _).block ≠ _; rw [add_block]; exact hn230_3) | exact hn230_3) (.bool ((rd_T48 l0 x8_1).f1.f2))).trans hx230_4; replace hx230_5 := (cell_far (p := ⟨gb229, 3, none⟩) (by first | (rw [add_block]; exact hn230_3) | (show (Addr.add _ _).block ≠ _; rw [add_block]; exact hn230_3) | exact hn230_3) (.bool ((rd_T48 l0 x8_1).f1.f2))).trans hx230_5; replace hx230_6 := (cell_far (p := ⟨gb229, 3, none⟩) (by first | (rw [add_block]; exact hn230_3) | (show (Addr.add _ _).block ≠ _; rw [add_block]; exact hn230_3) | exact hn230_3) (.bool ((rd_T48 l0 x8_1).f1.f2))).trans hx230_6; replace hx230_0 := (cell_far (p := ⟨gb229, 4, none⟩) (by first | (rw [add_block]; exact hn230_4) | (show (Addr.add _ _).block ≠ _; rw [add_block]; exact hn230_4) | exact hn230_4) (.bool ((rd_T48 l0 x8_1).f1.f3))).trans hx230_0; replace hx230_1 := (cell_far (p := ⟨gb229, 4, none⟩) (by first | (rw [add_block]; exact hn230_4) | (show (Addr.add _ _).block ≠ _; rw [add_block]; exact hn230_4) | exact hn230_4) (.bool ((rd_T48 l0 x8_1).f1.f3))).trans hx230_1; replace hx230_2 := (cell_far (p := ⟨gb229, 4, none⟩) (by first | (rw [add_block]; exact hn230_4) | (show (Addr.add _ _).block ≠ _; rw [add_block]; exact hn230_4) | exact hn230_4) (.bool ((rd_T48 l0 x8_1).f1.f3))).trans hx230_2; replace hx230_3 := (cell_far (p := ⟨gb229, 4, none⟩) (by first | (rw [add_block]; exact hn230_4) | (show (Addr.add _ _).block ≠ _; rw [add_block]; exact hn230_4) | exact hn230_4) (.bool ((rd_T48 l0 x8_1).f1.f3))).trans hx230_3; replace hx230_4 := (cell_far (p := ⟨gb229, 4, none⟩) (by first | (rw [add_block]; exact hn230_4) | (show (Addr.add _ _).block ≠ _; rw [add_block]; exact hn230_4) | exact hn230_4) (.bool ((rd_T48 l0 x8_1).f1.f3))).trans hx230_4; replace hx230_5 := (cell_far (p := ⟨gb229, 4, none⟩) (by first | (rw [add_block]; exact hn230_4) | (show (Addr.add _ _).block ≠ _; rw [add_block]; exact hn230_4) | exact hn230_4) (.bool ((rd_T48 l0 x8_1).f1.f3))).trans hx230_5; replace hx230_6 := (cell_far (p := ⟨gb229, 4, none⟩) (by first | (rw [add_block]; exact hn230_4) | (show (Addr.add _ _).block ≠ _; rw [add_block]; exact hn230_4) | exact hn230_4) (.bool ((rd_T48 l0 x8_1).f1.f3))).trans hx230_6; replace hx230_0 := (cell_far (p := ⟨gb229, 5, none⟩) (by first | (rw [add_block]; exact hn230_5) | (show (Addr.add _ _).block ≠ _; rw [add_block]; exact hn230_5) | exact hn230_5) (.bool ((rd_T48 l0 x8_1).f1.f4))).trans hx230_0; replace hx230_1 := (cell_far (p := ⟨gb229, 5, none⟩) (by first | (rw [add_block]; exact hn230_5) | (show (Addr.add _ _).block ≠ _; rw [add_block]; exact hn230_5) | exact hn230_5) (.bool ((rd_T48 l0 x8_1).f1.f4))).trans hx230_1; replace hx230_2 := (cell_far (p := ⟨gb229, 5, none⟩) (by first | (rw [add_block]; exact hn230_5) | (show (Addr.add _ _).block ≠ _; rw [add_block]; exact hn230_5) | exact hn230_5) (.bool ((rd_T48 l0 x8_1).f1.f4))).trans hx230_2; replace hx230_3 := (cell_far (p := ⟨gb229, 5, none⟩) (by first | (rw [add_block]; exact hn230_5) | (show (Addr.add _ _).block ≠ _; rw [add_block]; exact hn230_5) | exact hn230_5) (.bool ((rd_T48 l0 x8_1).f1.f4))).trans hx230_3; replace hx230_4 := (cell_far (p := ⟨gb229, 5, none⟩) (by first | (rw [add_block]; exact hn230_5) | (show (Addr.add _ _).block ≠ _; rw [add_block]; exact hn230_5) | exact hn230_5) (.bool ((rd_T48 l0 x8_1).f1.f4))).trans hx230_4; replace hx230_5 := (cell_far (p := ⟨gb229, 5, none⟩) (by first | (rw [add_block]; exact hn230_5) | (show (Addr.add _ _).block ≠ _; rw [add_block]; exact hn230_5) | exact hn230_5) (.bool ((rd_T48 l0 x8_1).f1.f4))).trans hx230_5; replace hx230_6 := (cell_far (p := ⟨gb229, 5, none⟩) (by first | (rw [add_block]; exact hn230_5) | (show (Addr.add _ _).block ≠ _; rw [add_block]; exact hn230_5) | exact hn230_5) (.bool ((rd_T48 l0 x8_1).f1.f4))).trans hx230_6; replace hx230_0 := (cell_far (p := ⟨gb229, 6, none⟩) (by first | (rw [add_block]; exact hn230_6) | (show (Addr.add _ _).block ≠ _; rw [add_block]; exact hn230_6) | exact hn230_6) (.int .i64 ((rd_T48 l0 x8_1).f2))).trans hx230_0; replace hx230_1 := (cell_far (p := ⟨gb229, 6, none⟩) (by first | (rw [add_block]; exact hn230_6) | (show (Addr.add _ _).block ≠ _; rw [add_block]; exact hn230_6) | exact hn230_6) (.int .i64 ((rd_T48 l0 x8_1).f2))).trans hx230_1; replace hx230_2 := (cell_far (p := ⟨gb229, 6, none⟩) (by first | (rw [add_block]; exact hn230_6) | (show (Addr.add _ _).block ≠ _; rw [add_block]; exact hn230_6) | exact hn230_6) (.int .i64 ((rd_T48 l0 x8_1).f2))).trans hx230_2; replace hx230_3 := (cell_far (p := ⟨gb229, 6, none⟩) (by first | (rw [add_block]; exact hn230_6) | (show (Addr.add _ _).block ≠ _; rw [add_block]; exact hn230_6) | exact hn230_6) (.int .i64 ((rd_T48 l0 x8_1).f2))).trans hx230_3; replace hx230_4 := (cell_far (p := ⟨gb229, 6, none⟩) (by first | (rw [add_block]; exact hn230_6) | (show (Addr.add _ _).block ≠ _; rw [add_block]; exact hn230_6) | exact hn230_6) (.int .i64 ((rd_T48 l0 x8_1).f2))).trans hx230_4; replace hx230_5 := (cell_far (p := ⟨gb229, 6, none⟩) (by first | (rw [add_block]; exact hn230_6) | (show (Addr.add _ _).block ≠ _; rw [add_block]; exact hn230_6) | exact hn230_6) (.int .i64 ((rd_T48 l0 x8_1).f2))).trans hx230_5; replace hx230_6 := (cell_far (p := ⟨gb229, 6, none⟩) (by first | (rw [add_block]; exact hn230_6) | (show (Addr.add _ _).block ≠ _; rw [add_block]; exact hn230_6) | exact hn230_6) (.int .i64 ((rd_T48 l0 x8_1).f2))).trans hx230_6; clear hn230_0; clear hn230_1; clear hn230_2; clear hn230_3; clear hn230_4; clear hn230_5; clear hn230_6; replace p230 := eq_true p230; replace q230 := eq_true q230))
             have n0_ : Aside0 ((((((((w19.setCell ⟨gb229, 0, none⟩ (.int .i64 ((rd_T48 l0 x8_1).f0))).setCell ⟨gb229, 1, none⟩ (.int .i64 ((rd_T48 l0 x8_1).f1.f0))).setCell ⟨gb229, 2, none⟩ (.int .i64 ((rd_T48 l0 x8_1).f1.f1))).setCell ⟨gb229, 3, none⟩ (.bool ((rd_T48 l0 x8_1).f1.f2))).setCell ⟨gb229, 4, none⟩ (.bool ((rd_T48 l0 x8_1).f1.f3))).setCell ⟨gb229, 5, none⟩ (.bool ((rd_T48 l0 x8_1).f1.f4))).setCell ⟨gb229, 6, none⟩ (.int .i64 ((rd_T48 l0 x8_1).f2))).heap[gb229]? = some (.cells #[.int .i64 ((rd_T48 l0 x8_1).f0), .int .i64 ((rd_T48 l0 x8_1).f1.f0), .int .i64 ((rd_T48 l0 x8_1).f1.f1), .bool ((rd_T48 l0 x8_1).f1.f2), .bool ((rd_T48 l0 x8_1).f1.f3), .bool ((rd_T48 l0 x8_1).f1.f4), .int .i64 ((rd_T48 l0 x8_1).f2)] 48 (0, 0))) := ⟨by (with_reducible repeat (first | apply k1 | apply k2 | apply k3)); refine blk_put (cs := #[.int .i64 ((rd_T48 l0 x8_1).f0), .int .i64 ((rd_T48 l0 x8_1).f1.f0), .int .i64 ((rd_T48 l0 x8_1).f1.f1), .bool ((rd_T48 l0 x8_1).f1.f2), .bool ((rd_T48 l0 x8_1).f1.f3), .bool ((rd_T48 l0 x8_1).f1.f4), .int .i64 0]) ?_ 6 _ rfl; (with_reducible repeat (first | apply k1 | apply k2 | apply k3)); refine blk_put (cs := #[.int .i64 ((rd_T48 l0 x8_1).f0), .int .i64 ((rd_T48 l0 x8_1).f1.f0), .int .i64 ((rd_T48 l0 x8_1).f1.f1), .bool ((rd_T48 l0 x8_1).f1.f2), .bool ((rd_T48 l0 x8_1).f1.f3), .bool false, .int .i64 0]) ?_ 5 _ rfl; (with_reducible repeat (first | apply k1 | apply k2 | apply k3)); refine blk_put (cs := #[.int .i64 ((rd_T48 l0 x8_1).f0), .int .i64 ((rd_T48 l0 x8_1).f1.f0), .int .i64 ((rd_T48 l0 x8_1).f1.f1), .bool ((rd_T48 l0 x8_1).f1.f2), .bool false, .bool false, .int .i64 0]) ?_ 4 _ rfl; (with_reducible repeat (first | apply k1 | apply k2 | apply k3)); refine blk_put (cs := #[.int .i64 ((rd_T48 l0 x8_1).f0), .int .i64 ((rd_T48 l0 x8_1).f1.f0), .int .i64 ((rd_T48 l0 x8_1).f1.f1), .bool false, .bool false, .bool false, .int .i64 0]) ?_ 3 _ rfl; (with_reducible repeat (first | apply k1 | apply k2 | apply k3)); refine blk_put (cs := #[.int .i64 ((rd_T48 l0 x8_1).f0), .int .i64 ((rd_T48 l0 x8_1).f1.f0), .int .i64 0, .bool false, .bool false, .bool false, .int .i64 0]) ?_ 2 _ rfl; (with_reducible repeat (first | apply k1 | apply k2 | apply k3)); refine blk_put (cs := #[.int .i64 ((rd_T48 l0 x8_1).f0), .int .i64 0, .int .i64 0, .bool false, .bool false, .bool false, .int .i64 0]) ?_ 1 _ rfl; (with_reducible repeat (first | apply k1 | apply k2 | apply k3)); refine blk_put (cs := #[.int .i64 0, .int .i64 0, .int .i64 0, .bool false, .bool false, .bool false, .int .i64 0]) ?_ 0 _ rfl; (with_reducible repeat (first | apply k1 | apply k2 | apply k3)); exact BK229.out⟩
             have n1_ : Aside0 (Below w.heap.size w (((((((w19.setCell ⟨gb229, 0, none⟩ (.int .i64 ((rd_T48 l0 x8_1).f0))).setCell ⟨gb229, 1, none⟩ (.int .i64 ((rd_T48 l0 x8_1).f1.f0))).setCell ⟨gb229, 2, none⟩ (.int .i64 ((rd_T48 l0 x8_1).f1.f1))).setCell ⟨gb229, 3, none⟩ (.bool ((rd_T48 l0 x8_1).f1.f2))).setCell ⟨gb229, 4, none⟩ (.bool ((rd_T48 l0 x8_1).f1.f3))).setCell ⟨gb229, 5, none⟩ (.bool ((rd_T48 l0 x8_1).f1.f4))).setCell ⟨gb229, 6, none⟩ (.int .i64 ((rd_T48 l0 x8_1).f2)))) := ⟨by repeat (first | (with_reducible first | exact HB.out | apply b1 | apply b2 | apply b3 | refine below_set ?_ GE229.out) | exact HB.out)⟩
             (try clear BK229)
             (try clear HB)
             generalize (((((((w19.setCell ⟨gb229, 0, none⟩ (.int .i64 ((rd_T48 l0 x8_1).f0))).setCell ⟨gb229, 1, none⟩ (.int .i64 ((rd_T48 l0 x8_1).f1.f0))).setCell ⟨gb229, 2, none⟩ (.int .i64 ((rd_T48 l0 x8_1).f1.f1))).setCell ⟨gb229, 3, none⟩ (.bool ((rd_T48 l0 x8_1).f1.f2))).setCell ⟨gb229, 4, none⟩ (.bool ((rd_T48 l0 x8_1).f1.f3))).setCell ⟨gb229, 5, none⟩ (.bool ((rd_T48 l0 x8_1).f1.f4))).setCell ⟨gb229, 6, none⟩ (.int .i64 ((rd_T48 l0 x8_1).f2))) = w21 at n0_ n1_ ⊢
             have BK229 := n0_
             have HB := n1_
             clear n0_ n1_
             have n0_ := am (blk_drew BK229.out)
             have n1_ := am (below_drew1 HB.out)
             clear BK229
             clear HB
             have BK229 := n0_
             have HB := n1_
             clear n0_ n1_
             have p232 : 0 ≤ ((ji6) : Int) := dt_
             have q232 : (ji6) < (l0.length : Int) := dt_
             obtain ⟨ad232, e232, hx232_0, hx232_1, hx232_2, hx232_3, hx232_4, hx232_5, hx232_6⟩ := at_T48 HR0.out (ji6) p232 q232
             have hw232_6 := hx232_6
             have hw232_5 := hx232_5
             have hw232_4 := hx232_4
             have hw232_3 := hx232_3
             have hw232_2 := hx232_2
             have hw232_1 := hx232_1
             have hw232_0 := hx232_0
             obtain rfl : ad228 = ad232 := (by injection e232)
             replace hx232_0 := mv HB.out hx232_0
             replace hx232_1 := mv HB.out hx232_1
             replace hx232_2 := mv HB.out hx232_2
             replace hx232_3 := mv HB.out hx232_3
             replace hx232_4 := mv HB.out hx232_4
             replace hx232_5 := mv HB.out hx232_5
             replace hx232_6 := mv HB.out hx232_6
             replace p232 := eq_true p232
             replace q232 := eq_true q232
             refine start_ (n := 24) (S := fun w' => w'.cell? ⟨gb229, 0, none⟩ = some (.int .i64 ((rd_T48 l0 x8_1).f0)) ∧ w'.cell? ⟨gb229, 1, none⟩ = some (.int .i64 ((rd_T48 l0 x8_1).f1.f0)) ∧ w'.cell? ⟨gb229, 2, none⟩ = some (.int .i64 ((rd_T48 l0 x8_1).f1.f1)) ∧ w'.cell? ⟨gb229, 3, none⟩ = some (.bool ((rd_T48 l0 x8_1).f1.f2)) ∧ w'.cell? ⟨gb229, 4, none⟩ = some (.bool ((rd_T48 l0 x8_1).f1.f3)) ∧ w'.cell? ⟨gb229, 5, none⟩ = some (.bool ((rd_T48 l0 x8_1).f1.f4)) ∧ w'.cell? ⟨gb229, 6, none⟩ = some (.int .i64 ((rd_T48 l0 x8_1).f2)) ∧ w'.cell? (ad228.add (((ji6)).toNat * 7)) = some (.int .i64 ((rd_T48 l0 (ji6)).f0)) ∧ w'.cell? ⟨(ad228.add (((ji6)).toNat * 7)).block, (ad228.add (((ji6)).toNat * 7)).off + 1, none⟩ = some (.int .i64 ((rd_T48 l0 (ji6)).f1.f0)) ∧ w'.cell? ⟨(ad228.add (((ji6)).toNat * 7)).block, (ad228.add (((ji6)).toNat * 7)).off + 2, none⟩ = some (.int .i64 ((rd_T48 l0 (ji6)).f1.f1)) ∧ w'.cell? ⟨(ad228.add (((ji6)).toNat * 7)).block, (ad228.add (((ji6)).toNat * 7)).off + 3, none⟩ = some (.bool ((rd_T48 l0 (ji6)).f1.f2)) ∧ w'.cell? ⟨(ad228.add (((ji6)).toNat * 7)).block, (ad228.add (((ji6)).toNat * 7)).off + 4, none⟩ = some (.bool ((rd_T48 l0 (ji6)).f1.f3)) ∧ w'.cell? ⟨(ad228.add (((ji6)).toNat * 7)).block, (ad228.add (((ji6)).toNat * 7)).off + 5, none⟩ = some (.bool ((rd_T48 l0 (ji6)).f1.f4)) ∧ w'.cell? ⟨(ad228.add (((ji6)).toNat * 7)).block, (ad228.add (((ji6)).toNat * 7)).off + 6, none⟩ = some (.int .i64 ((rd_T48 l0 (ji6)).f2))) (ds := []) (bm 24 0) (by kernel_rfl) rfl rfl ⟨(blk_cell BK229.out 0).trans rfl, (blk_cell BK229.out 1).trans rfl, (blk_cell BK229.out 2).trans rfl, (blk_cell BK229.out 3).trans rfl, (blk_cell BK229.out 4).trans rfl, (blk_cell BK229.out 5).trans rfl, (blk_cell BK229.out 6).trans rfl, ((HB.out.cell (World.block_lt_of_cell? w _ hw232_0)).trans hw232_0), ((HB.out.cell (World.block_lt_of_cell? w _ hw232_1)).trans hw232_1), ((HB.out.cell (World.block_lt_of_cell? w _ hw232_2)).trans hw232_2), ((HB.out.cell (World.block_lt_of_cell? w _ hw232_3)).trans hw232_3), ((HB.out.cell (World.block_lt_of_cell? w _ hw232_4)).trans hw232_4), ((HB.out.cell (World.block_lt_of_cell? w _ hw232_5)).trans hw232_5), ((HB.out.cell (World.block_lt_of_cell? w _ hw232_6)).trans hw232_6)⟩ (fun hHeld => ?_); refine with_tabW impl_RowOk.tab5 impl_RowOk.bits5 (fun HT_ HW_ => ?_)
             generalize w21.drew = w22 at BK229 HB hx232_0 hx232_1 hx232_2 hx232_3 hx232_4 hx232_5 hx232_6 hHeld ⊢
             refine take_ (i := 0) (N := some 24) (v := ?_) (a' := ?_) (bm 24 1) rfl rfl (take_ofW HT_.out HW_.out (by kernel_rfl)) (fun _ _ _ h => h) (Or.inl ⟨by rfl, ?_⟩) hHeld ?_ ?_
             rotate_left
             ·rintro w' ⟨s0, s1, s2, s3, s4, s5, s6, s7, s8, s9, s10, s11, s12, s13⟩
              go_simp
              with_reducible rfl
             rotate_left
             ·simp only [Act.put, List.setIfInBounds_toArray, List.set_cons_zero, List.set_cons_succ, i64_w, i32_w]
              rfl
             refine one_ (i := 1) (N := some 25) (bm 24 3) rfl rfl (one_of HT_.out (by kernel_rfl)) (by decide) (fun K hK => ?_)
             refine goes_ Tryd.func56 (by kernel_rfl) rfl #[.agg #[.int .i64 ((rd_T48 l0 x8_1).f0), .int .i64 ((rd_T48 l0 x8_1).f1.f0), .int .i64 ((rd_T48 l0 x8_1).f1.f1), .bool ((rd_T48 l0 x8_1).f1.f2), .bool ((rd_T48 l0 x8_1).f1.f3), .bool ((rd_T48 l0 x8_1).f1.f4), .int .i64 ((rd_T48 l0 x8_1).f2)]] (by rfl) rfl rfl (by (try simp only [List.map_toArray, List.map_cons, List.map_nil]); first | done | rfl | (simp only [List.length_drop, List.length_take]; rfl)) ?_
             with_reducible refine (impl_isCell.calls k1 ((rd_T48 l0 x8_1).f0) ((rd_T48 l0 x8_1).f1.f0) ((rd_T48 l0 x8_1).f1.f1) ((rd_T48 l0 x8_1).f1.f2) ((rd_T48 l0 x8_1).f1.f3) ((rd_T48 l0 x8_1).f1.f4) ((rd_T48 l0 x8_1).f2) true _ A9.out).mono ?_
             rintro e w23 ⟨rfl, hb⟩
             refine ⟨_, rfl, ?_⟩
             have n0_ := am (blk_below (g := gb229) (o := .cells #[.int .i64 ((rd_T48 l0 x8_1).f0), .int .i64 ((rd_T48 l0 x8_1).f1.f0), .int .i64 ((rd_T48 l0 x8_1).f1.f1), .bool ((rd_T48 l0 x8_1).f1.f2), .bool ((rd_T48 l0 x8_1).f1.f3), .bool ((rd_T48 l0 x8_1).f1.f4), .int .i64 ((rd_T48 l0 x8_1).f2)] 48 (0, 0)) (rk BK229) hb)
             have n1_ := am (below_step (rb1 HB GE229) hb)
             clear BK229
             clear HB
             have BK229 := n0_
             have HB := n1_
             clear n0_ n1_
             (try clear hb)
             (try clear hb2)
             (try clear hk)
             (try clear hi)
             refine hK.out _ _ ⟨(blk_cell BK229.out 0).trans rfl, (blk_cell BK229.out 1).trans rfl, (blk_cell BK229.out 2).trans rfl, (blk_cell BK229.out 3).trans rfl, (blk_cell BK229.out 4).trans rfl, (blk_cell BK229.out 5).trans rfl, (blk_cell BK229.out 6).trans rfl, ((HB.out.cell (World.block_lt_of_cell? w _ hw232_0)).trans hw232_0), ((HB.out.cell (World.block_lt_of_cell? w _ hw232_1)).trans hw232_1), ((HB.out.cell (World.block_lt_of_cell? w _ hw232_2)).trans hw232_2), ((HB.out.cell (World.block_lt_of_cell? w _ hw232_3)).trans hw232_3), ((HB.out.cell (World.block_lt_of_cell? w _ hw232_4)).trans hw232_4), ((HB.out.cell (World.block_lt_of_cell? w _ hw232_5)).trans hw232_5), ((HB.out.cell (World.block_lt_of_cell? w _ hw232_6)).trans hw232_6)⟩ (fun hHeld => ?_)
             clear hK K
             refine norm_ (a' := ?_) ?_ ?_
             rotate_left
             ·show Act.put _ (some 25) _ = _
              simp only [Act.put, List.setIfInBounds_toArray, List.set_cons_zero, List.set_cons_succ, i64_w, i32_w]
              rfl
             refine pu_ 2 26 (bm 24 7) HT_.out ?_
             refine pu_ 3 27 (bm 24 15) HT_.out ?_
             refine pu_ 4 28 (bm 24 31) HT_.out ?_
             refine pu_ 5 29 (bm 24 63) HT_.out ?_
             refine take_ (i := 6) (N := some 30) (v := ?_) (a' := ?_) (bm 24 127) rfl rfl (take_ofW HT_.out HW_.out (by kernel_rfl)) (fun _ _ _ h => h) (Or.inl ⟨by rfl, ?_⟩) hHeld ?_ ?_
             rotate_left
             ·rintro w' ⟨s0, s1, s2, s3, s4, s5, s6, s7, s8, s9, s10, s11, s12, s13⟩
              go_simp
              with_reducible rfl
             rotate_left
             ·simp only [Act.put, List.setIfInBounds_toArray, List.set_cons_zero, List.set_cons_succ, i64_w, i32_w]
              rfl
             refine pu_ 7 31 (bm 24 255) HT_.out ?_
             refine pu_ 8 32 (bm 24 511) HT_.out ?_
             refine pu_ 9 33 (bm 24 1023) HT_.out ?_
             refine pu_ 10 34 (bm 24 2047) HT_.out ?_
             refine pu_ 11 35 (bm 24 4095) HT_.out ?_
             refine pu_ 12 36 (bm 24 8191) HT_.out ?_
             refine pu_ 13 37 (bm 24 16383) HT_.out ?_
             refine pu_ 14 38 (bm 24 32767) HT_.out ?_
             refine pu_ 15 39 (bm 24 65535) HT_.out ?_
             refine pu_ 16 40 (bm 24 131071) HT_.out ?_
             refine pu_ 17 41 (bm 24 262143) HT_.out ?_
             refine pu_ 19 43 (bm 24 786431) HT_.out ?_
             refine take_ (i := 18) (N := some 42) (v := ?_) (a' := ?_) (bm 24 1048575) rfl rfl (take_ofW HT_.out HW_.out (by kernel_rfl)) (fun _ _ _ h => h) (Or.inl ⟨by rfl, ?_⟩) hHeld ?_ ?_
             rotate_left
             ·rintro w' ⟨s0, s1, s2, s3, s4, s5, s6, s7, s8, s9, s10, s11, s12, s13⟩
              go_simp
              with_reducible rfl
             rotate_left
             ·simp only [Act.put, List.setIfInBounds_toArray, List.set_cons_zero, List.set_cons_succ, i64_w, i32_w]
              rfl
             refine take_ (i := 20) (N := some 44) (v := ?_) (a' := ?_) (bm 24 2097151) rfl rfl (take_ofW HT_.out HW_.out (by kernel_rfl)) (fun _ _ _ h => h) (Or.inl ⟨by rfl, ?_⟩) hHeld ?_ ?_
             rotate_left
             ·rintro w' ⟨s0, s1, s2, s3, s4, s5, s6, s7, s8, s9, s10, s11, s12, s13⟩
              go_simp
              with_reducible rfl
             rotate_left
             ·simp only [Act.put, List.setIfInBounds_toArray, List.set_cons_zero, List.set_cons_succ, i64_w, i32_w]
              rfl
             refine pu_ 21 45 (bm 24 4194303) HT_.out ?_
             refine pu_ 22 46 (bm 24 8388607) HT_.out ?_
             refine pu_ 23 47 (bm 24 16777215) HT_.out ?_
             refine done_ (done_of HT_.out (by kernel_rfl)) ?_
             try go_wp2
             go_ret
             exact ⟨by first | rfl | (simp [errW_none, errW_some] <;> rfl) | (simp only [← hji6]; first | rfl | (simp [errW_none, errW_some] <;> rfl)) | (simp [*, errW_none, errW_some] <;> rfl), by repeat (first | (with_reducible first | exact HB.out | apply b1 | apply b2 | apply b3 | refine below_set ?_ GE229.out) | exact HB.out)⟩
            ·rw [if_neg c18] at H
             have c18b0 : (!(((rd_T48 l0 (ji6)).f1.f0) == ((rd_T48 l0 x8_1).f1.f0)) || (!(((rd_T48 l0 (ji6)).f1.f1) == ((rd_T48 l0 x8_1).f1.f1)) || (!(((rd_T48 l0 (ji6)).f1.f2) == ((rd_T48 l0 x8_1).f1.f2)) || (!(((rd_T48 l0 (ji6)).f1.f3) == ((rd_T48 l0 x8_1).f1.f3)) || (!(((rd_T48 l0 (ji6)).f1.f4) == ((rd_T48 l0 x8_1).f1.f4))))))) = false := by simpa using c18
             clear c18
             have H' := am H
             clear H
             have p228 : 0 ≤ (x8_1 : Int) := dt_
             have q228 : x8_1 < (l0.length : Int) := dt_
             obtain ⟨ad228, e228, hx228_0, hx228_1, hx228_2, hx228_3, hx228_4, hx228_5, hx228_6⟩ := at_T48 HR0.out x8_1 p228 q228
             cases e228
             replace hx228_0 := mv HB.out hx228_0
             replace hx228_1 := mv HB.out hx228_1
             replace hx228_2 := mv HB.out hx228_2
             replace hx228_3 := mv HB.out hx228_3
             replace hx228_4 := mv HB.out hx228_4
             replace hx228_5 := mv HB.out hx228_5
             replace hx228_6 := mv HB.out hx228_6
             replace p228 := eq_true p228
             replace q228 := eq_true q228
             try go_wp2_with (first | ((with_reducible refine gate_dst (N := 4) rfl ?_); (try (refine gate_guard (by rfl) ?_; dsimp only)); refine box_event ?hg (N := 4) ?hd (cs := #[.int .i64 0, .int .i64 0, .int .i64 0, .bool false, .bool false, .bool false, .int .i64 0]) (t := 48) ?hr ?_; (case hd => rfl); (case hg => rfl); (case hr => first | (go_simp; done) | (go_simp; rfl)); intro gb229 hg w24 hbox hb; have n0_ := am (below_step (rb HB) hb); have n1_ := am (hbox); have n2_ := am ((by rw [hg]; exact (below_size (rb HB)) : w.heap.size ≤ gb229)); have n3_ := am ((by rw [hg]; exact (below_size (rb HB)) : w.heap.size ≤ gb229)); clear HB; have HB := n0_; have BK229 := n1_; have GW229 := n2_; have GE229 := n3_; clear n0_ n1_ n2_ n3_; clear hb hbox hg; have hcz25_0 : w24.cell? ⟨gb229, 0, none⟩ = some (.int .i64 0) := (blk_cell BK229.out 0).trans rfl; have hcz25_1 : w24.cell? ⟨gb229, 1, none⟩ = some (.int .i64 0) := (blk_cell BK229.out 1).trans rfl; have hcz25_2 : w24.cell? ⟨gb229, 2, none⟩ = some (.int .i64 0) := (blk_cell BK229.out 2).trans rfl; have hcz25_3 : w24.cell? ⟨gb229, 3, none⟩ = some (.bool false) := (blk_cell BK229.out 3).trans rfl; have hcz25_4 : w24.cell? ⟨gb229, 4, none⟩ = some (.bool false) := (blk_cell BK229.out 4).trans rfl; have hcz25_5 : w24.cell? ⟨gb229, 5, none⟩ = some (.bool false) := (blk_cell BK229.out 5).trans rfl; have hcz25_6 : w24.cell? ⟨gb229, 6, none⟩ = some (.int .i64 0) := (blk_cell BK229.out 6).trans rfl; have hfz25_0 := blk_frozen BK229.out 0; have hfz25_1 := blk_frozen BK229.out 1; have hfz25_2 := blk_frozen BK229.out 2; have hfz25_3 := blk_frozen BK229.out 3; have hfz25_4 := blk_frozen BK229.out 4; have hfz25_5 := blk_frozen BK229.out 5; have hfz25_6 := blk_frozen BK229.out 6; have p230 : 0 ≤ ((ji6) : Int) := dt_; have q230 : (ji6) < (l0.length : Int) := dt_; obtain ⟨ad230, e230, hx230_0, hx230_1, hx230_2, hx230_3, hx230_4, hx230_5, hx230_6⟩ := at_T48 HR0.out (ji6) p230 q230; obtain rfl : ad228 = ad230 := (by injection e230); have hn230_0 : ad228.block ≠ gb229 := Nat.ne_of_lt (Nat.lt_of_lt_of_le (by have := World.block_lt_of_cell? _ _ hx230_0; first | rwa [add_block] at this | exact this) GW229.out); have hn230_1 : ad228.block ≠ gb229 := Nat.ne_of_lt (Nat.lt_of_lt_of_le (by have := World.block_lt_of_cell? _ _ hx230_0; first | rwa [add_block] at this | exact this) GW229.out); have hn230_2 : ad228.block ≠ gb229 := Nat.ne_of_lt (Nat.lt_of_lt_of_le (by have := World.block_lt_of_cell? _ _ hx230_0; first | rwa [add_block] at this | exact this) GW229.out); have hn230_3 : ad228.block ≠ gb229 := Nat.ne_of_lt (Nat.lt_of_lt_of_le (by have := World.block_lt_of_cell? _ _ hx230_0; first | rwa [add_block] at this | exact this) GW229.out); have hn230_4 : ad228.block ≠ gb229 := Nat.ne_of_lt (Nat.lt_of_lt_of_le (by have := World.block_lt_of_cell? _ _ hx230_0; first | rwa [add_block] at this | exact this) GW229.out); have hn230_5 : ad228.block ≠ gb229 := Nat.ne_of_lt (Nat.lt_of_lt_of_le (by have := World.block_lt_of_cell? _ _ hx230_0; first | rwa [add_block] at this | exact this) GW229.out); have hn230_6 : ad228.block ≠ gb229 := Nat.ne_of_lt (Nat.lt_of_lt_of_le (by have := World.block_lt_of_cell? _ _ hx230_0; first | rwa [add_block] at this | exact this) GW229.out); replace hx230_0 := (HB.out.cell (World.block_lt_of_cell? w _ hx230_0)).trans hx230_0; replace hx230_1 := (HB.out.cell (World.block_lt_of_cell? w _ hx230_1)).trans hx230_1; replace hx230_2 := (HB.out.cell (World.block_lt_of_cell? w _ hx230_2)).trans hx230_2; replace hx230_3 := (HB.out.cell (World.block_lt_of_cell? w _ hx230_3)).trans hx230_3; replace hx230_4 := (HB.out.cell (World.block_lt_of_cell? w _ hx230_4)).trans hx230_4; replace hx230_5 := (HB.out.cell (World.block_lt_of_cell? w _ hx230_5)).trans hx230_5; replace hx230_6 := (HB.out.cell (World.block_lt_of_cell? w _ hx230_6)).trans hx230_6; replace hx230_0 := (cell_far (p := ⟨gb229, 0, none⟩) (by first | (rw [add_block]; exact hn230_0) | (show (Addr.add _ _).block ≠ _; rw [add_block]; exact hn230_0) | exact hn230_0) (.int .i64 ((rd_T48 l0 x8_1).f0))).trans hx230_0; replace hx230_1 := (cell_far (p := ⟨gb229, 0, none⟩) (by first | (rw [add_block]; exact hn230_0) | (show (Addr.add _ _).block ≠ _; rw [add_block]; exact hn230_0) | exact hn230_0) (.int .i64 ((rd_T48 l0 x8_1).f0))).trans hx230_1; replace hx230_2 := (cell_far (p := ⟨gb229, 0, none⟩) (by first | (rw [add_block]; exact hn230_0) | (show (Addr.add _ _).block ≠ _; rw [add_block]; exact hn230_0) | exact hn230_0) (.int .i64 ((rd_T48 l0 x8_1).f0))).trans hx230_2; replace hx230_3 := (cell_far (p := ⟨gb229, 0, none⟩) (by first | (rw [add_block]; exact hn230_0) | (show (Addr.add _ _).block ≠ _; rw [add_block]; exact hn230_0) | exact hn230_0) (.int .i64 ((rd_T48 l0 x8_1).f0))).trans hx230_3; replace hx230_4 := (cell_far (p := ⟨gb229, 0, none⟩) (by first | (rw [add_block]; exact hn230_0) | (show (Addr.add _ _).block ≠ _; rw [add_block]; exact hn230_0) | exact hn230_0) (.int .i64 ((rd_T48 l0 x8_1).f0))).trans hx230_4; replace hx230_5 := (cell_far (p := ⟨gb229, 0, none⟩) (by first | (rw [add_block]; exact hn230_0) | (show (Addr.add _ _).block ≠ _; rw [add_block]; exact hn230_0) | exact hn230_0) (.int .i64 ((rd_T48 l0 x8_1).f0))).trans hx230_5; replace hx230_6 := (cell_far (p := ⟨gb229, 0, none⟩) (by first | (rw [add_block]; exact hn230_0) | (show (Addr.add _ _).block ≠ _; rw [add_block]; exact hn230_0) | exact hn230_0) (.int .i64 ((rd_T48 l0 x8_1).f0))).trans hx230_6; replace hx230_0 := (cell_far (p := ⟨gb229, 1, none⟩) (by first | (rw [add_block]; exact hn230_1) | (show (Addr.add _ _).block ≠ _; rw [add_block]; exact hn230_1) | exact hn230_1) (.int .i64 ((rd_T48 l0 x8_1).f1.f0))).trans hx230_0; replace hx230_1 := (cell_far (p := ⟨gb229, 1, none⟩) (by first | (rw [add_block]; exact hn230_1) | (show (Addr.add _ _).block ≠ _; rw [add_block]; exact hn230_1) | exact hn230_1) (.int .i64 ((rd_T48 l0 x8_1).f1.f0))).trans hx230_1; replace hx230_2 := (cell_far (p := ⟨gb229, 1, none⟩) (by first | (rw [add_block]; exact hn230_1) | (show (Addr.add _ _).block ≠ _; rw [add_block]; exact hn230_1) | exact hn230_1) (.int .i64 ((rd_T48 l0 x8_1).f1.f0))).trans hx230_2; replace hx230_3 := (cell_far (p := ⟨gb229, 1, none⟩) (by first | (rw [add_block]; exact hn230_1) | (show (Addr.add _ _).block ≠ _; rw [add_block]; exact hn230_1) | exact hn230_1) (.int .i64 ((rd_T48 l0 x8_1).f1.f0))).trans hx230_3; replace hx230_4 := (cell_far (p := ⟨gb229, 1, none⟩) (by first | (rw [add_block]; exact hn230_1) | (show (Addr.add _ _).block ≠ _; rw [add_block]; exact hn230_1) | exact hn230_1) (.int .i64 ((rd_T48 l0 x8_1).f1.f0))).trans hx230_4; replace hx230_5 := (cell_far (p := ⟨gb229, 1, none⟩) (by first | (rw [add_block]; exact hn230_1) | (show (Addr.add _ _).block ≠ _; rw [add_block]; exact hn230_1) | exact hn230_1) (.int .i64 ((rd_T48 l0 x8_1).f1.f0))).trans hx230_5; replace hx230_6 := (cell_far (p := ⟨gb229, 1, none⟩) (by first | (rw [add_block]; exact hn230_1) | (show (Addr.add _ _).block ≠ _; rw [add_block]; exact hn230_1) | exact hn230_1) (.int .i64 ((rd_T48 l0 x8_1).f1.f0))).trans hx230_6; replace hx230_0 := (cell_far (p := ⟨gb229, 2, none⟩) (by first | (rw [add_block]; exact hn230_2) | (show (Addr.add _ _).block ≠ _; rw [add_block]; exact hn230_2) | exact hn230_2) (.int .i64 ((rd_T48 l0 x8_1).f1.f1))).trans hx230_0; replace hx230_1 := (cell_far (p := ⟨gb229, 2, none⟩) (by first | (rw [add_block]; exact hn230_2) | (show (Addr.add _ _).block ≠ _; rw [add_block]; exact hn230_2) | exact hn230_2) (.int .i64 ((rd_T48 l0 x8_1).f1.f1))).trans hx230_1; replace hx230_2 := (cell_far (p := ⟨gb229, 2, none⟩) (by first | (rw [add_block]; exact hn230_2) | (show (Addr.add _ _).block ≠ _; rw [add_block]; exact hn230_2) | exact hn230_2) (.int .i64 ((rd_T48 l0 x8_1).f1.f1))).trans hx230_2; replace hx230_3 := (cell_far (p := ⟨gb229, 2, none⟩) (by first | (rw [add_block]; exact hn230_2) | (show (Addr.add _ _).block ≠ _; rw [add_block]; exact hn230_2) | exact hn230_2) (.int .i64 ((rd_T48 l0 x8_1).f1.f1))).trans hx230_3; replace hx230_4 := (cell_far (p := ⟨gb229, 2, none⟩) (by first | (rw [add_block]; exact hn230_2) | (show (Addr.add _ _).block ≠ _; rw [add_block]; exact hn230_2) | exact hn230_2) (.int .i64 ((rd_T48 l0 x8_1).f1.f1))).trans hx230_4; replace hx230_5 := (cell_far (p := ⟨gb229, 2, none⟩) (by first | (rw [add_block]; exact hn230_2) | (show (Addr.add _ _).block ≠ _; rw [add_block]; exact hn230_2) | exact hn230_2) (.int .i64 ((rd_T48 l0 x8_1).f1.f1))).trans hx230_5; replace hx230_6 := (cell_far (p := ⟨gb229, 2, none⟩) (by first | (rw [add_block]; exact hn230_2) | (show (Addr.add _ _).block ≠ _; rw [add_block]; exact hn230_2) | exact hn230_2) (.int .i64 ((rd_T48 l0 x8_1).f1.f1))).trans hx230_6; replace hx230_0 := (cell_far (p := ⟨gb229, 3, none⟩) (by first | (rw [add_block]; exact hn230_3) | (show (Addr.add _ _).block ≠ _; rw [add_block]; exact hn230_3) | exact hn230_3) (.bool ((rd_T48 l0 x8_1).f1.f2))).trans hx230_0; replace hx230_1 := (cell_far (p := ⟨gb229, 3, none⟩) (by first | (rw [add_block]; exact hn230_3) | (show (Addr.add _ _).block ≠ _; rw [add_block]; exact hn230_3) | exact hn230_3) (.bool ((rd_T48 l0 x8_1).f1.f2))).trans hx230_1; replace hx230_2 := (cell_far (p := ⟨gb229, 3, none⟩) (by first | (rw [add_block]; exact hn230_3) | (show (Addr.add _ _).block ≠ _; rw [add_block]; exact hn230_3) | exact hn230_3) (.bool ((rd_T48 l0 x8_1).f1.f2))).trans hx230_2; replace hx230_3 := (cell_far (p := ⟨gb229, 3, none⟩) (by first | (rw [add_block]; exact hn230_3) | (show (Addr.add _ _).block ≠ _; rw [add_block]; exact hn230_3) | exact hn230_3) (.bool ((rd_T48 l0 x8_1).f1.f2))).trans hx230_3; replace hx230_4 := (cell_far (p := ⟨gb229, 3, none⟩) (by first | (rw [add_block]; exact hn230_3) | (show (Addr.add _ _).block ≠ _; rw [add_block]; exact hn230_3) | exact hn230_3) (.bool ((rd_T48 l0 x8_1).f1.f2))).trans hx230_4; replace hx230_5 := (cell_far (p := ⟨gb229, 3, none⟩) (by first | (rw [add_block]; exact hn230_3) | (show (Addr.add _ _).block ≠ _; rw [add_block]; exact hn230_3) | exact hn230_3) (.bool ((rd_T48 l0 x8_1).f1.f2))).trans hx230_5; replace hx230_6 := (cell_far (p := ⟨gb229, 3, none⟩) (by first | (rw [add_block]; exact hn230_3) | (show (Addr.add _ _).block ≠ _; rw [add_block]; exact hn230_3) | exact hn230_3) (.bool ((rd_T48 l0 x8_1).f1.f2))).trans hx230_6; replace hx230_0 := (cell_far (p := ⟨gb229, 4, none⟩) (by first | (rw [add_block]; exact hn230_4) | (show (Addr.add _ _).block ≠ _; rw [add_block]; exact hn230_4) | exact hn230_4) (.bool ((rd_T48 l0 x8_1).f1.f3))).trans hx230_0; replace hx230_1 := (cell_far (p := ⟨gb229, 4, none⟩) (by first | (rw [add_block]; exact hn230_4) | (show (Addr.add _ _).block ≠ _; rw [add_block]; exact hn230_4) | exact hn230_4) (.bool ((rd_T48 l0 x8_1).f1.f3))).trans hx230_1; replace hx230_2 := (cell_far (p := ⟨gb229, 4, none⟩) (by first | (rw [add_block]; exact hn230_4) | (show (Addr.add _ _).block ≠ _; rw [add_block]; exact hn230_4) | exact hn230_4) (.bool ((rd_T48 l0 x8_1).f1.f3))).trans hx230_2; replace hx230_3 := (cell_far (p := ⟨gb229, 4, none⟩) (by first | (rw [add_block]; exact hn230_4) | (show (Addr.add _ _).block ≠ _; rw [add_block]; exact hn230_4) | exact hn230_4) (.bool ((rd_T48 l0 x8_1).f1.f3))).trans hx230_3; replace hx230_4 := (cell_far (p := ⟨gb229, 4, none⟩) (by first | (rw [add_block]; exact hn230_4) | (show (Addr.add _ _).block ≠ _; rw [add_block]; exact hn230_4) | exact hn230_4) (.bool ((rd_T48 l0 x8_1).f1.f3))).trans hx230_4; replace hx230_5 := (cell_far (p := ⟨gb229, 4, none⟩) (by first | (rw [add_block]; exact hn230_4) | (show (Addr.add _ _).block ≠ _; rw [add_block]; exact hn230_4) | exact hn230_4) (.bool ((rd_T48 l0 x8_1).f1.f3))).trans hx230_5; replace hx230_6 := (cell_far (p := ⟨gb229, 4, none⟩) (by first | (rw [add_block]; exact hn230_4) | (show (Addr.add _ _).block ≠ _; rw [add_block]; exact hn230_4) | exact hn230_4) (.bool ((rd_T48 l0 x8_1).f1.f3))).trans hx230_6; replace hx230_0 := (cell_far (p := ⟨gb229, 5, none⟩) (by first | (rw [add_block]; exact hn230_5) | (show (Addr.add _ _).block ≠ _; rw [add_block]; exact hn230_5) | exact hn230_5) (.bool ((rd_T48 l0 x8_1).f1.f4))).trans hx230_0; replace hx230_1 := (cell_far (p := ⟨gb229, 5, none⟩) (by first | (rw [add_block]; exact hn230_5) | (show (Addr.add _ _).block ≠ _; rw [add_block]; exact hn230_5) | exact hn230_5) (.bool ((rd_T48 l0 x8_1).f1.f4))).trans hx230_1; replace hx230_2 := (cell_far (p := ⟨gb229, 5, none⟩) (by first | (rw [add_block]; exact hn230_5) | (show (Addr.add _ _).block ≠ _; rw [add_block]; exact hn230_5) | exact hn230_5) (.bool ((rd_T48 l0 x8_1).f1.f4))).trans hx230_2; replace hx230_3 := (cell_far (p := ⟨gb229, 5, none⟩) (by first | (rw [add_block]; exact hn230_5) | (show (Addr.add _ _).block ≠ _; rw [add_block]; exact hn230_5) | exact hn230_5) (.bool ((rd_T48 l0 x8_1).f1.f4))).trans hx230_3; replace hx230_4 := (cell_far (p := ⟨gb229, 5, none⟩) (by first | (rw [add_block]; exact hn230_5) | (show (Addr.add _ _).block ≠ _; rw [add_block]; exact hn230_5) | exact hn230_5) (.bool ((rd_T48 l0 x8_1).f1.f4))).trans hx230_4; replace hx230_5 := (cell_far (p := ⟨gb229, 5, none⟩) (by first | (rw [add_block]; exact hn230_5) | (show (Addr.add _ _).block ≠ _; rw [add_block]; exact hn230_5) | exact hn230_5) (.bool ((rd_T48 l0 x8_1).f1.f4))).trans hx230_5; replace hx230_6 := (cell_far (p := ⟨gb229, 5, none⟩) (by first | (rw [add_block]; exact hn230_5) | (show (Addr.add _ _).block ≠ _; rw [add_block]; exact hn230_5) | exact hn230_5) (.bool ((rd_T48 l0 x8_1).f1.f4))).trans hx230_6; replace hx230_0 := (cell_far (p := ⟨gb229, 6, none⟩) (by first | (rw [add_block]; exact hn230_6) | (show (Addr.add _ _).block ≠ _; rw [add_block]; exact hn230_6) | exact hn230_6) (.int .i64 ((rd_T48 l0 x8_1).f2))).trans hx230_0; replace hx230_1 := (cell_far (p := ⟨gb229, 6, none⟩) (by first | (rw [add_block]; exact hn230_6) | (show (Addr.add _ _).block ≠ _; rw [add_block]; exact hn230_6) | exact hn230_6) (.int .i64 ((rd_T48 l0 x8_1).f2))).trans hx230_1; replace hx230_2 := (cell_far (p := ⟨gb229, 6, none⟩) (by first | (rw [add_block]; exact hn230_6) | (show (Addr.add _ _).block ≠ _; rw [add_block]; exact hn230_6) | exact hn230_6) (.int .i64 ((rd_T48 l0 x8_1).f2))).trans hx230_2; replace hx230_3 := (cell_far (p := ⟨gb229, 6, none⟩) (by first | (rw [add_block]; exact hn230_6) | (show (Addr.add _ _).block ≠ _; rw [add_block]; exact hn230_6) | exact hn230_6) (.int .i64 ((rd_T48 l0 x8_1).f2))).trans hx230_3; replace hx230_4 := (cell_far (p := ⟨gb229, 6, none⟩) (by first | (rw [add_block]; exact hn230_6) | (show (Addr.add _ _).block ≠ _; rw [add_block]; exact hn230_6) | exact hn230_6) (.int .i64 ((rd_T48 l0 x8_1).f2))).trans hx230_4; replace hx230_5 := (cell_far (p := ⟨gb229, 6, none⟩) (by first | (rw [add_block]; exact hn230_6) | (show (Addr.add _ _).block ≠ _; rw [add_block]; exact hn230_6) | exact hn230_6) (.int .i64 ((rd_T48 l0 x8_1).f2))).trans hx230_5; replace hx230_6 := (cell_far (p := ⟨gb229, 6, none⟩) (by first | (rw [add_block]; exact hn230_6) | (show (Addr.add _ _).block ≠ _; rw [add_block]; exact hn230_6) | exact hn230_6) (.int .i64 ((rd_T48 l0 x8_1).f2))).trans hx230_6; clear hn230_0; clear hn230_1; clear hn230_2; clear hn230_3; clear hn230_4; clear hn230_5; clear hn230_6; replace p230 := eq_true p230; replace q230 := eq_true q230))
             have n0_ : Aside0 ((((((((w24.setCell ⟨gb229, 0, none⟩ (.int .i64 ((rd_T48 l0 x8_1).f0))).setCell ⟨gb229, 1, none⟩ (.int .i64 ((rd_T48 l0 x8_1).f1.f0))).setCell ⟨gb229, 2, none⟩ (.int .i64 ((rd_T48 l0 x8_1).f1.f1))).setCell ⟨gb229, 3, none⟩ (.bool ((rd_T48 l0 x8_1).f1.f2))).setCell ⟨gb229, 4, none⟩ (.bool ((rd_T48 l0 x8_1).f1.f3))).setCell ⟨gb229, 5, none⟩ (.bool ((rd_T48 l0 x8_1).f1.f4))).setCell ⟨gb229, 6, none⟩ (.int .i64 ((rd_T48 l0 x8_1).f2))).heap[gb229]? = some (.cells #[.int .i64 ((rd_T48 l0 x8_1).f0), .int .i64 ((rd_T48 l0 x8_1).f1.f0), .int .i64 ((rd_T48 l0 x8_1).f1.f1), .bool ((rd_T48 l0 x8_1).f1.f2), .bool ((rd_T48 l0 x8_1).f1.f3), .bool ((rd_T48 l0 x8_1).f1.f4), .int .i64 ((rd_T48 l0 x8_1).f2)] 48 (0, 0))) := ⟨by (with_reducible repeat (first | apply k1 | apply k2 | apply k3)); refine blk_put (cs := #[.int .i64 ((rd_T48 l0 x8_1).f0), .int .i64 ((rd_T48 l0 x8_1).f1.f0), .int .i64 ((rd_T48 l0 x8_1).f1.f1), .bool ((rd_T48 l0 x8_1).f1.f2), .bool ((rd_T48 l0 x8_1).f1.f3), .bool ((rd_T48 l0 x8_1).f1.f4), .int .i64 0]) ?_ 6 _ rfl; (with_reducible repeat (first | apply k1 | apply k2 | apply k3)); refine blk_put (cs := #[.int .i64 ((rd_T48 l0 x8_1).f0), .int .i64 ((rd_T48 l0 x8_1).f1.f0), .int .i64 ((rd_T48 l0 x8_1).f1.f1), .bool ((rd_T48 l0 x8_1).f1.f2), .bool ((rd_T48 l0 x8_1).f1.f3), .bool false, .int .i64 0]) ?_ 5 _ rfl; (with_reducible repeat (first | apply k1 | apply k2 | apply k3)); refine blk_put (cs := #[.int .i64 ((rd_T48 l0 x8_1).f0), .int .i64 ((rd_T48 l0 x8_1).f1.f0), .int .i64 ((rd_T48 l0 x8_1).f1.f1), .bool ((rd_T48 l0 x8_1).f1.f2), .bool false, .bool false, .int .i64 0]) ?_ 4 _ rfl; (with_reducible repeat (first | apply k1 | apply k2 | apply k3)); refine blk_put (cs := #[.int .i64 ((rd_T48 l0 x8_1).f0), .int .i64 ((rd_T48 l0 x8_1).f1.f0), .int .i64 ((rd_T48 l0 x8_1).f1.f1), .bool false, .bool false, .bool false, .int .i64 0]) ?_ 3 _ rfl; (with_reducible repeat (first | apply k1 | apply k2 | apply k3)); refine blk_put (cs := #[.int .i64 ((rd_T48 l0 x8_1).f0), .int .i64 ((rd_T48 l0 x8_1).f1.f0), .int .i64 0, .bool false, .bool false, .bool false, .int .i64 0]) ?_ 2 _ rfl; (with_reducible repeat (first | apply k1 | apply k2 | apply k3)); refine blk_put (cs := #[.int .i64 ((rd_T48 l0 x8_1).f0), .int .i64 0, .int .i64 0, .bool false, .bool false, .bool false, .int .i64 0]) ?_ 1 _ rfl; (with_reducible repeat (first | apply k1 | apply k2 | apply k3)); refine blk_put (cs := #[.int .i64 0, .int .i64 0, .int .i64 0, .bool false, .bool false, .bool false, .int .i64 0]) ?_ 0 _ rfl; (with_reducible repeat (first | apply k1 | apply k2 | apply k3)); exact BK229.out⟩
             have n1_ : Aside0 (Below w.heap.size w (((((((w24.setCell ⟨gb229, 0, none⟩ (.int .i64 ((rd_T48 l0 x8_1).f0))).setCell ⟨gb229, 1, none⟩ (.int .i64 ((rd_T48 l0 x8_1).f1.f0))).setCell ⟨gb229, 2, none⟩ (.int .i64 ((rd_T48 l0 x8_1).f1.f1))).setCell ⟨gb229, 3, none⟩ (.bool ((rd_T48 l0 x8_1).f1.f2))).setCell ⟨gb229, 4, none⟩ (.bool ((rd_T48 l0 x8_1).f1.f3))).setCell ⟨gb229, 5, none⟩ (.bool ((rd_T48 l0 x8_1).f1.f4))).setCell ⟨gb229, 6, none⟩ (.int .i64 ((rd_T48 l0 x8_1).f2)))) := ⟨by repeat (first | (with_reducible first | exact HB.out | apply b1 | apply b2 | apply b3 | refine below_set ?_ GE229.out) | exact HB.out)⟩
             (try clear BK229)
             (try clear HB)
             generalize (((((((w24.setCell ⟨gb229, 0, none⟩ (.int .i64 ((rd_T48 l0 x8_1).f0))).setCell ⟨gb229, 1, none⟩ (.int .i64 ((rd_T48 l0 x8_1).f1.f0))).setCell ⟨gb229, 2, none⟩ (.int .i64 ((rd_T48 l0 x8_1).f1.f1))).setCell ⟨gb229, 3, none⟩ (.bool ((rd_T48 l0 x8_1).f1.f2))).setCell ⟨gb229, 4, none⟩ (.bool ((rd_T48 l0 x8_1).f1.f3))).setCell ⟨gb229, 5, none⟩ (.bool ((rd_T48 l0 x8_1).f1.f4))).setCell ⟨gb229, 6, none⟩ (.int .i64 ((rd_T48 l0 x8_1).f2))) = w26 at n0_ n1_ ⊢
             have BK229 := n0_
             have HB := n1_
             clear n0_ n1_
             have n0_ := am (blk_drew BK229.out)
             have n1_ := am (below_drew1 HB.out)
             clear BK229
             clear HB
             have BK229 := n0_
             have HB := n1_
             clear n0_ n1_
             have p232 : 0 ≤ ((ji6) : Int) := dt_
             have q232 : (ji6) < (l0.length : Int) := dt_
             obtain ⟨ad232, e232, hx232_0, hx232_1, hx232_2, hx232_3, hx232_4, hx232_5, hx232_6⟩ := at_T48 HR0.out (ji6) p232 q232
             have hw232_6 := hx232_6
             have hw232_5 := hx232_5
             have hw232_4 := hx232_4
             have hw232_3 := hx232_3
             have hw232_2 := hx232_2
             have hw232_1 := hx232_1
             have hw232_0 := hx232_0
             obtain rfl : ad228 = ad232 := (by injection e232)
             replace hx232_0 := mv HB.out hx232_0
             replace hx232_1 := mv HB.out hx232_1
             replace hx232_2 := mv HB.out hx232_2
             replace hx232_3 := mv HB.out hx232_3
             replace hx232_4 := mv HB.out hx232_4
             replace hx232_5 := mv HB.out hx232_5
             replace hx232_6 := mv HB.out hx232_6
             replace p232 := eq_true p232
             replace q232 := eq_true q232
             refine start_ (n := 24) (S := fun w' => w'.cell? ⟨gb229, 0, none⟩ = some (.int .i64 ((rd_T48 l0 x8_1).f0)) ∧ w'.cell? ⟨gb229, 1, none⟩ = some (.int .i64 ((rd_T48 l0 x8_1).f1.f0)) ∧ w'.cell? ⟨gb229, 2, none⟩ = some (.int .i64 ((rd_T48 l0 x8_1).f1.f1)) ∧ w'.cell? ⟨gb229, 3, none⟩ = some (.bool ((rd_T48 l0 x8_1).f1.f2)) ∧ w'.cell? ⟨gb229, 4, none⟩ = some (.bool ((rd_T48 l0 x8_1).f1.f3)) ∧ w'.cell? ⟨gb229, 5, none⟩ = some (.bool ((rd_T48 l0 x8_1).f1.f4)) ∧ w'.cell? ⟨gb229, 6, none⟩ = some (.int .i64 ((rd_T48 l0 x8_1).f2)) ∧ w'.cell? (ad228.add (((ji6)).toNat * 7)) = some (.int .i64 ((rd_T48 l0 (ji6)).f0)) ∧ w'.cell? ⟨(ad228.add (((ji6)).toNat * 7)).block, (ad228.add (((ji6)).toNat * 7)).off + 1, none⟩ = some (.int .i64 ((rd_T48 l0 (ji6)).f1.f0)) ∧ w'.cell? ⟨(ad228.add (((ji6)).toNat * 7)).block, (ad228.add (((ji6)).toNat * 7)).off + 2, none⟩ = some (.int .i64 ((rd_T48 l0 (ji6)).f1.f1)) ∧ w'.cell? ⟨(ad228.add (((ji6)).toNat * 7)).block, (ad228.add (((ji6)).toNat * 7)).off + 3, none⟩ = some (.bool ((rd_T48 l0 (ji6)).f1.f2)) ∧ w'.cell? ⟨(ad228.add (((ji6)).toNat * 7)).block, (ad228.add (((ji6)).toNat * 7)).off + 4, none⟩ = some (.bool ((rd_T48 l0 (ji6)).f1.f3)) ∧ w'.cell? ⟨(ad228.add (((ji6)).toNat * 7)).block, (ad228.add (((ji6)).toNat * 7)).off + 5, none⟩ = some (.bool ((rd_T48 l0 (ji6)).f1.f4)) ∧ w'.cell? ⟨(ad228.add (((ji6)).toNat * 7)).block, (ad228.add (((ji6)).toNat * 7)).off + 6, none⟩ = some (.int .i64 ((rd_T48 l0 (ji6)).f2))) (ds := []) (bm 24 0) (by kernel_rfl) rfl rfl ⟨(blk_cell BK229.out 0).trans rfl, (blk_cell BK229.out 1).trans rfl, (blk_cell BK229.out 2).trans rfl, (blk_cell BK229.out 3).trans rfl, (blk_cell BK229.out 4).trans rfl, (blk_cell BK229.out 5).trans rfl, (blk_cell BK229.out 6).trans rfl, ((HB.out.cell (World.block_lt_of_cell? w _ hw232_0)).trans hw232_0), ((HB.out.cell (World.block_lt_of_cell? w _ hw232_1)).trans hw232_1), ((HB.out.cell (World.block_lt_of_cell? w _ hw232_2)).trans hw232_2), ((HB.out.cell (World.block_lt_of_cell? w _ hw232_3)).trans hw232_3), ((HB.out.cell (World.block_lt_of_cell? w _ hw232_4)).trans hw232_4), ((HB.out.cell (World.block_lt_of_cell? w _ hw232_5)).trans hw232_5), ((HB.out.cell (World.block_lt_of_cell? w _ hw232_6)).trans hw232_6)⟩ (fun hHeld => ?_); refine with_tabW impl_RowOk.tab5 impl_RowOk.bits5 (fun HT_ HW_ => ?_)
             generalize w26.drew = w27 at BK229 HB hx232_0 hx232_1 hx232_2 hx232_3 hx232_4 hx232_5 hx232_6 hHeld ⊢
             refine take_ (i := 0) (N := some 24) (v := ?_) (a' := ?_) (bm 24 1) rfl rfl (take_ofW HT_.out HW_.out (by kernel_rfl)) (fun _ _ _ h => h) (Or.inl ⟨by rfl, ?_⟩) hHeld ?_ ?_
             rotate_left
             ·rintro w' ⟨s0, s1, s2, s3, s4, s5, s6, s7, s8, s9, s10, s11, s12, s13⟩
              go_simp
              with_reducible rfl
             rotate_left
             ·simp only [Act.put, List.setIfInBounds_toArray, List.set_cons_zero, List.set_cons_succ, i64_w, i32_w]
              rfl
             refine one_ (i := 1) (N := some 25) (bm 24 3) rfl rfl (one_of HT_.out (by kernel_rfl)) (by decide) (fun K hK => ?_)
             refine goes_ Tryd.func56 (by kernel_rfl) rfl #[.agg #[.int .i64 ((rd_T48 l0 x8_1).f0), .int .i64 ((rd_T48 l0 x8_1).f1.f0), .int .i64 ((rd_T48 l0 x8_1).f1.f1), .bool ((rd_T48 l0 x8_1).f1.f2), .bool ((rd_T48 l0 x8_1).f1.f3), .bool ((rd_T48 l0 x8_1).f1.f4), .int .i64 ((rd_T48 l0 x8_1).f2)]] (by rfl) rfl rfl (by (try simp only [List.map_toArray, List.map_cons, List.map_nil]); first | done | rfl | (simp only [List.length_drop, List.length_take]; rfl)) ?_
             with_reducible refine (impl_isCell.calls k1 ((rd_T48 l0 x8_1).f0) ((rd_T48 l0 x8_1).f1.f0) ((rd_T48 l0 x8_1).f1.f1) ((rd_T48 l0 x8_1).f1.f2) ((rd_T48 l0 x8_1).f1.f3) ((rd_T48 l0 x8_1).f1.f4) ((rd_T48 l0 x8_1).f2) true _ A9.out).mono ?_
             rintro e w28 ⟨rfl, hb⟩
             refine ⟨_, rfl, ?_⟩
             have n0_ := am (blk_below (g := gb229) (o := .cells #[.int .i64 ((rd_T48 l0 x8_1).f0), .int .i64 ((rd_T48 l0 x8_1).f1.f0), .int .i64 ((rd_T48 l0 x8_1).f1.f1), .bool ((rd_T48 l0 x8_1).f1.f2), .bool ((rd_T48 l0 x8_1).f1.f3), .bool ((rd_T48 l0 x8_1).f1.f4), .int .i64 ((rd_T48 l0 x8_1).f2)] 48 (0, 0)) (rk BK229) hb)
             have n1_ := am (below_step (rb1 HB GE229) hb)
             clear BK229
             clear HB
             have BK229 := n0_
             have HB := n1_
             clear n0_ n1_
             (try clear hb)
             (try clear hb2)
             (try clear hk)
             (try clear hi)
             refine hK.out _ _ ⟨(blk_cell BK229.out 0).trans rfl, (blk_cell BK229.out 1).trans rfl, (blk_cell BK229.out 2).trans rfl, (blk_cell BK229.out 3).trans rfl, (blk_cell BK229.out 4).trans rfl, (blk_cell BK229.out 5).trans rfl, (blk_cell BK229.out 6).trans rfl, ((HB.out.cell (World.block_lt_of_cell? w _ hw232_0)).trans hw232_0), ((HB.out.cell (World.block_lt_of_cell? w _ hw232_1)).trans hw232_1), ((HB.out.cell (World.block_lt_of_cell? w _ hw232_2)).trans hw232_2), ((HB.out.cell (World.block_lt_of_cell? w _ hw232_3)).trans hw232_3), ((HB.out.cell (World.block_lt_of_cell? w _ hw232_4)).trans hw232_4), ((HB.out.cell (World.block_lt_of_cell? w _ hw232_5)).trans hw232_5), ((HB.out.cell (World.block_lt_of_cell? w _ hw232_6)).trans hw232_6)⟩ (fun hHeld => ?_)
             clear hK K
             refine norm_ (a' := ?_) ?_ ?_
             rotate_left
             ·show Act.put _ (some 25) _ = _
              simp only [Act.put, List.setIfInBounds_toArray, List.set_cons_zero, List.set_cons_succ, i64_w, i32_w]
              rfl
             refine pu_ 2 26 (bm 24 7) HT_.out ?_
             refine pu_ 3 27 (bm 24 15) HT_.out ?_
             refine pu_ 4 28 (bm 24 31) HT_.out ?_
             refine pu_ 5 29 (bm 24 63) HT_.out ?_
             refine take_ (i := 6) (N := some 30) (v := ?_) (a' := ?_) (bm 24 127) rfl rfl (take_ofW HT_.out HW_.out (by kernel_rfl)) (fun _ _ _ h => h) (Or.inl ⟨by rfl, ?_⟩) hHeld ?_ ?_
             rotate_left
             ·rintro w' ⟨s0, s1, s2, s3, s4, s5, s6, s7, s8, s9, s10, s11, s12, s13⟩
              go_simp
              with_reducible rfl
             rotate_left
             ·simp only [Act.put, List.setIfInBounds_toArray, List.set_cons_zero, List.set_cons_succ, i64_w, i32_w]
              rfl
             refine pu_ 7 31 (bm 24 255) HT_.out ?_
             refine pu_ 8 32 (bm 24 511) HT_.out ?_
             refine pu_ 9 33 (bm 24 1023) HT_.out ?_
             refine pu_ 10 34 (bm 24 2047) HT_.out ?_
             refine pu_ 11 35 (bm 24 4095) HT_.out ?_
             refine pu_ 12 36 (bm 24 8191) HT_.out ?_
             refine pu_ 13 37 (bm 24 16383) HT_.out ?_
             refine pu_ 14 38 (bm 24 32767) HT_.out ?_
             refine pu_ 15 39 (bm 24 65535) HT_.out ?_
             refine pu_ 16 40 (bm 24 131071) HT_.out ?_
             refine pu_ 17 41 (bm 24 262143) HT_.out ?_
             refine pu_ 19 43 (bm 24 786431) HT_.out ?_
             refine take_ (i := 18) (N := some 42) (v := ?_) (a' := ?_) (bm 24 1048575) rfl rfl (take_ofW HT_.out HW_.out (by kernel_rfl)) (fun _ _ _ h => h) (Or.inl ⟨by rfl, ?_⟩) hHeld ?_ ?_
             rotate_left
             ·rintro w' ⟨s0, s1, s2, s3, s4, s5, s6, s7, s8, s9, s10, s11, s12, s13⟩
              go_simp
              with_reducible rfl
             rotate_left
             ·simp only [Act.put, List.setIfInBounds_toArray, List.set_cons_zero, List.set_cons_succ, i64_w, i32_w]
              rfl
             refine take_ (i := 20) (N := some 44) (v := ?_) (a' := ?_) (bm 24 2097151) rfl rfl (take_ofW HT_.out HW_.out (by kernel_rfl)) (fun _ _ _ h => h) (Or.inl ⟨by rfl, ?_⟩) hHeld ?_ ?_
             rotate_left
             ·rintro w' ⟨s0, s1, s2, s3, s4, s5, s6, s7, s8, s9, s10, s11, s12, s13⟩
              go_simp
              with_reducible rfl
             rotate_left
             ·simp only [Act.put, List.setIfInBounds_toArray, List.set_cons_zero, List.set_cons_succ, i64_w, i32_w]
              rfl
             refine pu_ 21 45 (bm 24 4194303) HT_.out ?_
             refine pu_ 22 46 (bm 24 8388607) HT_.out ?_
             refine pu_ 23 47 (bm 24 16777215) HT_.out ?_
             refine done_ (done_of HT_.out (by kernel_rfl)) ?_
             try go_wp2
             go_roundg k1
             case measure => have := HK1.out; omega
             case rel => exact ⟨(wrap64 (x8_1 + 1)), (by first | rfl | (simp; done) | (simp [*]; done)), H', ⟨by have := HK1.out; omega⟩, ⟨by repeat (first | (with_reducible first | exact HB.out | apply b1 | apply b2 | apply b3 | refine below_set ?_ GE229.out) | exact HB.out)⟩⟩
           ·rw [if_neg c17] at H
            have c17b0 : (((rd_T48 l0 (ji6)).f2) == 1) = false := beq_eq_false_iff_ne.mpr c17
            (try (have c17e : (((rd_T48 l0 x8_1).f2) == 2) = false := by have h_ := c11b0; rw [c17b0] at h_; revert h_; cases (((rd_T48 l0 x8_1).f2) == 2) <;> decide))
            have c17b1 : (((rd_T48 l0 (ji6)).f2) != 1) = true := bne_iff_ne.mpr c17
            have H' := am H
            clear H
            have p228 : 0 ≤ (x8_1 : Int) := dt_
            have q228 : x8_1 < (l0.length : Int) := dt_
            obtain ⟨ad228, e228, hx228_0, hx228_1, hx228_2, hx228_3, hx228_4, hx228_5, hx228_6⟩ := at_T48 HR0.out x8_1 p228 q228
            cases e228
            replace hx228_0 := mv HB.out hx228_0
            replace hx228_1 := mv HB.out hx228_1
            replace hx228_2 := mv HB.out hx228_2
            replace hx228_3 := mv HB.out hx228_3
            replace hx228_4 := mv HB.out hx228_4
            replace hx228_5 := mv HB.out hx228_5
            replace hx228_6 := mv HB.out hx228_6
            replace p228 := eq_true p228
            replace q228 := eq_true q228
            try go_wp2_with (first | ((with_reducible refine gate_dst (N := 4) rfl ?_); (try (refine gate_guard (by rfl) ?_; dsimp only)); refine box_event ?hg (N := 4) ?hd (cs := #[.int .i64 0, .int .i64 0, .int .i64 0, .bool false, .bool false, .bool false, .int .i64 0]) (t := 48) ?hr ?_; (case hd => rfl); (case hg => rfl); (case hr => first | (go_simp; done) | (go_simp; rfl)); intro gb229 hg w29 hbox hb; have n0_ := am (below_step (rb HB) hb); have n1_ := am (hbox); have n2_ := am ((by rw [hg]; exact (below_size (rb HB)) : w.heap.size ≤ gb229)); have n3_ := am ((by rw [hg]; exact (below_size (rb HB)) : w.heap.size ≤ gb229)); clear HB; have HB := n0_; have BK229 := n1_; have GW229 := n2_; have GE229 := n3_; clear n0_ n1_ n2_ n3_; clear hb hbox hg; have hcz30_0 : w29.cell? ⟨gb229, 0, none⟩ = some (.int .i64 0) := (blk_cell BK229.out 0).trans rfl; have hcz30_1 : w29.cell? ⟨gb229, 1, none⟩ = some (.int .i64 0) := (blk_cell BK229.out 1).trans rfl; have hcz30_2 : w29.cell? ⟨gb229, 2, none⟩ = some (.int .i64 0) := (blk_cell BK229.out 2).trans rfl; have hcz30_3 : w29.cell? ⟨gb229, 3, none⟩ = some (.bool false) := (blk_cell BK229.out 3).trans rfl; have hcz30_4 : w29.cell? ⟨gb229, 4, none⟩ = some (.bool false) := (blk_cell BK229.out 4).trans rfl; have hcz30_5 : w29.cell? ⟨gb229, 5, none⟩ = some (.bool false) := (blk_cell BK229.out 5).trans rfl; have hcz30_6 : w29.cell? ⟨gb229, 6, none⟩ = some (.int .i64 0) := (blk_cell BK229.out 6).trans rfl; have hfz30_0 := blk_frozen BK229.out 0; have hfz30_1 := blk_frozen BK229.out 1; have hfz30_2 := blk_frozen BK229.out 2; have hfz30_3 := blk_frozen BK229.out 3; have hfz30_4 := blk_frozen BK229.out 4; have hfz30_5 := blk_frozen BK229.out 5; have hfz30_6 := blk_frozen BK229.out 6; have p230 : 0 ≤ ((ji6) : Int) := dt_; have q230 : (ji6) < (l0.length : Int) := dt_; obtain ⟨ad230, e230, hx230_0, hx230_1, hx230_2, hx230_3, hx230_4, hx230_5, hx230_6⟩ := at_T48 HR0.out (ji6) p230 q230; obtain rfl : ad228 = ad230 := (by injection e230); have hn230_0 : ad228.block ≠ gb229 := Nat.ne_of_lt (Nat.lt_of_lt_of_le (by have := World.block_lt_of_cell? _ _ hx230_0; first | rwa [add_block] at this | exact this) GW229.out); have hn230_1 : ad228.block ≠ gb229 := Nat.ne_of_lt (Nat.lt_of_lt_of_le (by have := World.block_lt_of_cell? _ _ hx230_0; first | rwa [add_block] at this | exact this) GW229.out); have hn230_2 : ad228.block ≠ gb229 := Nat.ne_of_lt (Nat.lt_of_lt_of_le (by have := World.block_lt_of_cell? _ _ hx230_0; first | rwa [add_block] at this | exact this) GW229.out); have hn230_3 : ad228.block ≠ gb229 := Nat.ne_of_lt (Nat.lt_of_lt_of_le (by have := World.block_lt_of_cell? _ _ hx230_0; first | rwa [add_block] at this | exact this) GW229.out); have hn230_4 : ad228.block ≠ gb229 := Nat.ne_of_lt (Nat.lt_of_lt_of_le (by have := World.block_lt_of_cell? _ _ hx230_0; first | rwa [add_block] at this | exact this) GW229.out); have hn230_5 : ad228.block ≠ gb229 := Nat.ne_of_lt (Nat.lt_of_lt_of_le (by have := World.block_lt_of_cell? _ _ hx230_0; first | rwa [add_block] at this | exact this) GW229.out); have hn230_6 : ad228.block ≠ gb229 := Nat.ne_of_lt (Nat.lt_of_lt_of_le (by have := World.block_lt_of_cell? _ _ hx230_0; first | rwa [add_block] at this | exact this) GW229.out); replace hx230_0 := (HB.out.cell (World.block_lt_of_cell? w _ hx230_0)).trans hx230_0; replace hx230_1 := (HB.out.cell (World.block_lt_of_cell? w _ hx230_1)).trans hx230_1; replace hx230_2 := (HB.out.cell (World.block_lt_of_cell? w _ hx230_2)).trans hx230_2; replace hx230_3 := (HB.out.cell (World.block_lt_of_cell? w _ hx230_3)).trans hx230_3; replace hx230_4 := (HB.out.cell (World.block_lt_of_cell? w _ hx230_4)).trans hx230_4; replace hx230_5 := (HB.out.cell (World.block_lt_of_cell? w _ hx230_5)).trans hx230_5; replace hx230_6 := (HB.out.cell (World.block_lt_of_cell? w _ hx230_6)).trans hx230_6; replace hx230_0 := (cell_far (p := ⟨gb229, 0, none⟩) (by first | (rw [add_block]; exact hn230_0) | (show (Addr.add _ _).block ≠ _; rw [add_block]; exact hn230_0) | exact hn230_0) (.int .i64 ((rd_T48 l0 x8_1).f0))).trans hx230_0; replace hx230_1 := (cell_far (p := ⟨gb229, 0, none⟩) (by first | (rw [add_block]; exact hn230_0) | (show (Addr.add _ _).block ≠ _; rw [add_block]; exact hn230_0) | exact hn230_0) (.int .i64 ((rd_T48 l0 x8_1).f0))).trans hx230_1; replace hx230_2 := (cell_far (p := ⟨gb229, 0, none⟩) (by first | (rw [add_block]; exact hn230_0) | (show (Addr.add _ _).block ≠ _; rw [add_block]; exact hn230_0) | exact hn230_0) (.int .i64 ((rd_T48 l0 x8_1).f0))).trans hx230_2; replace hx230_3 := (cell_far (p := ⟨gb229, 0, none⟩) (by first | (rw [add_block]; exact hn230_0) | (show (Addr.add _ _).block ≠ _; rw [add_block]; exact hn230_0) | exact hn230_0) (.int .i64 ((rd_T48 l0 x8_1).f0))).trans hx230_3; replace hx230_4 := (cell_far (p := ⟨gb229, 0, none⟩) (by first | (rw [add_block]; exact hn230_0) | (show (Addr.add _ _).block ≠ _; rw [add_block]; exact hn230_0) | exact hn230_0) (.int .i64 ((rd_T48 l0 x8_1).f0))).trans hx230_4; replace hx230_5 := (cell_far (p := ⟨gb229, 0, none⟩) (by first | (rw [add_block]; exact hn230_0) | (show (Addr.add _ _).block ≠ _; rw [add_block]; exact hn230_0) | exact hn230_0) (.int .i64 ((rd_T48 l0 x8_1).f0))).trans hx230_5; replace hx230_6 := (cell_far (p := ⟨gb229, 0, none⟩) (by first | (rw [add_block]; exact hn230_0) | (show (Addr.add _ _).block ≠ _; rw [add_block]; exact hn230_0) | exact hn230_0) (.int .i64 ((rd_T48 l0 x8_1).f0))).trans hx230_6; replace hx230_0 := (cell_far (p := ⟨gb229, 1, none⟩) (by first | (rw [add_block]; exact hn230_1) | (show (Addr.add _ _).block ≠ _; rw [add_block]; exact hn230_1) | exact hn230_1) (.int .i64 ((rd_T48 l0 x8_1).f1.f0))).trans hx230_0; replace hx230_1 := (cell_far (p := ⟨gb229, 1, none⟩) (by first | (rw [add_block]; exact hn230_1) | (show (Addr.add _ _).block ≠ _; rw [add_block]; exact hn230_1) | exact hn230_1) (.int .i64 ((rd_T48 l0 x8_1).f1.f0))).trans hx230_1; replace hx230_2 := (cell_far (p := ⟨gb229, 1, none⟩) (by first | (rw [add_block]; exact hn230_1) | (show (Addr.add _ _).block ≠ _; rw [add_block]; exact hn230_1) | exact hn230_1) (.int .i64 ((rd_T48 l0 x8_1).f1.f0))).trans hx230_2; replace hx230_3 := (cell_far (p := ⟨gb229, 1, none⟩) (by first | (rw [add_block]; exact hn230_1) | (show (Addr.add _ _).block ≠ _; rw [add_block]; exact hn230_1) | exact hn230_1) (.int .i64 ((rd_T48 l0 x8_1).f1.f0))).trans hx230_3; replace hx230_4 := (cell_far (p := ⟨gb229, 1, none⟩) (by first | (rw [add_block]; exact hn230_1) | (show (Addr.add _ _).block ≠ _; rw [add_block]; exact hn230_1) | exact hn230_1) (.int .i64 ((rd_T48 l0 x8_1).f1.f0))).trans hx230_4; replace hx230_5 := (cell_far (p := ⟨gb229, 1, none⟩) (by first | (rw [add_block]; exact hn230_1) | (show (Addr.add _ _).block ≠ _; rw [add_block]; exact hn230_1) | exact hn230_1) (.int .i64 ((rd_T48 l0 x8_1).f1.f0))).trans hx230_5; replace hx230_6 := (cell_far (p := ⟨gb229, 1, none⟩) (by first | (rw [add_block]; exact hn230_1) | (show (Addr.add _ _).block ≠ _; rw [add_block]; exact hn230_1) | exact hn230_1) (.int .i64 ((rd_T48 l0 x8_1).f1.f0))).trans hx230_6; replace hx230_0 := (cell_far (p := ⟨gb229, 2, none⟩) (by first | (rw [add_block]; exact hn230_2) | (show (Addr.add _ _).block ≠ _; rw [add_block]; exact hn230_2) | exact hn230_2) (.int .i64 ((rd_T48 l0 x8_1).f1.f1))).trans hx230_0; replace hx230_1 := (cell_far (p := ⟨gb229, 2, none⟩) (by first | (rw [add_block]; exact hn230_2) | (show (Addr.add _ _).block ≠ _; rw [add_block]; exact hn230_2) | exact hn230_2) (.int .i64 ((rd_T48 l0 x8_1).f1.f1))).trans hx230_1; replace hx230_2 := (cell_far (p := ⟨gb229, 2, none⟩) (by first | (rw [add_block]; exact hn230_2) | (show (Addr.add _ _).block ≠ _; rw [add_block]; exact hn230_2) | exact hn230_2) (.int .i64 ((rd_T48 l0 x8_1).f1.f1))).trans hx230_2; replace hx230_3 := (cell_far (p := ⟨gb229, 2, none⟩) (by first | (rw [add_block]; exact hn230_2) | (show (Addr.add _ _).block ≠ _; rw [add_block]; exact hn230_2) | exact hn230_2) (.int .i64 ((rd_T48 l0 x8_1).f1.f1))).trans hx230_3; replace hx230_4 := (cell_far (p := ⟨gb229, 2, none⟩) (by first | (rw [add_block]; exact hn230_2) | (show (Addr.add _ _).block ≠ _; rw [add_block]; exact hn230_2) | exact hn230_2) (.int .i64 ((rd_T48 l0 x8_1).f1.f1))).trans hx230_4; replace hx230_5 := (cell_far (p := ⟨gb229, 2, none⟩) (by first | (rw [add_block]; exact hn230_2) | (show (Addr.add _ _).block ≠ _; rw [add_block]; exact hn230_2) | exact hn230_2) (.int .i64 ((rd_T48 l0 x8_1).f1.f1))).trans hx230_5; replace hx230_6 := (cell_far (p := ⟨gb229, 2, none⟩) (by first | (rw [add_block]; exact hn230_2) | (show (Addr.add _ _).block ≠ _; rw [add_block]; exact hn230_2) | exact hn230_2) (.int .i64 ((rd_T48 l0 x8_1).f1.f1))).trans hx230_6; replace hx230_0 := (cell_far (p := ⟨gb229, 3, none⟩) (by first | (rw [add_block]; exact hn230_3) | (show (Addr.add _ _).block ≠ _; rw [add_block]; exact hn230_3) | exact hn230_3) (.bool ((rd_T48 l0 x8_1).f1.f2))).trans hx230_0; replace hx230_1 := (cell_far (p := ⟨gb229, 3, none⟩) (by first | (rw [add_block]; exact hn230_3) | (show (Addr.add _ _).block ≠ _; rw [add_block]; exact hn230_3) | exact hn230_3) (.bool ((rd_T48 l0 x8_1).f1.f2))).trans hx230_1; replace hx230_2 := (cell_far (p := ⟨gb229, 3, none⟩) (by first | (rw [add_block]; exact hn230_3) | (show (Addr.add _ _).block ≠ _; rw [add_block]; exact hn230_3) | exact hn230_3) (.bool ((rd_T48 l0 x8_1).f1.f2))).trans hx230_2; replace hx230_3 := (cell_far (p := ⟨gb229, 3, none⟩) (by first | (rw [add_block]; exact hn230_3) | (show (Addr.add _ _).block ≠ _; rw [add_block]; exact hn230_3) | exact hn230_3) (.bool ((rd_T48 l0 x8_1).f1.f2))).trans hx230_3; replace hx230_4 := (cell_far (p := ⟨gb229, 3, none⟩) (by first | (rw [add_block]; exact hn230_3) | (show (Addr.add _ _).block ≠ _; rw [add_block]; exact hn230_3) | exact hn230_3) (.bool ((rd_T48 l0 x8_1).f1.f2))).trans hx230_4; replace hx230_5 := (cell_far (p := ⟨gb229, 3, none⟩) (by first | (rw [add_block]; exact hn230_3) | (show (Addr.add _ _).block ≠ _; rw [add_block]; exact hn230_3) | exact hn230_3) (.bool ((rd_T48 l0 x8_1).f1.f2))).trans hx230_5; replace hx230_6 := (cell_far (p := ⟨gb229, 3, none⟩) (by first | (rw [add_block]; exact hn230_3) | (show (Addr.add _ _).block ≠ _; rw [add_block]; exact hn230_3) | exact hn230_3) (.bool ((rd_T48 l0 x8_1).f1.f2))).trans hx230_6; replace hx230_0 := (cell_far (p := ⟨gb229, 4, none⟩) (by first | (rw [add_block]; exact hn230_4) | (show (Addr.add _ _).block ≠ _; rw [add_block]; exact hn230_4) | exact hn230_4) (.bool ((rd_T48 l0 x8_1).f1.f3))).trans hx230_0; replace hx230_1 := (cell_far (p := ⟨gb229, 4, none⟩) (by first | (rw [add_block]; exact hn230_4) | (show (Addr.add _ _).block ≠ _; rw [add_block]; exact hn230_4) | exact hn230_4) (.bool ((rd_T48 l0 x8_1).f1.f3))).trans hx230_1; replace hx230_2 := (cell_far (p := ⟨gb229, 4, none⟩) (by first | (rw [add_block]; exact hn230_4) | (show (Addr.add _ _).block ≠ _; rw [add_block]; exact hn230_4) | exact hn230_4) (.bool ((rd_T48 l0 x8_1).f1.f3))).trans hx230_2; replace hx230_3 := (cell_far (p := ⟨gb229, 4, none⟩) (by first | (rw [add_block]; exact hn230_4) | (show (Addr.add _ _).block ≠ _; rw [add_block]; exact hn230_4) | exact hn230_4) (.bool ((rd_T48 l0 x8_1).f1.f3))).trans hx230_3; replace hx230_4 := (cell_far (p := ⟨gb229, 4, none⟩) (by first | (rw [add_block]; exact hn230_4) | (show (Addr.add _ _).block ≠ _; rw [add_block]; exact hn230_4) | exact hn230_4) (.bool ((rd_T48 l0 x8_1).f1.f3))).trans hx230_4; replace hx230_5 := (cell_far (p := ⟨gb229, 4, none⟩) (by first | (rw [add_block]; exact hn230_4) | (show (Addr.add _ _).block ≠ _; rw [add_block]; exact hn230_4) | exact hn230_4) (.bool ((rd_T48 l0 x8_1).f1.f3))).trans hx230_5; replace hx230_6 := (cell_far (p := ⟨gb229, 4, none⟩) (by first | (rw [add_block]; exact hn230_4) | (show (Addr.add _ _).block ≠ _; rw [add_block]; exact hn230_4) | exact hn230_4) (.bool ((rd_T48 l0 x8_1).f1.f3))).trans hx230_6; replace hx230_0 := (cell_far (p := ⟨gb229, 5, none⟩) (by first | (rw [add_block]; exact hn230_5) | (show (Addr.add _ _).block ≠ _; rw [add_block]; exact hn230_5) | exact hn230_5) (.bool ((rd_T48 l0 x8_1).f1.f4))).trans hx230_0; replace hx230_1 := (cell_far (p := ⟨gb229, 5, none⟩) (by first | (rw [add_block]; exact hn230_5) | (show (Addr.add _ _).block ≠ _; rw [add_block]; exact hn230_5) | exact hn230_5) (.bool ((rd_T48 l0 x8_1).f1.f4))).trans hx230_1; replace hx230_2 := (cell_far (p := ⟨gb229, 5, none⟩) (by first | (rw [add_block]; exact hn230_5) | (show (Addr.add _ _).block ≠ _; rw [add_block]; exact hn230_5) | exact hn230_5) (.bool ((rd_T48 l0 x8_1).f1.f4))).trans hx230_2; replace hx230_3 := (cell_far (p := ⟨gb229, 5, none⟩) (by first | (rw [add_block]; exact hn230_5) | (show (Addr.add _ _).block ≠ _; rw [add_block]; exact hn230_5) | exact hn230_5) (.bool ((rd_T48 l0 x8_1).f1.f4))).trans hx230_3; replace hx230_4 := (cell_far (p := ⟨gb229, 5, none⟩) (by first | (rw [add_block]; exact hn230_5) | (show (Addr.add _ _).block ≠ _; rw [add_block]; exact hn230_5) | exact hn230_5) (.bool ((rd_T48 l0 x8_1).f1.f4))).trans hx230_4; replace hx230_5 := (cell_far (p := ⟨gb229, 5, none⟩) (by first | (rw [add_block]; exact hn230_5) | (show (Addr.add _ _).block ≠ _; rw [add_block]; exact hn230_5) | exact hn230_5) (.bool ((rd_T48 l0 x8_1).f1.f4))).trans hx230_5; replace hx230_6 := (cell_far (p := ⟨gb229, 5, none⟩) (by first | (rw [add_block]; exact hn230_5) | (show (Addr.add _ _).block ≠ _; rw [add_block]; exact hn230_5) | exact hn230_5) (.bool ((rd_T48 l0 x8_1).f1.f4))).trans hx230_6; replace hx230_0 := (cell_far (p := ⟨gb229, 6, none⟩) (by first | (rw [add_block]; exact hn230_6) | (show (Addr.add _ _).block ≠ _; rw [add_block]; exact hn230_6) | exact hn230_6) (.int .i64 ((rd_T48 l0 x8_1).f2))).trans hx230_0; replace hx230_1 := (cell_far (p := ⟨gb229, 6, none⟩) (by first | (rw [add_block]; exact hn230_6) | (show (Addr.add _ _).block ≠ _; rw [add_block]; exact hn230_6) | exact hn230_6) (.int .i64 ((rd_T48 l0 x8_1).f2))).trans hx230_1; replace hx230_2 := (cell_far (p := ⟨gb229, 6, none⟩) (by first | (rw [add_block]; exact hn230_6) | (show (Addr.add _ _).block ≠ _; rw [add_block]; exact hn230_6) | exact hn230_6) (.int .i64 ((rd_T48 l0 x8_1).f2))).trans hx230_2; replace hx230_3 := (cell_far (p := ⟨gb229, 6, none⟩) (by first | (rw [add_block]; exact hn230_6) | (show (Addr.add _ _).block ≠ _; rw [add_block]; exact hn230_6) | exact hn230_6) (.int .i64 ((rd_T48 l0 x8_1).f2))).trans hx230_3; replace hx230_4 := (cell_far (p := ⟨gb229, 6, none⟩) (by first | (rw [add_block]; exact hn230_6) | (show (Addr.add _ _).block ≠ _; rw [add_block]; exact hn230_6) | exact hn230_6) (.int .i64 ((rd_T48 l0 x8_1).f2))).trans hx230_4; replace hx230_5 := (cell_far (p := ⟨gb229, 6, none⟩) (by first | (rw [add_block]; exact hn230_6) | (show (Addr.add _ _).block ≠ _; rw [add_block]; exact hn230_6) | exact hn230_6) (.int .i64 ((rd_T48 l0 x8_1).f2))).trans hx230_5; replace hx230_6 := (cell_far (p := ⟨gb229, 6, none⟩) (by first | (rw [add_block]; exact hn230_6) | (show (Addr.add _ _).block ≠ _; rw [add_block]; exact hn230_6) | exact hn230_6) (.int .i64 ((rd_T48 l0 x8_1).f2))).trans hx230_6; clear hn230_0; clear hn230_1; clear hn230_2; clear hn230_3; clear hn230_4; clear hn230_5; clear hn230_6; replace p230 := eq_true p230; replace q230 := eq_true q230))
            have n0_ : Aside0 ((((((((w29.setCell ⟨gb229, 0, none⟩ (.int .i64 ((rd_T48 l0 x8_1).f0))).setCell ⟨gb229, 1, none⟩ (.int .i64 ((rd_T48 l0 x8_1).f1.f0))).setCell ⟨gb229, 2, none⟩ (.int .i64 ((rd_T48 l0 x8_1).f1.f1))).setCell ⟨gb229, 3, none⟩ (.bool ((rd_T48 l0 x8_1).f1.f2))).setCell ⟨gb229, 4, none⟩ (.bool ((rd_T48 l0 x8_1).f1.f3))).setCell ⟨gb229, 5, none⟩ (.bool ((rd_T48 l0 x8_1).f1.f4))).setCell ⟨gb229, 6, none⟩ (.int .i64 ((rd_T48 l0 x8_1).f2))).heap[gb229]? = some (.cells #[.int .i64 ((rd_T48 l0 x8_1).f0), .int .i64 ((rd_T48 l0 x8_1).f1.f0), .int .i64 ((rd_T48 l0 x8_1).f1.f1), .bool ((rd_T48 l0 x8_1).f1.f2), .bool ((rd_T48 l0 x8_1).f1.f3), .bool ((rd_T48 l0 x8_1).f1.f4), .int .i64 ((rd_T48 l0 x8_1).f2)] 48 (0, 0))) := ⟨by (with_reducible repeat (first | apply k1 | apply k2 | apply k3)); refine blk_put (cs := #[.int .i64 ((rd_T48 l0 x8_1).f0), .int .i64 ((rd_T48 l0 x8_1).f1.f0), .int .i64 ((rd_T48 l0 x8_1).f1.f1), .bool ((rd_T48 l0 x8_1).f1.f2), .bool ((rd_T48 l0 x8_1).f1.f3), .bool ((rd_T48 l0 x8_1).f1.f4), .int .i64 0]) ?_ 6 _ rfl; (with_reducible repeat (first | apply k1 | apply k2 | apply k3)); refine blk_put (cs := #[.int .i64 ((rd_T48 l0 x8_1).f0), .int .i64 ((rd_T48 l0 x8_1).f1.f0), .int .i64 ((rd_T48 l0 x8_1).f1.f1), .bool ((rd_T48 l0 x8_1).f1.f2), .bool ((rd_T48 l0 x8_1).f1.f3), .bool false, .int .i64 0]) ?_ 5 _ rfl; (with_reducible repeat (first | apply k1 | apply k2 | apply k3)); refine blk_put (cs := #[.int .i64 ((rd_T48 l0 x8_1).f0), .int .i64 ((rd_T48 l0 x8_1).f1.f0), .int .i64 ((rd_T48 l0 x8_1).f1.f1), .bool ((rd_T48 l0 x8_1).f1.f2), .bool false, .bool false, .int .i64 0]) ?_ 4 _ rfl; (with_reducible repeat (first | apply k1 | apply k2 | apply k3)); refine blk_put (cs := #[.int .i64 ((rd_T48 l0 x8_1).f0), .int .i64 ((rd_T48 l0 x8_1).f1.f0), .int .i64 ((rd_T48 l0 x8_1).f1.f1), .bool false, .bool false, .bool false, .int .i64 0]) ?_ 3 _ rfl; (with_reducible repeat (first | apply k1 | apply k2 | apply k3)); refine blk_put (cs := #[.int .i64 ((rd_T48 l0 x8_1).f0), .int .i64 ((rd_T48 l0 x8_1).f1.f0), .int .i64 0, .bool false, .bool false, .bool false, .int .i64 0]) ?_ 2 _ rfl; (with_reducible repeat (first | apply k1 | apply k2 | apply k3)); refine blk_put (cs := #[.int .i64 ((rd_T48 l0 x8_1).f0), .int .i64 0, .int .i64 0, .bool false, .bool false, .bool false, .int .i64 0]) ?_ 1 _ rfl; (with_reducible repeat (first | apply k1 | apply k2 | apply k3)); refine blk_put (cs := #[.int .i64 0, .int .i64 0, .int .i64 0, .bool false, .bool false, .bool false, .int .i64 0]) ?_ 0 _ rfl; (with_reducible repeat (first | apply k1 | apply k2 | apply k3)); exact BK229.out⟩
            have n1_ : Aside0 (Below w.heap.size w (((((((w29.setCell ⟨gb229, 0, none⟩ (.int .i64 ((rd_T48 l0 x8_1).f0))).setCell ⟨gb229, 1, none⟩ (.int .i64 ((rd_T48 l0 x8_1).f1.f0))).setCell ⟨gb229, 2, none⟩ (.int .i64 ((rd_T48 l0 x8_1).f1.f1))).setCell ⟨gb229, 3, none⟩ (.bool ((rd_T48 l0 x8_1).f1.f2))).setCell ⟨gb229, 4, none⟩ (.bool ((rd_T48 l0 x8_1).f1.f3))).setCell ⟨gb229, 5, none⟩ (.bool ((rd_T48 l0 x8_1).f1.f4))).setCell ⟨gb229, 6, none⟩ (.int .i64 ((rd_T48 l0 x8_1).f2)))) := ⟨by repeat (first | (with_reducible first | exact HB.out | apply b1 | apply b2 | apply b3 | refine below_set ?_ GE229.out) | exact HB.out)⟩
            (try clear BK229)
            (try clear HB)
            generalize (((((((w29.setCell ⟨gb229, 0, none⟩ (.int .i64 ((rd_T48 l0 x8_1).f0))).setCell ⟨gb229, 1, none⟩ (.int .i64 ((rd_T48 l0 x8_1).f1.f0))).setCell ⟨gb229, 2, none⟩ (.int .i64 ((rd_T48 l0 x8_1).f1.f1))).setCell ⟨gb229, 3, none⟩ (.bool ((rd_T48 l0 x8_1).f1.f2))).setCell ⟨gb229, 4, none⟩ (.bool ((rd_T48 l0 x8_1).f1.f3))).setCell ⟨gb229, 5, none⟩ (.bool ((rd_T48 l0 x8_1).f1.f4))).setCell ⟨gb229, 6, none⟩ (.int .i64 ((rd_T48 l0 x8_1).f2))) = w31 at n0_ n1_ ⊢
            have BK229 := n0_
            have HB := n1_
            clear n0_ n1_
            have n0_ := am (blk_drew BK229.out)
            have n1_ := am (below_drew1 HB.out)
            clear BK229
            clear HB
            have BK229 := n0_
            have HB := n1_
            clear n0_ n1_
            refine start_ (n := 24) (S := fun w' => w'.cell? ⟨gb229, 0, none⟩ = some (.int .i64 ((rd_T48 l0 x8_1).f0)) ∧ w'.cell? ⟨gb229, 1, none⟩ = some (.int .i64 ((rd_T48 l0 x8_1).f1.f0)) ∧ w'.cell? ⟨gb229, 2, none⟩ = some (.int .i64 ((rd_T48 l0 x8_1).f1.f1)) ∧ w'.cell? ⟨gb229, 3, none⟩ = some (.bool ((rd_T48 l0 x8_1).f1.f2)) ∧ w'.cell? ⟨gb229, 4, none⟩ = some (.bool ((rd_T48 l0 x8_1).f1.f3)) ∧ w'.cell? ⟨gb229, 5, none⟩ = some (.bool ((rd_T48 l0 x8_1).f1.f4)) ∧ w'.cell? ⟨gb229, 6, none⟩ = some (.int .i64 ((rd_T48 l0 x8_1).f2))) (ds := []) (bm 24 0) (by kernel_rfl) rfl rfl ⟨(blk_cell BK229.out 0).trans rfl, (blk_cell BK229.out 1).trans rfl, (blk_cell BK229.out 2).trans rfl, (blk_cell BK229.out 3).trans rfl, (blk_cell BK229.out 4).trans rfl, (blk_cell BK229.out 5).trans rfl, (blk_cell BK229.out 6).trans rfl⟩ (fun hHeld => ?_); refine with_tabW impl_RowOk.tab5 impl_RowOk.bits5 (fun HT_ HW_ => ?_)
            generalize w31.drew = w32 at BK229 HB hHeld ⊢
            refine take_ (i := 0) (N := some 24) (v := ?_) (a' := ?_) (bm 24 1) rfl rfl (take_ofW HT_.out HW_.out (by kernel_rfl)) (fun _ _ _ h => h) (Or.inl ⟨by rfl, ?_⟩) hHeld ?_ ?_
            rotate_left
            ·rintro w' ⟨s0, s1, s2, s3, s4, s5, s6⟩
             go_simp
             with_reducible rfl
            rotate_left
            ·simp only [Act.put, List.setIfInBounds_toArray, List.set_cons_zero, List.set_cons_succ, i64_w, i32_w]
             rfl
            refine one_ (i := 1) (N := some 25) (bm 24 3) rfl rfl (one_of HT_.out (by kernel_rfl)) (by decide) (fun K hK => ?_)
            refine goes_ Tryd.func56 (by kernel_rfl) rfl #[.agg #[.int .i64 ((rd_T48 l0 x8_1).f0), .int .i64 ((rd_T48 l0 x8_1).f1.f0), .int .i64 ((rd_T48 l0 x8_1).f1.f1), .bool ((rd_T48 l0 x8_1).f1.f2), .bool ((rd_T48 l0 x8_1).f1.f3), .bool ((rd_T48 l0 x8_1).f1.f4), .int .i64 ((rd_T48 l0 x8_1).f2)]] (by rfl) rfl rfl (by (try simp only [List.map_toArray, List.map_cons, List.map_nil]); first | done | rfl | (simp only [List.length_drop, List.length_take]; rfl)) ?_
            with_reducible refine (impl_isCell.calls k1 ((rd_T48 l0 x8_1).f0) ((rd_T48 l0 x8_1).f1.f0) ((rd_T48 l0 x8_1).f1.f1) ((rd_T48 l0 x8_1).f1.f2) ((rd_T48 l0 x8_1).f1.f3) ((rd_T48 l0 x8_1).f1.f4) ((rd_T48 l0 x8_1).f2) true _ A9.out).mono ?_
            rintro e w33 ⟨rfl, hb⟩
            refine ⟨_, rfl, ?_⟩
            have n0_ := am (blk_below (g := gb229) (o := .cells #[.int .i64 ((rd_T48 l0 x8_1).f0), .int .i64 ((rd_T48 l0 x8_1).f1.f0), .int .i64 ((rd_T48 l0 x8_1).f1.f1), .bool ((rd_T48 l0 x8_1).f1.f2), .bool ((rd_T48 l0 x8_1).f1.f3), .bool ((rd_T48 l0 x8_1).f1.f4), .int .i64 ((rd_T48 l0 x8_1).f2)] 48 (0, 0)) (rk BK229) hb)
            have n1_ := am (below_step (rb1 HB GE229) hb)
            clear BK229
            clear HB
            have BK229 := n0_
            have HB := n1_
            clear n0_ n1_
            (try clear hb)
            (try clear hb2)
            (try clear hk)
            (try clear hi)
            refine hK.out _ _ ⟨(blk_cell BK229.out 0).trans rfl, (blk_cell BK229.out 1).trans rfl, (blk_cell BK229.out 2).trans rfl, (blk_cell BK229.out 3).trans rfl, (blk_cell BK229.out 4).trans rfl, (blk_cell BK229.out 5).trans rfl, (blk_cell BK229.out 6).trans rfl⟩ (fun hHeld => ?_)
            clear hK K
            refine norm_ (a' := ?_) ?_ ?_
            rotate_left
            ·show Act.put _ (some 25) _ = _
             simp only [Act.put, List.setIfInBounds_toArray, List.set_cons_zero, List.set_cons_succ, i64_w, i32_w]
             rfl
            refine pu_ 2 26 (bm 24 7) HT_.out ?_
            refine pu_ 3 27 (bm 24 15) HT_.out ?_
            refine pu_ 4 28 (bm 24 31) HT_.out ?_
            refine pu_ 5 29 (bm 24 63) HT_.out ?_
            refine take_ (i := 6) (N := some 30) (v := ?_) (a' := ?_) (bm 24 127) rfl rfl (take_ofW HT_.out HW_.out (by kernel_rfl)) (fun _ _ _ h => h) (Or.inl ⟨by rfl, ?_⟩) hHeld ?_ ?_
            rotate_left
            ·rintro w' ⟨s0, s1, s2, s3, s4, s5, s6⟩
             go_simp
             with_reducible rfl
            rotate_left
            ·simp only [Act.put, List.setIfInBounds_toArray, List.set_cons_zero, List.set_cons_succ, i64_w, i32_w]
             rfl
            refine pu_ 7 31 (bm 24 255) HT_.out ?_
            refine pu_ 8 32 (bm 24 511) HT_.out ?_
            refine pu_ 9 33 (bm 24 1023) HT_.out ?_
            refine pu_ 10 34 (bm 24 2047) HT_.out ?_
            refine pu_ 11 35 (bm 24 4095) HT_.out ?_
            refine pu_ 12 36 (bm 24 8191) HT_.out ?_
            refine un_ 13 37 (bm 24 16383) HT_.out ?_
            refine un_ 14 38 (bm 24 32767) HT_.out ?_
            refine un_ 15 39 (bm 24 65535) HT_.out ?_
            refine un_ 16 40 (bm 24 131071) HT_.out ?_
            refine un_ 17 41 (bm 24 262143) HT_.out ?_
            refine un_ 18 42 (bm 24 524287) HT_.out ?_
            refine un_ 19 43 (bm 24 1048575) HT_.out ?_
            refine un_ 20 44 (bm 24 2097151) HT_.out ?_
            refine un_ 21 45 (bm 24 4194303) HT_.out ?_
            refine pu_ 22 46 (bm 24 8388607) HT_.out ?_
            refine pu_ 23 47 (bm 24 16777215) HT_.out ?_
            refine done_ (done_of HT_.out (by kernel_rfl)) ?_
            try go_wp2
            go_roundg k1
            case measure => have := HK1.out; omega
            case rel => exact ⟨(wrap64 (x8_1 + 1)), (by first | rfl | (simp; done) | (simp [*]; done)), H', ⟨by have := HK1.out; omega⟩, ⟨by repeat (first | (with_reducible first | exact HB.out | apply b1 | apply b2 | apply b3 | refine below_set ?_ GE229.out) | exact HB.out)⟩⟩
         ·replace c10 := Bool.eq_false_iff.mpr c10
          subst c10
          have H1 : (some false) = some r := by rw [if_neg (show ¬ (false = true) by decide)] at H; exact H
          clear H
          have H := H1
          clear H1
          obtain rfl := Option.some.inj H
          have p228 : 0 ≤ (x8_1 : Int) := dt_
          have q228 : x8_1 < (l0.length : Int) := dt_
          obtain ⟨ad228, e228, hx228_0, hx228_1, hx228_2, hx228_3, hx228_4, hx228_5, hx228_6⟩ := at_T48 HR0.out x8_1 p228 q228
          cases e228
          replace hx228_0 := mv HB.out hx228_0
          replace hx228_1 := mv HB.out hx228_1
          replace hx228_2 := mv HB.out hx228_2
          replace hx228_3 := mv HB.out hx228_3
          replace hx228_4 := mv HB.out hx228_4
          replace hx228_5 := mv HB.out hx228_5
          replace hx228_6 := mv HB.out hx228_6
          replace p228 := eq_true p228
          replace q228 := eq_true q228
          try go_wp2_with (first | ((with_reducible refine gate_dst (N := 4) rfl ?_); (try (refine gate_guard (by rfl) ?_; dsimp only)); refine box_event ?hg (N := 4) ?hd (cs := #[.int .i64 0, .int .i64 0, .int .i64 0, .bool false, .bool false, .bool false, .int .i64 0]) (t := 48) ?hr ?_; (case hd => rfl); (case hg => rfl); (case hr => first | (go_simp; done) | (go_simp; rfl)); intro gb229 hg w34 hbox hb; have n0_ := am (below_step (rb HB) hb); have n1_ := am (hbox); have n2_ := am ((by rw [hg]; exact (below_size (rb HB)) : w.heap.size ≤ gb229)); have n3_ := am ((by rw [hg]; exact (below_size (rb HB)) : w.heap.size ≤ gb229)); clear HB; have HB := n0_; have BK229 := n1_; have GW229 := n2_; have GE229 := n3_; clear n0_ n1_ n2_ n3_; clear hb hbox hg; have hcz35_0 : w34.cell? ⟨gb229, 0, none⟩ = some (.int .i64 0) := (blk_cell BK229.out 0).trans rfl; have hcz35_1 : w34.cell? ⟨gb229, 1, none⟩ = some (.int .i64 0) := (blk_cell BK229.out 1).trans rfl; have hcz35_2 : w34.cell? ⟨gb229, 2, none⟩ = some (.int .i64 0) := (blk_cell BK229.out 2).trans rfl; have hcz35_3 : w34.cell? ⟨gb229, 3, none⟩ = some (.bool false) := (blk_cell BK229.out 3).trans rfl; have hcz35_4 : w34.cell? ⟨gb229, 4, none⟩ = some (.bool false) := (blk_cell BK229.out 4).trans rfl; have hcz35_5 : w34.cell? ⟨gb229, 5, none⟩ = some (.bool false) := (blk_cell BK229.out 5).trans rfl; have hcz35_6 : w34.cell? ⟨gb229, 6, none⟩ = some (.int .i64 0) := (blk_cell BK229.out 6).trans rfl; have hfz35_0 := blk_frozen BK229.out 0; have hfz35_1 := blk_frozen BK229.out 1; have hfz35_2 := blk_frozen BK229.out 2; have hfz35_3 := blk_frozen BK229.out 3; have hfz35_4 := blk_frozen BK229.out 4; have hfz35_5 := blk_frozen BK229.out 5; have hfz35_6 := blk_frozen BK229.out 6; have p230 : 0 ≤ ((ji6) : Int) := dt_; have q230 : (ji6) < (l0.length : Int) := dt_; obtain ⟨ad230, e230, hx230_0, hx230_1, hx230_2, hx230_3, hx230_4, hx230_5, hx230_6⟩ := at_T48 HR0.out (ji6) p230 q230; obtain rfl : ad228 = ad230 := (by injection e230); have hn230_0 : ad228.block ≠ gb229 := Nat.ne_of_lt (Nat.lt_of_lt_of_le (by have := World.block_lt_of_cell? _ _ hx230_0; first | rwa [add_block] at this | exact this) GW229.out); have hn230_1 : ad228.block ≠ gb229 := Nat.ne_of_lt (Nat.lt_of_lt_of_le (by have := World.block_lt_of_cell? _ _ hx230_0; first | rwa [add_block] at this | exact this) GW229.out); have hn230_2 : ad228.block ≠ gb229 := Nat.ne_of_lt (Nat.lt_of_lt_of_le (by have := World.block_lt_of_cell? _ _ hx230_0; first | rwa [add_block] at this | exact this) GW229.out); have hn230_3 : ad228.block ≠ gb229 := Nat.ne_of_lt (Nat.lt_of_lt_of_le (by have := World.block_lt_of_cell? _ _ hx230_0; first | rwa [add_block] at this | exact this) GW229.out); have hn230_4 : ad228.block ≠ gb229 := Nat.ne_of_lt (Nat.lt_of_lt_of_le (by have := World.block_lt_of_cell? _ _ hx230_0; first | rwa [add_block] at this | exact this) GW229.out); have hn230_5 : ad228.block ≠ gb229 := Nat.ne_of_lt (Nat.lt_of_lt_of_le (by have := World.block_lt_of_cell? _ _ hx230_0; first | rwa [add_block] at this | exact this) GW229.out); have hn230_6 : ad228.block ≠ gb229 := Nat.ne_of_lt (Nat.lt_of_lt_of_le (by have := World.block_lt_of_cell? _ _ hx230_0; first | rwa [add_block] at this | exact this) GW229.out); replace hx230_0 := (HB.out.cell (World.block_lt_of_cell? w _ hx230_0)).trans hx230_0; replace hx230_1 := (HB.out.cell (World.block_lt_of_cell? w _ hx230_1)).trans hx230_1; replace hx230_2 := (HB.out.cell (World.block_lt_of_cell? w _ hx230_2)).trans hx230_2; replace hx230_3 := (HB.out.cell (World.block_lt_of_cell? w _ hx230_3)).trans hx230_3; replace hx230_4 := (HB.out.cell (World.block_lt_of_cell? w _ hx230_4)).trans hx230_4; replace hx230_5 := (HB.out.cell (World.block_lt_of_cell? w _ hx230_5)).trans hx230_5; replace hx230_6 := (HB.out.cell (World.block_lt_of_cell? w _ hx230_6)).trans hx230_6; replace hx230_0 := (cell_far (p := ⟨gb229, 0, none⟩) (by first | (rw [add_block]; exact hn230_0) | (show (Addr.add _ _).block ≠ _; rw [add_block]; exact hn230_0) | exact hn230_0) (.int .i64 ((rd_T48 l0 x8_1).f0))).trans hx230_0; replace hx230_1 := (cell_far (p := ⟨gb229, 0, none⟩) (by first | (rw [add_block]; exact hn230_0) | (show (Addr.add _ _).block ≠ _; rw [add_block]; exact hn230_0) | exact hn230_0) (.int .i64 ((rd_T48 l0 x8_1).f0))).trans hx230_1; replace hx230_2 := (cell_far (p := ⟨gb229, 0, none⟩) (by first | (rw [add_block]; exact hn230_0) | (show (Addr.add _ _).block ≠ _; rw [add_block]; exact hn230_0) | exact hn230_0) (.int .i64 ((rd_T48 l0 x8_1).f0))).trans hx230_2; replace hx230_3 := (cell_far (p := ⟨gb229, 0, none⟩) (by first | (rw [add_block]; exact hn230_0) | (show (Addr.add _ _).block ≠ _; rw [add_block]; exact hn230_0) | exact hn230_0) (.int .i64 ((rd_T48 l0 x8_1).f0))).trans hx230_3; replace hx230_4 := (cell_far (p := ⟨gb229, 0, none⟩) (by first | (rw [add_block]; exact hn230_0) | (show (Addr.add _ _).block ≠ _; rw [add_block]; exact hn230_0) | exact hn230_0) (.int .i64 ((rd_T48 l0 x8_1).f0))).trans hx230_4; replace hx230_5 := (cell_far (p := ⟨gb229, 0, none⟩) (by first | (rw [add_block]; exact hn230_0) | (show (Addr.add _ _).block ≠ _; rw [add_block]; exact hn230_0) | exact hn230_0) (.int .i64 ((rd_T48 l0 x8_1).f0))).trans hx230_5; replace hx230_6 := (cell_far (p := ⟨gb229, 0, none⟩) (by first | (rw [add_block]; exact hn230_0) | (show (Addr.add _ _).block ≠ _; rw [add_block]; exact hn230_0) | exact hn230_0) (.int .i64 ((rd_T48 l0 x8_1).f0))).trans hx230_6; replace hx230_0 := (cell_far (p := ⟨gb229, 1, none⟩) (by first | (rw [add_block]; exact hn230_1) | (show (Addr.add _ _).block ≠ _; rw [add_block]; exact hn230_1) | exact hn230_1) (.int .i64 ((rd_T48 l0 x8_1).f1.f0))).trans hx230_0; replace hx230_1 := (cell_far (p := ⟨gb229, 1, none⟩) (by first | (rw [add_block]; exact hn230_1) | (show (Addr.add _ _).block ≠ _; rw [add_block]; exact hn230_1) | exact hn230_1) (.int .i64 ((rd_T48 l0 x8_1).f1.f0))).trans hx230_1; replace hx230_2 := (cell_far (p := ⟨gb229, 1, none⟩) (by first | (rw [add_block]; exact hn230_1) | (show (Addr.add _ _).block ≠ _; rw [add_block]; exact hn230_1) | exact hn230_1) (.int .i64 ((rd_T48 l0 x8_1).f1.f0))).trans hx230_2; replace hx230_3 := (cell_far (p := ⟨gb229, 1, none⟩) (by first | (rw [add_block]; exact hn230_1) | (show (Addr.add _ _).block ≠ _; rw [add_block]; exact hn230_1) | exact hn230_1) (.int .i64 ((rd_T48 l0 x8_1).f1.f0))).trans hx230_3; replace hx230_4 := (cell_far (p := ⟨gb229, 1, none⟩) (by first | (rw [add_block]; exact hn230_1) | (show (Addr.add _ _).block ≠ _; rw [add_block]; exact hn230_1) | exact hn230_1) (.int .i64 ((rd_T48 l0 x8_1).f1.f0))).trans hx230_4; replace hx230_5 := (cell_far (p := ⟨gb229, 1, none⟩) (by first | (rw [add_block]; exact hn230_1) | (show (Addr.add _ _).block ≠ _; rw [add_block]; exact hn230_1) | exact hn230_1) (.int .i64 ((rd_T48 l0 x8_1).f1.f0))).trans hx230_5; replace hx230_6 := (cell_far (p := ⟨gb229, 1, none⟩) (by first | (rw [add_block]; exact hn230_1) | (show (Addr.add _ _).block ≠ _; rw [add_block]; exact hn230_1) | exact hn230_1) (.int .i64 ((rd_T48 l0 x8_1).f1.f0))).trans hx230_6; replace hx230_0 := (cell_far (p := ⟨gb229, 2, none⟩) (by first | (rw [add_block]; exact hn230_2) | (show (Addr.add _ _).block ≠ _; rw [add_block]; exact hn230_2) | exact hn230_2) (.int .i64 ((rd_T48 l0 x8_1).f1.f1))).trans hx230_0; replace hx230_1 := (cell_far (p := ⟨gb229, 2, none⟩) (by first | (rw [add_block]; exact hn230_2) | (show (Addr.add _ _).block ≠ _; rw [add_block]; exact hn230_2) | exact hn230_2) (.int .i64 ((rd_T48 l0 x8_1).f1.f1))).trans hx230_1; replace hx230_2 := (cell_far (p := ⟨gb229, 2, none⟩) (by first | (rw [add_block]; exact hn230_2) | (show (Addr.add _ _).block ≠ _; rw [add_block]; exact hn230_2) | exact hn230_2) (.int .i64 ((rd_T48 l0 x8_1).f1.f1))).trans hx230_2; replace hx230_3 := (cell_far (p := ⟨gb229, 2, none⟩) (by first | (rw [add_block]; exact hn230_2) | (show (Addr.add _ _).block ≠ _; rw [add_block]; exact hn230_2) | exact hn230_2) (.int .i64 ((rd_T48 l0 x8_1).f1.f1))).trans hx230_3; replace hx230_4 := (cell_far (p := ⟨gb229, 2, none⟩) (by first | (rw [add_block]; exact hn230_2) | (show (Addr.add _ _).block ≠ _; rw [add_block]; exact hn230_2) | exact hn230_2) (.int .i64 ((rd_T48 l0 x8_1).f1.f1))).trans hx230_4; replace hx230_5 := (cell_far (p := ⟨gb229, 2, none⟩) (by first | (rw [add_block]; exact hn230_2) | (show (Addr.add _ _).block ≠ _; rw [add_block]; exact hn230_2) | exact hn230_2) (.int .i64 ((rd_T48 l0 x8_1).f1.f1))).trans hx230_5; replace hx230_6 := (cell_far (p := ⟨gb229, 2, none⟩) (by first | (rw [add_block]; exact hn230_2) | (show (Addr.add _ _).block ≠ _; rw [add_block]; exact hn230_2) | exact hn230_2) (.int .i64 ((rd_T48 l0 x8_1).f1.f1))).trans hx230_6; replace hx230_0 := (cell_far (p := ⟨gb229, 3, none⟩) (by first | (rw [add_block]; exact hn230_3) | (show (Addr.add _ _).block ≠ _; rw [add_block]; exact hn230_3) | exact hn230_3) (.bool ((rd_T48 l0 x8_1).f1.f2))).trans hx230_0; replace hx230_1 := (cell_far (p := ⟨gb229, 3, none⟩) (by first | (rw [add_block]; exact hn230_3) | (show (Addr.add _ _).block ≠ _; rw [add_block]; exact hn230_3) | exact hn230_3) (.bool ((rd_T48 l0 x8_1).f1.f2))).trans hx230_1; replace hx230_2 := (cell_far (p := ⟨gb229, 3, none⟩) (by first | (rw [add_block]; exact hn230_3) | (show (Addr.add _ _).block ≠ _; rw [add_block]; exact hn230_3) | exact hn230_3) (.bool ((rd_T48 l0 x8_1).f1.f2))).trans hx230_2; replace hx230_3 := (cell_far (p := ⟨gb229, 3, none⟩) (by first | (rw [add_block]; exact hn230_3) | (show (Addr.add _ _).block ≠ _; rw [add_block]; exact hn230_3) | exact hn230_3) (.bool ((rd_T48 l0 x8_1).f1.f2))).trans hx230_3; replace hx230_4 := (cell_far (p := ⟨gb229, 3, none⟩) (by first | (rw [add_block]; exact hn230_3) | (show (Addr.add _ _).block ≠ _; rw [add_block]; exact hn230_3) | exact hn230_3) (.bool ((rd_T48 l0 x8_1).f1.f2))).trans hx230_4; replace hx230_5 := (cell_far (p := ⟨gb229, 3, none⟩) (by first | (rw [add_block]; exact hn230_3) | (show (Addr.add _ _).block ≠ _; rw [add_block]; exact hn230_3) | exact hn230_3) (.bool ((rd_T48 l0 x8_1).f1.f2))).trans hx230_5; replace hx230_6 := (cell_far (p := ⟨gb229, 3, none⟩) (by first | (rw [add_block]; exact hn230_3) | (show (Addr.add _ _).block ≠ _; rw [add_block]; exact hn230_3) | exact hn230_3) (.bool ((rd_T48 l0 x8_1).f1.f2))).trans hx230_6; replace hx230_0 := (cell_far (p := ⟨gb229, 4, none⟩) (by first | (rw [add_block]; exact hn230_4) | (show (Addr.add _ _).block ≠ _; rw [add_block]; exact hn230_4) | exact hn230_4) (.bool ((rd_T48 l0 x8_1).f1.f3))).trans hx230_0; replace hx230_1 := (cell_far (p := ⟨gb229, 4, none⟩) (by first | (rw [add_block]; exact hn230_4) | (show (Addr.add _ _).block ≠ _; rw [add_block]; exact hn230_4) | exact hn230_4) (.bool ((rd_T48 l0 x8_1).f1.f3))).trans hx230_1; replace hx230_2 := (cell_far (p := ⟨gb229, 4, none⟩) (by first | (rw [add_block]; exact hn230_4) | (show (Addr.add _ _).block ≠ _; rw [add_block]; exact hn230_4) | exact hn230_4) (.bool ((rd_T48 l0 x8_1).f1.f3))).trans hx230_2; replace hx230_3 := (cell_far (p := ⟨gb229, 4, none⟩) (by first | (rw [add_block]; exact hn230_4) | (show (Addr.add _ _).block ≠ _; rw [add_block]; exact hn230_4) | exact hn230_4) (.bool ((rd_T48 l0 x8_1).f1.f3))).trans hx230_3; replace hx230_4 := (cell_far (p := ⟨gb229, 4, none⟩) (by first | (rw [add_block]; exact hn230_4) | (show (Addr.add _ _).block ≠ _; rw [add_block]; exact hn230_4) | exact hn230_4) (.bool ((rd_T48 l0 x8_1).f1.f3))).trans hx230_4; replace hx230_5 := (cell_far (p := ⟨gb229, 4, none⟩) (by first | (rw [add_block]; exact hn230_4) | (show (Addr.add _ _).block ≠ _; rw [add_block]; exact hn230_4) | exact hn230_4) (.bool ((rd_T48 l0 x8_1).f1.f3))).trans hx230_5; replace hx230_6 := (cell_far (p := ⟨gb229, 4, none⟩) (by first | (rw [add_block]; exact hn230_4) | (show (Addr.add _ _).block ≠ _; rw [add_block]; exact hn230_4) | exact hn230_4) (.bool ((rd_T48 l0 x8_1).f1.f3))).trans hx230_6; replace hx230_0 := (cell_far (p := ⟨gb229, 5, none⟩) (by first | (rw [add_block]; exact hn230_5) | (show (Addr.add _ _).block ≠ _; rw [add_block]; exact hn230_5) | exact hn230_5) (.bool ((rd_T48 l0 x8_1).f1.f4))).trans hx230_0; replace hx230_1 := (cell_far (p := ⟨gb229, 5, none⟩) (by first | (rw [add_block]; exact hn230_5) | (show (Addr.add _ _).block ≠ _; rw [add_block]; exact hn230_5) | exact hn230_5) (.bool ((rd_T48 l0 x8_1).f1.f4))).trans hx230_1; replace hx230_2 := (cell_far (p := ⟨gb229, 5, none⟩) (by first | (rw [add_block]; exact hn230_5) | (show (Addr.add _ _).block ≠ _; rw [add_block]; exact hn230_5) | exact hn230_5) (.bool ((rd_T48 l0 x8_1).f1.f4))).trans hx230_2; replace hx230_3 := (cell_far (p := ⟨gb229, 5, none⟩) (by first | (rw [add_block]; exact hn230_5) | (show (Addr.add _ _).block ≠ _; rw [add_block]; exact hn230_5) | exact hn230_5) (.bool ((rd_T48 l0 x8_1).f1.f4))).trans hx230_3; replace hx230_4 := (cell_far (p := ⟨gb229, 5, none⟩) (by first | (rw [add_block]; exact hn230_5) | (show (Addr.add _ _).block ≠ _; rw [add_block]; exact hn230_5) | exact hn230_5) (.bool ((rd_T48 l0 x8_1).f1.f4))).trans hx230_4; replace hx230_5 := (cell_far (p := ⟨gb229, 5, none⟩) (by first | (rw [add_block]; exact hn230_5) | (show (Addr.add _ _).block ≠ _; rw [add_block]; exact hn230_5) | exact hn230_5) (.bool ((rd_T48 l0 x8_1).f1.f4))).trans hx230_5; replace hx230_6 := (cell_far (p := ⟨gb229, 5, none⟩) (by first | (rw [add_block]; exact hn230_5) | (show (Addr.add _ _).block ≠ _; rw [add_block]; exact hn230_5) | exact hn230_5) (.bool ((rd_T48 l0 x8_1).f1.f4))).trans hx230_6; replace hx230_0 := (cell_far (p := ⟨gb229, 6, none⟩) (by first | (rw [add_block]; exact hn230_6) | (show (Addr.add _ _).block ≠ _; rw [add_block]; exact hn230_6) | exact hn230_6) (.int .i64 ((rd_T48 l0 x8_1).f2))).trans hx230_0; replace hx230_1 := (cell_far (p := ⟨gb229, 6, none⟩) (by first | (rw [add_block]; exact hn230_6) | (show (Addr.add _ _).block ≠ _; rw [add_block]; exact hn230_6) | exact hn230_6) (.int .i64 ((rd_T48 l0 x8_1).f2))).trans hx230_1; replace hx230_2 := (cell_far (p := ⟨gb229, 6, none⟩) (by first | (rw [add_block]; exact hn230_6) | (show (Addr.add _ _).block ≠ _; rw [add_block]; exact hn230_6) | exact hn230_6) (.int .i64 ((rd_T48 l0 x8_1).f2))).trans hx230_2; replace hx230_3 := (cell_far (p := ⟨gb229, 6, none⟩) (by first | (rw [add_block]; exact hn230_6) | (show (Addr.add _ _).block ≠ _; rw [add_block]; exact hn230_6) | exact hn230_6) (.int .i64 ((rd_T48 l0 x8_1).f2))).trans hx230_3; replace hx230_4 := (cell_far (p := ⟨gb229, 6, none⟩) (by first | (rw [add_block]; exact hn230_6) | (show (Addr.add _ _).block ≠ _; rw [add_block]; exact hn230_6) | exact hn230_6) (.int .i64 ((rd_T48 l0 x8_1).f2))).trans hx230_4; replace hx230_5 := (cell_far (p := ⟨gb229, 6, none⟩) (by first | (rw [add_block]; exact hn230_6) | (show (Addr.add _ _).block ≠ _; rw [add_block]; exact hn230_6) | exact hn230_6) (.int .i64 ((rd_T48 l0 x8_1).f2))).trans hx230_5; replace hx230_6 := (cell_far (p := ⟨gb229, 6, none⟩) (by first | (rw [add_block]; exact hn230_6) | (show (Addr.add _ _).block ≠ _; rw [add_block]; exact hn230_6) | exact hn230_6) (.int .i64 ((rd_T48 l0 x8_1).f2))).trans hx230_6; clear hn230_0; clear hn230_1; clear hn230_2; clear hn230_3; clear hn230_4; clear hn230_5; clear hn230_6; replace p230 := eq_true p230; replace q230 := eq_true q230))
          have n0_ : Aside0 ((((((((w34.setCell ⟨gb229, 0, none⟩ (.int .i64 ((rd_T48 l0 x8_1).f0))).setCell ⟨gb229, 1, none⟩ (.int .i64 ((rd_T48 l0 x8_1).f1.f0))).setCell ⟨gb229, 2, none⟩ (.int .i64 ((rd_T48 l0 x8_1).f1.f1))).setCell ⟨gb229, 3, none⟩ (.bool ((rd_T48 l0 x8_1).f1.f2))).setCell ⟨gb229, 4, none⟩ (.bool ((rd_T48 l0 x8_1).f1.f3))).setCell ⟨gb229, 5, none⟩ (.bool ((rd_T48 l0 x8_1).f1.f4))).setCell ⟨gb229, 6, none⟩ (.int .i64 ((rd_T48 l0 x8_1).f2))).heap[gb229]? = some (.cells #[.int .i64 ((rd_T48 l0 x8_1).f0), .int .i64 ((rd_T48 l0 x8_1).f1.f0), .int .i64 ((rd_T48 l0 x8_1).f1.f1), .bool ((rd_T48 l0 x8_1).f1.f2), .bool ((rd_T48 l0 x8_1).f1.f3), .bool ((rd_T48 l0 x8_1).f1.f4), .int .i64 ((rd_T48 l0 x8_1).f2)] 48 (0, 0))) := ⟨by (with_reducible repeat (first | apply k1 | apply k2 | apply k3)); refine blk_put (cs := #[.int .i64 ((rd_T48 l0 x8_1).f0), .int .i64 ((rd_T48 l0 x8_1).f1.f0), .int .i64 ((rd_T48 l0 x8_1).f1.f1), .bool ((rd_T48 l0 x8_1).f1.f2), .bool ((rd_T48 l0 x8_1).f1.f3), .bool ((rd_T48 l0 x8_1).f1.f4), .int .i64 0]) ?_ 6 _ rfl; (with_reducible repeat (first | apply k1 | apply k2 | apply k3)); refine blk_put (cs := #[.int .i64 ((rd_T48 l0 x8_1).f0), .int .i64 ((rd_T48 l0 x8_1).f1.f0), .int .i64 ((rd_T48 l0 x8_1).f1.f1), .bool ((rd_T48 l0 x8_1).f1.f2), .bool ((rd_T48 l0 x8_1).f1.f3), .bool false, .int .i64 0]) ?_ 5 _ rfl; (with_reducible repeat (first | apply k1 | apply k2 | apply k3)); refine blk_put (cs := #[.int .i64 ((rd_T48 l0 x8_1).f0), .int .i64 ((rd_T48 l0 x8_1).f1.f0), .int .i64 ((rd_T48 l0 x8_1).f1.f1), .bool ((rd_T48 l0 x8_1).f1.f2), .bool false, .bool false, .int .i64 0]) ?_ 4 _ rfl; (with_reducible repeat (first | apply k1 | apply k2 | apply k3)); refine blk_put (cs := #[.int .i64 ((rd_T48 l0 x8_1).f0), .int .i64 ((rd_T48 l0 x8_1).f1.f0), .int .i64 ((rd_T48 l0 x8_1).f1.f1), .bool false, .bool false, .bool false, .int .i64 0]) ?_ 3 _ rfl; (with_reducible repeat (first | apply k1 | apply k2 | apply k3)); refine blk_put (cs := #[.int .i64 ((rd_T48 l0 x8_1).f0), .int .i64 ((rd_T48 l0 x8_1).f1.f0), .int .i64 0, .bool false, .bool false, .bool false, .int .i64 0]) ?_ 2 _ rfl; (with_reducible repeat (first | apply k1 | apply k2 | apply k3)); refine blk_put (cs := #[.int .i64 ((rd_T48 l0 x8_1).f0), .int .i64 0, .int .i64 0, .bool false, .bool false, .bool false, .int .i64 0]) ?_ 1 _ rfl; (with_reducible repeat (first | apply k1 | apply k2 | apply k3)); refine blk_put (cs := #[.int .i64 0, .int .i64 0, .int .i64 0, .bool false, .bool false, .bool false, .int .i64 0]) ?_ 0 _ rfl; (with_reducible repeat (first | apply k1 | apply k2 | apply k3)); exact BK229.out⟩
          have n1_ : Aside0 (Below w.heap.size w (((((((w34.setCell ⟨gb229, 0, none⟩ (.int .i64 ((rd_T48 l0 x8_1).f0))).setCell ⟨gb229, 1, none⟩ (.int .i64 ((rd_T48 l0 x8_1).f1.f0))).setCell ⟨gb229, 2, none⟩ (.int .i64 ((rd_T48 l0 x8_1).f1.f1))).setCell ⟨gb229, 3, none⟩ (.bool ((rd_T48 l0 x8_1).f1.f2))).setCell ⟨gb229, 4, none⟩ (.bool ((rd_T48 l0 x8_1).f1.f3))).setCell ⟨gb229, 5, none⟩ (.bool ((rd_T48 l0 x8_1).f1.f4))).setCell ⟨gb229, 6, none⟩ (.int .i64 ((rd_T48 l0 x8_1).f2)))) := ⟨by repeat (first | (with_reducible first | exact HB.out | apply b1 | apply b2 | apply b3 | refine below_set ?_ GE229.out) | exact HB.out)⟩
          (try clear BK229)
          (try clear HB)
          generalize (((((((w34.setCell ⟨gb229, 0, none⟩ (.int .i64 ((rd_T48 l0 x8_1).f0))).setCell ⟨gb229, 1, none⟩ (.int .i64 ((rd_T48 l0 x8_1).f1.f0))).setCell ⟨gb229, 2, none⟩ (.int .i64 ((rd_T48 l0 x8_1).f1.f1))).setCell ⟨gb229, 3, none⟩ (.bool ((rd_T48 l0 x8_1).f1.f2))).setCell ⟨gb229, 4, none⟩ (.bool ((rd_T48 l0 x8_1).f1.f3))).setCell ⟨gb229, 5, none⟩ (.bool ((rd_T48 l0 x8_1).f1.f4))).setCell ⟨gb229, 6, none⟩ (.int .i64 ((rd_T48 l0 x8_1).f2))) = w36 at n0_ n1_ ⊢
          have BK229 := n0_
          have HB := n1_
          clear n0_ n1_
          have n0_ := am (blk_drew BK229.out)
          have n1_ := am (below_drew1 HB.out)
          clear BK229
          clear HB
          have BK229 := n0_
          have HB := n1_
          clear n0_ n1_
          refine start_ (n := 24) (S := fun w' => w'.cell? ⟨gb229, 0, none⟩ = some (.int .i64 ((rd_T48 l0 x8_1).f0)) ∧ w'.cell? ⟨gb229, 1, none⟩ = some (.int .i64 ((rd_T48 l0 x8_1).f1.f0)) ∧ w'.cell? ⟨gb229, 2, none⟩ = some (.int .i64 ((rd_T48 l0 x8_1).f1.f1)) ∧ w'.cell? ⟨gb229, 3, none⟩ = some (.bool ((rd_T48 l0 x8_1).f1.f2)) ∧ w'.cell? ⟨gb229, 4, none⟩ = some (.bool ((rd_T48 l0 x8_1).f1.f3)) ∧ w'.cell? ⟨gb229, 5, none⟩ = some (.bool ((rd_T48 l0 x8_1).f1.f4)) ∧ w'.cell? ⟨gb229, 6, none⟩ = some (.int .i64 ((rd_T48 l0 x8_1).f2))) (ds := []) (bm 24 0) (by kernel_rfl) rfl rfl ⟨(blk_cell BK229.out 0).trans rfl, (blk_cell BK229.out 1).trans rfl, (blk_cell BK229.out 2).trans rfl, (blk_cell BK229.out 3).trans rfl, (blk_cell BK229.out 4).trans rfl, (blk_cell BK229.out 5).trans rfl, (blk_cell BK229.out 6).trans rfl⟩ (fun hHeld => ?_); refine with_tabW impl_RowOk.tab5 impl_RowOk.bits5 (fun HT_ HW_ => ?_)
          generalize w36.drew = w37 at BK229 HB hHeld ⊢
          refine take_ (i := 0) (N := some 24) (v := ?_) (a' := ?_) (bm 24 1) rfl rfl (take_ofW HT_.out HW_.out (by kernel_rfl)) (fun _ _ _ h => h) (Or.inl ⟨by rfl, ?_⟩) hHeld ?_ ?_
          rotate_left
          ·rintro w' ⟨s0, s1, s2, s3, s4, s5, s6⟩
           go_simp
           with_reducible rfl
          rotate_left
          ·simp only [Act.put, List.setIfInBounds_toArray, List.set_cons_zero, List.set_cons_succ, i64_w, i32_w]
           rfl
          refine one_ (i := 1) (N := some 25) (bm 24 3) rfl rfl (one_of HT_.out (by kernel_rfl)) (by decide) (fun K hK => ?_)
          refine goes_ Tryd.func56 (by kernel_rfl) rfl #[.agg #[.int .i64 ((rd_T48 l0 x8_1).f0), .int .i64 ((rd_T48 l0 x8_1).f1.f0), .int .i64 ((rd_T48 l0 x8_1).f1.f1), .bool ((rd_T48 l0 x8_1).f1.f2), .bool ((rd_T48 l0 x8_1).f1.f3), .bool ((rd_T48 l0 x8_1).f1.f4), .int .i64 ((rd_T48 l0 x8_1).f2)]] (by rfl) rfl rfl (by (try simp only [List.map_toArray, List.map_cons, List.map_nil]); first | done | rfl | (simp only [List.length_drop, List.length_take]; rfl)) ?_
          with_reducible refine (impl_isCell.calls k1 ((rd_T48 l0 x8_1).f0) ((rd_T48 l0 x8_1).f1.f0) ((rd_T48 l0 x8_1).f1.f1) ((rd_T48 l0 x8_1).f1.f2) ((rd_T48 l0 x8_1).f1.f3) ((rd_T48 l0 x8_1).f1.f4) ((rd_T48 l0 x8_1).f2) false _ A9.out).mono ?_
          rintro e w38 ⟨rfl, hb⟩
          refine ⟨_, rfl, ?_⟩
          have n0_ := am (blk_below (g := gb229) (o := .cells #[.int .i64 ((rd_T48 l0 x8_1).f0), .int .i64 ((rd_T48 l0 x8_1).f1.f0), .int .i64 ((rd_T48 l0 x8_1).f1.f1), .bool ((rd_T48 l0 x8_1).f1.f2), .bool ((rd_T48 l0 x8_1).f1.f3), .bool ((rd_T48 l0 x8_1).f1.f4), .int .i64 ((rd_T48 l0 x8_1).f2)] 48 (0, 0)) (rk BK229) hb)
          have n1_ := am (below_step (rb1 HB GE229) hb)
          clear BK229
          clear HB
          have BK229 := n0_
          have HB := n1_
          clear n0_ n1_
          (try clear hb)
          (try clear hb2)
          (try clear hk)
          (try clear hi)
          refine hK.out _ _ ⟨(blk_cell BK229.out 0).trans rfl, (blk_cell BK229.out 1).trans rfl, (blk_cell BK229.out 2).trans rfl, (blk_cell BK229.out 3).trans rfl, (blk_cell BK229.out 4).trans rfl, (blk_cell BK229.out 5).trans rfl, (blk_cell BK229.out 6).trans rfl⟩ (fun hHeld => ?_)
          clear hK K
          refine norm_ (a' := ?_) ?_ ?_
          rotate_left
          ·show Act.put _ (some 25) _ = _
           simp only [Act.put, List.setIfInBounds_toArray, List.set_cons_zero, List.set_cons_succ, i64_w, i32_w]
           rfl
          refine pu_ 2 26 (bm 24 7) HT_.out ?_
          refine pu_ 3 27 (bm 24 15) HT_.out ?_
          refine un_ 4 28 (bm 24 31) HT_.out ?_
          refine un_ 5 29 (bm 24 63) HT_.out ?_
          refine un_ 6 30 (bm 24 127) HT_.out ?_
          refine un_ 7 31 (bm 24 255) HT_.out ?_
          refine un_ 8 32 (bm 24 511) HT_.out ?_
          refine pu_ 9 33 (bm 24 1023) HT_.out ?_
          refine pu_ 10 34 (bm 24 2047) HT_.out ?_
          refine un_ 11 35 (bm 24 4095) HT_.out ?_
          refine un_ 12 36 (bm 24 8191) HT_.out ?_
          refine un_ 13 37 (bm 24 16383) HT_.out ?_
          refine un_ 14 38 (bm 24 32767) HT_.out ?_
          refine un_ 15 39 (bm 24 65535) HT_.out ?_
          refine un_ 16 40 (bm 24 131071) HT_.out ?_
          refine un_ 17 41 (bm 24 262143) HT_.out ?_
          refine un_ 18 42 (bm 24 524287) HT_.out ?_
          refine un_ 19 43 (bm 24 1048575) HT_.out ?_
          refine un_ 20 44 (bm 24 2097151) HT_.out ?_
          refine un_ 21 45 (bm 24 4194303) HT_.out ?_
          refine un_ 22 46 (bm 24 8388607) HT_.out ?_
          refine pu_ 23 47 (bm 24 16777215) HT_.out ?_
          refine done_ (done_of HT_.out (by kernel_rfl)) ?_
          try go_wp2
          go_ret
          exact ⟨by first | rfl | (simp [errW_none, errW_some] <;> rfl) | (simp only [← hji6]; first | rfl | (simp [errW_none, errW_some] <;> rfl)) | (simp [*, errW_none, errW_some] <;> rfl), by repeat (first | (with_reducible first | exact HB.out | apply b1 | apply b2 | apply b3 | refine below_set ?_ GE229.out) | exact HB.out)⟩
        ·rw [if_neg c8] at H
         exact absurd H (by simp)
       ·rw [if_neg c7] at H
        exact absurd H (by simp)
      ·rw [if_neg c5] at H
       have c5b0 : decide (0 < x8_1) = false := decide_eq_false c5
       clear c5
       replace H := Option.bind_eq_some_iff.mp H
       obtain ⟨t233, A390, H⟩ := H
       replace H : (if t233 = true then (if (false != (((rd_T48 l0 x8_1).f2) == 2)) = true then (some false) else (impl_RowOk.l0 k1 l0 l0 (l0.length : Int) (wrap64 (x8_1 + 1)))) else (some false)) = some r := H
       have A39 := am A390
       clear A390
       by_cases c40 : t233 = true
       ·subst c40
        have H1 : (if (false != (((rd_T48 l0 x8_1).f2) == 2)) = true then (some false) else (impl_RowOk.l0 k1 l0 l0 (l0.length : Int) (wrap64 (x8_1 + 1)))) = some r := by rw [if_pos rfl] at H; exact H
        clear H
        have H := H1
        clear H1
        by_cases c41 : (false != (((rd_T48 l0 x8_1).f2) == 2)) = true
        ·rw [if_pos c41] at H
         have c41b0 : (false != (((rd_T48 l0 x8_1).f2) == 2)) = true := c41
         (try (have c41e : (((rd_T48 l0 x8_1).f2) == 2) = true := by have h_ := c41b0; revert h_; cases (((rd_T48 l0 x8_1).f2) == 2) <;> decide))
         (try (have c41b1 : decide (false = (((rd_T48 l0 x8_1).f2) == 2)) = false := by simpa using c41))
         (try (have c41b2 : (false == (((rd_T48 l0 x8_1).f2) == 2)) = false := by simpa using c41))
         (try (have c41b3 : ¬ (false = (((rd_T48 l0 x8_1).f2) == 2)) := by simpa using c41))
         clear c41
         obtain rfl := Option.some.inj H
         have p228 : 0 ≤ (x8_1 : Int) := dt_
         have q228 : x8_1 < (l0.length : Int) := dt_
         obtain ⟨ad228, e228, hx228_0, hx228_1, hx228_2, hx228_3, hx228_4, hx228_5, hx228_6⟩ := at_T48 HR0.out x8_1 p228 q228
         cases e228
         replace hx228_0 := mv HB.out hx228_0
         replace hx228_1 := mv HB.out hx228_1
         replace hx228_2 := mv HB.out hx228_2
         replace hx228_3 := mv HB.out hx228_3
         replace hx228_4 := mv HB.out hx228_4
         replace hx228_5 := mv HB.out hx228_5
         replace hx228_6 := mv HB.out hx228_6
         replace p228 := eq_true p228
         replace q228 := eq_true q228
         try go_wp2_with (first | ((with_reducible refine gate_dst (N := 4) rfl ?_); (try (refine gate_guard (by rfl) ?_; dsimp only)); refine box_event ?hg (N := 4) ?hd (cs := #[.int .i64 0, .int .i64 0, .int .i64 0, .bool false, .bool false, .bool false, .int .i64 0]) (t := 48) ?hr ?_; (case hd => rfl); (case hg => rfl); (case hr => first | (go_simp; done) | (go_simp; rfl)); intro gb229 hg w42 hbox hb; have n0_ := am (below_step (rb HB) hb); have n1_ := am (hbox); have n2_ := am ((by rw [hg]; exact (below_size (rb HB)) : w.heap.size ≤ gb229)); have n3_ := am ((by rw [hg]; exact (below_size (rb HB)) : w.heap.size ≤ gb229)); clear HB; have HB := n0_; have BK229 := n1_; have GW229 := n2_; have GE229 := n3_; clear n0_ n1_ n2_ n3_; clear hb hbox hg; have hcz43_0 : w42.cell? ⟨gb229, 0, none⟩ = some (.int .i64 0) := (blk_cell BK229.out 0).trans rfl; have hcz43_1 : w42.cell? ⟨gb229, 1, none⟩ = some (.int .i64 0) := (blk_cell BK229.out 1).trans rfl; have hcz43_2 : w42.cell? ⟨gb229, 2, none⟩ = some (.int .i64 0) := (blk_cell BK229.out 2).trans rfl; have hcz43_3 : w42.cell? ⟨gb229, 3, none⟩ = some (.bool false) := (blk_cell BK229.out 3).trans rfl; have hcz43_4 : w42.cell? ⟨gb229, 4, none⟩ = some (.bool false) := (blk_cell BK229.out 4).trans rfl; have hcz43_5 : w42.cell? ⟨gb229, 5, none⟩ = some (.bool false) := (blk_cell BK229.out 5).trans rfl; have hcz43_6 : w42.cell? ⟨gb229, 6, none⟩ = some (.int .i64 0) := (blk_cell BK229.out 6).trans rfl; have hfz43_0 := blk_frozen BK229.out 0; have hfz43_1 := blk_frozen BK229.out 1; have hfz43_2 := blk_frozen BK229.out 2; have hfz43_3 := blk_frozen BK229.out 3; have hfz43_4 := blk_frozen BK229.out 4; have hfz43_5 := blk_frozen BK229.out 5; have hfz43_6 := blk_frozen BK229.out 6))
         have n0_ : Aside0 ((((((((w42.setCell ⟨gb229, 0, none⟩ (.int .i64 ((rd_T48 l0 x8_1).f0))).setCell ⟨gb229, 1, none⟩ (.int .i64 ((rd_T48 l0 x8_1).f1.f0))).setCell ⟨gb229, 2, none⟩ (.int .i64 ((rd_T48 l0 x8_1).f1.f1))).setCell ⟨gb229, 3, none⟩ (.bool ((rd_T48 l0 x8_1).f1.f2))).setCell ⟨gb229, 4, none⟩ (.bool ((rd_T48 l0 x8_1).f1.f3))).setCell ⟨gb229, 5, none⟩ (.bool ((rd_T48 l0 x8_1).f1.f4))).setCell ⟨gb229, 6, none⟩ (.int .i64 ((rd_T48 l0 x8_1).f2))).heap[gb229]? = some (.cells #[.int .i64 ((rd_T48 l0 x8_1).f0), .int .i64 ((rd_T48 l0 x8_1).f1.f0), .int .i64 ((rd_T48 l0 x8_1).f1.f1), .bool ((rd_T48 l0 x8_1).f1.f2), .bool ((rd_T48 l0 x8_1).f1.f3), .bool ((rd_T48 l0 x8_1).f1.f4), .int .i64 ((rd_T48 l0 x8_1).f2)] 48 (0, 0))) := ⟨by (with_reducible repeat (first | apply k1 | apply k2 | apply k3)); refine blk_put (cs := #[.int .i64 ((rd_T48 l0 x8_1).f0), .int .i64 ((rd_T48 l0 x8_1).f1.f0), .int .i64 ((rd_T48 l0 x8_1).f1.f1), .bool ((rd_T48 l0 x8_1).f1.f2), .bool ((rd_T48 l0 x8_1).f1.f3), .bool ((rd_T48 l0 x8_1).f1.f4), .int .i64 0]) ?_ 6 _ rfl; (with_reducible repeat (first | apply k1 | apply k2 | apply k3)); refine blk_put (cs := #[.int .i64 ((rd_T48 l0 x8_1).f0), .int .i64 ((rd_T48 l0 x8_1).f1.f0), .int .i64 ((rd_T48 l0 x8_1).f1.f1), .bool ((rd_T48 l0 x8_1).f1.f2), .bool ((rd_T48 l0 x8_1).f1.f3), .bool false, .int .i64 0]) ?_ 5 _ rfl; (with_reducible repeat (first | apply k1 | apply k2 | apply k3)); refine blk_put (cs := #[.int .i64 ((rd_T48 l0 x8_1).f0), .int .i64 ((rd_T48 l0 x8_1).f1.f0), .int .i64 ((rd_T48 l0 x8_1).f1.f1), .bool ((rd_T48 l0 x8_1).f1.f2), .bool false, .bool false, .int .i64 0]) ?_ 4 _ rfl; (with_reducible repeat (first | apply k1 | apply k2 | apply k3)); refine blk_put (cs := #[.int .i64 ((rd_T48 l0 x8_1).f0), .int .i64 ((rd_T48 l0 x8_1).f1.f0), .int .i64 ((rd_T48 l0 x8_1).f1.f1), .bool false, .bool false, .bool false, .int .i64 0]) ?_ 3 _ rfl; (with_reducible repeat (first | apply k1 | apply k2 | apply k3)); refine blk_put (cs := #[.int .i64 ((rd_T48 l0 x8_1).f0), .int .i64 ((rd_T48 l0 x8_1).f1.f0), .int .i64 0, .bool false, .bool false, .bool false, .int .i64 0]) ?_ 2 _ rfl; (with_reducible repeat (first | apply k1 | apply k2 | apply k3)); refine blk_put (cs := #[.int .i64 ((rd_T48 l0 x8_1).f0), .int .i64 0, .int .i64 0, .bool false, .bool false, .bool false, .int .i64 0]) ?_ 1 _ rfl; (with_reducible repeat (first | apply k1 | apply k2 | apply k3)); refine blk_put (cs := #[.int .i64 0, .int .i64 0, .int .i64 0, .bool false, .bool false, .bool false, .int .i64 0]) ?_ 0 _ rfl; (with_reducible repeat (first | apply k1 | apply k2 | apply k3)); exact BK229.out⟩
         have n1_ : Aside0 (Below w.heap.size w (((((((w42.setCell ⟨gb229, 0, none⟩ (.int .i64 ((rd_T48 l0 x8_1).f0))).setCell ⟨gb229, 1, none⟩ (.int .i64 ((rd_T48 l0 x8_1).f1.f0))).setCell ⟨gb229, 2, none⟩ (.int .i64 ((rd_T48 l0 x8_1).f1.f1))).setCell ⟨gb229, 3, none⟩ (.bool ((rd_T48 l0 x8_1).f1.f2))).setCell ⟨gb229, 4, none⟩ (.bool ((rd_T48 l0 x8_1).f1.f3))).setCell ⟨gb229, 5, none⟩ (.bool ((rd_T48 l0 x8_1).f1.f4))).setCell ⟨gb229, 6, none⟩ (.int .i64 ((rd_T48 l0 x8_1).f2)))) := ⟨by repeat (first | (with_reducible first | exact HB.out | apply b1 | apply b2 | apply b3 | refine below_set ?_ GE229.out) | exact HB.out)⟩
         (try clear BK229)
         (try clear HB)
         generalize (((((((w42.setCell ⟨gb229, 0, none⟩ (.int .i64 ((rd_T48 l0 x8_1).f0))).setCell ⟨gb229, 1, none⟩ (.int .i64 ((rd_T48 l0 x8_1).f1.f0))).setCell ⟨gb229, 2, none⟩ (.int .i64 ((rd_T48 l0 x8_1).f1.f1))).setCell ⟨gb229, 3, none⟩ (.bool ((rd_T48 l0 x8_1).f1.f2))).setCell ⟨gb229, 4, none⟩ (.bool ((rd_T48 l0 x8_1).f1.f3))).setCell ⟨gb229, 5, none⟩ (.bool ((rd_T48 l0 x8_1).f1.f4))).setCell ⟨gb229, 6, none⟩ (.int .i64 ((rd_T48 l0 x8_1).f2))) = w44 at n0_ n1_ ⊢
         have BK229 := n0_
         have HB := n1_
         clear n0_ n1_
         have n0_ := am (blk_drew BK229.out)
         have n1_ := am (below_drew1 HB.out)
         clear BK229
         clear HB
         have BK229 := n0_
         have HB := n1_
         clear n0_ n1_
         refine start_ (n := 24) (S := fun w' => w'.cell? ⟨gb229, 0, none⟩ = some (.int .i64 ((rd_T48 l0 x8_1).f0)) ∧ w'.cell? ⟨gb229, 1, none⟩ = some (.int .i64 ((rd_T48 l0 x8_1).f1.f0)) ∧ w'.cell? ⟨gb229, 2, none⟩ = some (.int .i64 ((rd_T48 l0 x8_1).f1.f1)) ∧ w'.cell? ⟨gb229, 3, none⟩ = some (.bool ((rd_T48 l0 x8_1).f1.f2)) ∧ w'.cell? ⟨gb229, 4, none⟩ = some (.bool ((rd_T48 l0 x8_1).f1.f3)) ∧ w'.cell? ⟨gb229, 5, none⟩ = some (.bool ((rd_T48 l0 x8_1).f1.f4)) ∧ w'.cell? ⟨gb229, 6, none⟩ = some (.int .i64 ((rd_T48 l0 x8_1).f2))) (ds := []) (bm 24 0) (by kernel_rfl) rfl rfl ⟨(blk_cell BK229.out 0).trans rfl, (blk_cell BK229.out 1).trans rfl, (blk_cell BK229.out 2).trans rfl, (blk_cell BK229.out 3).trans rfl, (blk_cell BK229.out 4).trans rfl, (blk_cell BK229.out 5).trans rfl, (blk_cell BK229.out 6).trans rfl⟩ (fun hHeld => ?_); refine with_tabW impl_RowOk.tab5 impl_RowOk.bits5 (fun HT_ HW_ => ?_)
         generalize w44.drew = w45 at BK229 HB hHeld ⊢
         refine take_ (i := 0) (N := some 24) (v := ?_) (a' := ?_) (bm 24 1) rfl rfl (take_ofW HT_.out HW_.out (by kernel_rfl)) (fun _ _ _ h => h) (Or.inl ⟨by rfl, ?_⟩) hHeld ?_ ?_
         rotate_left
         ·rintro w' ⟨s0, s1, s2, s3, s4, s5, s6⟩
          go_simp
          with_reducible rfl
         rotate_left
         ·simp only [Act.put, List.setIfInBounds_toArray, List.set_cons_zero, List.set_cons_succ, i64_w, i32_w]
          rfl
         refine one_ (i := 1) (N := some 25) (bm 24 3) rfl rfl (one_of HT_.out (by kernel_rfl)) (by decide) (fun K hK => ?_)
         refine goes_ Tryd.func56 (by kernel_rfl) rfl #[.agg #[.int .i64 ((rd_T48 l0 x8_1).f0), .int .i64 ((rd_T48 l0 x8_1).f1.f0), .int .i64 ((rd_T48 l0 x8_1).f1.f1), .bool ((rd_T48 l0 x8_1).f1.f2), .bool ((rd_T48 l0 x8_1).f1.f3), .bool ((rd_T48 l0 x8_1).f1.f4), .int .i64 ((rd_T48 l0 x8_1).f2)]] (by rfl) rfl rfl (by (try simp only [List.map_toArray, List.map_cons, List.map_nil]); first | done | rfl | (simp only [List.length_drop, List.length_take]; rfl)) ?_
         with_reducible refine (impl_isCell.calls k1 ((rd_T48 l0 x8_1).f0) ((rd_T48 l0 x8_1).f1.f0) ((rd_T48 l0 x8_1).f1.f1) ((rd_T48 l0 x8_1).f1.f2) ((rd_T48 l0 x8_1).f1.f3) ((rd_T48 l0 x8_1).f1.f4) ((rd_T48 l0 x8_1).f2) true _ A39.out).mono ?_
         rintro e w46 ⟨rfl, hb⟩
         refine ⟨_, rfl, ?_⟩
         have n0_ := am (blk_below (g := gb229) (o := .cells #[.int .i64 ((rd_T48 l0 x8_1).f0), .int .i64 ((rd_T48 l0 x8_1).f1.f0), .int .i64 ((rd_T48 l0 x8_1).f1.f1), .bool ((rd_T48 l0 x8_1).f1.f2), .bool ((rd_T48 l0 x8_1).f1.f3), .bool ((rd_T48 l0 x8_1).f1.f4), .int .i64 ((rd_T48 l0 x8_1).f2)] 48 (0, 0)) (rk BK229) hb)
         have n1_ := am (below_step (rb1 HB GE229) hb)
         clear BK229
         clear HB
         have BK229 := n0_
         have HB := n1_
         clear n0_ n1_
         (try clear hb)
         (try clear hb2)
         (try clear hk)
         (try clear hi)
         refine hK.out _ _ ⟨(blk_cell BK229.out 0).trans rfl, (blk_cell BK229.out 1).trans rfl, (blk_cell BK229.out 2).trans rfl, (blk_cell BK229.out 3).trans rfl, (blk_cell BK229.out 4).trans rfl, (blk_cell BK229.out 5).trans rfl, (blk_cell BK229.out 6).trans rfl⟩ (fun hHeld => ?_)
         clear hK K
         refine norm_ (a' := ?_) ?_ ?_
         rotate_left
         ·show Act.put _ (some 25) _ = _
          simp only [Act.put, List.setIfInBounds_toArray, List.set_cons_zero, List.set_cons_succ, i64_w, i32_w]
          rfl
         refine pu_ 2 26 (bm 24 7) HT_.out ?_
         refine pu_ 3 27 (bm 24 15) HT_.out ?_
         refine pu_ 4 28 (bm 24 31) HT_.out ?_
         refine pu_ 5 29 (bm 24 63) HT_.out ?_
         refine take_ (i := 6) (N := some 30) (v := ?_) (a' := ?_) (bm 24 127) rfl rfl (take_ofW HT_.out HW_.out (by kernel_rfl)) (fun _ _ _ h => h) (Or.inl ⟨by rfl, ?_⟩) hHeld ?_ ?_
         rotate_left
         ·rintro w' ⟨s0, s1, s2, s3, s4, s5, s6⟩
          go_simp
          with_reducible rfl
         rotate_left
         ·simp only [Act.put, List.setIfInBounds_toArray, List.set_cons_zero, List.set_cons_succ, i64_w, i32_w]
          rfl
         refine pu_ 7 31 (bm 24 255) HT_.out ?_
         refine pu_ 8 32 (bm 24 511) HT_.out ?_
         refine pu_ 9 33 (bm 24 1023) HT_.out ?_
         refine pu_ 10 34 (bm 24 2047) HT_.out ?_
         refine un_ 11 35 (bm 24 4095) HT_.out ?_
         refine un_ 12 36 (bm 24 8191) HT_.out ?_
         refine un_ 13 37 (bm 24 16383) HT_.out ?_
         refine un_ 14 38 (bm 24 32767) HT_.out ?_
         refine un_ 15 39 (bm 24 65535) HT_.out ?_
         refine un_ 16 40 (bm 24 131071) HT_.out ?_
         refine un_ 17 41 (bm 24 262143) HT_.out ?_
         refine un_ 18 42 (bm 24 524287) HT_.out ?_
         refine un_ 19 43 (bm 24 1048575) HT_.out ?_
         refine un_ 20 44 (bm 24 2097151) HT_.out ?_
         refine un_ 21 45 (bm 24 4194303) HT_.out ?_
         refine un_ 22 46 (bm 24 8388607) HT_.out ?_
         refine pu_ 23 47 (bm 24 16777215) HT_.out ?_
         refine done_ (done_of HT_.out (by kernel_rfl)) ?_
         try go_wp2
         go_ret
         exact ⟨by first | rfl | (simp [errW_none, errW_some] <;> rfl) | (simp [*, errW_none, errW_some] <;> rfl), by repeat (first | (with_reducible first | exact HB.out | apply b1 | apply b2 | apply b3 | refine below_set ?_ GE229.out) | exact HB.out)⟩
        ·rw [if_neg c41] at H
         have c41b0 : (false != (((rd_T48 l0 x8_1).f2) == 2)) = false := by simpa using c41
         (try (have c41e : (((rd_T48 l0 x8_1).f2) == 2) = false := by have h_ := c41b0; revert h_; cases (((rd_T48 l0 x8_1).f2) == 2) <;> decide))
         (try (have c41b1 : decide (false = (((rd_T48 l0 x8_1).f2) == 2)) = true := by simpa using c41))
         (try (have c41b2 : (false == (((rd_T48 l0 x8_1).f2) == 2)) = true := by simpa using c41))
         clear c41
         have H' := am H
         clear H
         have p228 : 0 ≤ (x8_1 : Int) := dt_
         have q228 : x8_1 < (l0.length : Int) := dt_
         obtain ⟨ad228, e228, hx228_0, hx228_1, hx228_2, hx228_3, hx228_4, hx228_5, hx228_6⟩ := at_T48 HR0.out x8_1 p228 q228
         cases e228
         replace hx228_0 := mv HB.out hx228_0
         replace hx228_1 := mv HB.out hx228_1
         replace hx228_2 := mv HB.out hx228_2
         replace hx228_3 := mv HB.out hx228_3
         replace hx228_4 := mv HB.out hx228_4
         replace hx228_5 := mv HB.out hx228_5
         replace hx228_6 := mv HB.out hx228_6
         replace p228 := eq_true p228
         replace q228 := eq_true q228
         try go_wp2_with (first | ((with_reducible refine gate_dst (N := 4) rfl ?_); (try (refine gate_guard (by rfl) ?_; dsimp only)); refine box_event ?hg (N := 4) ?hd (cs := #[.int .i64 0, .int .i64 0, .int .i64 0, .bool false, .bool false, .bool false, .int .i64 0]) (t := 48) ?hr ?_; (case hd => rfl); (case hg => rfl); (case hr => first | (go_simp; done) | (go_simp; rfl)); intro gb229 hg w47 hbox hb; have n0_ := am (below_step (rb HB) hb); have n1_ := am (hbox); have n2_ := am ((by rw [hg]; exact (below_size (rb HB)) : w.heap.size ≤ gb229)); have n3_ := am ((by rw [hg]; exact (below_size (rb HB)) : w.heap.size ≤ gb229)); clear HB; have HB := n0_; have BK229 := n1_; have GW229 := n2_; have GE229 := n3_; clear n0_ n1_ n2_ n3_; clear hb hbox hg; have hcz48_0 : w47.cell? ⟨gb229, 0, none⟩ = some (.int .i64 0) := (blk_cell BK229.out 0).trans rfl; have hcz48_1 : w47.cell? ⟨gb229, 1, none⟩ = some (.int .i64 0) := (blk_cell BK229.out 1).trans rfl; have hcz48_2 : w47.cell? ⟨gb229, 2, none⟩ = some (.int .i64 0) := (blk_cell BK229.out 2).trans rfl; have hcz48_3 : w47.cell? ⟨gb229, 3, none⟩ = some (.bool false) := (blk_cell BK229.out 3).trans rfl; have hcz48_4 : w47.cell? ⟨gb229, 4, none⟩ = some (.bool false) := (blk_cell BK229.out 4).trans rfl; have hcz48_5 : w47.cell? ⟨gb229, 5, none⟩ = some (.bool false) := (blk_cell BK229.out 5).trans rfl; have hcz48_6 : w47.cell? ⟨gb229, 6, none⟩ = some (.int .i64 0) := (blk_cell BK229.out 6).trans rfl; have hfz48_0 := blk_frozen BK229.out 0; have hfz48_1 := blk_frozen BK229.out 1; have hfz48_2 := blk_frozen BK229.out 2; have hfz48_3 := blk_frozen BK229.out 3; have hfz48_4 := blk_frozen BK229.out 4; have hfz48_5 := blk_frozen BK229.out 5; have hfz48_6 := blk_frozen BK229.out 6))
         have n0_ : Aside0 ((((((((w47.setCell ⟨gb229, 0, none⟩ (.int .i64 ((rd_T48 l0 x8_1).f0))).setCell ⟨gb229, 1, none⟩ (.int .i64 ((rd_T48 l0 x8_1).f1.f0))).setCell ⟨gb229, 2, none⟩ (.int .i64 ((rd_T48 l0 x8_1).f1.f1))).setCell ⟨gb229, 3, none⟩ (.bool ((rd_T48 l0 x8_1).f1.f2))).setCell ⟨gb229, 4, none⟩ (.bool ((rd_T48 l0 x8_1).f1.f3))).setCell ⟨gb229, 5, none⟩ (.bool ((rd_T48 l0 x8_1).f1.f4))).setCell ⟨gb229, 6, none⟩ (.int .i64 ((rd_T48 l0 x8_1).f2))).heap[gb229]? = some (.cells #[.int .i64 ((rd_T48 l0 x8_1).f0), .int .i64 ((rd_T48 l0 x8_1).f1.f0), .int .i64 ((rd_T48 l0 x8_1).f1.f1), .bool ((rd_T48 l0 x8_1).f1.f2), .bool ((rd_T48 l0 x8_1).f1.f3), .bool ((rd_T48 l0 x8_1).f1.f4), .int .i64 ((rd_T48 l0 x8_1).f2)] 48 (0, 0))) := ⟨by (with_reducible repeat (first | apply k1 | apply k2 | apply k3)); refine blk_put (cs := #[.int .i64 ((rd_T48 l0 x8_1).f0), .int .i64 ((rd_T48 l0 x8_1).f1.f0), .int .i64 ((rd_T48 l0 x8_1).f1.f1), .bool ((rd_T48 l0 x8_1).f1.f2), .bool ((rd_T48 l0 x8_1).f1.f3), .bool ((rd_T48 l0 x8_1).f1.f4), .int .i64 0]) ?_ 6 _ rfl; (with_reducible repeat (first | apply k1 | apply k2 | apply k3)); refine blk_put (cs := #[.int .i64 ((rd_T48 l0 x8_1).f0), .int .i64 ((rd_T48 l0 x8_1).f1.f0), .int .i64 ((rd_T48 l0 x8_1).f1.f1), .bool ((rd_T48 l0 x8_1).f1.f2), .bool ((rd_T48 l0 x8_1).f1.f3), .bool false, .int .i64 0]) ?_ 5 _ rfl; (with_reducible repeat (first | apply k1 | apply k2 | apply k3)); refine blk_put (cs := #[.int .i64 ((rd_T48 l0 x8_1).f0), .int .i64 ((rd_T48 l0 x8_1).f1.f0), .int .i64 ((rd_T48 l0 x8_1).f1.f1), .bool ((rd_T48 l0 x8_1).f1.f2), .bool false, .bool false, .int .i64 0]) ?_ 4 _ rfl; (with_reducible repeat (first | apply k1 | apply k2 | apply k3)); refine blk_put (cs := #[.int .i64 ((rd_T48 l0 x8_1).f0), .int .i64 ((rd_T48 l0 x8_1).f1.f0), .int .i64 ((rd_T48 l0 x8_1).f1.f1), .bool false, .bool false, .bool false, .int .i64 0]) ?_ 3 _ rfl; (with_reducible repeat (first | apply k1 | apply k2 | apply k3)); refine blk_put (cs := #[.int .i64 ((rd_T48 l0 x8_1).f0), .int .i64 ((rd_T48 l0 x8_1).f1.f0), .int .i64 0, .bool false, .bool false, .bool false, .int .i64 0]) ?_ 2 _ rfl; (with_reducible repeat (first | apply k1 | apply k2 | apply k3)); refine blk_put (cs := #[.int .i64 ((rd_T48 l0 x8_1).f0), .int .i64 0, .int .i64 0, .bool false, .bool false, .bool false, .int .i64 0]) ?_ 1 _ rfl; (with_reducible repeat (first | apply k1 | apply k2 | apply k3)); refine blk_put (cs := #[.int .i64 0, .int .i64 0, .int .i64 0, .bool false, .bool false, .bool false, .int .i64 0]) ?_ 0 _ rfl; (with_reducible repeat (first | apply k1 | apply k2 | apply k3)); exact BK229.out⟩
         have n1_ : Aside0 (Below w.heap.size w (((((((w47.setCell ⟨gb229, 0, none⟩ (.int .i64 ((rd_T48 l0 x8_1).f0))).setCell ⟨gb229, 1, none⟩ (.int .i64 ((rd_T48 l0 x8_1).f1.f0))).setCell ⟨gb229, 2, none⟩ (.int .i64 ((rd_T48 l0 x8_1).f1.f1))).setCell ⟨gb229, 3, none⟩ (.bool ((rd_T48 l0 x8_1).f1.f2))).setCell ⟨gb229, 4, none⟩ (.bool ((rd_T48 l0 x8_1).f1.f3))).setCell ⟨gb229, 5, none⟩ (.bool ((rd_T48 l0 x8_1).f1.f4))).setCell ⟨gb229, 6, none⟩ (.int .i64 ((rd_T48 l0 x8_1).f2)))) := ⟨by repeat (first | (with_reducible first | exact HB.out | apply b1 | apply b2 | apply b3 | refine below_set ?_ GE229.out) | exact HB.out)⟩
         (try clear BK229)
         (try clear HB)
         generalize (((((((w47.setCell ⟨gb229, 0, none⟩ (.int .i64 ((rd_T48 l0 x8_1).f0))).setCell ⟨gb229, 1, none⟩ (.int .i64 ((rd_T48 l0 x8_1).f1.f0))).setCell ⟨gb229, 2, none⟩ (.int .i64 ((rd_T48 l0 x8_1).f1.f1))).setCell ⟨gb229, 3, none⟩ (.bool ((rd_T48 l0 x8_1).f1.f2))).setCell ⟨gb229, 4, none⟩ (.bool ((rd_T48 l0 x8_1).f1.f3))).setCell ⟨gb229, 5, none⟩ (.bool ((rd_T48 l0 x8_1).f1.f4))).setCell ⟨gb229, 6, none⟩ (.int .i64 ((rd_T48 l0 x8_1).f2))) = w49 at n0_ n1_ ⊢
         have BK229 := n0_
         have HB := n1_
         clear n0_ n1_
         have n0_ := am (blk_drew BK229.out)
         have n1_ := am (below_drew1 HB.out)
         clear BK229
         clear HB
         have BK229 := n0_
         have HB := n1_
         clear n0_ n1_
         refine start_ (n := 24) (S := fun w' => w'.cell? ⟨gb229, 0, none⟩ = some (.int .i64 ((rd_T48 l0 x8_1).f0)) ∧ w'.cell? ⟨gb229, 1, none⟩ = some (.int .i64 ((rd_T48 l0 x8_1).f1.f0)) ∧ w'.cell? ⟨gb229, 2, none⟩ = some (.int .i64 ((rd_T48 l0 x8_1).f1.f1)) ∧ w'.cell? ⟨gb229, 3, none⟩ = some (.bool ((rd_T48 l0 x8_1).f1.f2)) ∧ w'.cell? ⟨gb229, 4, none⟩ = some (.bool ((rd_T48 l0 x8_1).f1.f3)) ∧ w'.cell? ⟨gb229, 5, none⟩ = some (.bool ((rd_T48 l0 x8_1).f1.f4)) ∧ w'.cell? ⟨gb229, 6, none⟩ = some (.int .i64 ((rd_T48 l0 x8_1).f2))) (ds := []) (bm 24 0) (by kernel_rfl) rfl rfl ⟨(blk_cell BK229.out 0).trans rfl, (blk_cell BK229.out 1).trans rfl, (blk_cell BK229.out 2).trans rfl, (blk_cell BK229.out 3).trans rfl, (blk_cell BK229.out 4).trans rfl, (blk_cell BK229.out 5).trans rfl, (blk_cell BK229.out 6).trans rfl⟩ (fun hHeld => ?_); refine with_tabW impl_RowOk.tab5 impl_RowOk.bits5 (fun HT_ HW_ => ?_)
         generalize w49.drew = w50 at BK229 HB hHeld ⊢
         refine take_ (i := 0) (N := some 24) (v := ?_) (a' := ?_) (bm 24 1) rfl rfl (take_ofW HT_.out HW_.out (by kernel_rfl)) (fun _ _ _ h => h) (Or.inl ⟨by rfl, ?_⟩) hHeld ?_ ?_
         rotate_left
         ·rintro w' ⟨s0, s1, s2, s3, s4, s5, s6⟩
          go_simp
          with_reducible rfl
         rotate_left
         ·simp only [Act.put, List.setIfInBounds_toArray, List.set_cons_zero, List.set_cons_succ, i64_w, i32_w]
          rfl
         refine one_ (i := 1) (N := some 25) (bm 24 3) rfl rfl (one_of HT_.out (by kernel_rfl)) (by decide) (fun K hK => ?_)
         refine goes_ Tryd.func56 (by kernel_rfl) rfl #[.agg #[.int .i64 ((rd_T48 l0 x8_1).f0), .int .i64 ((rd_T48 l0 x8_1).f1.f0), .int .i64 ((rd_T48 l0 x8_1).f1.f1), .bool ((rd_T48 l0 x8_1).f1.f2), .bool ((rd_T48 l0 x8_1).f1.f3), .bool ((rd_T48 l0 x8_1).f1.f4), .int .i64 ((rd_T48 l0 x8_1).f2)]] (by rfl) rfl rfl (by (try simp only [List.map_toArray, List.map_cons, List.map_nil]); first | done | rfl | (simp only [List.length_drop, List.length_take]; rfl)) ?_
         with_reducible refine (impl_isCell.calls k1 ((rd_T48 l0 x8_1).f0) ((rd_T48 l0 x8_1).f1.f0) ((rd_T48 l0 x8_1).f1.f1) ((rd_T48 l0 x8_1).f1.f2) ((rd_T48 l0 x8_1).f1.f3) ((rd_T48 l0 x8_1).f1.f4) ((rd_T48 l0 x8_1).f2) true _ A39.out).mono ?_
         rintro e w51 ⟨rfl, hb⟩
         refine ⟨_, rfl, ?_⟩
         have n0_ := am (blk_below (g := gb229) (o := .cells #[.int .i64 ((rd_T48 l0 x8_1).f0), .int .i64 ((rd_T48 l0 x8_1).f1.f0), .int .i64 ((rd_T48 l0 x8_1).f1.f1), .bool ((rd_T48 l0 x8_1).f1.f2), .bool ((rd_T48 l0 x8_1).f1.f3), .bool ((rd_T48 l0 x8_1).f1.f4), .int .i64 ((rd_T48 l0 x8_1).f2)] 48 (0, 0)) (rk BK229) hb)
         have n1_ := am (below_step (rb1 HB GE229) hb)
         clear BK229
         clear HB
         have BK229 := n0_
         have HB := n1_
         clear n0_ n1_
         (try clear hb)
         (try clear hb2)
         (try clear hk)
         (try clear hi)
         refine hK.out _ _ ⟨(blk_cell BK229.out 0).trans rfl, (blk_cell BK229.out 1).trans rfl, (blk_cell BK229.out 2).trans rfl, (blk_cell BK229.out 3).trans rfl, (blk_cell BK229.out 4).trans rfl, (blk_cell BK229.out 5).trans rfl, (blk_cell BK229.out 6).trans rfl⟩ (fun hHeld => ?_)
         clear hK K
         refine norm_ (a' := ?_) ?_ ?_
         rotate_left
         ·show Act.put _ (some 25) _ = _
          simp only [Act.put, List.setIfInBounds_toArray, List.set_cons_zero, List.set_cons_succ, i64_w, i32_w]
          rfl
         refine pu_ 2 26 (bm 24 7) HT_.out ?_
         refine pu_ 3 27 (bm 24 15) HT_.out ?_
         refine pu_ 4 28 (bm 24 31) HT_.out ?_
         refine pu_ 5 29 (bm 24 63) HT_.out ?_
         refine take_ (i := 6) (N := some 30) (v := ?_) (a' := ?_) (bm 24 127) rfl rfl (take_ofW HT_.out HW_.out (by kernel_rfl)) (fun _ _ _ h => h) (Or.inl ⟨by rfl, ?_⟩) hHeld ?_ ?_
         rotate_left
         ·rintro w' ⟨s0, s1, s2, s3, s4, s5, s6⟩
          go_simp
          with_reducible rfl
         rotate_left
         ·simp only [Act.put, List.setIfInBounds_toArray, List.set_cons_zero, List.set_cons_succ, i64_w, i32_w]
          rfl
         refine pu_ 7 31 (bm 24 255) HT_.out ?_
         refine pu_ 8 32 (bm 24 511) HT_.out ?_
         refine pu_ 9 33 (bm 24 1023) HT_.out ?_
         refine pu_ 10 34 (bm 24 2047) HT_.out ?_
         refine pu_ 11 35 (bm 24 4095) HT_.out ?_
         refine pu_ 12 36 (bm 24 8191) HT_.out ?_
         refine un_ 13 37 (bm 24 16383) HT_.out ?_
         refine un_ 14 38 (bm 24 32767) HT_.out ?_
         refine un_ 15 39 (bm 24 65535) HT_.out ?_
         refine un_ 16 40 (bm 24 131071) HT_.out ?_
         refine un_ 17 41 (bm 24 262143) HT_.out ?_
         refine un_ 18 42 (bm 24 524287) HT_.out ?_
         refine un_ 19 43 (bm 24 1048575) HT_.out ?_
         refine un_ 20 44 (bm 24 2097151) HT_.out ?_
         refine un_ 21 45 (bm 24 4194303) HT_.out ?_
         refine pu_ 22 46 (bm 24 8388607) HT_.out ?_
         refine pu_ 23 47 (bm 24 16777215) HT_.out ?_
         refine done_ (done_of HT_.out (by kernel_rfl)) ?_
         try go_wp2
         go_roundg k1
         case measure => have := HK1.out; omega
         case rel => exact ⟨(wrap64 (x8_1 + 1)), (by first | rfl | (simp; done) | (simp [*]; done)), H', ⟨by have := HK1.out; omega⟩, ⟨by repeat (first | (with_reducible first | exact HB.out | apply b1 | apply b2 | apply b3 | refine below_set ?_ GE229.out) | exact HB.out)⟩⟩
       ·replace c40 := Bool.eq_false_iff.mpr c40
        subst c40
        have H1 : (some false) = some r := by rw [if_neg (show ¬ (false = true) by decide)] at H; exact H
        clear H
        have H := H1
        clear H1
        obtain rfl := Option.some.inj H
        have p228 : 0 ≤ (x8_1 : Int) := dt_
        have q228 : x8_1 < (l0.length : Int) := dt_
        obtain ⟨ad228, e228, hx228_0, hx228_1, hx228_2, hx228_3, hx228_4, hx228_5, hx228_6⟩ := at_T48 HR0.out x8_1 p228 q228
        cases e228
        replace hx228_0 := mv HB.out hx228_0
        replace hx228_1 := mv HB.out hx228_1
        replace hx228_2 := mv HB.out hx228_2
        replace hx228_3 := mv HB.out hx228_3
        replace hx228_4 := mv HB.out hx228_4
        replace hx228_5 := mv HB.out hx228_5
        replace hx228_6 := mv HB.out hx228_6
        replace p228 := eq_true p228
        replace q228 := eq_true q228
        try go_wp2_with (first | ((with_reducible refine gate_dst (N := 4) rfl ?_); (try (refine gate_guard (by rfl) ?_; dsimp only)); refine box_event ?hg (N := 4) ?hd (cs := #[.int .i64 0, .int .i64 0, .int .i64 0, .bool false, .bool false, .bool false, .int .i64 0]) (t := 48) ?hr ?_; (case hd => rfl); (case hg => rfl); (case hr => first | (go_simp; done) | (go_simp; rfl)); intro gb229 hg w52 hbox hb; have n0_ := am (below_step (rb HB) hb); have n1_ := am (hbox); have n2_ := am ((by rw [hg]; exact (below_size (rb HB)) : w.heap.size ≤ gb229)); have n3_ := am ((by rw [hg]; exact (below_size (rb HB)) : w.heap.size ≤ gb229)); clear HB; have HB := n0_; have BK229 := n1_; have GW229 := n2_; have GE229 := n3_; clear n0_ n1_ n2_ n3_; clear hb hbox hg; have hcz53_0 : w52.cell? ⟨gb229, 0, none⟩ = some (.int .i64 0) := (blk_cell BK229.out 0).trans rfl; have hcz53_1 : w52.cell? ⟨gb229, 1, none⟩ = some (.int .i64 0) := (blk_cell BK229.out 1).trans rfl; have hcz53_2 : w52.cell? ⟨gb229, 2, none⟩ = some (.int .i64 0) := (blk_cell BK229.out 2).trans rfl; have hcz53_3 : w52.cell? ⟨gb229, 3, none⟩ = some (.bool false) := (blk_cell BK229.out 3).trans rfl; have hcz53_4 : w52.cell? ⟨gb229, 4, none⟩ = some (.bool false) := (blk_cell BK229.out 4).trans rfl; have hcz53_5 : w52.cell? ⟨gb229, 5, none⟩ = some (.bool false) := (blk_cell BK229.out 5).trans rfl; have hcz53_6 : w52.cell? ⟨gb229, 6, none⟩ = some (.int .i64 0) := (blk_cell BK229.out 6).trans rfl; have hfz53_0 := blk_frozen BK229.out 0; have hfz53_1 := blk_frozen BK229.out 1; have hfz53_2 := blk_frozen BK229.out 2; have hfz53_3 := blk_frozen BK229.out 3; have hfz53_4 := blk_frozen BK229.out 4; have hfz53_5 := blk_frozen BK229.out 5; have hfz53_6 := blk_frozen BK229.out 6))
        have n0_ : Aside0 ((((((((w52.setCell ⟨gb229, 0, none⟩ (.int .i64 ((rd_T48 l0 x8_1).f0))).setCell ⟨gb229, 1, none⟩ (.int .i64 ((rd_T48 l0 x8_1).f1.f0))).setCell ⟨gb229, 2, none⟩ (.int .i64 ((rd_T48 l0 x8_1).f1.f1))).setCell ⟨gb229, 3, none⟩ (.bool ((rd_T48 l0 x8_1).f1.f2))).setCell ⟨gb229, 4, none⟩ (.bool ((rd_T48 l0 x8_1).f1.f3))).setCell ⟨gb229, 5, none⟩ (.bool ((rd_T48 l0 x8_1).f1.f4))).setCell ⟨gb229, 6, none⟩ (.int .i64 ((rd_T48 l0 x8_1).f2))).heap[gb229]? = some (.cells #[.int .i64 ((rd_T48 l0 x8_1).f0), .int .i64 ((rd_T48 l0 x8_1).f1.f0), .int .i64 ((rd_T48 l0 x8_1).f1.f1), .bool ((rd_T48 l0 x8_1).f1.f2), .bool ((rd_T48 l0 x8_1).f1.f3), .bool ((rd_T48 l0 x8_1).f1.f4), .int .i64 ((rd_T48 l0 x8_1).f2)] 48 (0, 0))) := ⟨by (with_reducible repeat (first | apply k1 | apply k2 | apply k3)); refine blk_put (cs := #[.int .i64 ((rd_T48 l0 x8_1).f0), .int .i64 ((rd_T48 l0 x8_1).f1.f0), .int .i64 ((rd_T48 l0 x8_1).f1.f1), .bool ((rd_T48 l0 x8_1).f1.f2), .bool ((rd_T48 l0 x8_1).f1.f3), .bool ((rd_T48 l0 x8_1).f1.f4), .int .i64 0]) ?_ 6 _ rfl; (with_reducible repeat (first | apply k1 | apply k2 | apply k3)); refine blk_put (cs := #[.int .i64 ((rd_T48 l0 x8_1).f0), .int .i64 ((rd_T48 l0 x8_1).f1.f0), .int .i64 ((rd_T48 l0 x8_1).f1.f1), .bool ((rd_T48 l0 x8_1).f1.f2), .bool ((rd_T48 l0 x8_1).f1.f3), .bool false, .int .i64 0]) ?_ 5 _ rfl; (with_reducible repeat (first | apply k1 | apply k2 | apply k3)); refine blk_put (cs := #[.int .i64 ((rd_T48 l0 x8_1).f0), .int .i64 ((rd_T48 l0 x8_1).f1.f0), .int .i64 ((rd_T48 l0 x8_1).f1.f1), .bool ((rd_T48 l0 x8_1).f1.f2), .bool false, .bool false, .int .i64 0]) ?_ 4 _ rfl; (with_reducible repeat (first | apply k1 | apply k2 | apply k3)); refine blk_put (cs := #[.int .i64 ((rd_T48 l0 x8_1).f0), .int .i64 ((rd_T48 l0 x8_1).f1.f0), .int .i64 ((rd_T48 l0 x8_1).f1.f1), .bool false, .bool false, .bool false, .int .i64 0]) ?_ 3 _ rfl; (with_reducible repeat (first | apply k1 | apply k2 | apply k3)); refine blk_put (cs := #[.int .i64 ((rd_T48 l0 x8_1).f0), .int .i64 ((rd_T48 l0 x8_1).f1.f0), .int .i64 0, .bool false, .bool false, .bool false, .int .i64 0]) ?_ 2 _ rfl; (with_reducible repeat (first | apply k1 | apply k2 | apply k3)); refine blk_put (cs := #[.int .i64 ((rd_T48 l0 x8_1).f0), .int .i64 0, .int .i64 0, .bool false, .bool false, .bool false, .int .i64 0]) ?_ 1 _ rfl; (with_reducible repeat (first | apply k1 | apply k2 | apply k3)); refine blk_put (cs := #[.int .i64 0, .int .i64 0, .int .i64 0, .bool false, .bool false, .bool false, .int .i64 0]) ?_ 0 _ rfl; (with_reducible repeat (first | apply k1 | apply k2 | apply k3)); exact BK229.out⟩
        have n1_ : Aside0 (Below w.heap.size w (((((((w52.setCell ⟨gb229, 0, none⟩ (.int .i64 ((rd_T48 l0 x8_1).f0))).setCell ⟨gb229, 1, none⟩ (.int .i64 ((rd_T48 l0 x8_1).f1.f0))).setCell ⟨gb229, 2, none⟩ (.int .i64 ((rd_T48 l0 x8_1).f1.f1))).setCell ⟨gb229, 3, none⟩ (.bool ((rd_T48 l0 x8_1).f1.f2))).setCell ⟨gb229, 4, none⟩ (.bool ((rd_T48 l0 x8_1).f1.f3))).setCell ⟨gb229, 5, none⟩ (.bool ((rd_T48 l0 x8_1).f1.f4))).setCell ⟨gb229, 6, none⟩ (.int .i64 ((rd_T48 l0 x8_1).f2)))) := ⟨by repeat (first | (with_reducible first | exact HB.out | apply b1 | apply b2 | apply b3 | refine below_set ?_ GE229.out) | exact HB.out)⟩
        (try clear BK229)
        (try clear HB)
        generalize (((((((w52.setCell ⟨gb229, 0, none⟩ (.int .i64 ((rd_T48 l0 x8_1).f0))).setCell ⟨gb229, 1, none⟩ (.int .i64 ((rd_T48 l0 x8_1).f1.f0))).setCell ⟨gb229, 2, none⟩ (.int .i64 ((rd_T48 l0 x8_1).f1.f1))).setCell ⟨gb229, 3, none⟩ (.bool ((rd_T48 l0 x8_1).f1.f2))).setCell ⟨gb229, 4, none⟩ (.bool ((rd_T48 l0 x8_1).f1.f3))).setCell ⟨gb229, 5, none⟩ (.bool ((rd_T48 l0 x8_1).f1.f4))).setCell ⟨gb229, 6, none⟩ (.int .i64 ((rd_T48 l0 x8_1).f2))) = w54 at n0_ n1_ ⊢
        have BK229 := n0_
        have HB := n1_
        clear n0_ n1_
        have n0_ := am (blk_drew BK229.out)
        have n1_ := am (below_drew1 HB.out)
        clear BK229
        clear HB
        have BK229 := n0_
        have HB := n1_
        clear n0_ n1_
        refine start_ (n := 24) (S := fun w' => w'.cell? ⟨gb229, 0, none⟩ = some (.int .i64 ((rd_T48 l0 x8_1).f0)) ∧ w'.cell? ⟨gb229, 1, none⟩ = some (.int .i64 ((rd_T48 l0 x8_1).f1.f0)) ∧ w'.cell? ⟨gb229, 2, none⟩ = some (.int .i64 ((rd_T48 l0 x8_1).f1.f1)) ∧ w'.cell? ⟨gb229, 3, none⟩ = some (.bool ((rd_T48 l0 x8_1).f1.f2)) ∧ w'.cell? ⟨gb229, 4, none⟩ = some (.bool ((rd_T48 l0 x8_1).f1.f3)) ∧ w'.cell? ⟨gb229, 5, none⟩ = some (.bool ((rd_T48 l0 x8_1).f1.f4)) ∧ w'.cell? ⟨gb229, 6, none⟩ = some (.int .i64 ((rd_T48 l0 x8_1).f2))) (ds := []) (bm 24 0) (by kernel_rfl) rfl rfl ⟨(blk_cell BK229.out 0).trans rfl, (blk_cell BK229.out 1).trans rfl, (blk_cell BK229.out 2).trans rfl, (blk_cell BK229.out 3).trans rfl, (blk_cell BK229.out 4).trans rfl, (blk_cell BK229.out 5).trans rfl, (blk_cell BK229.out 6).trans rfl⟩ (fun hHeld => ?_); refine with_tabW impl_RowOk.tab5 impl_RowOk.bits5 (fun HT_ HW_ => ?_)
        generalize w54.drew = w55 at BK229 HB hHeld ⊢
        refine take_ (i := 0) (N := some 24) (v := ?_) (a' := ?_) (bm 24 1) rfl rfl (take_ofW HT_.out HW_.out (by kernel_rfl)) (fun _ _ _ h => h) (Or.inl ⟨by rfl, ?_⟩) hHeld ?_ ?_
        rotate_left
        ·rintro w' ⟨s0, s1, s2, s3, s4, s5, s6⟩
         go_simp
         with_reducible rfl
        rotate_left
        ·simp only [Act.put, List.setIfInBounds_toArray, List.set_cons_zero, List.set_cons_succ, i64_w, i32_w]
         rfl
        refine one_ (i := 1) (N := some 25) (bm 24 3) rfl rfl (one_of HT_.out (by kernel_rfl)) (by decide) (fun K hK => ?_)
        refine goes_ Tryd.func56 (by kernel_rfl) rfl #[.agg #[.int .i64 ((rd_T48 l0 x8_1).f0), .int .i64 ((rd_T48 l0 x8_1).f1.f0), .int .i64 ((rd_T48 l0 x8_1).f1.f1), .bool ((rd_T48 l0 x8_1).f1.f2), .bool ((rd_T48 l0 x8_1).f1.f3), .bool ((rd_T48 l0 x8_1).f1.f4), .int .i64 ((rd_T48 l0 x8_1).f2)]] (by rfl) rfl rfl (by (try simp only [List.map_toArray, List.map_cons, List.map_nil]); first | done | rfl | (simp only [List.length_drop, List.length_take]; rfl)) ?_
        with_reducible refine (impl_isCell.calls k1 ((rd_T48 l0 x8_1).f0) ((rd_T48 l0 x8_1).f1.f0) ((rd_T48 l0 x8_1).f1.f1) ((rd_T48 l0 x8_1).f1.f2) ((rd_T48 l0 x8_1).f1.f3) ((rd_T48 l0 x8_1).f1.f4) ((rd_T48 l0 x8_1).f2) false _ A39.out).mono ?_
        rintro e w56 ⟨rfl, hb⟩
        refine ⟨_, rfl, ?_⟩
        have n0_ := am (blk_below (g := gb229) (o := .cells #[.int .i64 ((rd_T48 l0 x8_1).f0), .int .i64 ((rd_T48 l0 x8_1).f1.f0), .int .i64 ((rd_T48 l0 x8_1).f1.f1), .bool ((rd_T48 l0 x8_1).f1.f2), .bool ((rd_T48 l0 x8_1).f1.f3), .bool ((rd_T48 l0 x8_1).f1.f4), .int .i64 ((rd_T48 l0 x8_1).f2)] 48 (0, 0)) (rk BK229) hb)
        have n1_ := am (below_step (rb1 HB GE229) hb)
        clear BK229
        clear HB
        have BK229 := n0_
        have HB := n1_
        clear n0_ n1_
        (try clear hb)
        (try clear hb2)
        (try clear hk)
        (try clear hi)
        refine hK.out _ _ ⟨(blk_cell BK229.out 0).trans rfl, (blk_cell BK229.out 1).trans rfl, (blk_cell BK229.out 2).trans rfl, (blk_cell BK229.out 3).trans rfl, (blk_cell BK229.out 4).trans rfl, (blk_cell BK229.out 5).trans rfl, (blk_cell BK229.out 6).trans rfl⟩ (fun hHeld => ?_)
        clear hK K
        refine norm_ (a' := ?_) ?_ ?_
        rotate_left
        ·show Act.put _ (some 25) _ = _
         simp only [Act.put, List.setIfInBounds_toArray, List.set_cons_zero, List.set_cons_succ, i64_w, i32_w]
         rfl
        refine pu_ 2 26 (bm 24 7) HT_.out ?_
        refine pu_ 3 27 (bm 24 15) HT_.out ?_
        refine un_ 4 28 (bm 24 31) HT_.out ?_
        refine un_ 5 29 (bm 24 63) HT_.out ?_
        refine un_ 6 30 (bm 24 127) HT_.out ?_
        refine un_ 7 31 (bm 24 255) HT_.out ?_
        refine un_ 8 32 (bm 24 511) HT_.out ?_
        refine pu_ 9 33 (bm 24 1023) HT_.out ?_
        refine pu_ 10 34 (bm 24 2047) HT_.out ?_
        refine un_ 11 35 (bm 24 4095) HT_.out ?_
        refine un_ 12 36 (bm 24 8191) HT_.out ?_
        refine un_ 13 37 (bm 24 16383) HT_.out ?_
        refine un_ 14 38 (bm 24 32767) HT_.out ?_
        refine un_ 15 39 (bm 24 65535) HT_.out ?_
        refine un_ 16 40 (bm 24 131071) HT_.out ?_
        refine un_ 17 41 (bm 24 262143) HT_.out ?_
        refine un_ 18 42 (bm 24 524287) HT_.out ?_
        refine un_ 19 43 (bm 24 1048575) HT_.out ?_
        refine un_ 20 44 (bm 24 2097151) HT_.out ?_
        refine un_ 21 45 (bm 24 4194303) HT_.out ?_
        refine un_ 22 46 (bm 24 8388607) HT_.out ?_
        refine pu_ 23 47 (bm 24 16777215) HT_.out ?_
        refine done_ (done_of HT_.out (by kernel_rfl)) ?_
        try go_wp2
        go_ret
        exact ⟨by first | rfl | (simp [errW_none, errW_some] <;> rfl) | (simp [*, errW_none, errW_some] <;> rfl), by repeat (first | (with_reducible first | exact HB.out | apply b1 | apply b2 | apply b3 | refine below_set ?_ GE229.out) | exact HB.out)⟩
     ·rw [if_neg c4] at H
      exact absurd H (by simp)
    ·rw [if_neg c3] at H
     exact absurd H (by simp)
   ·rw [if_neg c2] at H
    have c2b0 : decide (x8_1 < (l0.length : Int)) = false := decide_eq_false c2
    clear c2
    replace H := Option.bind_eq_some_iff.mp H
    obtain ⟨t234, A570, H⟩ := H
    replace H : (if t234 = true then (if 0 ≤ (wrap64 ((l0.length : Int) - 1)) then (if (wrap64 ((l0.length : Int) - 1)) < (l0.length : Int) then (some (((rd_T48 l0 (wrap64 ((l0.length : Int) - 1))).f2) != 1)) else (none)) else (none)) else (some false)) = some r := H
    have A57 := am A570
    clear A570
    by_cases c58 : t234 = true
    ·subst c58
     have H1 : (if 0 ≤ (wrap64 ((l0.length : Int) - 1)) then (if (wrap64 ((l0.length : Int) - 1)) < (l0.length : Int) then (some (((rd_T48 l0 (wrap64 ((l0.length : Int) - 1))).f2) != 1)) else (none)) else (none)) = some r := by rw [if_pos rfl] at H; exact H
     clear H
     have H := H1
     clear H1
     obtain ⟨ji59, hji59⟩ : ∃ j_ : Int, (wrap64 ((l0.length : Int) - 1)) = j_ := ⟨_, rfl⟩
     replace H : (if 0 ≤ (ji59) then (if (ji59) < (l0.length : Int) then (some (((rd_T48 l0 (ji59)).f2) != 1)) else (none)) else (none)) = some r := by first | (rw [hji59] at H; exact H) | (simp only [hji59] at H ⊢; exact H)
     (try rw [hji59] at A57)
     have hji59w : (IntKind.i64.wrap ((l0.length : Int) - 1)) = ji59 := (i64_w _).trans hji59
     by_cases c60 : 0 ≤ (ji59)
     ·rw [if_pos c60] at H
      have c60b0 : decide (0 ≤ (ji59)) = true := decide_eq_true c60
      clear c60
      by_cases c61 : (ji59) < (l0.length : Int)
      ·rw [if_pos c61] at H
       have c61b0 : decide ((ji59) < (l0.length : Int)) = true := decide_eq_true c61
       clear c61
       obtain rfl := Option.some.inj H
       go_wp2_with (first | ((with_reducible refine gate_callee (f := 43) rfl ?_); refine gl_ (some 51) Tryd.func43 #[.int .i64 (l0.length : Int), .int .i64 1, .int .i64 60] ?_; (with_reducible refine (impl_in.calls (l0.length : Int) 1 60 true _ A57.out).mono ?_); rintro e w' ⟨rfl, ⟨nd, rfl⟩⟩; refine ⟨_, rfl, ?_⟩; have p235 : 0 ≤ ((ji59) : Int) := dt_; have q235 : (ji59) < (l0.length : Int) := dt_; obtain ⟨ad235, e235, hx235_0, hx235_1, hx235_2, hx235_3, hx235_4, hx235_5, hx235_6⟩ := at_T48 HR0.out (ji59) p235 q235; cases e235; replace hx235_0 := (HB.out.cell (World.block_lt_of_cell? w _ hx235_0)).trans hx235_0; replace hx235_1 := (HB.out.cell (World.block_lt_of_cell? w _ hx235_1)).trans hx235_1; replace hx235_2 := (HB.out.cell (World.block_lt_of_cell? w _ hx235_2)).trans hx235_2; replace hx235_3 := (HB.out.cell (World.block_lt_of_cell? w _ hx235_3)).trans hx235_3; replace hx235_4 := (HB.out.cell (World.block_lt_of_cell? w _ hx235_4)).trans hx235_4; replace hx235_5 := (HB.out.cell (World.block_lt_of_cell? w _ hx235_5)).trans hx235_5; replace hx235_6 := (HB.out.cell (World.block_lt_of_cell? w _ hx235_6)).trans hx235_6; replace p235 := eq_true p235; replace q235 := eq_true q235))
       go_ret
       exact ⟨by first | rfl | (simp [errW_none, errW_some] <;> rfl) | (simp only [← hji59]; first | rfl | (simp [errW_none, errW_some] <;> rfl)) | (simp [*, errW_none, errW_some] <;> rfl), by repeat (first | (with_reducible first | exact HB.out | apply b1 | apply b2 | apply b3) | exact HB.out)⟩
      ·rw [if_neg c61] at H
       exact absurd H (by simp)
     ·rw [if_neg c60] at H
      exact absurd H (by simp)
    ·replace c58 := Bool.eq_false_iff.mpr c58
     subst c58
     have H1 : (some false) = some r := by rw [if_neg (show ¬ (false = true) by decide)] at H; exact H
     clear H
     have H := H1
     clear H1
     obtain rfl := Option.some.inj H
     go_wp2_with (first | ((with_reducible refine gate_callee (f := 43) rfl ?_); refine gl_ (some 51) Tryd.func43 #[.int .i64 (l0.length : Int), .int .i64 1, .int .i64 60] ?_; (with_reducible refine (impl_in.calls (l0.length : Int) 1 60 false _ A57.out).mono ?_); rintro e w' ⟨rfl, ⟨nd, rfl⟩⟩; refine ⟨_, rfl, ?_⟩))
     go_ret
     exact ⟨by first | rfl | (simp [errW_none, errW_some] <;> rfl) | (simp [*, errW_none, errW_some] <;> rfl), by repeat (first | (with_reducible first | exact HB.out | apply b1 | apply b2 | apply b3) | exact HB.out)⟩

end Go.Proofs.YtepeanpoicefdaaDoor.PA
