/- Contracts of Go functions that laws of this seat reach: each Lean function answers as its Go function does. No condition. Written by wip/tools/inj.py, over the kit's print. -/
import Derived.Test.YtalopdcephohgaaRBx0
import Derived.Test.YtalopdcephohgaaRBx28
namespace Go.Proofs.Ytalopdcephohgaa.RB
open Go.RowKit Go.Proofs.YtalopdcephohgaaW.PrintWords Go.Proofs.YtalopdcephohgaaW.PrintLast Go.Proofs.YtalopdcephohgaaW.PrintMore
attribute [local go_sem] max2_int min2_int max_two min_two max_three min_three max_four min_four   -- for this text's walks alone
set_option linter.unusedVariables false
set_option linter.unusedSimpArgs false

/-! ### laws_markPatch: function 37 -/
def laws_markPatch.f (k : Nat) (a0_0 : Int) (a0_1 : Int) (l0_2 : List S101) (a1 : Int) : Option (Int × List S101) := (laws_markChangeS.f k l0_2 a1).bind fun bt => some (bt.1, bt.2)
theorem laws_markPatch.mono : ∀ a0 a1 a2 a3 k, LeO (laws_markPatch.f k a0 a1 a2 a3) (laws_markPatch.f (k + 1) a0 a1 a2 a3) := by
 intro a0 a1 a2 a3 k
 unfold laws_markPatch.f
 exact LeO.bind (laws_markChangeS.mono _ _ _) (fun _ => LeO.refl _)
set_option maxHeartbeats 8000000 in
set_option maxRecDepth 100000 in
theorem laws_markPatch.calls (k : Nat) (a0_0 : Int) (a0_1 : Int) (P0_2_ : Nat → Prop) (u9000_ : Value) (l0_2 : List S101) (a1 : Int) (r1 : Int) (r2 : List S101) (w0 w : World) (hB : Below w0.heap.size w0 w) (ho0_2 : Kd.S k101 101 w w0.heap.size P0_2_ u9000_ l0_2) (h : laws_markPatch.f k a0_0 a0_1 l0_2 a1 = some (r1, r2)) :
  Calls Try.prog 37 #[.agg #[.int .i64 a0_0, .int .i64 a0_1, u9000_], .int .i64 a1] w fun e w' => e = .returned (.int .i64 r1) ∧ Kd.S k101 101 w' w0.heap.size P0_2_ u9000_ r2 ∧ Below w0.heap.size w0 w' ∧ Kept w w' (fun k_ => P0_2_ k_) := by
 (
have huG := Try.underlying53
obtain ⟨A0, c0, eu⟩ := Kd.S_slice ho0_2
subst eu
have HO := am ho0_2
have HK := am (Kept.refl w (fun k_ => P0_2_ k_))
have HB := am hB
clear hB ho0_2
obtain ⟨⟨t1, t2⟩, A1, H⟩ := Option.bind_eq_some_iff.mp h
have A1' := am A1
simp only [Option.some.injEq, Prod.mk.injEq] at H
obtain ⟨rfl, rfl⟩ := H
clear h A1
go_enter Try.func37, Try.ntmps37
go_wp2_with (first | ((with_reducible refine gate_dst (N := 2) rfl ?_); refine box_event ?hg (N := 2) ?hd (cs := #[.int .i64 a0_0, .int .i64 a0_1, .slice A0 l0_2.length c0]) (t := 53) ?hr ?_; (case hd => rfl); (case hg => rfl); (case hr => first | (go_simp; done) | (go_simp; rfl)); intro gb hg w5 hbox hb; replace HO := am (Kd.S_below HO.out hb); replace HK := am (Kept.below (S := (fun k_ => P0_2_ k_)) HK.out hb); replace HB := am (below_step HB.out hb); have hz0 : w5.cell? ⟨gb, 0, none⟩ = some (.int .i64 a0_0) := (blk_cell hbox 0).trans rfl; have hz1 : w5.cell? ⟨gb, 1, none⟩ = some (.int .i64 a0_1) := (blk_cell hbox 1).trans rfl; have hz2 : w5.cell? ⟨gb, 2, none⟩ = some (.slice A0 l0_2.length c0) := (blk_cell hbox 2).trans rfl; clear hb hbox hg) | ((with_reducible refine gate_callee (f := 77) rfl ?_); refine goesL_ (some 8) rfl rfl Try.func77 (by kernel_rfl) rfl #[.slice A0 l0_2.length c0, .int .i64 a1] rfl (by (try simp only [List.map_toArray, List.map_cons, List.map_nil]); first | done | rfl) ?_; (with_reducible refine (laws_markChangeS.calls k P0_2_ (.slice A0 l0_2.length c0) l0_2 a1 t1 t2 w0 _ HB.out HO.out A1'.out).mono ?_); rintro e w7 ⟨rfl, hy0, hb, hkp⟩; refine ⟨_, rfl, ?_⟩; have n0_ := am hy0; have n1_ := am (Kept.then_ (S := (fun k_ => P0_2_ k_)) HK.out hkp (fun k_ hs_ => .inl hs_)); have n2_ := am hb; clear HO HK HB; have HO := n0_; have HK := n1_; have HB := n2_; clear n0_ n1_ n2_ hy0 hb hkp))
go_ret
exact ⟨rfl, HO.out, HB.out, HK.out⟩
)

/-! ### laws_heldCellS: function 109 -/
def laws_heldCellS.l0 : Nat → List (S98) → Int → Int → Option (Int)
 | 0, _, _, _ => none
 | k + 1, x0, x1, x5 => if x5 < (x0.length : Int) then (if 0 ≤ x5 then (if ((rd_T98 x0 x5).f0) = x1 then (if ((rd_T98 x0 x5).f1.f0) = (wrap64 (x1 + 1)) then (if ((rd_T98 x0 x5).f1.f1) = (wrap64 ((wrap64 (x1 + 1)) + 1)) then (if (((rd_T98 x0 x5).f1.f2) != ((Int.tmod (wrap64 ((wrap64 ((wrap64 (x1 + 1)) + 1)) + 1)) 3) == 0)) = true then (some (-1)) else (if (((rd_T98 x0 x5).f1.f3) != ((Int.tmod (wrap64 ((wrap64 ((wrap64 ((wrap64 (x1 + 1)) + 1)) + 1)) + 1)) 3) == 0)) = true then (some (-1)) else (if (((rd_T98 x0 x5).f1.f4) != ((Int.tmod (wrap64 ((wrap64 ((wrap64 ((wrap64 ((wrap64 (x1 + 1)) + 1)) + 1)) + 1)) + 1)) 3) == 0)) = true then (some (-1)) else (if ((rd_T98 x0 x5).f2) = (wrap64 ((wrap64 ((wrap64 ((wrap64 ((wrap64 ((wrap64 (x1 + 1)) + 1)) + 1)) + 1)) + 1)) + 1)) then (laws_heldCellS.l0 k x0 (wrap64 ((wrap64 ((wrap64 ((wrap64 ((wrap64 ((wrap64 ((wrap64 (x1 + 1)) + 1)) + 1)) + 1)) + 1)) + 1)) + 1)) (wrap64 (x5 + 1))) else (some (-1)))))) else (some (-1))) else (some (-1))) else (some (-1))) else (none)) else (some x1)
def laws_heldCellS.f (k : Nat) (l0 : List (S98)) (a1 : Int) : Option (Int) := laws_heldCellS.l0 k l0 a1 0
theorem laws_heldCellS.mono_l : ∀ k, (∀ y0 y1 y2, LeO (laws_heldCellS.l0 k y0 y1 y2) (laws_heldCellS.l0 (k + 1) y0 y1 y2))
 | 0 => fun _ _ _ r h => by simp [laws_heldCellS.l0] at h
 | k + 1 => by
  have ih0 := laws_heldCellS.mono_l k
  ·intro y0 y1 y2
   unfold laws_heldCellS.l0
   repeat' first
   | (with_reducible exact ih0 _ _ _)
   | (with_reducible exact LeO.refl _)
   | (with_reducible exact LeO.none _)
   | (with_reducible refine LeO.ite ?_ ?_)
   | (with_reducible refine LeO.bind ?_ (fun _ => ?_))
theorem laws_heldCellS.mono : ∀ a0 a1 k, LeO (laws_heldCellS.f k a0 a1) (laws_heldCellS.f (k + 1) a0 a1) := by
 intro a0 a1 k
 have ih0 := laws_heldCellS.mono_l k
 unfold laws_heldCellS.f
 repeat' first
   | (with_reducible exact ih0 _ _ _)
   | (with_reducible exact LeO.refl _)
   | (with_reducible exact LeO.none _)
   | (with_reducible refine LeO.ite ?_ ?_)
   | (with_reducible refine LeO.bind ?_ (fun _ => ?_))
set_option maxHeartbeats 8000000 in
set_option maxRecDepth 100000 in
theorem laws_heldCellS.calls (k : Nat) (A0 : Option Addr) (c0 : Nat) (l0 : List (S98)) (a1 : Int) (r : Int) (w : World) (hr0 : Kd.C k98 w A0 l0.length l0) (hc0 : l0.length ≤ c0) (h : laws_heldCellS.f k l0 a1 = some r) :
  Calls Try.prog 109 #[.slice A0 l0.length c0, .int .i64 a1] w fun e w' => e = .returned (.int .i64 r) ∧ Drawn0 w w' := by
 (
have HR0 := am hr0
have HC0 := am hc0
clear hr0 hc0
have H : (laws_heldCellS.l0 k l0 a1 0) = some r := h
clear h
have H' := am H
clear H
go_enter Try.func109, Try.ntmps109
go_wp2
go_loopg [1, 5] k (fun kq v1 v5 w' => ∃ (x1_1 : Int) (x5_1 : Int), v1 = .int .i64 x1_1 ∧ v5 = .int .i64 x5_1 ∧ Aside0 (laws_heldCellS.l0 kq l0 x1_1 x5_1 = some r) ∧ Aside0 (kq ≤ k) ∧ Drawn0 w w')
case atStart => exact ⟨(a1), (0), (by first | rfl | (simp; done) | (simp [*]; done)), (by first | rfl | (simp; done) | (simp [*]; done)), H', ⟨Nat.le_refl _⟩, by repeat (first | exact Drawn0.refl _ | apply Drawn0.step)⟩
case round => (
clear H'
try clear c1
try clear p2
obtain ⟨x1_1, x5_1, rfl, rfl, HA, HK1, ⟨m1, rfl⟩⟩ := hrel
cases gk with
| zero => exact absurd HA.out (by simp [laws_heldCellS.l0])
| succ k1 => (
have H := HA.out
clear HA
simp only [laws_heldCellS.l0] at H
by_cases c3 : x5_1 < (l0.length : Int)
·(
rw [if_pos c3] at H
have c3b0 : decide (x5_1 < (l0.length : Int)) = true := decide_eq_true c3
clear c3
refine em_ (p := 0 ≤ x5_1) (fun c4 => ?g6p) (fun c4 => ?g6n)
case' g6p => (
rw [if_pos c4] at H
have c4b0 : decide (0 ≤ x5_1) = true := decide_eq_true c4
clear c4
refine em_ (p := ((rd_T98 l0 x5_1).f0) = x1_1) (fun c5 => ?g5p) (fun c5 => ?g5n)
case g5p => (
rw [if_pos c5] at H
have c5b0 : (((rd_T98 l0 x5_1).f0) == x1_1) = true := beq_iff_eq.mpr c5
have c5b1 : (((rd_T98 l0 x5_1).f0) != x1_1) = false := bne_eq_false_iff_eq.mpr c5
clear c5
refine em_ (p := ((rd_T98 l0 x5_1).f1.f0) = (wrap64 (x1_1 + 1))) (fun c6 => ?g7p) (fun c6 => ?g7n)
case g7p => (
rw [if_pos c6] at H
have c6b0 : (((rd_T98 l0 x5_1).f1.f0) == (wrap64 (x1_1 + 1))) = true := beq_iff_eq.mpr c6
have c6b1 : (((rd_T98 l0 x5_1).f1.f0) != (wrap64 (x1_1 + 1))) = false := bne_eq_false_iff_eq.mpr c6
clear c6
refine em_ (p := ((rd_T98 l0 x5_1).f1.f1) = (wrap64 ((wrap64 (x1_1 + 1)) + 1))) (fun c7 => ?g4p) (fun c7 => ?g4n)
case' g4p => (
rw [if_pos c7] at H
have c7b0 : (((rd_T98 l0 x5_1).f1.f1) == (wrap64 ((wrap64 (x1_1 + 1)) + 1))) = true := beq_iff_eq.mpr c7
have c7b1 : (((rd_T98 l0 x5_1).f1.f1) != (wrap64 ((wrap64 (x1_1 + 1)) + 1))) = false := bne_eq_false_iff_eq.mpr c7
clear c7
refine em_ (p := (((rd_T98 l0 x5_1).f1.f2) != ((Int.tmod (wrap64 ((wrap64 ((wrap64 (x1_1 + 1)) + 1)) + 1)) 3) == 0)) = true) (fun c8 => ?g3p) (fun c8 => ?g3n)
case' g3p => (
rw [if_pos c8] at H
have c8b0 : (((rd_T98 l0 x5_1).f1.f2) != ((Int.tmod (wrap64 ((wrap64 ((wrap64 (x1_1 + 1)) + 1)) + 1)) 3) == 0)) = true := c8
(try (have c8b1 : decide (((rd_T98 l0 x5_1).f1.f2) = ((Int.tmod (wrap64 ((wrap64 ((wrap64 (x1_1 + 1)) + 1)) + 1)) 3) == 0)) = false := by simpa using c8))
(try (have c8b2 : (((rd_T98 l0 x5_1).f1.f2) == ((Int.tmod (wrap64 ((wrap64 ((wrap64 (x1_1 + 1)) + 1)) + 1)) 3) == 0)) = false := by simpa using c8))
(try (have c8b3 : ¬ (((rd_T98 l0 x5_1).f1.f2) = ((Int.tmod (wrap64 ((wrap64 ((wrap64 (x1_1 + 1)) + 1)) + 1)) 3) == 0)) := by simpa using c8))
clear c8
obtain rfl := Option.some.inj H
have lf1_ := trivial
)
case' g3n => (
rw [if_neg c8] at H
have c8b0 : (((rd_T98 l0 x5_1).f1.f2) != ((Int.tmod (wrap64 ((wrap64 ((wrap64 (x1_1 + 1)) + 1)) + 1)) 3) == 0)) = false := by simpa using c8
(try (have c8b1 : decide (((rd_T98 l0 x5_1).f1.f2) = ((Int.tmod (wrap64 ((wrap64 ((wrap64 (x1_1 + 1)) + 1)) + 1)) 3) == 0)) = true := by simpa using c8))
(try (have c8b2 : (((rd_T98 l0 x5_1).f1.f2) == ((Int.tmod (wrap64 ((wrap64 ((wrap64 (x1_1 + 1)) + 1)) + 1)) 3) == 0)) = true := by simpa using c8))
clear c8
refine em_ (p := (((rd_T98 l0 x5_1).f1.f3) != ((Int.tmod (wrap64 ((wrap64 ((wrap64 ((wrap64 (x1_1 + 1)) + 1)) + 1)) + 1)) 3) == 0)) = true) (fun c9 => ?g2p) (fun c9 => ?g2n)
case' g2p => (
rw [if_pos c9] at H
have c9b0 : (((rd_T98 l0 x5_1).f1.f3) != ((Int.tmod (wrap64 ((wrap64 ((wrap64 ((wrap64 (x1_1 + 1)) + 1)) + 1)) + 1)) 3) == 0)) = true := c9
(try (have c9b1 : decide (((rd_T98 l0 x5_1).f1.f3) = ((Int.tmod (wrap64 ((wrap64 ((wrap64 ((wrap64 (x1_1 + 1)) + 1)) + 1)) + 1)) 3) == 0)) = false := by simpa using c9))
(try (have c9b2 : (((rd_T98 l0 x5_1).f1.f3) == ((Int.tmod (wrap64 ((wrap64 ((wrap64 ((wrap64 (x1_1 + 1)) + 1)) + 1)) + 1)) 3) == 0)) = false := by simpa using c9))
(try (have c9b3 : ¬ (((rd_T98 l0 x5_1).f1.f3) = ((Int.tmod (wrap64 ((wrap64 ((wrap64 ((wrap64 (x1_1 + 1)) + 1)) + 1)) + 1)) 3) == 0)) := by simpa using c9))
clear c9
obtain rfl := Option.some.inj H
have lf2_ := trivial
)
case' g2n => (
rw [if_neg c9] at H
have c9b0 : (((rd_T98 l0 x5_1).f1.f3) != ((Int.tmod (wrap64 ((wrap64 ((wrap64 ((wrap64 (x1_1 + 1)) + 1)) + 1)) + 1)) 3) == 0)) = false := by simpa using c9
(try (have c9b1 : decide (((rd_T98 l0 x5_1).f1.f3) = ((Int.tmod (wrap64 ((wrap64 ((wrap64 ((wrap64 (x1_1 + 1)) + 1)) + 1)) + 1)) 3) == 0)) = true := by simpa using c9))
(try (have c9b2 : (((rd_T98 l0 x5_1).f1.f3) == ((Int.tmod (wrap64 ((wrap64 ((wrap64 ((wrap64 (x1_1 + 1)) + 1)) + 1)) + 1)) 3) == 0)) = true := by simpa using c9))
clear c9
refine em_ (p := (((rd_T98 l0 x5_1).f1.f4) != ((Int.tmod (wrap64 ((wrap64 ((wrap64 ((wrap64 ((wrap64 (x1_1 + 1)) + 1)) + 1)) + 1)) + 1)) 3) == 0)) = true) (fun c10 => ?g1p) (fun c10 => ?g1n)
case' g1p => (
rw [if_pos c10] at H
have c10b0 : (((rd_T98 l0 x5_1).f1.f4) != ((Int.tmod (wrap64 ((wrap64 ((wrap64 ((wrap64 ((wrap64 (x1_1 + 1)) + 1)) + 1)) + 1)) + 1)) 3) == 0)) = true := c10
(try (have c10b1 : decide (((rd_T98 l0 x5_1).f1.f4) = ((Int.tmod (wrap64 ((wrap64 ((wrap64 ((wrap64 ((wrap64 (x1_1 + 1)) + 1)) + 1)) + 1)) + 1)) 3) == 0)) = false := by simpa using c10))
(try (have c10b2 : (((rd_T98 l0 x5_1).f1.f4) == ((Int.tmod (wrap64 ((wrap64 ((wrap64 ((wrap64 ((wrap64 (x1_1 + 1)) + 1)) + 1)) + 1)) + 1)) 3) == 0)) = false := by simpa using c10))
(try (have c10b3 : ¬ (((rd_T98 l0 x5_1).f1.f4) = ((Int.tmod (wrap64 ((wrap64 ((wrap64 ((wrap64 ((wrap64 (x1_1 + 1)) + 1)) + 1)) + 1)) + 1)) 3) == 0)) := by simpa using c10))
clear c10
obtain rfl := Option.some.inj H
have lf3_ := trivial
)
case' g1n => (
rw [if_neg c10] at H
have c10b0 : (((rd_T98 l0 x5_1).f1.f4) != ((Int.tmod (wrap64 ((wrap64 ((wrap64 ((wrap64 ((wrap64 (x1_1 + 1)) + 1)) + 1)) + 1)) + 1)) 3) == 0)) = false := by simpa using c10
(try (have c10b1 : decide (((rd_T98 l0 x5_1).f1.f4) = ((Int.tmod (wrap64 ((wrap64 ((wrap64 ((wrap64 ((wrap64 (x1_1 + 1)) + 1)) + 1)) + 1)) + 1)) 3) == 0)) = true := by simpa using c10))
(try (have c10b2 : (((rd_T98 l0 x5_1).f1.f4) == ((Int.tmod (wrap64 ((wrap64 ((wrap64 ((wrap64 ((wrap64 (x1_1 + 1)) + 1)) + 1)) + 1)) + 1)) 3) == 0)) = true := by simpa using c10))
clear c10
refine em_ (p := ((rd_T98 l0 x5_1).f2) = (wrap64 ((wrap64 ((wrap64 ((wrap64 ((wrap64 ((wrap64 (x1_1 + 1)) + 1)) + 1)) + 1)) + 1)) + 1))) (fun c11 => ?g0p) (fun c11 => ?g0n)
case' g0p => (
rw [if_pos c11] at H
have c11b0 : (((rd_T98 l0 x5_1).f2) == (wrap64 ((wrap64 ((wrap64 ((wrap64 ((wrap64 ((wrap64 (x1_1 + 1)) + 1)) + 1)) + 1)) + 1)) + 1))) = true := beq_iff_eq.mpr c11
have c11b1 : (((rd_T98 l0 x5_1).f2) != (wrap64 ((wrap64 ((wrap64 ((wrap64 ((wrap64 ((wrap64 (x1_1 + 1)) + 1)) + 1)) + 1)) + 1)) + 1))) = false := bne_eq_false_iff_eq.mpr c11
clear c11
have H' := am H
clear H
have lf4_ := trivial
)
case' g0n => (
rw [if_neg c11] at H
have c11b0 : (((rd_T98 l0 x5_1).f2) == (wrap64 ((wrap64 ((wrap64 ((wrap64 ((wrap64 ((wrap64 (x1_1 + 1)) + 1)) + 1)) + 1)) + 1)) + 1))) = false := beq_eq_false_iff_ne.mpr c11
have c11b1 : (((rd_T98 l0 x5_1).f2) != (wrap64 ((wrap64 ((wrap64 ((wrap64 ((wrap64 ((wrap64 (x1_1 + 1)) + 1)) + 1)) + 1)) + 1)) + 1))) = true := bne_iff_ne.mpr c11
obtain rfl := Option.some.inj H
have lf5_ := trivial
)
)
)
)
)
case' g4n => (
rw [if_neg c7] at H
have c7b0 : (((rd_T98 l0 x5_1).f1.f1) == (wrap64 ((wrap64 (x1_1 + 1)) + 1))) = false := beq_eq_false_iff_ne.mpr c7
have c7b1 : (((rd_T98 l0 x5_1).f1.f1) != (wrap64 ((wrap64 (x1_1 + 1)) + 1))) = true := bne_iff_ne.mpr c7
obtain rfl := Option.some.inj H
have lf6_ := trivial
)
all_goals (
have p515 : 0 ≤ (x5_1 : Int) := dt_
have q515 : x5_1 < (l0.length : Int) := dt_
obtain ⟨ad515, e515, hx515_0, hx515_1, hx515_2, hx515_3, hx515_4, hx515_5, hx515_6⟩ := at_T98 HR0.out x5_1 p515 q515
cases e515
replace p515 := eq_true p515
replace q515 := eq_true q515
have p516 : 0 ≤ (x5_1 : Int) := dt_
have q516 : x5_1 < (l0.length : Int) := dt_
obtain ⟨ad516, e516, hx516_0, hx516_1, hx516_2, hx516_3, hx516_4, hx516_5, hx516_6⟩ := at_T98 HR0.out x5_1 p516 q516
obtain rfl : ad515 = ad516 := (by injection e516)
replace p516 := eq_true p516
replace q516 := eq_true q516
have p517 : 0 ≤ (x5_1 : Int) := dt_
have q517 : x5_1 < (l0.length : Int) := dt_
obtain ⟨ad517, e517, hx517_0, hx517_1, hx517_2, hx517_3, hx517_4, hx517_5, hx517_6⟩ := at_T98 HR0.out x5_1 p517 q517
obtain rfl : ad515 = ad517 := (by injection e517)
replace p517 := eq_true p517
replace q517 := eq_true q517
first
| (
first | have q_ := lf1_ | have q_ := lf2_ | have q_ := lf3_ | have q_ := lf4_ | have q_ := lf5_
have p518 : 0 ≤ (x5_1 : Int) := dt_
have q518 : x5_1 < (l0.length : Int) := dt_
obtain ⟨ad518, e518, hx518_0, hx518_1, hx518_2, hx518_3, hx518_4, hx518_5, hx518_6⟩ := at_T98 HR0.out x5_1 p518 q518
obtain rfl : ad515 = ad518 := (by injection e518)
replace p518 := eq_true p518
replace q518 := eq_true q518
first
| (
first | have q_ := lf2_ | have q_ := lf3_ | have q_ := lf4_ | have q_ := lf5_
have p519 : 0 ≤ (x5_1 : Int) := dt_
have q519 : x5_1 < (l0.length : Int) := dt_
obtain ⟨ad519, e519, hx519_0, hx519_1, hx519_2, hx519_3, hx519_4, hx519_5, hx519_6⟩ := at_T98 HR0.out x5_1 p519 q519
obtain rfl : ad515 = ad519 := (by injection e519)
replace p519 := eq_true p519
replace q519 := eq_true q519
first
| (
first | have q_ := lf3_ | have q_ := lf4_ | have q_ := lf5_
have p520 : 0 ≤ (x5_1 : Int) := dt_
have q520 : x5_1 < (l0.length : Int) := dt_
obtain ⟨ad520, e520, hx520_0, hx520_1, hx520_2, hx520_3, hx520_4, hx520_5, hx520_6⟩ := at_T98 HR0.out x5_1 p520 q520
obtain rfl : ad515 = ad520 := (by injection e520)
replace p520 := eq_true p520
replace q520 := eq_true q520
first
| (
first | have q_ := lf4_ | have q_ := lf5_
have p521 : 0 ≤ (x5_1 : Int) := dt_
have q521 : x5_1 < (l0.length : Int) := dt_
obtain ⟨ad521, e521, hx521_0, hx521_1, hx521_2, hx521_3, hx521_4, hx521_5, hx521_6⟩ := at_T98 HR0.out x5_1 p521 q521
obtain rfl : ad515 = ad521 := (by injection e521)
replace p521 := eq_true p521
replace q521 := eq_true q521
go_wp2
first
| (
have q_ := lf4_
go_roundg k1
case measure => have := HK1.out; omega
case rel => exact ⟨(wrap64 ((wrap64 ((wrap64 ((wrap64 ((wrap64 ((wrap64 ((wrap64 (x1_1 + 1)) + 1)) + 1)) + 1)) + 1)) + 1)) + 1)), (wrap64 (x5_1 + 1)), (by first | rfl | (simp; done) | (simp [*]; done)), (by first | rfl | (simp; done) | (simp [*]; done)), H', ⟨by have := HK1.out; omega⟩, by repeat (first | exact Drawn0.refl _ | apply Drawn0.step)⟩
)
| (
have q_ := lf5_
go_ret
exact ⟨by first | rfl | (simp; done) | (simp [*]; done), by repeat (first | exact Drawn0.refl _ | apply Drawn0.step)⟩
)
)
| (
have q_ := lf3_
go_wp2
go_ret
exact ⟨by first | rfl | (simp; done) | (simp [*]; done), by repeat (first | exact Drawn0.refl _ | apply Drawn0.step)⟩
)
)
| (
have q_ := lf2_
go_wp2
go_ret
exact ⟨by first | rfl | (simp; done) | (simp [*]; done), by repeat (first | exact Drawn0.refl _ | apply Drawn0.step)⟩
)
)
| (
have q_ := lf1_
go_wp2
go_ret
exact ⟨by first | rfl | (simp; done) | (simp [*]; done), by repeat (first | exact Drawn0.refl _ | apply Drawn0.step)⟩
)
)
| (
have q_ := lf6_
go_wp2
go_ret
exact ⟨by first | rfl | (simp; done) | (simp [*]; done), by repeat (first | exact Drawn0.refl _ | apply Drawn0.step)⟩
)
)
)
case' g7n => (
rw [if_neg c6] at H
have c6b0 : (((rd_T98 l0 x5_1).f1.f0) == (wrap64 (x1_1 + 1))) = false := beq_eq_false_iff_ne.mpr c6
have c6b1 : (((rd_T98 l0 x5_1).f1.f0) != (wrap64 (x1_1 + 1))) = true := bne_iff_ne.mpr c6
obtain rfl := Option.some.inj H
have lf10_ := trivial
)
all_goals (
have p515 : 0 ≤ (x5_1 : Int) := dt_
have q515 : x5_1 < (l0.length : Int) := dt_
obtain ⟨ad515, e515, hx515_0, hx515_1, hx515_2, hx515_3, hx515_4, hx515_5, hx515_6⟩ := at_T98 HR0.out x5_1 p515 q515
cases e515
replace p515 := eq_true p515
replace q515 := eq_true q515
have p516 : 0 ≤ (x5_1 : Int) := dt_
have q516 : x5_1 < (l0.length : Int) := dt_
obtain ⟨ad516, e516, hx516_0, hx516_1, hx516_2, hx516_3, hx516_4, hx516_5, hx516_6⟩ := at_T98 HR0.out x5_1 p516 q516
obtain rfl : ad515 = ad516 := (by injection e516)
replace p516 := eq_true p516
replace q516 := eq_true q516
go_wp2
go_ret
exact ⟨by first | rfl | (simp; done) | (simp [*]; done), by repeat (first | exact Drawn0.refl _ | apply Drawn0.step)⟩
)
)
case' g5n => (
rw [if_neg c5] at H
have c5b0 : (((rd_T98 l0 x5_1).f0) == x1_1) = false := beq_eq_false_iff_ne.mpr c5
have c5b1 : (((rd_T98 l0 x5_1).f0) != x1_1) = true := bne_iff_ne.mpr c5
obtain rfl := Option.some.inj H
have lf8_ := trivial
)
)
case g6n => (
rw [if_neg c4] at H
exact absurd H (by simp)
)
all_goals (
have p515 : 0 ≤ (x5_1 : Int) := dt_
have q515 : x5_1 < (l0.length : Int) := dt_
obtain ⟨ad515, e515, hx515_0, hx515_1, hx515_2, hx515_3, hx515_4, hx515_5, hx515_6⟩ := at_T98 HR0.out x5_1 p515 q515
cases e515
replace p515 := eq_true p515
replace q515 := eq_true q515
go_wp2
go_ret
exact ⟨by first | rfl | (simp; done) | (simp [*]; done), by repeat (first | exact Drawn0.refl _ | apply Drawn0.step)⟩
)
)
·(
rw [if_neg c3] at H
have c3b0 : decide (x5_1 < (l0.length : Int)) = false := decide_eq_false c3
clear c3
obtain rfl := Option.some.inj H
go_wp2
go_ret
exact ⟨by first | rfl | (simp; done) | (simp [*]; done), by repeat (first | exact Drawn0.refl _ | apply Drawn0.step)⟩
)
)
)
)

end Go.Proofs.Ytalopdcephohgaa.RB
