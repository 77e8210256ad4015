/- Contracts of Go functions that laws of this seat reach: each Lean function answers as its Go function does. No condition. Written by wip/tools/inj.py, over the kit's print. -/
import Derived.Test.YtalopdcephohgaaRBx0
import Derived.Test.YtalopdcephohgaaRBx2
import Derived.Test.YtalopdcephohgaaRBx15
namespace Go.Proofs.Ytalopdcephohgaa.RB
open Go.RowKit Go.Proofs.YtalopdcephohgaaW.PrintWords Go.Proofs.YtalopdcephohgaaW.PrintLast Go.Proofs.YtalopdcephohgaaW.PrintMore
attribute [local go_sem] max2_int min2_int max_two min_two max_three min_three max_four min_four   -- for this text's walks alone
set_option linter.unusedVariables false
set_option linter.unusedSimpArgs false

attribute [local go_sem high] eqA98
/-! ### impl_runs: function 73 -/
mutual
def impl_runs.l0 : Nat → Int → List (S98) → List (S98) → List (S101) → Int → Option ((List (S101)))
 | 0, _, _, _, _, _ => none
 | k + 1, x0, x1, x2, x7, x8 => if x8 < (x2.length : Int) then (impl_runs.l1 k x0 x1 x2 x7 x8 x8) else (some x7)
def impl_runs.l1 : Nat → Int → List (S98) → List (S98) → List (S101) → Int → Int → Option ((List (S101)))
 | 0, _, _, _, _, _, _ => none
 | k + 1, x0, x1, x2, x7, x8, x9 => if x8 < (x2.length : Int) then (if 0 ≤ x8 then (if x8 < (x1.length : Int) then (if (!(((rd_T98 x1 x8).f0) == ((rd_T98 x2 x8).f0)) || ((!(((rd_T98 x1 x8).f1.f0) == ((rd_T98 x2 x8).f1.f0)) || (!(((rd_T98 x1 x8).f1.f1) == ((rd_T98 x2 x8).f1.f1)) || (!(((rd_T98 x1 x8).f1.f2) == ((rd_T98 x2 x8).f1.f2)) || (!(((rd_T98 x1 x8).f1.f3) == ((rd_T98 x2 x8).f1.f3)) || (!(((rd_T98 x1 x8).f1.f4) == ((rd_T98 x2 x8).f1.f4))))))) || (!(((rd_T98 x1 x8).f2) == ((rd_T98 x2 x8).f2))))) = true then (impl_runs.l1 k x0 x1 x2 x7 (wrap64 (x8 + 1)) x9) else (if x8 > x9 then (if 0 ≤ x9 then (if x9 ≤ x8 then (if x8 ≤ (x2.length : Int) then ((impl_Cell_102.f ((x2.take (x8 : Int).toNat).drop (x9 : Int).toNat)).bind fun t450 => (if x7.length < 3518437208883 then (impl_runs.l0 k x0 x1 x2 (x7 ++ [(⟨x0, x9, t450⟩ : S101)]) (wrap64 (x8 + 1))) else (none))) else (none)) else (none)) else (none)) else (impl_runs.l0 k x0 x1 x2 x7 (wrap64 (x8 + 1))))) else (none)) else (none)) else (if x8 > x9 then (if 0 ≤ x9 then (if x9 ≤ x8 then (if x8 ≤ (x2.length : Int) then ((impl_Cell_102.f ((x2.take (x8 : Int).toNat).drop (x9 : Int).toNat)).bind fun t460 => (if x7.length < 3518437208883 then (impl_runs.l0 k x0 x1 x2 (x7 ++ [(⟨x0, x9, t460⟩ : S101)]) (wrap64 (x8 + 1))) else (none))) else (none)) else (none)) else (none)) else (impl_runs.l0 k x0 x1 x2 x7 (wrap64 (x8 + 1))))
end
def impl_runs.f (k : Nat) (a0 : Int) (l1 : List (S98)) (l2 : List (S98)) : Option ((List (S101))) := impl_runs.l0 k a0 l1 l2 (([] : List (S101))) 0
theorem impl_runs.mono_l : ∀ k, (∀ y0 y1 y2 y3 y4, LeO (impl_runs.l0 k y0 y1 y2 y3 y4) (impl_runs.l0 (k + 1) y0 y1 y2 y3 y4)) ∧ (∀ y0 y1 y2 y3 y4 y5, LeO (impl_runs.l1 k y0 y1 y2 y3 y4 y5) (impl_runs.l1 (k + 1) y0 y1 y2 y3 y4 y5))
 | 0 => ⟨fun _ _ _ _ _ r h => by simp [impl_runs.l0] at h, fun _ _ _ _ _ _ r h => by simp [impl_runs.l1] at h⟩
 | k + 1 => by
  obtain ⟨ih0, ih1⟩ := impl_runs.mono_l k
  refine ⟨?_, ?_⟩
  ·intro y0 y1 y2 y3 y4
   unfold impl_runs.l0
   repeat' first
   | (with_reducible exact ih0 _ _ _ _ _)
   | (with_reducible exact ih1 _ _ _ _ _ _)
   | (with_reducible exact LeO.refl _)
   | (with_reducible exact LeO.none _)
   | (with_reducible refine LeO.ite ?_ ?_)
   | (with_reducible refine LeO.bind ?_ (fun _ => ?_))
  ·intro y0 y1 y2 y3 y4 y5
   unfold impl_runs.l1
   repeat' first
   | (with_reducible exact ih0 _ _ _ _ _)
   | (with_reducible exact ih1 _ _ _ _ _ _)
   | (with_reducible exact LeO.refl _)
   | (with_reducible exact LeO.none _)
   | (with_reducible refine LeO.ite ?_ ?_)
   | (with_reducible refine LeO.bind ?_ (fun _ => ?_))
theorem impl_runs.mono : ∀ a0 a1 a2 k, LeO (impl_runs.f k a0 a1 a2) (impl_runs.f (k + 1) a0 a1 a2) := by
 intro a0 a1 a2 k
 obtain ⟨ih0, ih1⟩ := impl_runs.mono_l k
 unfold impl_runs.f
 repeat' first
   | (with_reducible exact ih0 _ _ _ _ _)
   | (with_reducible exact ih1 _ _ _ _ _ _)
   | (with_reducible exact LeO.refl _)
   | (with_reducible exact LeO.none _)
   | (with_reducible refine LeO.ite ?_ ?_)
   | (with_reducible refine LeO.bind ?_ (fun _ => ?_))
set_option maxHeartbeats 8000000 in
set_option maxRecDepth 100000 in
theorem impl_runs.calls (k : Nat) (a0 : Int) (A1 : Option Addr) (c1 : Nat) (l1 : List (S98)) (A2 : Option Addr) (c2 : Nat) (l2 : List (S98)) (r : List (S101)) (w : World) (hr1 : Kd.C k98 w A1 l1.length l1) (hc1 : l1.length ≤ c1) (hr2 : Kd.C k98 w A2 l2.length l2) (hc2 : l2.length ≤ c2) (h : impl_runs.f k a0 l1 l2 = some r) :
  Calls Try.prog 73 #[.int .i64 a0, .slice A1 l1.length c1, .slice A2 l2.length c2] w fun e w' => ∃ v0_ : Value, e = .returned (v0_) ∧ Kd.S k101 101 w' w.heap.size (fun _ => True) v0_ r ∧ Below w.heap.size w w' := by
 (
have hu98 := Try.underlying98
have hu101 := Try.underlying101
have HR1 := am hr1
have HC1 := am hc1
clear hr1 hc1
have HR2 := am hr2
have HC2 := am hc2
clear hr2 hc2
have HB := am (Below.refl w.heap.size w)
have H : (impl_runs.l0 k a0 l1 l2 (([] : List (S101))) 0) = some r := h
clear h
obtain ⟨y441, hy441⟩ : ∃ y_ : List (S101), y_ = (([] : List (S101))) := ⟨_, rfl⟩
replace H : (impl_runs.l0 k a0 l1 l2 y441 0) = some r := by first | (rw [hy441]; with_reducible exact H) | (rw [hy441]; exact H) | exact H
have Ny441 := am hy441
clear hy441
have H' := am H
clear H
go_enter Try.func73, Try.ntmps73
go_wp2_with (first | ((with_reducible refine gate_dst (N := 10) rfl ?_); refine Kd.S_lit k101 _ 101 ?hg (N := 10) ?hd (xs := ([] : List (S101))) (inner := []) (ok := fun _ => True) (okp := fun _ => True) ?hr ?hp (fun _ hk => hk) trivial (Below.refl _ _) (Nat.le_refl _) (by simp) ?_; (case hd => rfl); (case hg => rfl); (case hr => first | (go_simp; done) | (go_simp; rfl)); (case hp => exact (Reps.none _ _)); intro v442 w4 ho5 hb hg_ hnew_; clear hg_ hnew_; (first | rw [← Ny441.out] at ho5 | (simp only [Int.reduceToNat] at ho5; rw [← Ny441.out] at ho5)); have HO443 := am (Kd.S_lower ho5 (below_size (rb HB))); replace HB := am (below_step (rb HB) hb); clear hb ho5))
repeat (go_quiet (first | ((with_reducible refine gate_dst (N := 10) rfl ?_); refine Kd.S_lit k101 _ 101 ?hg (N := 10) ?hd (xs := ([] : List (S101))) (inner := []) (ok := fun _ => True) (okp := fun _ => True) ?hr ?hp (fun _ hk => hk) trivial (Below.refl _ _) (Nat.le_refl _) (by simp) ?_; (case hd => rfl); (case hg => rfl); (case hr => first | (go_simp; done) | (go_simp; rfl)); (case hp => exact (Reps.none _ _)); intro v442 w4 ho5 hb hg_ hnew_; clear hg_ hnew_; (first | rw [← Ny441.out] at ho5 | (simp only [Int.reduceToNat] at ho5; rw [← Ny441.out] at ho5)); have HO443 := am (Kd.S_lower ho5 (below_size (rb HB))); replace HB := am (below_step (rb HB) hb); clear hb ho5)); try go_wp2_with (first | ((with_reducible refine gate_dst (N := 10) rfl ?_); refine Kd.S_lit k101 _ 101 ?hg (N := 10) ?hd (xs := ([] : List (S101))) (inner := []) (ok := fun _ => True) (okp := fun _ => True) ?hr ?hp (fun _ hk => hk) trivial (Below.refl _ _) (Nat.le_refl _) (by simp) ?_; (case hd => rfl); (case hg => rfl); (case hr => first | (go_simp; done) | (go_simp; rfl)); (case hp => exact (Reps.none _ _)); intro v442 w4 ho5 hb hg_ hnew_; clear hg_ hnew_; (first | rw [← Ny441.out] at ho5 | (simp only [Int.reduceToNat] at ho5; rw [← Ny441.out] at ho5)); have HO443 := am (Kd.S_lower ho5 (below_size (rb HB))); replace HB := am (below_step (rb HB) hb); clear hb ho5)))
go_loopg [7, 8] k (fun kq v7 v8 w' => ∃ (x7_1 : List (S101)) (x8_1 : Int), v8 = .int .i64 x8_1 ∧ Aside0 (impl_runs.l0 kq a0 l1 l2 x7_1 x8_1 = some r) ∧ Aside0 (kq ≤ k) ∧ Aside0 (Kd.S k101 101 w' w.heap.size (fun _ => True) v7 x7_1) ∧ Aside0 (Below w.heap.size w w'))
case atStart => exact ⟨(y441), (0), (by first | rfl | (simp; done) | (simp [*]; done)), H', ⟨Nat.le_refl _⟩, ⟨rs HO443⟩, ⟨rb HB⟩⟩
case round => (
clear H'
try clear c1
try clear c2
try clear p2
obtain ⟨x7_1, x8_1, rfl, HA, HK1, HO_7, HB⟩ := hrel
cases gk with
| zero => exact absurd HA.out (by simp [impl_runs.l0])
| succ k1 => (
have H := HA.out
clear HA
simp only [impl_runs.l0] at H
by_cases c6 : x8_1 < (l2.length : Int)
·(
rw [if_pos c6] at H
have c6b0 : decide (x8_1 < (l2.length : Int)) = true := decide_eq_true c6
clear c6
have H' := am H
clear H
go_wp2
repeat (go_quiet (fail); try go_wp2)
go_loopg [8] k1 (fun kq v8 w' => ∃ (x8_2 : Int), v8 = .int .i64 x8_2 ∧ Aside0 (impl_runs.l1 kq a0 l1 l2 x7_1 x8_2 x8_1 = some r) ∧ Aside0 (kq ≤ k1) ∧ Aside0 (Kd.S k101 101 w' w.heap.size (fun _ => True) u7 x7_1) ∧ Aside0 (Below w.heap.size w w'))
case atStart => exact ⟨(x8_1), (by first | rfl | (simp; done) | (simp [*]; done)), H', ⟨Nat.le_refl _⟩, ⟨rs HO_7⟩, ⟨rb HB⟩⟩
case round => (
clear H'
try clear c1
try clear c2
try clear p2
try clear c6
try clear c6b0
try clear p2
obtain ⟨x8_2, rfl, HA, HK2, HO_7, HB⟩ := hrel
cases gk with
| zero => exact absurd HA.out (by simp [impl_runs.l1])
| succ k2 => (
have H := HA.out
clear HA
simp only [impl_runs.l1] at H
refine em_ (p := x8_2 < (l2.length : Int)) (fun c7 => ?g12p) (fun c7 => ?g12n)
case' g12p => (
rw [if_pos c7] at H
have c7b0 : decide (x8_2 < (l2.length : Int)) = true := decide_eq_true c7
clear c7
refine em_ (p := 0 ≤ x8_2) (fun c8 => ?g7p) (fun c8 => ?g7n)
case' g7p => (
rw [if_pos c8] at H
have c8b0 : decide (0 ≤ x8_2) = true := decide_eq_true c8
clear c8
refine em_ (p := x8_2 < (l1.length : Int)) (fun c9 => ?g6p) (fun c9 => ?g6n)
case' g6p => (
rw [if_pos c9] at H
have c9b0 : decide (x8_2 < (l1.length : Int)) = true := decide_eq_true c9
clear c9
refine em_ (p := (!(((rd_T98 l1 x8_2).f0) == ((rd_T98 l2 x8_2).f0)) || ((!(((rd_T98 l1 x8_2).f1.f0) == ((rd_T98 l2 x8_2).f1.f0)) || (!(((rd_T98 l1 x8_2).f1.f1) == ((rd_T98 l2 x8_2).f1.f1)) || (!(((rd_T98 l1 x8_2).f1.f2) == ((rd_T98 l2 x8_2).f1.f2)) || (!(((rd_T98 l1 x8_2).f1.f3) == ((rd_T98 l2 x8_2).f1.f3)) || (!(((rd_T98 l1 x8_2).f1.f4) == ((rd_T98 l2 x8_2).f1.f4))))))) || (!(((rd_T98 l1 x8_2).f2) == ((rd_T98 l2 x8_2).f2))))) = true) (fun c10 => ?g5p) (fun c10 => ?g5n)
case' g5p => (
rw [if_pos c10] at H
have c10b0 : (!(((rd_T98 l1 x8_2).f0) == ((rd_T98 l2 x8_2).f0)) || ((!(((rd_T98 l1 x8_2).f1.f0) == ((rd_T98 l2 x8_2).f1.f0)) || (!(((rd_T98 l1 x8_2).f1.f1) == ((rd_T98 l2 x8_2).f1.f1)) || (!(((rd_T98 l1 x8_2).f1.f2) == ((rd_T98 l2 x8_2).f1.f2)) || (!(((rd_T98 l1 x8_2).f1.f3) == ((rd_T98 l2 x8_2).f1.f3)) || (!(((rd_T98 l1 x8_2).f1.f4) == ((rd_T98 l2 x8_2).f1.f4))))))) || (!(((rd_T98 l1 x8_2).f2) == ((rd_T98 l2 x8_2).f2))))) = true := c10
clear c10
have H' := am H
clear H
have lf3_ := trivial
)
case' g5n => (
rw [if_neg c10] at H
have c10b0 : (!(((rd_T98 l1 x8_2).f0) == ((rd_T98 l2 x8_2).f0)) || ((!(((rd_T98 l1 x8_2).f1.f0) == ((rd_T98 l2 x8_2).f1.f0)) || (!(((rd_T98 l1 x8_2).f1.f1) == ((rd_T98 l2 x8_2).f1.f1)) || (!(((rd_T98 l1 x8_2).f1.f2) == ((rd_T98 l2 x8_2).f1.f2)) || (!(((rd_T98 l1 x8_2).f1.f3) == ((rd_T98 l2 x8_2).f1.f3)) || (!(((rd_T98 l1 x8_2).f1.f4) == ((rd_T98 l2 x8_2).f1.f4))))))) || (!(((rd_T98 l1 x8_2).f2) == ((rd_T98 l2 x8_2).f2))))) = false := by simpa using c10
clear c10
refine em_ (p := x8_2 > x8_1) (fun c11 => ?g4p) (fun c11 => ?g4n)
case' g4p => (
rw [if_pos c11] at H
have c11b0 : decide (x8_1 < x8_2) = true := decide_eq_true c11
clear c11
refine em_ (p := 0 ≤ x8_1) (fun c12 => ?g3p) (fun c12 => ?g3n)
case' g3p => (
rw [if_pos c12] at H
have c12b0 := eq_true c12
have c12b1 : decide (0 ≤ x8_1) = true := decide_eq_true c12
clear c12
refine em_ (p := x8_1 ≤ x8_2) (fun c13 => ?g2p) (fun c13 => ?g2n)
case' g2p => (
rw [if_pos c13] at H
have c13b0 := eq_true c13
have c13b1 : decide (x8_1 ≤ x8_2) = true := decide_eq_true c13
clear c13
refine em_ (p := x8_2 ≤ (l2.length : Int)) (fun c14 => ?g1p) (fun c14 => ?g1n)
case' g1p => (
rw [if_pos c14] at H
have c14b0 := eq_true c14
have c14b1 : decide (x8_2 ≤ (l2.length : Int)) = true := decide_eq_true c14
clear c14
obtain ⟨y446, hy446⟩ : ∃ y_ : List (S98), y_ = ((l2.take (x8_2 : Int).toNat).drop (x8_1 : Int).toNat) := ⟨_, rfl⟩
replace H : ((impl_Cell_102.f y446).bind fun t450 => (if x7_1.length < 3518437208883 then (impl_runs.l0 k2 a0 l1 l2 (x7_1 ++ [(⟨a0, x8_1, t450⟩ : S101)]) (wrap64 (x8_2 + 1))) else (none))) = some r := by first | (rw [hy446]; with_reducible exact H) | (rw [hy446]; exact H) | exact H
have Ny446 := am hy446
clear hy446
replace H := Option.bind_eq_some_iff.mp H
obtain ⟨t450, A150, H⟩ := H
(try dsimp only at H)
have A15 := am A150
clear A150
refine em_ (p := x7_1.length < 3518437208883) (fun c16 => ?g0p) (fun c16 => ?g0n)
case' g0p => (
rw [if_pos c16] at H
have LMc16 := am c16
clear c16
obtain ⟨y453, hy453⟩ : ∃ y_ : List (S101), y_ = (x7_1 ++ [(⟨a0, x8_1, t450⟩ : S101)]) := ⟨_, rfl⟩
replace H : (impl_runs.l0 k2 a0 l1 l2 y453 (wrap64 (x8_2 + 1))) = some r := by first | (rw [hy453]; with_reducible exact H) | (rw [hy453]; exact H) | exact H
have Ny453 := am hy453
clear hy453
have H' := am H
clear H
have lf4_ := trivial
)
case g0n => (
rw [if_neg c16] at H
exact absurd H (by simp)
)
)
case g1n => (
rw [if_neg c14] at H
exact absurd H (by simp)
)
)
case g2n => (
rw [if_neg c13] at H
exact absurd H (by simp)
)
)
case g3n => (
rw [if_neg c12] at H
exact absurd H (by simp)
)
)
case' g4n => (
rw [if_neg c11] at H
have c11b0 : decide (x8_1 < x8_2) = false := decide_eq_false c11
clear c11
have H' := am H
clear H
have lf5_ := trivial
)
)
)
case g6n => (
rw [if_neg c9] at H
exact absurd H (by simp)
)
)
case g7n => (
rw [if_neg c8] at H
exact absurd H (by simp)
)
)
case g12n => (
rw [if_neg c7] at H
have c7b0 : decide (x8_2 < (l2.length : Int)) = false := decide_eq_false c7
clear c7
refine em_ (p := x8_2 > x8_1) (fun c21 => ?g13p) (fun c21 => ?g13n)
case g13p => (
rw [if_pos c21] at H
have c21b0 : decide (x8_1 < x8_2) = true := decide_eq_true c21
clear c21
refine em_ (p := 0 ≤ x8_1) (fun c22 => ?g11p) (fun c22 => ?g11n)
case' g11p => (
rw [if_pos c22] at H
have c22b0 := eq_true c22
have c22b1 : decide (0 ≤ x8_1) = true := decide_eq_true c22
clear c22
refine em_ (p := x8_1 ≤ x8_2) (fun c23 => ?g10p) (fun c23 => ?g10n)
case' g10p => (
rw [if_pos c23] at H
have c23b0 := eq_true c23
have c23b1 : decide (x8_1 ≤ x8_2) = true := decide_eq_true c23
clear c23
refine em_ (p := x8_2 ≤ (l2.length : Int)) (fun c24 => ?g9p) (fun c24 => ?g9n)
case' g9p => (
rw [if_pos c24] at H
have c24b0 := eq_true c24
have c24b1 : decide (x8_2 ≤ (l2.length : Int)) = true := decide_eq_true c24
clear c24
obtain ⟨y456, hy456⟩ : ∃ y_ : List (S98), y_ = ((l2.take (x8_2 : Int).toNat).drop (x8_1 : Int).toNat) := ⟨_, rfl⟩
replace H : ((impl_Cell_102.f y456).bind fun t460 => (if x7_1.length < 3518437208883 then (impl_runs.l0 k2 a0 l1 l2 (x7_1 ++ [(⟨a0, x8_1, t460⟩ : S101)]) (wrap64 (x8_2 + 1))) else (none))) = some r := by first | (rw [hy456]; with_reducible exact H) | (rw [hy456]; exact H) | exact H
have Ny456 := am hy456
clear hy456
replace H := Option.bind_eq_some_iff.mp H
obtain ⟨t460, A250, H⟩ := H
(try dsimp only at H)
have A25 := am A250
clear A250
refine em_ (p := x7_1.length < 3518437208883) (fun c26 => ?g8p) (fun c26 => ?g8n)
case' g8p => (
rw [if_pos c26] at H
have LMc26 := am c26
clear c26
obtain ⟨y463, hy463⟩ : ∃ y_ : List (S101), y_ = (x7_1 ++ [(⟨a0, x8_1, t460⟩ : S101)]) := ⟨_, rfl⟩
replace H : (impl_runs.l0 k2 a0 l1 l2 y463 (wrap64 (x8_2 + 1))) = some r := by first | (rw [hy463]; with_reducible exact H) | (rw [hy463]; exact H) | exact H
have Ny463 := am hy463
clear hy463
have H' := am H
clear H
have q27 : (x8_2 : Int) ≤ ((l2.length : Int) : Int) := dt_
obtain ⟨i027, hi027, _, hsz27, _⟩ := info_parts info98
have hroom27 : l2.length ≤ c2 := HC2.out
have hC27 : Kd.C k98 _ A2 l2.length l2 := HR2.out
have ql27 : (x8_1 : Int) ≤ (x8_2 : Int) := dt_
have q027 : (0 : Int) ≤ (x8_1 : Int) := dt_
have hcut27 := cut_mid (P := Try.prog) 99 98 .i64 .i64 Try.underlying99 hi027 7 hsz27 A2 l2.length c2 x8_1 x8_2 q027 ql27 q27 hroom27
have hr27 := Kd.C_mid (lo := (x8_1 : Int).toNat) (hi := (x8_2 : Int).toNat) (c := c2) hC27 (by omega) (by omega) hroom27
obtain ⟨A27, hA27⟩ : ∃ A1, A1 = (if c2 = (x8_1 : Int).toNat then A2 else (A2 : Option Addr).map (·.add ((x8_1 : Int).toNat * 7))) := ⟨_, rfl⟩
obtain ⟨c27, hc27⟩ : ∃ c1, c1 = c2 - (x8_1 : Int).toNat := ⟨_, rfl⟩
have hy27 : y456.length = (x8_2 : Int).toNat - (x8_1 : Int).toNat := (by rw [Ny456.out, List.length_drop, List.length_take] <;> omega)
rw [show ((l2).take (x8_2 : Int).toNat).drop (x8_1 : Int).toNat = y456 from Ny456.out.symm] at hr27
replace hr27 : Kd.C k98 _ A27 y456.length y456 := (by rw [hA27]; exact hr27)
rw [← hy27, ← hA27, ← hc27] at hcut27
have HR459 := am hr27
have HC459 := am (show y456.length ≤ c27 from by rw [hy27, hc27]; exact Nat.sub_le_sub_right (Nat.le_trans (by omega) hroom27) _)
clear hr27 hC27 hroom27 hi027 hsz27 hc27
have KY27 := am hy27
have KA27 := am hA27
clear hy27 hA27
replace q27 := eq_true q27
have lf6_ := trivial
)
case g8n => (
rw [if_neg c26] at H
exact absurd H (by simp)
)
)
case g9n => (
rw [if_neg c24] at H
exact absurd H (by simp)
)
)
case g10n => (
rw [if_neg c23] at H
exact absurd H (by simp)
)
)
case g11n => (
rw [if_neg c22] at H
exact absurd H (by simp)
)
all_goals (
go_wp2_with (first | (go_at_call 102; (with_reducible refine (impl_Cell_102.calls _ _ y456 t460 _ ?side1 ?side2 A25.out).mono ?_); (case side1 => exact rc ((Kd.C_below HR459.out HB.out))); (case side2 => exact HC459.out); rintro e w28 ⟨v461, rfl, ho0, hb⟩; replace HO_7 := am (Kd.S_elder' (rs HO_7) (Kd.R_base ho0) hb); have HO462 := am (Kd.R_lower ho0 (below_size (rb HB))); replace HB := am (below_step (rb HB) hb); (try clear hb); (try clear hb2); (try clear hk); (try clear hi); (try clear ho0); obtain ⟨Ao29, co29, eo29⟩ := Kd.R_slice HO462.out; subst eo29) | ((with_reducible refine gate_builtin (b := .append) (xs := #[.tmp 38, .tmp 47]) rfl ?_); at_builtin; refine Kd.S_append k101 (w0 := w) w.heap.size rfl (.tmp 38) (.tmp 47) 51 101 (.agg #[(.int .i64 0), (.int .i64 0), (.slice none 0 0)]) 40 rfl Try.underlying51 info101 rfl (by decide) (by omega) u7 x7_1 (⟨a0, x8_1, t460⟩ : S101) [.int .i64 a0, .int .i64 x8_1, .slice Ao29 t460.length co29] (fun _ => True) (fun k_ => some k_ = (.slice Ao29 t460.length co29 : Value).ownBlock) rfl rfl ?aP (fun k_ hk_ => ((Kd.R_mono (ok' := fun k_ => ((fun _ => True)) k_ ∧ some k_ ≠ (u7 : Value).ownBlock) (Kd.R_apart' (HO462.out) (Kd.S_typed HO_7.out) (by decide)) (fun k_ hk => ⟨trivial, hk.2⟩))).1 k_ hk_.symm) ?aF ?aO ?aB ?aS ?aL ?_; (case aP => exact k101_mkM _ _ _ (⟨a0, x8_1, t460⟩ : S101) (Kd.R_mono (Kd.R_tight rfl (Kd.R_mono (ok' := fun k_ => ((fun _ => True)) k_ ∧ some k_ ≠ (u7 : Value).ownBlock) (Kd.R_apart' (HO462.out) (Kd.S_typed HO_7.out) (by decide)) (fun k_ hk => ⟨trivial, hk.2⟩))) (fun _ h_ => h_))); (case aB => exact (rb HB)); (case aF => exact (fun _ _ => trivial)); (case aO => exact (by (with_reducible repeat (first | apply Kd.S_alloc | apply Kd.S_drewN | apply Kd.S_drew)); exact Kd.S_mono HO_7.out (fun k_ hk => ⟨trivial, fun e_ => hk.2 e_⟩))); (case aS => exact (below_size (rb HB))); (case aL => have := LMc26.out; omega); intro v464 w30 ho hb hg hat; rw [← Ny463.out] at ho; replace HB := am (hb); have HO465 := am (ho); clear HO_7 HO462; clear ho hb hg hat))
repeat (go_quiet (first | (go_at_call 102; (with_reducible refine (impl_Cell_102.calls _ _ y456 t460 _ ?side1 ?side2 A25.out).mono ?_); (case side1 => exact rc ((Kd.C_below HR459.out HB.out))); (case side2 => exact HC459.out); rintro e w28 ⟨v461, rfl, ho0, hb⟩; replace HO_7 := am (Kd.S_elder' (rs HO_7) (Kd.R_base ho0) hb); have HO462 := am (Kd.R_lower ho0 (below_size (rb HB))); replace HB := am (below_step (rb HB) hb); (try clear hb); (try clear hb2); (try clear hk); (try clear hi); (try clear ho0); obtain ⟨Ao29, co29, eo29⟩ := Kd.R_slice HO462.out; subst eo29) | ((with_reducible refine gate_builtin (b := .append) (xs := #[.tmp 38, .tmp 47]) rfl ?_); at_builtin; refine Kd.S_append k101 (w0 := w) w.heap.size rfl (.tmp 38) (.tmp 47) 51 101 (.agg #[(.int .i64 0), (.int .i64 0), (.slice none 0 0)]) 40 rfl Try.underlying51 info101 rfl (by decide) (by omega) u7 x7_1 (⟨a0, x8_1, t460⟩ : S101) [.int .i64 a0, .int .i64 x8_1, .slice Ao29 t460.length co29] (fun _ => True) (fun k_ => some k_ = (.slice Ao29 t460.length co29 : Value).ownBlock) rfl rfl ?aP (fun k_ hk_ => ((Kd.R_mono (ok' := fun k_ => ((fun _ => True)) k_ ∧ some k_ ≠ (u7 : Value).ownBlock) (Kd.R_apart' (HO462.out) (Kd.S_typed HO_7.out) (by decide)) (fun k_ hk => ⟨trivial, hk.2⟩))).1 k_ hk_.symm) ?aF ?aO ?aB ?aS ?aL ?_; (case aP => exact k101_mkM _ _ _ (⟨a0, x8_1, t460⟩ : S101) (Kd.R_mono (Kd.R_tight rfl (Kd.R_mono (ok' := fun k_ => ((fun _ => True)) k_ ∧ some k_ ≠ (u7 : Value).ownBlock) (Kd.R_apart' (HO462.out) (Kd.S_typed HO_7.out) (by decide)) (fun k_ hk => ⟨trivial, hk.2⟩))) (fun _ h_ => h_))); (case aB => exact (rb HB)); (case aF => exact (fun _ _ => trivial)); (case aO => exact (by (with_reducible repeat (first | apply Kd.S_alloc | apply Kd.S_drewN | apply Kd.S_drew)); exact Kd.S_mono HO_7.out (fun k_ hk => ⟨trivial, fun e_ => hk.2 e_⟩))); (case aS => exact (below_size (rb HB))); (case aL => have := LMc26.out; omega); intro v464 w30 ho hb hg hat; rw [← Ny463.out] at ho; replace HB := am (hb); have HO465 := am (ho); clear HO_7 HO462; clear ho hb hg hat)); try go_wp2_with (first | (go_at_call 102; (with_reducible refine (impl_Cell_102.calls _ _ y456 t460 _ ?side1 ?side2 A25.out).mono ?_); (case side1 => exact rc ((Kd.C_below HR459.out HB.out))); (case side2 => exact HC459.out); rintro e w28 ⟨v461, rfl, ho0, hb⟩; replace HO_7 := am (Kd.S_elder' (rs HO_7) (Kd.R_base ho0) hb); have HO462 := am (Kd.R_lower ho0 (below_size (rb HB))); replace HB := am (below_step (rb HB) hb); (try clear hb); (try clear hb2); (try clear hk); (try clear hi); (try clear ho0); obtain ⟨Ao29, co29, eo29⟩ := Kd.R_slice HO462.out; subst eo29) | ((with_reducible refine gate_builtin (b := .append) (xs := #[.tmp 38, .tmp 47]) rfl ?_); at_builtin; refine Kd.S_append k101 (w0 := w) w.heap.size rfl (.tmp 38) (.tmp 47) 51 101 (.agg #[(.int .i64 0), (.int .i64 0), (.slice none 0 0)]) 40 rfl Try.underlying51 info101 rfl (by decide) (by omega) u7 x7_1 (⟨a0, x8_1, t460⟩ : S101) [.int .i64 a0, .int .i64 x8_1, .slice Ao29 t460.length co29] (fun _ => True) (fun k_ => some k_ = (.slice Ao29 t460.length co29 : Value).ownBlock) rfl rfl ?aP (fun k_ hk_ => ((Kd.R_mono (ok' := fun k_ => ((fun _ => True)) k_ ∧ some k_ ≠ (u7 : Value).ownBlock) (Kd.R_apart' (HO462.out) (Kd.S_typed HO_7.out) (by decide)) (fun k_ hk => ⟨trivial, hk.2⟩))).1 k_ hk_.symm) ?aF ?aO ?aB ?aS ?aL ?_; (case aP => exact k101_mkM _ _ _ (⟨a0, x8_1, t460⟩ : S101) (Kd.R_mono (Kd.R_tight rfl (Kd.R_mono (ok' := fun k_ => ((fun _ => True)) k_ ∧ some k_ ≠ (u7 : Value).ownBlock) (Kd.R_apart' (HO462.out) (Kd.S_typed HO_7.out) (by decide)) (fun k_ hk => ⟨trivial, hk.2⟩))) (fun _ h_ => h_))); (case aB => exact (rb HB)); (case aF => exact (fun _ _ => trivial)); (case aO => exact (by (with_reducible repeat (first | apply Kd.S_alloc | apply Kd.S_drewN | apply Kd.S_drew)); exact Kd.S_mono HO_7.out (fun k_ hk => ⟨trivial, fun e_ => hk.2 e_⟩))); (case aS => exact (below_size (rb HB))); (case aL => have := LMc26.out; omega); intro v464 w30 ho hb hg hat; rw [← Ny463.out] at ho; replace HB := am (hb); have HO465 := am (ho); clear HO_7 HO462; clear ho hb hg hat)))
go_roundg k2
case measure => have := HK1.out; have := HK2.out; omega
case rel => exact ⟨(y463), (wrap64 (x8_2 + 1)), (by first | rfl | (simp; done) | (simp [*]; done)), H', ⟨by have := HK1.out; have := HK2.out; omega⟩, ⟨rs HO465⟩, ⟨rb HB⟩⟩
)
)
case' g13n => (
rw [if_neg c21] at H
have c21b0 : decide (x8_1 < x8_2) = false := decide_eq_false c21
clear c21
have H' := am H
clear H
have lf8_ := trivial
)
all_goals (
go_wp2
repeat (go_quiet (fail); try go_wp2)
go_roundg k2
case measure => have := HK1.out; have := HK2.out; omega
case rel => exact ⟨(x7_1), (wrap64 (x8_2 + 1)), (by first | rfl | (simp; done) | (simp [*]; done)), H', ⟨by have := HK1.out; have := HK2.out; omega⟩, ⟨rs HO_7⟩, ⟨rb HB⟩⟩
)
)
all_goals (
have p444 : 0 ≤ (x8_2 : Int) := dt_
have q444 : x8_2 < (l1.length : Int) := dt_
obtain ⟨ad444, e444, hx444_0, hx444_1, hx444_2, hx444_3, hx444_4, hx444_5, hx444_6⟩ := at_T98 HR1.out x8_2 p444 q444
cases e444
replace hx444_0 := mv HB.out hx444_0
replace hx444_1 := mv HB.out hx444_1
replace hx444_2 := mv HB.out hx444_2
replace hx444_3 := mv HB.out hx444_3
replace hx444_4 := mv HB.out hx444_4
replace hx444_5 := mv HB.out hx444_5
replace hx444_6 := mv HB.out hx444_6
replace p444 := eq_true p444
replace q444 := eq_true q444
have p445 : 0 ≤ (x8_2 : Int) := dt_
have q445 : x8_2 < (l2.length : Int) := dt_
obtain ⟨ad445, e445, hx445_0, hx445_1, hx445_2, hx445_3, hx445_4, hx445_5, hx445_6⟩ := at_T98 HR2.out x8_2 p445 q445
cases e445
replace hx445_0 := mv HB.out hx445_0
replace hx445_1 := mv HB.out hx445_1
replace hx445_2 := mv HB.out hx445_2
replace hx445_3 := mv HB.out hx445_3
replace hx445_4 := mv HB.out hx445_4
replace hx445_5 := mv HB.out hx445_5
replace hx445_6 := mv HB.out hx445_6
replace p445 := eq_true p445
replace q445 := eq_true q445
first
| (
have q_ := lf4_
have q17 : (x8_2 : Int) ≤ ((l2.length : Int) : Int) := dt_
obtain ⟨i017, hi017, _, hsz17, _⟩ := info_parts info98
have hroom17 : l2.length ≤ c2 := HC2.out
have hC17 : Kd.C k98 _ (some ad445) l2.length l2 := HR2.out
have ql17 : (x8_1 : Int) ≤ (x8_2 : Int) := dt_
have q017 : (0 : Int) ≤ (x8_1 : Int) := dt_
have hcut17 := cut_mid (P := Try.prog) 99 98 .i64 .i64 Try.underlying99 hi017 7 hsz17 (some ad445) l2.length c2 x8_1 x8_2 q017 ql17 q17 hroom17
have hr17 := Kd.C_mid (lo := (x8_1 : Int).toNat) (hi := (x8_2 : Int).toNat) (c := c2) hC17 (by omega) (by omega) hroom17
obtain ⟨A17, hA17⟩ : ∃ A1, A1 = (if c2 = (x8_1 : Int).toNat then (some ad445) else ((some ad445) : Option Addr).map (·.add ((x8_1 : Int).toNat * 7))) := ⟨_, rfl⟩
obtain ⟨c17, hc17⟩ : ∃ c1, c1 = c2 - (x8_1 : Int).toNat := ⟨_, rfl⟩
have hy17 : y446.length = (x8_2 : Int).toNat - (x8_1 : Int).toNat := (by rw [Ny446.out, List.length_drop, List.length_take] <;> omega)
rw [show ((l2).take (x8_2 : Int).toNat).drop (x8_1 : Int).toNat = y446 from Ny446.out.symm] at hr17
replace hr17 : Kd.C k98 _ A17 y446.length y446 := (by rw [hA17]; exact hr17)
rw [← hy17, ← hA17, ← hc17] at hcut17
have HR449 := am hr17
have HC449 := am (show y446.length ≤ c17 from by rw [hy17, hc17]; exact Nat.sub_le_sub_right (Nat.le_trans (by omega) hroom17) _)
clear hr17 hC17 hroom17 hi017 hsz17 hc17
have KY17 := am hy17
have KA17 := am hA17
clear hy17 hA17
replace q17 := eq_true q17
go_wp2_with (first | (go_at_call 102; (with_reducible refine (impl_Cell_102.calls _ _ y446 t450 _ ?side1 ?side2 A15.out).mono ?_); (case side1 => exact rc ((Kd.C_below HR449.out HB.out))); (case side2 => exact HC449.out); rintro e w18 ⟨v451, rfl, ho0, hb⟩; replace HO_7 := am (Kd.S_elder' (rs HO_7) (Kd.R_base ho0) hb); have HO452 := am (Kd.R_lower ho0 (below_size (rb HB))); replace HB := am (below_step (rb HB) hb); (try clear hb); (try clear hb2); (try clear hk); (try clear hi); (try clear ho0); obtain ⟨Ao19, co19, eo19⟩ := Kd.R_slice HO452.out; subst eo19) | ((with_reducible refine gate_builtin (b := .append) (xs := #[.tmp 38, .tmp 47]) rfl ?_); at_builtin; refine Kd.S_append k101 (w0 := w) w.heap.size rfl (.tmp 38) (.tmp 47) 51 101 (.agg #[(.int .i64 0), (.int .i64 0), (.slice none 0 0)]) 40 rfl Try.underlying51 info101 rfl (by decide) (by omega) u7 x7_1 (⟨a0, x8_1, t450⟩ : S101) [.int .i64 a0, .int .i64 x8_1, .slice Ao19 t450.length co19] (fun _ => True) (fun k_ => some k_ = (.slice Ao19 t450.length co19 : Value).ownBlock) rfl rfl ?aP (fun k_ hk_ => ((Kd.R_mono (ok' := fun k_ => ((fun _ => True)) k_ ∧ some k_ ≠ (u7 : Value).ownBlock) (Kd.R_apart' (HO452.out) (Kd.S_typed HO_7.out) (by decide)) (fun k_ hk => ⟨trivial, hk.2⟩))).1 k_ hk_.symm) ?aF ?aO ?aB ?aS ?aL ?_; (case aP => exact k101_mkM _ _ _ (⟨a0, x8_1, t450⟩ : S101) (Kd.R_mono (Kd.R_tight rfl (Kd.R_mono (ok' := fun k_ => ((fun _ => True)) k_ ∧ some k_ ≠ (u7 : Value).ownBlock) (Kd.R_apart' (HO452.out) (Kd.S_typed HO_7.out) (by decide)) (fun k_ hk => ⟨trivial, hk.2⟩))) (fun _ h_ => h_))); (case aB => exact (rb HB)); (case aF => exact (fun _ _ => trivial)); (case aO => exact (by (with_reducible repeat (first | apply Kd.S_alloc | apply Kd.S_drewN | apply Kd.S_drew)); exact Kd.S_mono HO_7.out (fun k_ hk => ⟨trivial, fun e_ => hk.2 e_⟩))); (case aS => exact (below_size (rb HB))); (case aL => have := LMc16.out; omega); intro v454 w20 ho hb hg hat; rw [← Ny453.out] at ho; replace HB := am (hb); have HO455 := am (ho); clear HO_7 HO452; clear ho hb hg hat))
repeat (go_quiet (first | (go_at_call 102; (with_reducible refine (impl_Cell_102.calls _ _ y446 t450 _ ?side1 ?side2 A15.out).mono ?_); (case side1 => exact rc ((Kd.C_below HR449.out HB.out))); (case side2 => exact HC449.out); rintro e w18 ⟨v451, rfl, ho0, hb⟩; replace HO_7 := am (Kd.S_elder' (rs HO_7) (Kd.R_base ho0) hb); have HO452 := am (Kd.R_lower ho0 (below_size (rb HB))); replace HB := am (below_step (rb HB) hb); (try clear hb); (try clear hb2); (try clear hk); (try clear hi); (try clear ho0); obtain ⟨Ao19, co19, eo19⟩ := Kd.R_slice HO452.out; subst eo19) | ((with_reducible refine gate_builtin (b := .append) (xs := #[.tmp 38, .tmp 47]) rfl ?_); at_builtin; refine Kd.S_append k101 (w0 := w) w.heap.size rfl (.tmp 38) (.tmp 47) 51 101 (.agg #[(.int .i64 0), (.int .i64 0), (.slice none 0 0)]) 40 rfl Try.underlying51 info101 rfl (by decide) (by omega) u7 x7_1 (⟨a0, x8_1, t450⟩ : S101) [.int .i64 a0, .int .i64 x8_1, .slice Ao19 t450.length co19] (fun _ => True) (fun k_ => some k_ = (.slice Ao19 t450.length co19 : Value).ownBlock) rfl rfl ?aP (fun k_ hk_ => ((Kd.R_mono (ok' := fun k_ => ((fun _ => True)) k_ ∧ some k_ ≠ (u7 : Value).ownBlock) (Kd.R_apart' (HO452.out) (Kd.S_typed HO_7.out) (by decide)) (fun k_ hk => ⟨trivial, hk.2⟩))).1 k_ hk_.symm) ?aF ?aO ?aB ?aS ?aL ?_; (case aP => exact k101_mkM _ _ _ (⟨a0, x8_1, t450⟩ : S101) (Kd.R_mono (Kd.R_tight rfl (Kd.R_mono (ok' := fun k_ => ((fun _ => True)) k_ ∧ some k_ ≠ (u7 : Value).ownBlock) (Kd.R_apart' (HO452.out) (Kd.S_typed HO_7.out) (by decide)) (fun k_ hk => ⟨trivial, hk.2⟩))) (fun _ h_ => h_))); (case aB => exact (rb HB)); (case aF => exact (fun _ _ => trivial)); (case aO => exact (by (with_reducible repeat (first | apply Kd.S_alloc | apply Kd.S_drewN | apply Kd.S_drew)); exact Kd.S_mono HO_7.out (fun k_ hk => ⟨trivial, fun e_ => hk.2 e_⟩))); (case aS => exact (below_size (rb HB))); (case aL => have := LMc16.out; omega); intro v454 w20 ho hb hg hat; rw [← Ny453.out] at ho; replace HB := am (hb); have HO455 := am (ho); clear HO_7 HO452; clear ho hb hg hat)); try go_wp2_with (first | (go_at_call 102; (with_reducible refine (impl_Cell_102.calls _ _ y446 t450 _ ?side1 ?side2 A15.out).mono ?_); (case side1 => exact rc ((Kd.C_below HR449.out HB.out))); (case side2 => exact HC449.out); rintro e w18 ⟨v451, rfl, ho0, hb⟩; replace HO_7 := am (Kd.S_elder' (rs HO_7) (Kd.R_base ho0) hb); have HO452 := am (Kd.R_lower ho0 (below_size (rb HB))); replace HB := am (below_step (rb HB) hb); (try clear hb); (try clear hb2); (try clear hk); (try clear hi); (try clear ho0); obtain ⟨Ao19, co19, eo19⟩ := Kd.R_slice HO452.out; subst eo19) | ((with_reducible refine gate_builtin (b := .append) (xs := #[.tmp 38, .tmp 47]) rfl ?_); at_builtin; refine Kd.S_append k101 (w0 := w) w.heap.size rfl (.tmp 38) (.tmp 47) 51 101 (.agg #[(.int .i64 0), (.int .i64 0), (.slice none 0 0)]) 40 rfl Try.underlying51 info101 rfl (by decide) (by omega) u7 x7_1 (⟨a0, x8_1, t450⟩ : S101) [.int .i64 a0, .int .i64 x8_1, .slice Ao19 t450.length co19] (fun _ => True) (fun k_ => some k_ = (.slice Ao19 t450.length co19 : Value).ownBlock) rfl rfl ?aP (fun k_ hk_ => ((Kd.R_mono (ok' := fun k_ => ((fun _ => True)) k_ ∧ some k_ ≠ (u7 : Value).ownBlock) (Kd.R_apart' (HO452.out) (Kd.S_typed HO_7.out) (by decide)) (fun k_ hk => ⟨trivial, hk.2⟩))).1 k_ hk_.symm) ?aF ?aO ?aB ?aS ?aL ?_; (case aP => exact k101_mkM _ _ _ (⟨a0, x8_1, t450⟩ : S101) (Kd.R_mono (Kd.R_tight rfl (Kd.R_mono (ok' := fun k_ => ((fun _ => True)) k_ ∧ some k_ ≠ (u7 : Value).ownBlock) (Kd.R_apart' (HO452.out) (Kd.S_typed HO_7.out) (by decide)) (fun k_ hk => ⟨trivial, hk.2⟩))) (fun _ h_ => h_))); (case aB => exact (rb HB)); (case aF => exact (fun _ _ => trivial)); (case aO => exact (by (with_reducible repeat (first | apply Kd.S_alloc | apply Kd.S_drewN | apply Kd.S_drew)); exact Kd.S_mono HO_7.out (fun k_ hk => ⟨trivial, fun e_ => hk.2 e_⟩))); (case aS => exact (below_size (rb HB))); (case aL => have := LMc16.out; omega); intro v454 w20 ho hb hg hat; rw [← Ny453.out] at ho; replace HB := am (hb); have HO455 := am (ho); clear HO_7 HO452; clear ho hb hg hat)))
go_roundg k2
case measure => have := HK1.out; have := HK2.out; omega
case rel => exact ⟨(y453), (wrap64 (x8_2 + 1)), (by first | rfl | (simp; done) | (simp [*]; done)), H', ⟨by have := HK1.out; have := HK2.out; omega⟩, ⟨rs HO455⟩, ⟨rb HB⟩⟩
)
| (
have q_ := lf5_
go_wp2
repeat (go_quiet (fail); try go_wp2)
go_roundg k2
case measure => have := HK1.out; have := HK2.out; omega
case rel => exact ⟨(x7_1), (wrap64 (x8_2 + 1)), (by first | rfl | (simp; done) | (simp [*]; done)), H', ⟨by have := HK1.out; have := HK2.out; omega⟩, ⟨rs HO_7⟩, ⟨rb HB⟩⟩
)
| (
have q_ := lf3_
go_wp2
repeat (go_quiet (fail); try go_wp2)
go_roundg k2
case measure => have := HK1.out; have := HK2.out; omega
case rel => exact ⟨(wrap64 (x8_2 + 1)), (by first | rfl | (simp; done) | (simp [*]; done)), H', ⟨by have := HK1.out; have := HK2.out; omega⟩, ⟨rs HO_7⟩, ⟨rb HB⟩⟩
)
)
)
)
)
·(
rw [if_neg c6] at H
have c6b0 : decide (x8_1 < (l2.length : Int)) = false := decide_eq_false c6
clear c6
obtain rfl := Option.some.inj H
go_wp2
repeat (go_quiet (fail); try go_wp2)
go_ret
exact ⟨_, by first | rfl | (simp [errW_none, errW_some] <;> rfl) | (simp [*, errW_none, errW_some] <;> rfl), by (with_reducible repeat (first | apply Kd.S_alloc | apply Kd.S_drewN | apply Kd.S_drew)); exact HO_7.out, by repeat (first | (with_reducible first | exact HB.out | apply b1 | apply b2 | apply b3) | exact HB.out)⟩
)
)
)
)

end Go.Proofs.Ytalopdcephohgaa.RB
