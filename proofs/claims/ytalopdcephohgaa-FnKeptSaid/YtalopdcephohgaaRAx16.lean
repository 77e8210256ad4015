/- Contracts of Go functions that laws of this seat reach: each Lean function answers as its Go function does. No condition. Written by wip/tools/inj.py, over the kit's print. -/
import Derived.Test.YtalopdcephohgaaRAx0
import Derived.Test.YtalopdcephohgaaRAx15
namespace Go.Proofs.Ytalopdcephohgaa.RA
open Go.RowKit Go.Proofs.YtalopdcephohgaaW.PrintWords Go.Proofs.YtalopdcephohgaaW.PrintLast Go.Proofs.YtalopdcephohgaaW.PrintMore
attribute [local go_sem] max2_int min2_int max_two min_two max_three min_three max_four min_four   -- for this text's walks alone
set_option linter.unusedVariables false
set_option linter.unusedSimpArgs false

/-! ### spec_l11Places: function 61 -/
mutual
def spec_l11Places.l0 : Nat → List Int → List Int → List Int → List Int → Int → Int → Option (List Int)
 | 0, _, _, _, _, _, _ => none
 | k + 1, x0, x1, x5, x6, x7, x8 => if x8 < (x0.length : Int) then (spec_l11Places.l1 k x0 x1 x5 x6 x7 x8) else (some x5)
def spec_l11Places.j2 : Nat → List Int → List Int → List Int → List Int → Int → Int → Option (List Int)
 | 0, _, _, _, _, _, _ => none
 | k + 1, x0, x1, x5, x6, x7, x8 => if 0 ≤ x7 then (if x7 < (x1.length : Int) then (if 0 ≤ x8 then (if x8 < (x0.length : Int) then (if (rd x1 x7) = (rd x0 x8) then (if (wrap64 (x7 + 1)) = (x1.length : Int) then (if x5.length < 17592186044416 then (spec_l11Places.l0 k x0 x1 (x5 ++ [wrap64 ((wrap64 (x8 - (wrap64 (x7 + 1)))) + 1)]) x6 (wrap64 (x7 + 1)) (wrap64 (x8 + 1))) else (none)) else (spec_l11Places.l0 k x0 x1 x5 x6 (wrap64 (x7 + 1)) (wrap64 (x8 + 1)))) else (if x7 = (x1.length : Int) then (if x5.length < 17592186044416 then (spec_l11Places.l0 k x0 x1 (x5 ++ [wrap64 ((wrap64 (x8 - x7)) + 1)]) x6 x7 (wrap64 (x8 + 1))) else (none)) else (spec_l11Places.l0 k x0 x1 x5 x6 x7 (wrap64 (x8 + 1))))) else (none)) else (none)) else (none)) else (none)
def spec_l11Places.l1 : Nat → List Int → List Int → List Int → List Int → Int → Int → Option (List Int)
 | 0, _, _, _, _, _, _ => none
 | k + 1, x0, x1, x5, x6, x7, x8 => if x7 > 0 then (if x7 = (x1.length : Int) then (if 0 ≤ (wrap64 (x7 - 1)) then (if (wrap64 (x7 - 1)) < (x6.length : Int) then (spec_l11Places.l1 k x0 x1 x5 x6 (rd x6 (wrap64 (x7 - 1))) x8) else (none)) else (none)) else (if 0 ≤ x7 then (if x7 < (x1.length : Int) then (if 0 ≤ x8 then (if x8 < (x0.length : Int) then (if (rd x1 x7) = (rd x0 x8) then (spec_l11Places.j2 k x0 x1 x5 x6 x7 x8) else (if 0 ≤ (wrap64 (x7 - 1)) then (if (wrap64 (x7 - 1)) < (x6.length : Int) then (spec_l11Places.l1 k x0 x1 x5 x6 (rd x6 (wrap64 (x7 - 1))) x8) else (none)) else (none))) else (none)) else (none)) else (none)) else (none))) else (spec_l11Places.j2 k x0 x1 x5 x6 x7 x8)
end
def spec_l11Places.f (k : Nat) (l0 : List Int) (l1 : List Int) : Option (List Int) := (spec_l11Borders.f k l1).bind fun t374 => (spec_l11Places.l0 k l0 l1 (([] : List Int)) t374 0 0)
theorem spec_l11Places.mono_l : ∀ k, (∀ y0 y1 y2 y3 y4 y5, LeO (spec_l11Places.l0 k y0 y1 y2 y3 y4 y5) (spec_l11Places.l0 (k + 1) y0 y1 y2 y3 y4 y5)) ∧ (∀ y0 y1 y2 y3 y4 y5, LeO (spec_l11Places.j2 k y0 y1 y2 y3 y4 y5) (spec_l11Places.j2 (k + 1) y0 y1 y2 y3 y4 y5)) ∧ (∀ y0 y1 y2 y3 y4 y5, LeO (spec_l11Places.l1 k y0 y1 y2 y3 y4 y5) (spec_l11Places.l1 (k + 1) y0 y1 y2 y3 y4 y5))
 | 0 => ⟨fun _ _ _ _ _ _ r h => by simp [spec_l11Places.l0] at h, fun _ _ _ _ _ _ r h => by simp [spec_l11Places.j2] at h, fun _ _ _ _ _ _ r h => by simp [spec_l11Places.l1] at h⟩
 | k + 1 => by
  obtain ⟨ih0, ih1, ih2⟩ := spec_l11Places.mono_l k
  refine ⟨?_, ?_, ?_⟩
  ·intro y0 y1 y2 y3 y4 y5
   unfold spec_l11Places.l0
   repeat' first
   | (with_reducible exact ih0 _ _ _ _ _ _)
   | (with_reducible exact ih1 _ _ _ _ _ _)
   | (with_reducible exact ih2 _ _ _ _ _ _)
   | (with_reducible exact spec_l11Borders.mono _ _)
   | (with_reducible exact LeO.refl _)
   | (with_reducible exact LeO.none _)
   | (with_reducible refine LeO.ite ?_ ?_)
   | (with_reducible refine LeO.bind ?_ (fun _ => ?_))
  ·intro y0 y1 y2 y3 y4 y5
   unfold spec_l11Places.j2
   repeat' first
   | (with_reducible exact ih0 _ _ _ _ _ _)
   | (with_reducible exact ih1 _ _ _ _ _ _)
   | (with_reducible exact ih2 _ _ _ _ _ _)
   | (with_reducible exact spec_l11Borders.mono _ _)
   | (with_reducible exact LeO.refl _)
   | (with_reducible exact LeO.none _)
   | (with_reducible refine LeO.ite ?_ ?_)
   | (with_reducible refine LeO.bind ?_ (fun _ => ?_))
  ·intro y0 y1 y2 y3 y4 y5
   unfold spec_l11Places.l1
   repeat' first
   | (with_reducible exact ih0 _ _ _ _ _ _)
   | (with_reducible exact ih1 _ _ _ _ _ _)
   | (with_reducible exact ih2 _ _ _ _ _ _)
   | (with_reducible exact spec_l11Borders.mono _ _)
   | (with_reducible exact LeO.refl _)
   | (with_reducible exact LeO.none _)
   | (with_reducible refine LeO.ite ?_ ?_)
   | (with_reducible refine LeO.bind ?_ (fun _ => ?_))
theorem spec_l11Places.mono : ∀ a0 a1 k, LeO (spec_l11Places.f k a0 a1) (spec_l11Places.f (k + 1) a0 a1) := by
 intro a0 a1 k
 obtain ⟨ih0, ih1, ih2⟩ := spec_l11Places.mono_l k
 unfold spec_l11Places.f
 repeat' first
   | (with_reducible exact ih0 _ _ _ _ _ _)
   | (with_reducible exact ih1 _ _ _ _ _ _)
   | (with_reducible exact ih2 _ _ _ _ _ _)
   | (with_reducible exact spec_l11Borders.mono _ _)
   | (with_reducible exact LeO.refl _)
   | (with_reducible exact LeO.none _)
   | (with_reducible refine LeO.ite ?_ ?_)
   | (with_reducible refine LeO.bind ?_ (fun _ => ?_))
set_option maxHeartbeats 8000000 in
set_option maxRecDepth 100000 in
theorem spec_l11Places.calls (k : Nat) (A0 : Option Addr) (c0 : Nat) (l0 : List Int) (A1 : Option Addr) (c1 : Nat) (l1 : List Int) (r : List Int) (w : World) (hr0 : Kd.C (Kd.int .i64) w A0 l0.length l0) (hc0 : l0.length ≤ c0) (hr1 : Kd.C (Kd.int .i64) w A1 l1.length l1) (hc1 : l1.length ≤ c1) (h : spec_l11Places.f k l0 l1 = some r) :
  Calls Try.prog 61 #[.slice A0 l0.length c0, .slice A1 l1.length c1] w fun e w' => ∃ v0_ : Value, e = .returned (v0_) ∧ Kd.R (Kd.int .i64) 2 w' w.heap.size (fun _ => True) v0_ r ∧ Below w.heap.size w w' := by
 (
have HR0 := am hr0
have HC0 := am hc0
clear hr0 hc0
have HR1 := am hr1
have HC1 := am hc1
clear hr1 hc1
have HB := am (Below.refl w.heap.size w)
have H := h
unfold spec_l11Places.f at H
clear h
obtain ⟨y371, hy371⟩ : ∃ y_ : List Int, y_ = (([] : List Int)) := ⟨_, rfl⟩
replace H : ((spec_l11Borders.f k l1).bind fun t374 => (spec_l11Places.l0 k l0 l1 y371 t374 0 0)) = some r := by first | (rw [hy371]; with_reducible exact H) | (rw [hy371]; exact H) | exact H
have Ny371 := am hy371
clear hy371
replace H := Option.bind_eq_some_iff.mp H
obtain ⟨t374, A30, H⟩ := H
(try dsimp only at H)
have A3 := am A30
clear A30
have H' := am H
clear H
go_enter Try.func61, Try.ntmps61
go_wp2_with (first | ((with_reducible refine gate_dst (N := 9) rfl ?_); (try (refine gate_guard (by rfl) ?_; dsimp only)); refine Kd.R_lit (Kd.int .i64) _ 2 ?hg (N := 9) ?hd (xs := ([] : List Int)) (inner := []) (ok := fun _ => True) (okp := fun _ => True) ?hr ?hp (fun _ hk => hk) trivial (Below.refl _ _) (Nat.le_refl _) (by simp) ?_; (case hd => rfl); (case hg => rfl); (case hr => first | (go_simp; done) | (go_simp; rfl)); (case hp => exact (Reps.none _ _)); intro v372 w4 ho5 hb hg_ hnew_; clear hg_ hnew_; (first | rw [← Ny371.out] at ho5 | (simp only [Int.reduceToNat] at ho5; rw [← Ny371.out] at ho5)); have HO373 := am (Kd.R_lower ho5 (below_size (rb HB))); replace HB := am (below_step (rb HB) hb); clear hb ho5) | (go_at_call 93; (with_reducible refine (spec_l11Borders.calls k _ _ l1 t374 _ ?side1 ?side2 A3.out).mono ?_); (case side1 => exact rc ((Kd.C_below HR1.out HB.out))); (case side2 => exact HC1.out); rintro e w6 ⟨v375, rfl, ho0, hb⟩; have HO376 := am (Kd.R_lower (Kd.R_new' ho0 (Kd.R_lt (rr HO373))) (below_size (rb HB))); replace HO373 := am (Kd.R_elder' (rr HO373) (Kd.R_base ho0) hb); replace HB := am (below_step (rb HB) hb); (try clear hb); (try clear hb2); (try clear hk); (try clear hi); (try clear ho0)))
repeat (go_quiet (first | ((with_reducible refine gate_dst (N := 9) rfl ?_); (try (refine gate_guard (by rfl) ?_; dsimp only)); refine Kd.R_lit (Kd.int .i64) _ 2 ?hg (N := 9) ?hd (xs := ([] : List Int)) (inner := []) (ok := fun _ => True) (okp := fun _ => True) ?hr ?hp (fun _ hk => hk) trivial (Below.refl _ _) (Nat.le_refl _) (by simp) ?_; (case hd => rfl); (case hg => rfl); (case hr => first | (go_simp; done) | (go_simp; rfl)); (case hp => exact (Reps.none _ _)); intro v372 w4 ho5 hb hg_ hnew_; clear hg_ hnew_; (first | rw [← Ny371.out] at ho5 | (simp only [Int.reduceToNat] at ho5; rw [← Ny371.out] at ho5)); have HO373 := am (Kd.R_lower ho5 (below_size (rb HB))); replace HB := am (below_step (rb HB) hb); clear hb ho5) | (go_at_call 93; (with_reducible refine (spec_l11Borders.calls k _ _ l1 t374 _ ?side1 ?side2 A3.out).mono ?_); (case side1 => exact rc ((Kd.C_below HR1.out HB.out))); (case side2 => exact HC1.out); rintro e w6 ⟨v375, rfl, ho0, hb⟩; have HO376 := am (Kd.R_lower (Kd.R_new' ho0 (Kd.R_lt (rr HO373))) (below_size (rb HB))); replace HO373 := am (Kd.R_elder' (rr HO373) (Kd.R_base ho0) hb); replace HB := am (below_step (rb HB) hb); (try clear hb); (try clear hb2); (try clear hk); (try clear hi); (try clear ho0))); try go_wp2_with (first | ((with_reducible refine gate_dst (N := 9) rfl ?_); (try (refine gate_guard (by rfl) ?_; dsimp only)); refine Kd.R_lit (Kd.int .i64) _ 2 ?hg (N := 9) ?hd (xs := ([] : List Int)) (inner := []) (ok := fun _ => True) (okp := fun _ => True) ?hr ?hp (fun _ hk => hk) trivial (Below.refl _ _) (Nat.le_refl _) (by simp) ?_; (case hd => rfl); (case hg => rfl); (case hr => first | (go_simp; done) | (go_simp; rfl)); (case hp => exact (Reps.none _ _)); intro v372 w4 ho5 hb hg_ hnew_; clear hg_ hnew_; (first | rw [← Ny371.out] at ho5 | (simp only [Int.reduceToNat] at ho5; rw [← Ny371.out] at ho5)); have HO373 := am (Kd.R_lower ho5 (below_size (rb HB))); replace HB := am (below_step (rb HB) hb); clear hb ho5) | (go_at_call 93; (with_reducible refine (spec_l11Borders.calls k _ _ l1 t374 _ ?side1 ?side2 A3.out).mono ?_); (case side1 => exact rc ((Kd.C_below HR1.out HB.out))); (case side2 => exact HC1.out); rintro e w6 ⟨v375, rfl, ho0, hb⟩; have HO376 := am (Kd.R_lower (Kd.R_new' ho0 (Kd.R_lt (rr HO373))) (below_size (rb HB))); replace HO373 := am (Kd.R_elder' (rr HO373) (Kd.R_base ho0) hb); replace HB := am (below_step (rb HB) hb); (try clear hb); (try clear hb2); (try clear hk); (try clear hi); (try clear ho0))))
go_loopg [5, 7, 8] k (fun kq v5 v7 v8 w' => ∃ (x5_1 : List Int) (x7_1 : Int) (x8_1 : Int), v7 = .int .i64 x7_1 ∧ v8 = .int .i64 x8_1 ∧ Aside0 (spec_l11Places.l0 kq l0 l1 x5_1 t374 x7_1 x8_1 = some r) ∧ Aside0 (kq ≤ k) ∧ Aside0 (Kd.R (Kd.int .i64) 2 w' w.heap.size (fun k_ => some k_ ≠ (v375 : Value).ownBlock) v5 x5_1) ∧ Aside0 (Kd.R (Kd.int .i64) 2 w' w.heap.size (fun k_ => some k_ ≠ (v5 : Value).ownBlock) v375 t374) ∧ Aside0 (Below w.heap.size w w'))
case atStart => exact ⟨(y371), (0), (0), (by first | rfl | (simp; done) | (simp [*]; done)), (by first | rfl | (simp; done) | (simp [*]; done)), H', ⟨Nat.le_refl _⟩, ⟨Rm0 HO373⟩, ⟨Rm0 HO376⟩, ⟨rb HB⟩⟩
case round => (
clear H'
try clear c1
try clear p2
try clear c6
obtain ⟨x5_1, x7_1, x8_1, rfl, rfl, HA, HK1, HO_5, HO_6, HB⟩ := hrel
cases gk with
| zero => exact absurd HA.out (by simp [spec_l11Places.l0])
| succ k1 => (
have H := HA.out
clear HA
simp only [spec_l11Places.l0] at H
by_cases c7 : x8_1 < (l0.length : Int)
·(
rw [if_pos c7] at H
have c7b0 : decide (x8_1 < (l0.length : Int)) = true := decide_eq_true c7
clear c7
have HC8 := am H
clear H
go_upto_block 2 with (fail)
repeat (go_quiet (fail); go_upto_block 2 with (fail))
go_cut [7] (fun v7 wc => ∃ (kq : Nat) (x7_7 : Int), v7 = .int .i64 x7_7 ∧ Aside0 (spec_l11Places.j2 kq l0 l1 x5_1 t374 x7_7 x8_1 = some r) ∧ Aside0 (kq ≤ k1) ∧ Aside0 (Kd.R (Kd.int .i64) 2 wc w.heap.size (fun k_ => some k_ ≠ (v375 : Value).ownBlock) u5 x5_1) ∧ Aside0 (Kd.R (Kd.int .i64) 2 wc w.heap.size (fun k_ => some k_ ≠ (u5 : Value).ownBlock) v375 t374) ∧ Aside0 (Below w.heap.size w wc))
case first => (
have H := HC8.out
clear HC8
have H' := am H
clear H
go_wp2
repeat (go_quiet (fail); try go_wp2)
go_loopg [7] k1 (fun kq v7 w' => ∃ (x7_2 : Int), v7 = .int .i64 x7_2 ∧ Aside0 (spec_l11Places.l1 kq l0 l1 x5_1 t374 x7_2 x8_1 = some r) ∧ Aside0 (kq ≤ k1) ∧ Aside0 (Kd.R (Kd.int .i64) 2 w' w.heap.size (fun k_ => some k_ ≠ (v375 : Value).ownBlock) u5 x5_1) ∧ Aside0 (Kd.R (Kd.int .i64) 2 w' w.heap.size (fun k_ => some k_ ≠ (u5 : Value).ownBlock) v375 t374) ∧ Aside0 (Below w.heap.size w w'))
case atStart => exact ⟨(x7_1), (by first | rfl | (simp; done) | (simp [*]; done)), H', ⟨Nat.le_refl _⟩, ⟨rr HO_5⟩, ⟨rr HO_6⟩, ⟨rb HB⟩⟩
case round => (
clear H'
try clear c1
try clear p2
try clear c6
try clear c7
try clear c7b0
try clear p2
obtain ⟨x7_2, rfl, HA, HK2, HO_5, HO_6, HB⟩ := hrel
cases gk with
| zero => exact absurd HA.out (by simp [spec_l11Places.l1])
| succ k2 => (
have H := HA.out
clear HA
simp only [spec_l11Places.l1] at H
by_cases c9 : x7_2 > 0
·(
rw [if_pos c9] at H
have c9b0 : decide (0 < x7_2) = true := decide_eq_true c9
clear c9
(first | rw [c9b0] | (simp only [i64_w, i32_w]; rw [c9b0]) | skip)
refine em_ (p := x7_2 = (l1.length : Int)) (fun c10 => ?g4p) (fun c10 => ?g4n)
case' g4p => (
rw [if_pos c10] at H
have c10b0 : (x7_2 == (l1.length : Int)) = true := beq_iff_eq.mpr c10
have c10b1 : (x7_2 != (l1.length : Int)) = false := bne_eq_false_iff_eq.mpr c10
clear c10
obtain ⟨ji11, hji11⟩ : ∃ j_ : Int, (wrap64 (x7_2 - 1)) = j_ := ⟨_, rfl⟩
replace H : (if 0 ≤ (ji11) then (if (ji11) < (t374.length : Int) then (spec_l11Places.l1 k2 l0 l1 x5_1 t374 (rd t374 (ji11)) x8_1) else (none)) else (none)) = some r := by first | (rw [hji11] at H; exact H) | (simp only [hji11] at H ⊢; exact H)
have hji11w : (IntKind.i64.wrap (x7_2 - 1)) = ji11 := (i64_w _).trans hji11
refine em_ (p := 0 ≤ (ji11)) (fun c12 => ?g1p) (fun c12 => ?g1n)
case' g1p => (
rw [if_pos c12] at H
have c12b0 : decide (0 ≤ (ji11)) = true := decide_eq_true c12
clear c12
refine em_ (p := (ji11) < (t374.length : Int)) (fun c13 => ?g0p) (fun c13 => ?g0n)
case' g0p => (
rw [if_pos c13] at H
have c13b0 : decide ((ji11) < (t374.length : Int)) = true := decide_eq_true c13
clear c13
have H' := am H
clear H
obtain ⟨Ao14, co14, eo14⟩ := Kd.R_slice HO_6.out
subst eo14
have lf3_ := trivial
)
case g0n => (
rw [if_neg c13] at H
exact absurd H (by simp)
)
)
case g1n => (
rw [if_neg c12] at H
exact absurd H (by simp)
)
)
case g4n => (
rw [if_neg c10] at H
have c10b0 : (x7_2 == (l1.length : Int)) = false := beq_eq_false_iff_ne.mpr c10
have c10b1 : (x7_2 != (l1.length : Int)) = true := bne_iff_ne.mpr c10
refine em_ (p := 0 ≤ x7_2) (fun c15 => ?g9p) (fun c15 => ?g9n)
case' g9p => (
rw [if_pos c15] at H
have c15b0 : decide (0 ≤ x7_2) = true := decide_eq_true c15
clear c15
refine em_ (p := x7_2 < (l1.length : Int)) (fun c16 => ?g8p) (fun c16 => ?g8n)
case' g8p => (
rw [if_pos c16] at H
have c16b0 : decide (x7_2 < (l1.length : Int)) = true := decide_eq_true c16
clear c16
refine em_ (p := 0 ≤ x8_1) (fun c17 => ?g7p) (fun c17 => ?g7n)
case' g7p => (
rw [if_pos c17] at H
have c17b0 : decide (0 ≤ x8_1) = true := decide_eq_true c17
clear c17
refine em_ (p := x8_1 < (l0.length : Int)) (fun c18 => ?g6p) (fun c18 => ?g6n)
case' g6p => (
rw [if_pos c18] at H
have c18b0 : decide (x8_1 < (l0.length : Int)) = true := decide_eq_true c18
clear c18
refine em_ (p := (rd l1 x7_2) = (rd l0 x8_1)) (fun c19 => ?g5p) (fun c19 => ?g5n)
case' g5p => (
rw [if_pos c19] at H
have c19b0 : ((rd l1 x7_2) == (rd l0 x8_1)) = true := beq_iff_eq.mpr c19
have c19b1 : ((rd l1 x7_2) != (rd l0 x8_1)) = false := bne_eq_false_iff_eq.mpr c19
clear c19
have H' := am H
clear H
have lf7_ := trivial
)
case g5n => (
rw [if_neg c19] at H
have c19b0 : ((rd l1 x7_2) == (rd l0 x8_1)) = false := beq_eq_false_iff_ne.mpr c19
have c19b1 : ((rd l1 x7_2) != (rd l0 x8_1)) = true := bne_iff_ne.mpr c19
obtain ⟨ji20, hji20⟩ : ∃ j_ : Int, (wrap64 (x7_2 - 1)) = j_ := ⟨_, rfl⟩
replace H : (if 0 ≤ (ji20) then (if (ji20) < (t374.length : Int) then (spec_l11Places.l1 k2 l0 l1 x5_1 t374 (rd t374 (ji20)) x8_1) else (none)) else (none)) = some r := by first | (rw [hji20] at H; exact H) | (simp only [hji20] at H ⊢; exact H)
have hji20w : (IntKind.i64.wrap (x7_2 - 1)) = ji20 := (i64_w _).trans hji20
refine em_ (p := 0 ≤ (ji20)) (fun c21 => ?g3p) (fun c21 => ?g3n)
case' g3p => (
rw [if_pos c21] at H
have c21b0 : decide (0 ≤ (ji20)) = true := decide_eq_true c21
clear c21
refine em_ (p := (ji20) < (t374.length : Int)) (fun c22 => ?g2p) (fun c22 => ?g2n)
case' g2p => (
rw [if_pos c22] at H
have c22b0 : decide ((ji20) < (t374.length : Int)) = true := decide_eq_true c22
clear c22
have H' := am H
clear H
have lf5_ := trivial
)
case g2n => (
rw [if_neg c22] at H
exact absurd H (by simp)
)
)
case g3n => (
rw [if_neg c21] at H
exact absurd H (by simp)
)
all_goals (
have p378 : 0 ≤ (x7_2 : Int) := dt_
have q378 : x7_2 < (l1.length : Int) := dt_
obtain ⟨ad378, e378, hx378_0⟩ := Kd.at_int HR1.out x7_2 p378 q378
cases e378
replace hx378_0 := mv HB.out hx378_0
replace p378 := eq_true p378
replace q378 := eq_true q378
have p379 : 0 ≤ (x8_1 : Int) := dt_
have q379 : x8_1 < (l0.length : Int) := dt_
obtain ⟨ad379, e379, hx379_0⟩ := Kd.at_int HR0.out x8_1 p379 q379
cases e379
replace hx379_0 := mv HB.out hx379_0
replace p379 := eq_true p379
replace q379 := eq_true q379
obtain ⟨Ao23, co23, eo23⟩ := Kd.R_slice HO_6.out
subst eo23
have p380 : 0 ≤ ((ji20) : Int) := dt_
have q380 : (ji20) < (t374.length : Int) := dt_
obtain ⟨ad380, e380, hx380_0⟩ := Kd.at_int (Kd.R_reads' HO_6.out).2.2 (ji20) p380 q380
cases e380
replace p380 := eq_true p380
replace q380 := eq_true q380
go_wp2
repeat (go_quiet (fail); try go_wp2)
go_roundg k2
case measure => have := HK1.out; have := HK2.out; omega
case rel => exact ⟨(rd t374 (ji20)), (by first | rfl | (simp; done) | (simp only [← hji20] <;> (first | rfl | simp)) | (simp [*]; done)), H', ⟨by have := HK1.out; have := HK2.out; omega⟩, ⟨rr HO_5⟩, ⟨rr HO_6⟩, ⟨rb HB⟩⟩
)
)
)
case g6n => (
rw [if_neg c18] at H
exact absurd H (by simp)
)
)
case g7n => (
rw [if_neg c17] at H
exact absurd H (by simp)
)
)
case g8n => (
rw [if_neg c16] at H
exact absurd H (by simp)
)
)
case g9n => (
rw [if_neg c15] at H
exact absurd H (by simp)
)
all_goals (
have p378 : 0 ≤ (x7_2 : Int) := dt_
have q378 : x7_2 < (l1.length : Int) := dt_
obtain ⟨ad378, e378, hx378_0⟩ := Kd.at_int HR1.out x7_2 p378 q378
cases e378
replace hx378_0 := mv HB.out hx378_0
replace p378 := eq_true p378
replace q378 := eq_true q378
have p379 : 0 ≤ (x8_1 : Int) := dt_
have q379 : x8_1 < (l0.length : Int) := dt_
obtain ⟨ad379, e379, hx379_0⟩ := Kd.at_int HR0.out x8_1 p379 q379
cases e379
replace hx379_0 := mv HB.out hx379_0
replace p379 := eq_true p379
replace q379 := eq_true q379
go_wp2
repeat (go_quiet (fail); try go_wp2)
go_meet
case rel => exact ⟨_, (x7_2), (by first | rfl | (simp; done) | (simp [*]; done)), H', ⟨by have := HK1.out; have := HK2.out; first | omega | exact Nat.le_refl _⟩, ⟨rr HO_5⟩, ⟨rr HO_6⟩, ⟨rb HB⟩⟩
)
)
all_goals (
have p377 : 0 ≤ ((ji11) : Int) := dt_
have q377 : (ji11) < (t374.length : Int) := dt_
obtain ⟨ad377, e377, hx377_0⟩ := Kd.at_int (Kd.R_reads' HO_6.out).2.2 (ji11) p377 q377
cases e377
replace p377 := eq_true p377
replace q377 := eq_true q377
go_wp2
repeat (go_quiet (fail); try go_wp2)
go_roundg k2
case measure => have := HK1.out; have := HK2.out; omega
case rel => exact ⟨(rd t374 (ji11)), (by first | rfl | (simp; done) | (simp only [← hji11] <;> (first | rfl | simp)) | (simp [*]; done)), H', ⟨by have := HK1.out; have := HK2.out; omega⟩, ⟨rr HO_5⟩, ⟨rr HO_6⟩, ⟨rb HB⟩⟩
)
)
·(
rw [if_neg c9] at H
have c9b0 : decide (0 < x7_2) = false := decide_eq_false c9
clear c9
(first | rw [c9b0] | (simp only [i64_w, i32_w]; rw [c9b0]) | skip)
have H' := am H
clear H
go_wp2
repeat (go_quiet (fail); try go_wp2)
go_meet
case rel => exact ⟨_, (x7_2), (by first | rfl | (simp; done) | (simp [*]; done)), H', ⟨by have := HK1.out; have := HK2.out; first | omega | exact Nat.le_refl _⟩, ⟨rr HO_5⟩, ⟨rr HO_6⟩, ⟨rb HB⟩⟩
)
)
)
)
case rest => (
clear HC8
try clear c1
try clear c2
try clear p2
try clear p3
try clear q3
try clear hx3
try clear c6
try clear p6
try clear c7
try clear c7b0
try clear c9
try clear c9b0
try clear c10
try clear c10b0
try clear c10b1
try clear c12
try clear c12b0
try clear c13
try clear c13b0
try clear c15
try clear c15b0
try clear c16
try clear c16b0
try clear c17
try clear c17b0
try clear c18
try clear c18b0
try clear c19
try clear c19b0
try clear c19b1
try clear c21
try clear c21b0
try clear c22
try clear c22b0
try clear hx377_0
try clear hx378_0
try clear hx379_0
try clear hx380_0
try clear p2
try clear p377
try clear p378
try clear p379
try clear p380
try clear q377
try clear q378
try clear q379
try clear q380
obtain ⟨kq, x7_7, rfl, HA, HJ7, HO_5, HO_6, HB⟩ := hcut
cases kq with
| zero => exact absurd HA.out (by simp [spec_l11Places.j2])
| succ kj7 => (
have H := HA.out
clear HA
simp only [spec_l11Places.j2] at H
by_cases c24 : 0 ≤ x7_7
·(
rw [if_pos c24] at H
have c24b0 : decide (0 ≤ x7_7) = true := decide_eq_true c24
clear c24
by_cases c25 : x7_7 < (l1.length : Int)
·(
rw [if_pos c25] at H
have c25b0 : decide (x7_7 < (l1.length : Int)) = true := decide_eq_true c25
clear c25
by_cases c26 : 0 ≤ x8_1
·(
rw [if_pos c26] at H
have c26b0 : decide (0 ≤ x8_1) = true := decide_eq_true c26
clear c26
by_cases c27 : x8_1 < (l0.length : Int)
·(
rw [if_pos c27] at H
have c27b0 : decide (x8_1 < (l0.length : Int)) = true := decide_eq_true c27
clear c27
by_cases c28 : (rd l1 x7_7) = (rd l0 x8_1)
·(
rw [if_pos c28] at H
have c28b0 : ((rd l1 x7_7) == (rd l0 x8_1)) = true := beq_iff_eq.mpr c28
have c28b1 : ((rd l1 x7_7) != (rd l0 x8_1)) = false := bne_eq_false_iff_eq.mpr c28
clear c28
by_cases c29 : (wrap64 (x7_7 + 1)) = (l1.length : Int)
·(
rw [if_pos c29] at H
have c29b0 : ((wrap64 (x7_7 + 1)) == (l1.length : Int)) = true := beq_iff_eq.mpr c29
have c29b1 : ((wrap64 (x7_7 + 1)) != (l1.length : Int)) = false := bne_eq_false_iff_eq.mpr c29
clear c29
refine em_ (p := x5_1.length < 17592186044416) (fun c30 => ?g10p) (fun c30 => ?g10n)
case' g10p => (
rw [if_pos c30] at H
have LMc30 := am c30
clear c30
obtain ⟨y383, hy383⟩ : ∃ y_ : List Int, y_ = (x5_1 ++ [wrap64 ((wrap64 (x8_1 - (wrap64 (x7_7 + 1)))) + 1)]) := ⟨_, rfl⟩
replace H : (spec_l11Places.l0 kj7 l0 l1 y383 t374 (wrap64 (x7_7 + 1)) (wrap64 (x8_1 + 1))) = some r := by first | (rw [hy383]; with_reducible exact H) | (rw [hy383]; exact H) | exact H
have Ny383 := am hy383
clear hy383
have H' := am H
clear H
have lf8_ := trivial
)
case g10n => (
rw [if_neg c30] at H
exact absurd H (by simp)
)
all_goals (
have p381 : 0 ≤ (x7_7 : Int) := dt_
have q381 : x7_7 < (l1.length : Int) := dt_
obtain ⟨ad381, e381, hx381_0⟩ := Kd.at_int HR1.out x7_7 p381 q381
cases e381
replace hx381_0 := mv HB.out hx381_0
replace p381 := eq_true p381
replace q381 := eq_true q381
have p382 : 0 ≤ (x8_1 : Int) := dt_
have q382 : x8_1 < (l0.length : Int) := dt_
obtain ⟨ad382, e382, hx382_0⟩ := Kd.at_int HR0.out x8_1 p382 q382
cases e382
replace hx382_0 := mv HB.out hx382_0
replace p382 := eq_true p382
replace q382 := eq_true q382
go_wp2_with (first | ((with_reducible refine gate_builtin (b := .append) (xs := #[.tmp 57, .tmp 62]) rfl ?_); (try (refine gate_guard (by rfl) ?_; dsimp only)); at_builtin; refine Kd.R_append (Kd.int .i64) (w0 := w) w.heap.size rfl (.tmp 57) (.tmp 62) 35 2 (.int .i64 0) 8 rfl Try.underlying35 info2 rfl (by decide) (by omega) u5 x5_1 (wrap64 ((wrap64 (x8_1 - (wrap64 (x7_7 + 1)))) + 1)) [.int .i64 (wrap64 ((wrap64 (x8_1 - (wrap64 (x7_7 + 1)))) + 1))] (fun k_ => some k_ ≠ (v375 : Value).ownBlock) (fun _ => False) rfl rfl ?aP (fun _ hk => hk.elim) ?aF ?aO ?aB ?aS ?aL ?_; (case aP => exact rfl); (case aB => exact (rb HB)); (case aF => exact (fun k_ hk => Kd.fresh' (Kd.R_lt (rr HO_6)) k_ hk)); (case aO => exact (rr HO_5)); (case aS => exact (below_size (rb HB))); (case aL => have := LMc30.out; omega); intro v384 w31 ho hb hg hat; rw [← Ny383.out] at ho; replace HO_6 := am (Kd.R_after (ok := (fun _ => True)) (by (with_reducible repeat (first | apply r1 | apply r2 | apply r3)); exact Kd.R_mono HO_6.out (fun _ hk => ⟨trivial, hk⟩)) hg hat); replace HB := am (hb); have HO385 := am (ho); clear HO_5; clear ho hb hg hat))
repeat (go_quiet (first | ((with_reducible refine gate_builtin (b := .append) (xs := #[.tmp 57, .tmp 62]) rfl ?_); (try (refine gate_guard (by rfl) ?_; dsimp only)); at_builtin; refine Kd.R_append (Kd.int .i64) (w0 := w) w.heap.size rfl (.tmp 57) (.tmp 62) 35 2 (.int .i64 0) 8 rfl Try.underlying35 info2 rfl (by decide) (by omega) u5 x5_1 (wrap64 ((wrap64 (x8_1 - (wrap64 (x7_7 + 1)))) + 1)) [.int .i64 (wrap64 ((wrap64 (x8_1 - (wrap64 (x7_7 + 1)))) + 1))] (fun k_ => some k_ ≠ (v375 : Value).ownBlock) (fun _ => False) rfl rfl ?aP (fun _ hk => hk.elim) ?aF ?aO ?aB ?aS ?aL ?_; (case aP => exact rfl); (case aB => exact (rb HB)); (case aF => exact (fun k_ hk => Kd.fresh' (Kd.R_lt (rr HO_6)) k_ hk)); (case aO => exact (rr HO_5)); (case aS => exact (below_size (rb HB))); (case aL => have := LMc30.out; omega); intro v384 w31 ho hb hg hat; rw [← Ny383.out] at ho; replace HO_6 := am (Kd.R_after (ok := (fun _ => True)) (by (with_reducible repeat (first | apply r1 | apply r2 | apply r3)); exact Kd.R_mono HO_6.out (fun _ hk => ⟨trivial, hk⟩)) hg hat); replace HB := am (hb); have HO385 := am (ho); clear HO_5; clear ho hb hg hat)); try go_wp2_with (first | ((with_reducible refine gate_builtin (b := .append) (xs := #[.tmp 57, .tmp 62]) rfl ?_); (try (refine gate_guard (by rfl) ?_; dsimp only)); at_builtin; refine Kd.R_append (Kd.int .i64) (w0 := w) w.heap.size rfl (.tmp 57) (.tmp 62) 35 2 (.int .i64 0) 8 rfl Try.underlying35 info2 rfl (by decide) (by omega) u5 x5_1 (wrap64 ((wrap64 (x8_1 - (wrap64 (x7_7 + 1)))) + 1)) [.int .i64 (wrap64 ((wrap64 (x8_1 - (wrap64 (x7_7 + 1)))) + 1))] (fun k_ => some k_ ≠ (v375 : Value).ownBlock) (fun _ => False) rfl rfl ?aP (fun _ hk => hk.elim) ?aF ?aO ?aB ?aS ?aL ?_; (case aP => exact rfl); (case aB => exact (rb HB)); (case aF => exact (fun k_ hk => Kd.fresh' (Kd.R_lt (rr HO_6)) k_ hk)); (case aO => exact (rr HO_5)); (case aS => exact (below_size (rb HB))); (case aL => have := LMc30.out; omega); intro v384 w31 ho hb hg hat; rw [← Ny383.out] at ho; replace HO_6 := am (Kd.R_after (ok := (fun _ => True)) (by (with_reducible repeat (first | apply r1 | apply r2 | apply r3)); exact Kd.R_mono HO_6.out (fun _ hk => ⟨trivial, hk⟩)) hg hat); replace HB := am (hb); have HO385 := am (ho); clear HO_5; clear ho hb hg hat)))
go_roundg kj7
case measure => have := HK1.out; have := HJ7.out; omega
case rel => exact ⟨(y383), (wrap64 (x7_7 + 1)), (wrap64 (x8_1 + 1)), (by first | rfl | (simp; done) | (simp [*]; done)), (by first | rfl | (simp; done) | (simp [*]; done)), H', ⟨by have := HK1.out; have := HJ7.out; omega⟩, ⟨rr HO385⟩, ⟨Rm0 HO_6⟩, ⟨rb HB⟩⟩
)
)
·(
rw [if_neg c29] at H
have c29b0 : ((wrap64 (x7_7 + 1)) == (l1.length : Int)) = false := beq_eq_false_iff_ne.mpr c29
have c29b1 : ((wrap64 (x7_7 + 1)) != (l1.length : Int)) = true := bne_iff_ne.mpr c29
have H' := am H
clear H
have p381 : 0 ≤ (x7_7 : Int) := dt_
have q381 : x7_7 < (l1.length : Int) := dt_
obtain ⟨ad381, e381, hx381_0⟩ := Kd.at_int HR1.out x7_7 p381 q381
cases e381
replace hx381_0 := mv HB.out hx381_0
replace p381 := eq_true p381
replace q381 := eq_true q381
have p382 : 0 ≤ (x8_1 : Int) := dt_
have q382 : x8_1 < (l0.length : Int) := dt_
obtain ⟨ad382, e382, hx382_0⟩ := Kd.at_int HR0.out x8_1 p382 q382
cases e382
replace hx382_0 := mv HB.out hx382_0
replace p382 := eq_true p382
replace q382 := eq_true q382
go_wp2
repeat (go_quiet (fail); try go_wp2)
go_roundg kj7
case measure => have := HK1.out; have := HJ7.out; omega
case rel => exact ⟨(x5_1), (wrap64 (x7_7 + 1)), (wrap64 (x8_1 + 1)), (by first | rfl | (simp; done) | (simp [*]; done)), (by first | rfl | (simp; done) | (simp [*]; done)), H', ⟨by have := HK1.out; have := HJ7.out; omega⟩, ⟨rr HO_5⟩, ⟨rr HO_6⟩, ⟨rb HB⟩⟩
)
)
·(
rw [if_neg c28] at H
have c28b0 : ((rd l1 x7_7) == (rd l0 x8_1)) = false := beq_eq_false_iff_ne.mpr c28
have c28b1 : ((rd l1 x7_7) != (rd l0 x8_1)) = true := bne_iff_ne.mpr c28
by_cases c32 : x7_7 = (l1.length : Int)
·(
rw [if_pos c32] at H
have c32b0 : (x7_7 == (l1.length : Int)) = true := beq_iff_eq.mpr c32
have c32b1 : (x7_7 != (l1.length : Int)) = false := bne_eq_false_iff_eq.mpr c32
clear c32
refine em_ (p := x5_1.length < 17592186044416) (fun c33 => ?g11p) (fun c33 => ?g11n)
case' g11p => (
rw [if_pos c33] at H
have LMc33 := am c33
clear c33
obtain ⟨y386, hy386⟩ : ∃ y_ : List Int, y_ = (x5_1 ++ [wrap64 ((wrap64 (x8_1 - x7_7)) + 1)]) := ⟨_, rfl⟩
replace H : (spec_l11Places.l0 kj7 l0 l1 y386 t374 x7_7 (wrap64 (x8_1 + 1))) = some r := by first | (rw [hy386]; with_reducible exact H) | (rw [hy386]; exact H) | exact H
have Ny386 := am hy386
clear hy386
have H' := am H
clear H
have lf10_ := trivial
)
case g11n => (
rw [if_neg c33] at H
exact absurd H (by simp)
)
all_goals (
have p381 : 0 ≤ (x7_7 : Int) := dt_
have q381 : x7_7 < (l1.length : Int) := dt_
obtain ⟨ad381, e381, hx381_0⟩ := Kd.at_int HR1.out x7_7 p381 q381
cases e381
replace hx381_0 := mv HB.out hx381_0
replace p381 := eq_true p381
replace q381 := eq_true q381
have p382 : 0 ≤ (x8_1 : Int) := dt_
have q382 : x8_1 < (l0.length : Int) := dt_
obtain ⟨ad382, e382, hx382_0⟩ := Kd.at_int HR0.out x8_1 p382 q382
cases e382
replace hx382_0 := mv HB.out hx382_0
replace p382 := eq_true p382
replace q382 := eq_true q382
go_wp2_with (first | ((with_reducible refine gate_builtin (b := .append) (xs := #[.tmp 57, .tmp 62]) rfl ?_); (try (refine gate_guard (by rfl) ?_; dsimp only)); at_builtin; refine Kd.R_append (Kd.int .i64) (w0 := w) w.heap.size rfl (.tmp 57) (.tmp 62) 35 2 (.int .i64 0) 8 rfl Try.underlying35 info2 rfl (by decide) (by omega) u5 x5_1 (wrap64 ((wrap64 (x8_1 - x7_7)) + 1)) [.int .i64 (wrap64 ((wrap64 (x8_1 - x7_7)) + 1))] (fun k_ => some k_ ≠ (v375 : Value).ownBlock) (fun _ => False) rfl rfl ?aP (fun _ hk => hk.elim) ?aF ?aO ?aB ?aS ?aL ?_; (case aP => exact rfl); (case aB => exact (rb HB)); (case aF => exact (fun k_ hk => Kd.fresh' (Kd.R_lt (rr HO_6)) k_ hk)); (case aO => exact (rr HO_5)); (case aS => exact (below_size (rb HB))); (case aL => have := LMc33.out; omega); intro v387 w34 ho hb hg hat; rw [← Ny386.out] at ho; replace HO_6 := am (Kd.R_after (ok := (fun _ => True)) (by (with_reducible repeat (first | apply r1 | apply r2 | apply r3)); exact Kd.R_mono HO_6.out (fun _ hk => ⟨trivial, hk⟩)) hg hat); replace HB := am (hb); have HO388 := am (ho); clear HO_5; clear ho hb hg hat))
repeat (go_quiet (first | ((with_reducible refine gate_builtin (b := .append) (xs := #[.tmp 57, .tmp 62]) rfl ?_); (try (refine gate_guard (by rfl) ?_; dsimp only)); at_builtin; refine Kd.R_append (Kd.int .i64) (w0 := w) w.heap.size rfl (.tmp 57) (.tmp 62) 35 2 (.int .i64 0) 8 rfl Try.underlying35 info2 rfl (by decide) (by omega) u5 x5_1 (wrap64 ((wrap64 (x8_1 - x7_7)) + 1)) [.int .i64 (wrap64 ((wrap64 (x8_1 - x7_7)) + 1))] (fun k_ => some k_ ≠ (v375 : Value).ownBlock) (fun _ => False) rfl rfl ?aP (fun _ hk => hk.elim) ?aF ?aO ?aB ?aS ?aL ?_; (case aP => exact rfl); (case aB => exact (rb HB)); (case aF => exact (fun k_ hk => Kd.fresh' (Kd.R_lt (rr HO_6)) k_ hk)); (case aO => exact (rr HO_5)); (case aS => exact (below_size (rb HB))); (case aL => have := LMc33.out; omega); intro v387 w34 ho hb hg hat; rw [← Ny386.out] at ho; replace HO_6 := am (Kd.R_after (ok := (fun _ => True)) (by (with_reducible repeat (first | apply r1 | apply r2 | apply r3)); exact Kd.R_mono HO_6.out (fun _ hk => ⟨trivial, hk⟩)) hg hat); replace HB := am (hb); have HO388 := am (ho); clear HO_5; clear ho hb hg hat)); try go_wp2_with (first | ((with_reducible refine gate_builtin (b := .append) (xs := #[.tmp 57, .tmp 62]) rfl ?_); (try (refine gate_guard (by rfl) ?_; dsimp only)); at_builtin; refine Kd.R_append (Kd.int .i64) (w0 := w) w.heap.size rfl (.tmp 57) (.tmp 62) 35 2 (.int .i64 0) 8 rfl Try.underlying35 info2 rfl (by decide) (by omega) u5 x5_1 (wrap64 ((wrap64 (x8_1 - x7_7)) + 1)) [.int .i64 (wrap64 ((wrap64 (x8_1 - x7_7)) + 1))] (fun k_ => some k_ ≠ (v375 : Value).ownBlock) (fun _ => False) rfl rfl ?aP (fun _ hk => hk.elim) ?aF ?aO ?aB ?aS ?aL ?_; (case aP => exact rfl); (case aB => exact (rb HB)); (case aF => exact (fun k_ hk => Kd.fresh' (Kd.R_lt (rr HO_6)) k_ hk)); (case aO => exact (rr HO_5)); (case aS => exact (below_size (rb HB))); (case aL => have := LMc33.out; omega); intro v387 w34 ho hb hg hat; rw [← Ny386.out] at ho; replace HO_6 := am (Kd.R_after (ok := (fun _ => True)) (by (with_reducible repeat (first | apply r1 | apply r2 | apply r3)); exact Kd.R_mono HO_6.out (fun _ hk => ⟨trivial, hk⟩)) hg hat); replace HB := am (hb); have HO388 := am (ho); clear HO_5; clear ho hb hg hat)))
go_roundg kj7
case measure => have := HK1.out; have := HJ7.out; omega
case rel => exact ⟨(y386), (x7_7), (wrap64 (x8_1 + 1)), (by first | rfl | (simp; done) | (simp [*]; done)), (by first | rfl | (simp; done) | (simp [*]; done)), H', ⟨by have := HK1.out; have := HJ7.out; omega⟩, ⟨rr HO388⟩, ⟨Rm0 HO_6⟩, ⟨rb HB⟩⟩
)
)
·(
rw [if_neg c32] at H
have c32b0 : (x7_7 == (l1.length : Int)) = false := beq_eq_false_iff_ne.mpr c32
have c32b1 : (x7_7 != (l1.length : Int)) = true := bne_iff_ne.mpr c32
have H' := am H
clear H
have p381 : 0 ≤ (x7_7 : Int) := dt_
have q381 : x7_7 < (l1.length : Int) := dt_
obtain ⟨ad381, e381, hx381_0⟩ := Kd.at_int HR1.out x7_7 p381 q381
cases e381
replace hx381_0 := mv HB.out hx381_0
replace p381 := eq_true p381
replace q381 := eq_true q381
have p382 : 0 ≤ (x8_1 : Int) := dt_
have q382 : x8_1 < (l0.length : Int) := dt_
obtain ⟨ad382, e382, hx382_0⟩ := Kd.at_int HR0.out x8_1 p382 q382
cases e382
replace hx382_0 := mv HB.out hx382_0
replace p382 := eq_true p382
replace q382 := eq_true q382
go_wp2
repeat (go_quiet (fail); try go_wp2)
go_roundg kj7
case measure => have := HK1.out; have := HJ7.out; omega
case rel => exact ⟨(x5_1), (x7_7), (wrap64 (x8_1 + 1)), (by first | rfl | (simp; done) | (simp [*]; done)), (by first | rfl | (simp; done) | (simp [*]; done)), H', ⟨by have := HK1.out; have := HJ7.out; omega⟩, ⟨rr HO_5⟩, ⟨rr HO_6⟩, ⟨rb HB⟩⟩
)
)
)
·(
rw [if_neg c27] at H
exact absurd H (by simp)
)
)
·(
rw [if_neg c26] at H
exact absurd H (by simp)
)
)
·(
rw [if_neg c25] at H
exact absurd H (by simp)
)
)
·(
rw [if_neg c24] at H
exact absurd H (by simp)
)
)
)
)
·(
rw [if_neg c7] at H
have c7b0 : decide (x8_1 < (l0.length : Int)) = false := decide_eq_false c7
clear c7
obtain rfl := Option.some.inj H
go_wp2
repeat (go_quiet (fail); try go_wp2)
go_ret
exact ⟨_, by first | rfl | (simp [errW_none, errW_some] <;> rfl) | (simp [*, errW_none, errW_some] <;> rfl), by (with_reducible repeat (first | apply r1 | apply r2 | apply r3)); exact Kd.R_mono HO_5.out (fun _ hk => trivial), by repeat (first | (with_reducible first | exact HB.out | apply b1 | apply b2 | apply b3) | exact HB.out)⟩
)
)
)
)

end Go.Proofs.Ytalopdcephohgaa.RA
