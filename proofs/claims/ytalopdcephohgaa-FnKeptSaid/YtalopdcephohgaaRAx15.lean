/- Contracts of Go functions that laws of this seat reach: each Lean function answers as its Go function does. No condition. Written by wip/tools/inj.py, over the kit's print. -/
import Derived.Test.YtalopdcephohgaaRAx0
namespace Go.Proofs.Ytalopdcephohgaa.RA
open Go.RowKit Go.Proofs.YtalopdcephohgaaW.PrintWords Go.Proofs.YtalopdcephohgaaW.PrintLast Go.Proofs.YtalopdcephohgaaW.PrintMore
attribute [local go_sem] max2_int min2_int max_two min_two max_three min_three max_four min_four   -- for this text's walks alone
set_option linter.unusedVariables false
set_option linter.unusedSimpArgs false

/-! ### spec_l11Borders: function 93 -/
mutual
def spec_l11Borders.l0 : Nat → List Int → List Int → Int → Int → Option (List Int)
 | 0, _, _, _, _ => none
 | k + 1, x0, x3, x4, x5 => if x5 < (x0.length : Int) then (spec_l11Borders.l1 k x0 x3 x4 x5) else (some x3)
def spec_l11Borders.l1 : Nat → List Int → List Int → Int → Int → Option (List Int)
 | 0, _, _, _, _ => none
 | k + 1, x0, x3, x4, x5 => if x5 > 0 then (if x4 > 0 then (if 0 ≤ x4 then (if x4 < (x0.length : Int) then (if 0 ≤ x5 then (if x5 < (x0.length : Int) then (if (rd x0 x4) = (rd x0 x5) then (if x3.length < 17592186044416 then (spec_l11Borders.l0 k x0 (x3 ++ [wrap64 (x4 + 1)]) (wrap64 (x4 + 1)) (wrap64 (x5 + 1))) else (none)) else (if 0 ≤ (wrap64 (x4 - 1)) then (if (wrap64 (x4 - 1)) < (x3.length : Int) then (spec_l11Borders.l1 k x0 x3 (rd x3 (wrap64 (x4 - 1))) x5) else (none)) else (none))) else (none)) else (none)) else (none)) else (none)) else (if 0 ≤ x4 then (if x4 < (x0.length : Int) then (if 0 ≤ x5 then (if x5 < (x0.length : Int) then (if (rd x0 x4) = (rd x0 x5) then (if x3.length < 17592186044416 then (spec_l11Borders.l0 k x0 (x3 ++ [wrap64 (x4 + 1)]) (wrap64 (x4 + 1)) (wrap64 (x5 + 1))) else (none)) else (if x3.length < 17592186044416 then (spec_l11Borders.l0 k x0 (x3 ++ [x4]) x4 (wrap64 (x5 + 1))) else (none))) else (none)) else (none)) else (none)) else (none))) else (if x3.length < 17592186044416 then (spec_l11Borders.l0 k x0 (x3 ++ [x4]) x4 (wrap64 (x5 + 1))) else (none))
end
def spec_l11Borders.f (k : Nat) (l0 : List Int) : Option (List Int) := spec_l11Borders.l0 k l0 (([] : List Int)) 0 0
theorem spec_l11Borders.mono_l : ∀ k, (∀ y0 y1 y2 y3, LeO (spec_l11Borders.l0 k y0 y1 y2 y3) (spec_l11Borders.l0 (k + 1) y0 y1 y2 y3)) ∧ (∀ y0 y1 y2 y3, LeO (spec_l11Borders.l1 k y0 y1 y2 y3) (spec_l11Borders.l1 (k + 1) y0 y1 y2 y3))
 | 0 => ⟨fun _ _ _ _ r h => by simp [spec_l11Borders.l0] at h, fun _ _ _ _ r h => by simp [spec_l11Borders.l1] at h⟩
 | k + 1 => by
  obtain ⟨ih0, ih1⟩ := spec_l11Borders.mono_l k
  refine ⟨?_, ?_⟩
  ·intro y0 y1 y2 y3
   unfold spec_l11Borders.l0
   repeat' first
   | (with_reducible exact ih0 _ _ _ _)
   | (with_reducible exact ih1 _ _ _ _)
   | (with_reducible exact LeO.refl _)
   | (with_reducible exact LeO.none _)
   | (with_reducible refine LeO.ite ?_ ?_)
   | (with_reducible refine LeO.bind ?_ (fun _ => ?_))
  ·intro y0 y1 y2 y3
   unfold spec_l11Borders.l1
   repeat' first
   | (with_reducible exact ih0 _ _ _ _)
   | (with_reducible exact ih1 _ _ _ _)
   | (with_reducible exact LeO.refl _)
   | (with_reducible exact LeO.none _)
   | (with_reducible refine LeO.ite ?_ ?_)
   | (with_reducible refine LeO.bind ?_ (fun _ => ?_))
theorem spec_l11Borders.mono : ∀ a0 k, LeO (spec_l11Borders.f k a0) (spec_l11Borders.f (k + 1) a0) := by
 intro a0 k
 obtain ⟨ih0, ih1⟩ := spec_l11Borders.mono_l k
 unfold spec_l11Borders.f
 repeat' first
   | (with_reducible exact ih0 _ _ _ _)
   | (with_reducible exact ih1 _ _ _ _)
   | (with_reducible exact LeO.refl _)
   | (with_reducible exact LeO.none _)
   | (with_reducible refine LeO.ite ?_ ?_)
   | (with_reducible refine LeO.bind ?_ (fun _ => ?_))
set_option maxHeartbeats 8000000 in
set_option maxRecDepth 100000 in
theorem spec_l11Borders.calls (k : Nat) (A0 : Option Addr) (c0 : Nat) (l0 : List Int) (r : List Int) (w : World) (hr0 : Kd.C (Kd.int .i64) w A0 l0.length l0) (hc0 : l0.length ≤ c0) (h : spec_l11Borders.f k l0 = some r) :
  Calls Try.prog 93 #[.slice A0 l0.length c0] w fun e w' => ∃ v0_ : Value, e = .returned (v0_) ∧ Kd.R (Kd.int .i64) 2 w' w.heap.size (fun _ => True) v0_ r ∧ Below w.heap.size w w' := by
 (
have HR0 := am hr0
have HC0 := am hc0
clear hr0 hc0
have HB := am (Below.refl w.heap.size w)
have H : (spec_l11Borders.l0 k l0 (([] : List Int)) 0 0) = some r := h
clear h
obtain ⟨y349, hy349⟩ : ∃ y_ : List Int, y_ = (([] : List Int)) := ⟨_, rfl⟩
replace H : (spec_l11Borders.l0 k l0 y349 0 0) = some r := by first | (rw [hy349]; with_reducible exact H) | (rw [hy349]; exact H) | exact H
have Ny349 := am hy349
clear hy349
have H' := am H
clear H
go_enter Try.func93, Try.ntmps93
go_wp2_with (first | ((with_reducible refine gate_dst (N := 6) rfl ?_); refine Kd.R_lit (Kd.int .i64) _ 2 ?hg (N := 6) ?hd (xs := ([] : List Int)) (inner := []) (ok := fun _ => True) (okp := fun _ => True) ?hr ?hp (fun _ hk => hk) trivial (Below.refl _ _) (Nat.le_refl _) (by simp) ?_; (case hd => rfl); (case hg => rfl); (case hr => first | (go_simp; done) | (go_simp; rfl)); (case hp => exact (Reps.none _ _)); intro v350 w2 ho3 hb hg_ hnew_; clear hg_ hnew_; (first | rw [← Ny349.out] at ho3 | (simp only [Int.reduceToNat] at ho3; rw [← Ny349.out] at ho3)); have HO351 := am (Kd.R_lower ho3 (below_size (rb HB))); replace HB := am (below_step (rb HB) hb); clear hb ho3))
repeat (go_quiet (first | ((with_reducible refine gate_dst (N := 6) rfl ?_); refine Kd.R_lit (Kd.int .i64) _ 2 ?hg (N := 6) ?hd (xs := ([] : List Int)) (inner := []) (ok := fun _ => True) (okp := fun _ => True) ?hr ?hp (fun _ hk => hk) trivial (Below.refl _ _) (Nat.le_refl _) (by simp) ?_; (case hd => rfl); (case hg => rfl); (case hr => first | (go_simp; done) | (go_simp; rfl)); (case hp => exact (Reps.none _ _)); intro v350 w2 ho3 hb hg_ hnew_; clear hg_ hnew_; (first | rw [← Ny349.out] at ho3 | (simp only [Int.reduceToNat] at ho3; rw [← Ny349.out] at ho3)); have HO351 := am (Kd.R_lower ho3 (below_size (rb HB))); replace HB := am (below_step (rb HB) hb); clear hb ho3)); try go_wp2_with (first | ((with_reducible refine gate_dst (N := 6) rfl ?_); refine Kd.R_lit (Kd.int .i64) _ 2 ?hg (N := 6) ?hd (xs := ([] : List Int)) (inner := []) (ok := fun _ => True) (okp := fun _ => True) ?hr ?hp (fun _ hk => hk) trivial (Below.refl _ _) (Nat.le_refl _) (by simp) ?_; (case hd => rfl); (case hg => rfl); (case hr => first | (go_simp; done) | (go_simp; rfl)); (case hp => exact (Reps.none _ _)); intro v350 w2 ho3 hb hg_ hnew_; clear hg_ hnew_; (first | rw [← Ny349.out] at ho3 | (simp only [Int.reduceToNat] at ho3; rw [← Ny349.out] at ho3)); have HO351 := am (Kd.R_lower ho3 (below_size (rb HB))); replace HB := am (below_step (rb HB) hb); clear hb ho3)))
go_loopg [3, 4, 5] k (fun kq v3 v4 v5 w' => ∃ (x3_1 : List Int) (x4_1 : Int) (x5_1 : Int), v4 = .int .i64 x4_1 ∧ v5 = .int .i64 x5_1 ∧ Aside0 (spec_l11Borders.l0 kq l0 x3_1 x4_1 x5_1 = some r) ∧ Aside0 (kq ≤ k) ∧ Aside0 (Kd.R (Kd.int .i64) 2 w' w.heap.size (fun _ => True) v3 x3_1) ∧ Aside0 (Below w.heap.size w w'))
case atStart => exact ⟨(y349), (0), (0), (by first | rfl | (simp; done) | (simp [*]; done)), (by first | rfl | (simp; done) | (simp [*]; done)), H', ⟨Nat.le_refl _⟩, ⟨rr HO351⟩, ⟨rb HB⟩⟩
case round => (
clear H'
try clear p2
obtain ⟨x3_1, x4_1, x5_1, rfl, rfl, HA, HK1, HO_3, HB⟩ := hrel
cases gk with
| zero => exact absurd HA.out (by simp [spec_l11Borders.l0])
| succ k1 => (
have H := HA.out
clear HA
simp only [spec_l11Borders.l0] at H
by_cases c4 : x5_1 < (l0.length : Int)
·(
rw [if_pos c4] at H
have c4b0 : decide (x5_1 < (l0.length : Int)) = true := decide_eq_true c4
clear c4
have H' := am H
clear H
go_wp2
repeat (go_quiet (fail); try go_wp2)
go_loopg [4] k1 (fun kq v4 w' => ∃ (x4_2 : Int), v4 = .int .i64 x4_2 ∧ Aside0 (spec_l11Borders.l1 kq l0 x3_1 x4_2 x5_1 = some r) ∧ Aside0 (kq ≤ k1) ∧ Aside0 (Kd.R (Kd.int .i64) 2 w' w.heap.size (fun _ => True) u3 x3_1) ∧ Aside0 (Below w.heap.size w w'))
case atStart => exact ⟨(x4_1), (by first | rfl | (simp; done) | (simp [*]; done)), H', ⟨Nat.le_refl _⟩, ⟨rr HO_3⟩, ⟨rb HB⟩⟩
case round => (
clear H'
try clear p2
try clear c4
try clear c4b0
try clear p2
obtain ⟨x4_2, rfl, HA, HK2, HO_3, HB⟩ := hrel
cases gk with
| zero => exact absurd HA.out (by simp [spec_l11Borders.l1])
| succ k2 => (
have H := HA.out
clear HA
simp only [spec_l11Borders.l1] at H
refine em_ (p := x5_1 > 0) (fun c5 => ?g6p) (fun c5 => ?g6n)
case g6p => (
rw [if_pos c5] at H
have c5b0 : decide (0 < x5_1) = true := decide_eq_true c5
clear c5
by_cases c6 : x4_2 > 0
·(
rw [if_pos c6] at H
have c6b0 : decide (0 < x4_2) = true := decide_eq_true c6
clear c6
by_cases c7 : 0 ≤ x4_2
·(
rw [if_pos c7] at H
have c7b0 : decide (0 ≤ x4_2) = true := decide_eq_true c7
clear c7
by_cases c8 : x4_2 < (l0.length : Int)
·(
rw [if_pos c8] at H
have c8b0 : decide (x4_2 < (l0.length : Int)) = true := decide_eq_true c8
clear c8
by_cases c9 : 0 ≤ x5_1
·(
rw [if_pos c9] at H
have c9b0 : decide (0 ≤ x5_1) = true := decide_eq_true c9
clear c9
by_cases c10 : x5_1 < (l0.length : Int)
·(
rw [if_pos c10] at H
have c10b0 : decide (x5_1 < (l0.length : Int)) = true := decide_eq_true c10
clear c10
by_cases c11 : (rd l0 x4_2) = (rd l0 x5_1)
·(
rw [if_pos c11] at H
have c11b0 : ((rd l0 x4_2) == (rd l0 x5_1)) = true := beq_iff_eq.mpr c11
have c11b1 : ((rd l0 x4_2) != (rd l0 x5_1)) = false := bne_eq_false_iff_eq.mpr c11
clear c11
refine em_ (p := x3_1.length < 17592186044416) (fun c12 => ?g0p) (fun c12 => ?g0n)
case' g0p => (
rw [if_pos c12] at H
have LMc12 := am c12
clear c12
obtain ⟨y356, hy356⟩ : ∃ y_ : List Int, y_ = (x3_1 ++ [wrap64 (x4_2 + 1)]) := ⟨_, rfl⟩
replace H : (spec_l11Borders.l0 k2 l0 y356 (wrap64 (x4_2 + 1)) (wrap64 (x5_1 + 1))) = some r := by first | (rw [hy356]; with_reducible exact H) | (rw [hy356]; exact H) | exact H
have Ny356 := am hy356
clear hy356
have H' := am H
clear H
have lf3_ := trivial
)
case g0n => (
rw [if_neg c12] at H
exact absurd H (by simp)
)
all_goals (
have p352 : 0 ≤ (x4_2 : Int) := dt_
have q352 : x4_2 < (l0.length : Int) := dt_
obtain ⟨ad352, e352, hx352_0⟩ := Kd.at_int HR0.out x4_2 p352 q352
cases e352
replace hx352_0 := mv HB.out hx352_0
replace p352 := eq_true p352
replace q352 := eq_true q352
have p353 : 0 ≤ (x5_1 : Int) := dt_
have q353 : x5_1 < (l0.length : Int) := dt_
obtain ⟨ad353, e353, hx353_0⟩ := Kd.at_int HR0.out x5_1 p353 q353
obtain rfl : ad352 = ad353 := (by injection e353)
replace hx353_0 := mv HB.out hx353_0
replace p353 := eq_true p353
replace q353 := eq_true q353
have p354 : 0 ≤ (x4_2 : Int) := dt_
have q354 : x4_2 < (l0.length : Int) := dt_
obtain ⟨ad354, e354, hx354_0⟩ := Kd.at_int HR0.out x4_2 p354 q354
obtain rfl : ad352 = ad354 := (by injection e354)
replace hx354_0 := mv HB.out hx354_0
replace p354 := eq_true p354
replace q354 := eq_true q354
have p355 : 0 ≤ (x5_1 : Int) := dt_
have q355 : x5_1 < (l0.length : Int) := dt_
obtain ⟨ad355, e355, hx355_0⟩ := Kd.at_int HR0.out x5_1 p355 q355
obtain rfl : ad352 = ad355 := (by injection e355)
replace hx355_0 := mv HB.out hx355_0
replace p355 := eq_true p355
replace q355 := eq_true q355
go_wp2_with (first | ((with_reducible refine gate_builtin (b := .append) (xs := #[.tmp 50, .tmp 52]) rfl ?_); at_builtin; refine Kd.R_append (Kd.int .i64) (w0 := w) w.heap.size rfl (.tmp 50) (.tmp 52) 35 2 (.int .i64 0) 8 rfl Try.underlying35 info2 rfl (by decide) (by omega) u3 x3_1 (wrap64 (x4_2 + 1)) [.int .i64 (wrap64 (x4_2 + 1))] (fun _ => True) (fun _ => False) rfl rfl ?aP (fun _ hk => hk.elim) ?aF ?aO ?aB ?aS ?aL ?_; (case aP => exact rfl); (case aB => exact (rb HB)); (case aF => exact (fun _ _ => trivial)); (case aO => exact (rr HO_3)); (case aS => exact (below_size (rb HB))); (case aL => have := LMc12.out; omega); intro v357 w13 ho hb hg hat; rw [← Ny356.out] at ho; replace HB := am (hb); have HO358 := am (ho); clear HO_3; clear ho hb hg hat))
repeat (go_quiet (first | ((with_reducible refine gate_builtin (b := .append) (xs := #[.tmp 50, .tmp 52]) rfl ?_); at_builtin; refine Kd.R_append (Kd.int .i64) (w0 := w) w.heap.size rfl (.tmp 50) (.tmp 52) 35 2 (.int .i64 0) 8 rfl Try.underlying35 info2 rfl (by decide) (by omega) u3 x3_1 (wrap64 (x4_2 + 1)) [.int .i64 (wrap64 (x4_2 + 1))] (fun _ => True) (fun _ => False) rfl rfl ?aP (fun _ hk => hk.elim) ?aF ?aO ?aB ?aS ?aL ?_; (case aP => exact rfl); (case aB => exact (rb HB)); (case aF => exact (fun _ _ => trivial)); (case aO => exact (rr HO_3)); (case aS => exact (below_size (rb HB))); (case aL => have := LMc12.out; omega); intro v357 w13 ho hb hg hat; rw [← Ny356.out] at ho; replace HB := am (hb); have HO358 := am (ho); clear HO_3; clear ho hb hg hat)); try go_wp2_with (first | ((with_reducible refine gate_builtin (b := .append) (xs := #[.tmp 50, .tmp 52]) rfl ?_); at_builtin; refine Kd.R_append (Kd.int .i64) (w0 := w) w.heap.size rfl (.tmp 50) (.tmp 52) 35 2 (.int .i64 0) 8 rfl Try.underlying35 info2 rfl (by decide) (by omega) u3 x3_1 (wrap64 (x4_2 + 1)) [.int .i64 (wrap64 (x4_2 + 1))] (fun _ => True) (fun _ => False) rfl rfl ?aP (fun _ hk => hk.elim) ?aF ?aO ?aB ?aS ?aL ?_; (case aP => exact rfl); (case aB => exact (rb HB)); (case aF => exact (fun _ _ => trivial)); (case aO => exact (rr HO_3)); (case aS => exact (below_size (rb HB))); (case aL => have := LMc12.out; omega); intro v357 w13 ho hb hg hat; rw [← Ny356.out] at ho; replace HB := am (hb); have HO358 := am (ho); clear HO_3; clear ho hb hg hat)))
go_roundg k2
case measure => have := HK1.out; have := HK2.out; omega
case rel => exact ⟨(y356), (wrap64 (x4_2 + 1)), (wrap64 (x5_1 + 1)), (by first | rfl | (simp; done) | (simp [*]; done)), (by first | rfl | (simp; done) | (simp [*]; done)), H', ⟨by have := HK1.out; have := HK2.out; omega⟩, ⟨rr HO358⟩, ⟨rb HB⟩⟩
)
)
·(
rw [if_neg c11] at H
have c11b0 : ((rd l0 x4_2) == (rd l0 x5_1)) = false := beq_eq_false_iff_ne.mpr c11
have c11b1 : ((rd l0 x4_2) != (rd l0 x5_1)) = true := bne_iff_ne.mpr c11
obtain ⟨ji14, hji14⟩ : ∃ j_ : Int, (wrap64 (x4_2 - 1)) = j_ := ⟨_, rfl⟩
replace H : (if 0 ≤ (ji14) then (if (ji14) < (x3_1.length : Int) then (spec_l11Borders.l1 k2 l0 x3_1 (rd x3_1 (ji14)) x5_1) else (none)) else (none)) = some r := by first | (rw [hji14] at H; exact H) | (simp only [hji14] at H ⊢; exact H)
have hji14w : (IntKind.i64.wrap (x4_2 - 1)) = ji14 := (i64_w _).trans hji14
refine em_ (p := 0 ≤ (ji14)) (fun c15 => ?g2p) (fun c15 => ?g2n)
case' g2p => (
rw [if_pos c15] at H
have c15b0 : decide (0 ≤ (ji14)) = true := decide_eq_true c15
clear c15
refine em_ (p := (ji14) < (x3_1.length : Int)) (fun c16 => ?g1p) (fun c16 => ?g1n)
case' g1p => (
rw [if_pos c16] at H
have c16b0 : decide ((ji14) < (x3_1.length : Int)) = true := decide_eq_true c16
clear c16
have H' := am H
clear H
have lf4_ := trivial
)
case g1n => (
rw [if_neg c16] at H
exact absurd H (by simp)
)
)
case g2n => (
rw [if_neg c15] at H
exact absurd H (by simp)
)
all_goals (
have p352 : 0 ≤ (x4_2 : Int) := dt_
have q352 : x4_2 < (l0.length : Int) := dt_
obtain ⟨ad352, e352, hx352_0⟩ := Kd.at_int HR0.out x4_2 p352 q352
cases e352
replace hx352_0 := mv HB.out hx352_0
replace p352 := eq_true p352
replace q352 := eq_true q352
have p353 : 0 ≤ (x5_1 : Int) := dt_
have q353 : x5_1 < (l0.length : Int) := dt_
obtain ⟨ad353, e353, hx353_0⟩ := Kd.at_int HR0.out x5_1 p353 q353
obtain rfl : ad352 = ad353 := (by injection e353)
replace hx353_0 := mv HB.out hx353_0
replace p353 := eq_true p353
replace q353 := eq_true q353
obtain ⟨Ao17, co17, eo17⟩ := Kd.R_slice HO_3.out
subst eo17
have p359 : 0 ≤ ((ji14) : Int) := dt_
have q359 : (ji14) < (x3_1.length : Int) := dt_
obtain ⟨ad359, e359, hx359_0⟩ := Kd.at_int (Kd.R_reads' HO_3.out).2.2 (ji14) p359 q359
cases e359
replace p359 := eq_true p359
replace q359 := eq_true q359
go_wp2
repeat (go_quiet (fail); try go_wp2)
go_roundg k2
case measure => have := HK1.out; have := HK2.out; omega
case rel => exact ⟨(rd x3_1 (ji14)), (by first | rfl | (simp; done) | (simp only [← hji14] <;> (first | rfl | simp)) | (simp [*]; done)), H', ⟨by have := HK1.out; have := HK2.out; omega⟩, ⟨rr HO_3⟩, ⟨rb HB⟩⟩
)
)
)
·(
rw [if_neg c10] at H
exact absurd H (by simp)
)
)
·(
rw [if_neg c9] at H
exact absurd H (by simp)
)
)
·(
rw [if_neg c8] at H
exact absurd H (by simp)
)
)
·(
rw [if_neg c7] at H
exact absurd H (by simp)
)
)
·(
rw [if_neg c6] at H
have c6b0 : decide (0 < x4_2) = false := decide_eq_false c6
clear c6
by_cases c18 : 0 ≤ x4_2
·(
rw [if_pos c18] at H
have c18b0 : decide (0 ≤ x4_2) = true := decide_eq_true c18
clear c18
by_cases c19 : x4_2 < (l0.length : Int)
·(
rw [if_pos c19] at H
have c19b0 : decide (x4_2 < (l0.length : Int)) = true := decide_eq_true c19
clear c19
by_cases c20 : 0 ≤ x5_1
·(
rw [if_pos c20] at H
have c20b0 : decide (0 ≤ x5_1) = true := decide_eq_true c20
clear c20
by_cases c21 : x5_1 < (l0.length : Int)
·(
rw [if_pos c21] at H
have c21b0 : decide (x5_1 < (l0.length : Int)) = true := decide_eq_true c21
clear c21
by_cases c22 : (rd l0 x4_2) = (rd l0 x5_1)
·(
rw [if_pos c22] at H
have c22b0 : ((rd l0 x4_2) == (rd l0 x5_1)) = true := beq_iff_eq.mpr c22
have c22b1 : ((rd l0 x4_2) != (rd l0 x5_1)) = false := bne_eq_false_iff_eq.mpr c22
clear c22
refine em_ (p := x3_1.length < 17592186044416) (fun c23 => ?g3p) (fun c23 => ?g3n)
case' g3p => (
rw [if_pos c23] at H
have LMc23 := am c23
clear c23
obtain ⟨y362, hy362⟩ : ∃ y_ : List Int, y_ = (x3_1 ++ [wrap64 (x4_2 + 1)]) := ⟨_, rfl⟩
replace H : (spec_l11Borders.l0 k2 l0 y362 (wrap64 (x4_2 + 1)) (wrap64 (x5_1 + 1))) = some r := by first | (rw [hy362]; with_reducible exact H) | (rw [hy362]; exact H) | exact H
have Ny362 := am hy362
clear hy362
have H' := am H
clear H
have lf5_ := trivial
)
case g3n => (
rw [if_neg c23] at H
exact absurd H (by simp)
)
all_goals (
have p360 : 0 ≤ (x4_2 : Int) := dt_
have q360 : x4_2 < (l0.length : Int) := dt_
obtain ⟨ad360, e360, hx360_0⟩ := Kd.at_int HR0.out x4_2 p360 q360
cases e360
replace hx360_0 := mv HB.out hx360_0
replace p360 := eq_true p360
replace q360 := eq_true q360
have p361 : 0 ≤ (x5_1 : Int) := dt_
have q361 : x5_1 < (l0.length : Int) := dt_
obtain ⟨ad361, e361, hx361_0⟩ := Kd.at_int HR0.out x5_1 p361 q361
obtain rfl : ad360 = ad361 := (by injection e361)
replace hx361_0 := mv HB.out hx361_0
replace p361 := eq_true p361
replace q361 := eq_true q361
go_wp2_with (first | ((with_reducible refine gate_builtin (b := .append) (xs := #[.tmp 50, .tmp 52]) rfl ?_); at_builtin; refine Kd.R_append (Kd.int .i64) (w0 := w) w.heap.size rfl (.tmp 50) (.tmp 52) 35 2 (.int .i64 0) 8 rfl Try.underlying35 info2 rfl (by decide) (by omega) u3 x3_1 (wrap64 (x4_2 + 1)) [.int .i64 (wrap64 (x4_2 + 1))] (fun _ => True) (fun _ => False) rfl rfl ?aP (fun _ hk => hk.elim) ?aF ?aO ?aB ?aS ?aL ?_; (case aP => exact rfl); (case aB => exact (rb HB)); (case aF => exact (fun _ _ => trivial)); (case aO => exact (rr HO_3)); (case aS => exact (below_size (rb HB))); (case aL => have := LMc23.out; omega); intro v363 w24 ho hb hg hat; rw [← Ny362.out] at ho; replace HB := am (hb); have HO364 := am (ho); clear HO_3; clear ho hb hg hat))
repeat (go_quiet (first | ((with_reducible refine gate_builtin (b := .append) (xs := #[.tmp 50, .tmp 52]) rfl ?_); at_builtin; refine Kd.R_append (Kd.int .i64) (w0 := w) w.heap.size rfl (.tmp 50) (.tmp 52) 35 2 (.int .i64 0) 8 rfl Try.underlying35 info2 rfl (by decide) (by omega) u3 x3_1 (wrap64 (x4_2 + 1)) [.int .i64 (wrap64 (x4_2 + 1))] (fun _ => True) (fun _ => False) rfl rfl ?aP (fun _ hk => hk.elim) ?aF ?aO ?aB ?aS ?aL ?_; (case aP => exact rfl); (case aB => exact (rb HB)); (case aF => exact (fun _ _ => trivial)); (case aO => exact (rr HO_3)); (case aS => exact (below_size (rb HB))); (case aL => have := LMc23.out; omega); intro v363 w24 ho hb hg hat; rw [← Ny362.out] at ho; replace HB := am (hb); have HO364 := am (ho); clear HO_3; clear ho hb hg hat)); try go_wp2_with (first | ((with_reducible refine gate_builtin (b := .append) (xs := #[.tmp 50, .tmp 52]) rfl ?_); at_builtin; refine Kd.R_append (Kd.int .i64) (w0 := w) w.heap.size rfl (.tmp 50) (.tmp 52) 35 2 (.int .i64 0) 8 rfl Try.underlying35 info2 rfl (by decide) (by omega) u3 x3_1 (wrap64 (x4_2 + 1)) [.int .i64 (wrap64 (x4_2 + 1))] (fun _ => True) (fun _ => False) rfl rfl ?aP (fun _ hk => hk.elim) ?aF ?aO ?aB ?aS ?aL ?_; (case aP => exact rfl); (case aB => exact (rb HB)); (case aF => exact (fun _ _ => trivial)); (case aO => exact (rr HO_3)); (case aS => exact (below_size (rb HB))); (case aL => have := LMc23.out; omega); intro v363 w24 ho hb hg hat; rw [← Ny362.out] at ho; replace HB := am (hb); have HO364 := am (ho); clear HO_3; clear ho hb hg hat)))
go_roundg k2
case measure => have := HK1.out; have := HK2.out; omega
case rel => exact ⟨(y362), (wrap64 (x4_2 + 1)), (wrap64 (x5_1 + 1)), (by first | rfl | (simp; done) | (simp [*]; done)), (by first | rfl | (simp; done) | (simp [*]; done)), H', ⟨by have := HK1.out; have := HK2.out; omega⟩, ⟨rr HO364⟩, ⟨rb HB⟩⟩
)
)
·(
rw [if_neg c22] at H
have c22b0 : ((rd l0 x4_2) == (rd l0 x5_1)) = false := beq_eq_false_iff_ne.mpr c22
have c22b1 : ((rd l0 x4_2) != (rd l0 x5_1)) = true := bne_iff_ne.mpr c22
refine em_ (p := x3_1.length < 17592186044416) (fun c25 => ?g4p) (fun c25 => ?g4n)
case' g4p => (
rw [if_pos c25] at H
have LMc25 := am c25
clear c25
obtain ⟨y365, hy365⟩ : ∃ y_ : List Int, y_ = (x3_1 ++ [x4_2]) := ⟨_, rfl⟩
replace H : (spec_l11Borders.l0 k2 l0 y365 x4_2 (wrap64 (x5_1 + 1))) = some r := by first | (rw [hy365]; with_reducible exact H) | (rw [hy365]; exact H) | exact H
have Ny365 := am hy365
clear hy365
have H' := am H
clear H
have lf6_ := trivial
)
case g4n => (
rw [if_neg c25] at H
exact absurd H (by simp)
)
all_goals (
have p360 : 0 ≤ (x4_2 : Int) := dt_
have q360 : x4_2 < (l0.length : Int) := dt_
obtain ⟨ad360, e360, hx360_0⟩ := Kd.at_int HR0.out x4_2 p360 q360
cases e360
replace hx360_0 := mv HB.out hx360_0
replace p360 := eq_true p360
replace q360 := eq_true q360
have p361 : 0 ≤ (x5_1 : Int) := dt_
have q361 : x5_1 < (l0.length : Int) := dt_
obtain ⟨ad361, e361, hx361_0⟩ := Kd.at_int HR0.out x5_1 p361 q361
obtain rfl : ad360 = ad361 := (by injection e361)
replace hx361_0 := mv HB.out hx361_0
replace p361 := eq_true p361
replace q361 := eq_true q361
go_wp2_with (first | ((with_reducible refine gate_builtin (b := .append) (xs := #[.tmp 50, .tmp 52]) rfl ?_); at_builtin; refine Kd.R_append (Kd.int .i64) (w0 := w) w.heap.size rfl (.tmp 50) (.tmp 52) 35 2 (.int .i64 0) 8 rfl Try.underlying35 info2 rfl (by decide) (by omega) u3 x3_1 x4_2 [.int .i64 x4_2] (fun _ => True) (fun _ => False) rfl rfl ?aP (fun _ hk => hk.elim) ?aF ?aO ?aB ?aS ?aL ?_; (case aP => exact rfl); (case aB => exact (rb HB)); (case aF => exact (fun _ _ => trivial)); (case aO => exact (rr HO_3)); (case aS => exact (below_size (rb HB))); (case aL => have := LMc25.out; omega); intro v366 w26 ho hb hg hat; rw [← Ny365.out] at ho; replace HB := am (hb); have HO367 := am (ho); clear HO_3; clear ho hb hg hat))
repeat (go_quiet (first | ((with_reducible refine gate_builtin (b := .append) (xs := #[.tmp 50, .tmp 52]) rfl ?_); at_builtin; refine Kd.R_append (Kd.int .i64) (w0 := w) w.heap.size rfl (.tmp 50) (.tmp 52) 35 2 (.int .i64 0) 8 rfl Try.underlying35 info2 rfl (by decide) (by omega) u3 x3_1 x4_2 [.int .i64 x4_2] (fun _ => True) (fun _ => False) rfl rfl ?aP (fun _ hk => hk.elim) ?aF ?aO ?aB ?aS ?aL ?_; (case aP => exact rfl); (case aB => exact (rb HB)); (case aF => exact (fun _ _ => trivial)); (case aO => exact (rr HO_3)); (case aS => exact (below_size (rb HB))); (case aL => have := LMc25.out; omega); intro v366 w26 ho hb hg hat; rw [← Ny365.out] at ho; replace HB := am (hb); have HO367 := am (ho); clear HO_3; clear ho hb hg hat)); try go_wp2_with (first | ((with_reducible refine gate_builtin (b := .append) (xs := #[.tmp 50, .tmp 52]) rfl ?_); at_builtin; refine Kd.R_append (Kd.int .i64) (w0 := w) w.heap.size rfl (.tmp 50) (.tmp 52) 35 2 (.int .i64 0) 8 rfl Try.underlying35 info2 rfl (by decide) (by omega) u3 x3_1 x4_2 [.int .i64 x4_2] (fun _ => True) (fun _ => False) rfl rfl ?aP (fun _ hk => hk.elim) ?aF ?aO ?aB ?aS ?aL ?_; (case aP => exact rfl); (case aB => exact (rb HB)); (case aF => exact (fun _ _ => trivial)); (case aO => exact (rr HO_3)); (case aS => exact (below_size (rb HB))); (case aL => have := LMc25.out; omega); intro v366 w26 ho hb hg hat; rw [← Ny365.out] at ho; replace HB := am (hb); have HO367 := am (ho); clear HO_3; clear ho hb hg hat)))
go_roundg k2
case measure => have := HK1.out; have := HK2.out; omega
case rel => exact ⟨(y365), (x4_2), (wrap64 (x5_1 + 1)), (by first | rfl | (simp; done) | (simp [*]; done)), (by first | rfl | (simp; done) | (simp [*]; done)), H', ⟨by have := HK1.out; have := HK2.out; omega⟩, ⟨rr HO367⟩, ⟨rb HB⟩⟩
)
)
)
·(
rw [if_neg c21] at H
exact absurd H (by simp)
)
)
·(
rw [if_neg c20] at H
exact absurd H (by simp)
)
)
·(
rw [if_neg c19] at H
exact absurd H (by simp)
)
)
·(
rw [if_neg c18] at H
exact absurd H (by simp)
)
)
)
case' g6n => (
rw [if_neg c5] at H
have c5b0 : decide (0 < x5_1) = false := decide_eq_false c5
clear c5
refine em_ (p := x3_1.length < 17592186044416) (fun c27 => ?g5p) (fun c27 => ?g5n)
case' g5p => (
rw [if_pos c27] at H
have LMc27 := am c27
clear c27
obtain ⟨y368, hy368⟩ : ∃ y_ : List Int, y_ = (x3_1 ++ [x4_2]) := ⟨_, rfl⟩
replace H : (spec_l11Borders.l0 k2 l0 y368 x4_2 (wrap64 (x5_1 + 1))) = some r := by first | (rw [hy368]; with_reducible exact H) | (rw [hy368]; exact H) | exact H
have Ny368 := am hy368
clear hy368
have H' := am H
clear H
have lf7_ := trivial
)
case g5n => (
rw [if_neg c27] at H
exact absurd H (by simp)
)
)
all_goals (
go_wp2_with (first | ((with_reducible refine gate_builtin (b := .append) (xs := #[.tmp 50, .tmp 52]) rfl ?_); at_builtin; refine Kd.R_append (Kd.int .i64) (w0 := w) w.heap.size rfl (.tmp 50) (.tmp 52) 35 2 (.int .i64 0) 8 rfl Try.underlying35 info2 rfl (by decide) (by omega) u3 x3_1 x4_2 [.int .i64 x4_2] (fun _ => True) (fun _ => False) rfl rfl ?aP (fun _ hk => hk.elim) ?aF ?aO ?aB ?aS ?aL ?_; (case aP => exact rfl); (case aB => exact (rb HB)); (case aF => exact (fun _ _ => trivial)); (case aO => exact (rr HO_3)); (case aS => exact (below_size (rb HB))); (case aL => have := LMc27.out; omega); intro v369 w28 ho hb hg hat; rw [← Ny368.out] at ho; replace HB := am (hb); have HO370 := am (ho); clear HO_3; clear ho hb hg hat))
repeat (go_quiet (first | ((with_reducible refine gate_builtin (b := .append) (xs := #[.tmp 50, .tmp 52]) rfl ?_); at_builtin; refine Kd.R_append (Kd.int .i64) (w0 := w) w.heap.size rfl (.tmp 50) (.tmp 52) 35 2 (.int .i64 0) 8 rfl Try.underlying35 info2 rfl (by decide) (by omega) u3 x3_1 x4_2 [.int .i64 x4_2] (fun _ => True) (fun _ => False) rfl rfl ?aP (fun _ hk => hk.elim) ?aF ?aO ?aB ?aS ?aL ?_; (case aP => exact rfl); (case aB => exact (rb HB)); (case aF => exact (fun _ _ => trivial)); (case aO => exact (rr HO_3)); (case aS => exact (below_size (rb HB))); (case aL => have := LMc27.out; omega); intro v369 w28 ho hb hg hat; rw [← Ny368.out] at ho; replace HB := am (hb); have HO370 := am (ho); clear HO_3; clear ho hb hg hat)); try go_wp2_with (first | ((with_reducible refine gate_builtin (b := .append) (xs := #[.tmp 50, .tmp 52]) rfl ?_); at_builtin; refine Kd.R_append (Kd.int .i64) (w0 := w) w.heap.size rfl (.tmp 50) (.tmp 52) 35 2 (.int .i64 0) 8 rfl Try.underlying35 info2 rfl (by decide) (by omega) u3 x3_1 x4_2 [.int .i64 x4_2] (fun _ => True) (fun _ => False) rfl rfl ?aP (fun _ hk => hk.elim) ?aF ?aO ?aB ?aS ?aL ?_; (case aP => exact rfl); (case aB => exact (rb HB)); (case aF => exact (fun _ _ => trivial)); (case aO => exact (rr HO_3)); (case aS => exact (below_size (rb HB))); (case aL => have := LMc27.out; omega); intro v369 w28 ho hb hg hat; rw [← Ny368.out] at ho; replace HB := am (hb); have HO370 := am (ho); clear HO_3; clear ho hb hg hat)))
go_roundg k2
case measure => have := HK1.out; have := HK2.out; omega
case rel => exact ⟨(y368), (x4_2), (wrap64 (x5_1 + 1)), (by first | rfl | (simp; done) | (simp [*]; done)), (by first | rfl | (simp; done) | (simp [*]; done)), H', ⟨by have := HK1.out; have := HK2.out; omega⟩, ⟨rr HO370⟩, ⟨rb HB⟩⟩
)
)
)
)
·(
rw [if_neg c4] at H
have c4b0 : decide (x5_1 < (l0.length : Int)) = false := decide_eq_false c4
clear c4
obtain rfl := Option.some.inj H
go_wp2
repeat (go_quiet (fail); try go_wp2)
go_ret
exact ⟨_, by first | rfl | (simp [errW_none, errW_some] <;> rfl) | (simp [*, errW_none, errW_some] <;> rfl), by (with_reducible repeat (first | apply r1 | apply r2 | apply r3)); exact HO_3.out, by repeat (first | (with_reducible first | exact HB.out | apply b1 | apply b2 | apply b3) | exact HB.out)⟩
)
)
)
)

end Go.Proofs.Ytalopdcephohgaa.RA
