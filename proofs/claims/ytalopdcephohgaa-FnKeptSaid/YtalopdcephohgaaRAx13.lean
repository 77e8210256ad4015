/- Contracts of Go functions that laws of this seat reach: each Lean function answers as its Go function does. No condition. Written by wip/tools/inj.py, over the kit's print. -/
import Derived.Test.YtalopdcephohgaaRAx0
import Derived.Test.YtalopdcephohgaaRAx1
import Derived.Test.YtalopdcephohgaaRAx4
import Derived.Test.YtalopdcephohgaaRAx7
import Derived.Test.YtalopdcephohgaaRAx12
namespace Go.Proofs.Ytalopdcephohgaa.RA
open Go.RowKit Go.Proofs.YtalopdcephohgaaW.PrintWords Go.Proofs.YtalopdcephohgaaW.PrintLast Go.Proofs.YtalopdcephohgaaW.PrintMore
attribute [local go_sem] max2_int min2_int max_two min_two max_three min_three max_four min_four   -- for this text's walks alone
set_option linter.unusedVariables false
set_option linter.unusedSimpArgs false

/-! ### impl_Looked: function 14 -/
mutual
def impl_Looked.j0 : Nat → ByteArray → List Int → Bool → Int → List ByteArray → Int → Option (List Int)
 | 0, _, _, _, _, _, _ => none
 | k + 1, x1, x5, x21, x320000, x320001, x320002 => if x21 = true then (some x5) else (impl_Looked.l0 k x1 x5 x320001 (x320001.length : Int) 0 x320000 x320001 x320002)
def impl_Looked.l0 : Nat → ByteArray → List Int → List ByteArray → Int → Int → Int → List ByteArray → Int → Option (List Int)
 | 0, _, _, _, _, _, _, _, _ => none
 | k + 1, x1, x5, x24, x25, x26, x320000, x320001, x320002 => if x26 < x25 then (if 0 ≤ x26 then (if x26 < (x24.length : Int) then ((strings_Contains.f (rdOf ByteArray.empty x24 x26) x1).bind fun t325 => (if t325 = true then (if x5.length < 17592186044416 then (impl_Looked.l0 k x1 (x5 ++ [wrap64 (x320002 + x26)]) x24 x25 (wrap64 (x26 + 1)) x320000 x320001 x320002) else (none)) else (impl_Looked.l0 k x1 x5 x24 x25 (wrap64 (x26 + 1)) x320000 x320001 x320002))) else (none)) else (none)) else (some x5)
end
def impl_Looked.f (k : Nat) (a0_0 : Int) (l0_1 : List ByteArray) (a0_2 : Int) (a1 : ByteArray) : Option (List Int) := (some (([] : List Int) : List Int)).bind fun y320 => ((impl_HistoryOk.f k a0_0 l0_1 a0_2).bind fun t323 => (if t323 = true then (if (a1.size : Int) < 1 then (impl_Looked.j0 k a1 y320 true a0_0 l0_1 a0_2) else (impl_Looked.j0 k a1 y320 (decide ((a1.size : Int) > 100)) a0_0 l0_1 a0_2)) else (impl_Looked.j0 k a1 y320 true a0_0 l0_1 a0_2)))
theorem impl_Looked.mono_l : ∀ k, (∀ y0 y1 y2 y3 y4 y5, LeO (impl_Looked.j0 k y0 y1 y2 y3 y4 y5) (impl_Looked.j0 (k + 1) y0 y1 y2 y3 y4 y5)) ∧ (∀ y0 y1 y2 y3 y4 y5 y6 y7, LeO (impl_Looked.l0 k y0 y1 y2 y3 y4 y5 y6 y7) (impl_Looked.l0 (k + 1) y0 y1 y2 y3 y4 y5 y6 y7))
 | 0 => ⟨fun _ _ _ _ _ _ r h => by simp [impl_Looked.j0] at h, fun _ _ _ _ _ _ _ _ r h => by simp [impl_Looked.l0] at h⟩
 | k + 1 => by
  obtain ⟨ih0, ih1⟩ := impl_Looked.mono_l k
  refine ⟨?_, ?_⟩
  ·intro y0 y1 y2 y3 y4 y5
   unfold impl_Looked.j0
   repeat' first
   | (with_reducible exact ih0 _ _ _ _ _ _)
   | (with_reducible exact ih1 _ _ _ _ _ _ _ _)
   | (with_reducible exact impl_HistoryOk.mono _ _ _ _)
   | (with_reducible exact LeO.refl _)
   | (with_reducible exact LeO.none _)
   | (with_reducible refine LeO.ite ?_ ?_)
   | (with_reducible refine LeO.bind ?_ (fun _ => ?_))
  ·intro y0 y1 y2 y3 y4 y5 y6 y7
   unfold impl_Looked.l0
   repeat' first
   | (with_reducible exact ih0 _ _ _ _ _ _)
   | (with_reducible exact ih1 _ _ _ _ _ _ _ _)
   | (with_reducible exact impl_HistoryOk.mono _ _ _ _)
   | (with_reducible exact LeO.refl _)
   | (with_reducible exact LeO.none _)
   | (with_reducible refine LeO.ite ?_ ?_)
   | (with_reducible refine LeO.bind ?_ (fun _ => ?_))
theorem impl_Looked.mono : ∀ a0 a1 a2 a3 k, LeO (impl_Looked.f k a0 a1 a2 a3) (impl_Looked.f (k + 1) a0 a1 a2 a3) := by
 intro a0 a1 a2 a3 k
 obtain ⟨ih0, ih1⟩ := impl_Looked.mono_l k
 unfold impl_Looked.f
 repeat' first
   | (with_reducible exact ih0 _ _ _ _ _ _)
   | (with_reducible exact ih1 _ _ _ _ _ _ _ _)
   | (with_reducible exact impl_HistoryOk.mono _ _ _ _)
   | (with_reducible exact LeO.refl _)
   | (with_reducible exact LeO.none _)
   | (with_reducible refine LeO.ite ?_ ?_)
   | (with_reducible refine LeO.bind ?_ (fun _ => ?_))
set_option maxHeartbeats 8000000 in
set_option maxRecDepth 100000 in
theorem impl_Looked.calls (k : Nat) (a0_0 : Int) (A0_1 : Option Addr) (c0_1 : Nat) (l0_1 : List ByteArray) (a0_2 : Int) (a1 : ByteArray) (r : List Int) (w : World) (hr0_1 : Kd.C Kd.string w A0_1 l0_1.length l0_1) (hc0_1 : l0_1.length ≤ c0_1) (h : impl_Looked.f k a0_0 l0_1 a0_2 a1 = some r) (hT : TB w) :
  Calls Try.prog 14 #[.agg #[.int .i64 a0_0, .slice A0_1 l0_1.length c0_1, .int .i64 a0_2], .string a1] w fun e w' => ∃ v0_ : Value, e = .returned (v0_) ∧ Kd.R (Kd.int .i64) 2 w' w.heap.size (fun _ => True) v0_ r ∧ Below w.heap.size w w' := by
 (
have HT := am hT
clear hT
have hu26 := Try.underlying26
have HR0_1 := am hr0_1
have HC0_1 := am hc0_1
clear hr0_1 hc0_1
have HB := am (Below.refl w.heap.size w)
have H := h
unfold impl_Looked.f at H
clear h
obtain ⟨y320, hy320⟩ : ∃ y_ : List Int, y_ = (([] : List Int)) := ⟨_, rfl⟩
replace H : ((impl_HistoryOk.f k a0_0 l0_1 a0_2).bind fun t323 => (if t323 = true then (if (a1.size : Int) < 1 then (impl_Looked.j0 k a1 y320 true a0_0 l0_1 a0_2) else (impl_Looked.j0 k a1 y320 (decide ((a1.size : Int) > 100)) a0_0 l0_1 a0_2)) else (impl_Looked.j0 k a1 y320 true a0_0 l0_1 a0_2))) = some r := by first | (rw [hy320]; with_reducible exact H) | (rw [hy320]; exact H) | exact H
have Ny320 := am hy320
clear hy320
have HC3 := am H
clear H
go_enter Try.func14, Try.ntmps14
go_upto_region 2 with (first | ((with_reducible refine gate_dst (N := 2) rfl ?_); (try (refine gate_guard (by rfl) ?_; dsimp only)); refine box_event ?hg (N := 2) ?hd (cs := #[.int .i64 a0_0, .slice A0_1 l0_1.length c0_1, .int .i64 a0_2]) (t := 26) ?hr ?_; (case hd => rfl); (case hg => rfl); (case hr => first | (go_simp; done) | (go_simp; rfl)); intro gb319 hg w4 hbox hb; have BK319 := am (hbox); have GW319 := am (gw hg (rb HB)); have GE319 := GW319; replace HB := am (below_step (rb HB) hb); clear hb hbox hg) | ((with_reducible refine gate_dst (N := 8) rfl ?_); (try (refine gate_guard (by rfl) ?_; dsimp only)); refine Kd.R_lit (Kd.int .i64) _ 2 ?hg (N := 8) ?hd (xs := ([] : List Int)) (inner := []) (ok := fun _ => True) (okp := fun _ => True) ?hr ?hp (fun _ hk => hk) trivial (Below.refl _ _) (Nat.le_refl _) (by simp) ?_; (case hd => rfl); (case hg => rfl); (case hr => first | (go_simp; done) | (go_simp; rfl)); (case hp => exact (Reps.none _ _)); intro v321 w5 ho6 hb hg_ hnew_; clear hg_ hnew_; (first | rw [← Ny320.out] at ho6 | (simp only [Int.reduceToNat] at ho6; rw [← Ny320.out] at ho6)); have HO322 := am (Kd.R_lower ho6 (below_size (rb1 HB GE319))); replace BK319 := am (blk_below (rk BK319) hb); replace HB := am (below_step (rb1 HB GE319) hb); clear hb ho6))
(try simp only [Act.put, List.setIfInBounds_toArray, List.set_cons_zero, List.set_cons_succ])
go_cut [21] (fun v21 wc => ∃ (kq : Nat) (x21_2 : Bool), v21 = .bool x21_2 ∧ Aside0 (impl_Looked.j0 kq a1 y320 x21_2 a0_0 l0_1 a0_2 = some r) ∧ Aside0 (kq ≤ k) ∧ Aside0 (Kd.R (Kd.int .i64) 2 wc w.heap.size (fun _ => True) v321 y320) ∧ Aside0 (wc.heap[gb319]? = some (.cells #[.int .i64 a0_0, (.slice A0_1 l0_1.length c0_1), .int .i64 a0_2] 26 (0, 0))) ∧ Aside0 (Below w.heap.size w wc))
case first => (
have H := HC3.out
clear HC3
replace H := Option.bind_eq_some_iff.mp H
obtain ⟨t323, A70, H⟩ := H
(try dsimp only at H)
have A7 := am A70
clear A70
refine em_ (p := t323 = true) (fun c8 => ?g1p) (fun c8 => ?g1n)
case' g1p => (
subst c8
rw [if_pos rfl] at H
refine em_ (p := (a1.size : Int) < 1) (fun c9 => ?g0p) (fun c9 => ?g0n)
case' g0p => (
rw [if_pos c9] at H
have c9b0 : decide ((a1.size : Int) < 1) = true := decide_eq_true c9
have c9b1 : decide (a1.size < 1) = true := decide_eq_true (by omega)
clear c9
(first | rw [c9b0] | (simp only [i64_w, i32_w]; rw [c9b0]) | skip)
have H' := am H
clear H
have lf1_ := trivial
)
case' g0n => (
rw [if_neg c9] at H
have c9b0 : decide ((a1.size : Int) < 1) = false := decide_eq_false c9
have c9b1 : decide (a1.size < 1) = false := decide_eq_false (by omega)
clear c9
(first | rw [c9b0] | (simp only [i64_w, i32_w]; rw [c9b0]) | skip)
have H' := am H
clear H
have lf2_ := trivial
)
)
case' g1n => (
replace c8 := Bool.eq_false_iff.mpr c8
subst c8
rw [if_neg (show ¬ (false = true) by decide)] at H
have H' := am H
clear H
have lf3_ := trivial
)
all_goals (
have hcz10_0 : w5.cell? ⟨gb319, 0, none⟩ = some (.int .i64 a0_0) := (blk_cell BK319.out 0).trans rfl
have hcz10_1 : w5.cell? ⟨gb319, 1, none⟩ = some (.slice A0_1 l0_1.length c0_1) := (blk_cell BK319.out 1).trans rfl
have hcz10_2 : w5.cell? ⟨gb319, 2, none⟩ = some (.int .i64 a0_2) := (blk_cell BK319.out 2).trans rfl
have hfz10_0 := blk_frozen BK319.out 0
have hfz10_1 := blk_frozen BK319.out 1
have hfz10_2 := blk_frozen BK319.out 2
go_wp2_with (first | ((with_reducible refine gate_callee (f := 19) rfl ?_); refine gl_ (some 10) Try.func19 #[.agg #[.int .i64 a0_0, .slice A0_1 l0_1.length c0_1, .int .i64 a0_2]] ?_; (with_reducible refine (impl_HistoryOk.calls k a0_0 _ _ l0_1 a0_2 false _ ?side1 ?side2 A7.out).mono ?_); (case side1 => exact rc ((Kd.C_below HR0_1.out HB.out))); (case side2 => exact HC0_1.out); rintro e w15 ⟨rfl, hb⟩; refine ⟨_, rfl, ?_⟩; replace HO322 := am (Kd.R_below (rr HO322) hb); replace BK319 := am (blk_below (rk BK319) hb); replace HB := am (below_step (rb1 HB GE319) hb); (try clear hb); (try clear hb2); (try clear hk); (try clear hi)) | ((with_reducible refine gate_callee (f := 19) rfl ?_); refine gl_ (some 10) Try.func19 #[.agg #[.int .i64 a0_0, .slice A0_1 l0_1.length c0_1, .int .i64 a0_2]] ?_; (with_reducible refine (impl_HistoryOk.calls k a0_0 _ _ l0_1 a0_2 true _ ?side1 ?side2 A7.out).mono ?_); (case side1 => exact rc ((Kd.C_below HR0_1.out HB.out))); (case side2 => exact HC0_1.out); rintro e w11 ⟨rfl, hb⟩; refine ⟨_, rfl, ?_⟩; replace HO322 := am (Kd.R_below (rr HO322) hb); replace BK319 := am (blk_below (rk BK319) hb); replace HB := am (below_step (rb1 HB GE319) hb); (try clear hb); (try clear hb2); (try clear hk); (try clear hi)))
go_meet
first
| (
first | have q_ := lf1_ | have q_ := lf3_
case rel => exact ⟨_, (true), (by first | rfl | (simp; done) | (simp [*]; done)), H', ⟨by first | omega | exact Nat.le_refl _⟩, ⟨rr HO322⟩, ⟨rk BK319⟩, ⟨by repeat (first | (with_reducible first | exact HB.out | apply b1 | apply b2 | apply b3 | refine below_set ?_ GE319.out) | exact HB.out)⟩⟩
)
| (
have q_ := lf2_
case rel => exact ⟨_, (decide ((a1.size : Int) > 100)), (by first | rfl | (simp; done) | (simp [*]; done)), H', ⟨by first | omega | exact Nat.le_refl _⟩, ⟨rr HO322⟩, ⟨rk BK319⟩, ⟨by repeat (first | (with_reducible first | exact HB.out | apply b1 | apply b2 | apply b3 | refine below_set ?_ GE319.out) | exact HB.out)⟩⟩
)
)
)
case rest => (
clear HC3
try clear c1
try clear p2
try clear c8
try clear c9
try clear c9b0
try clear c9b1
try clear c14
try clear hcz10_0
try clear hcz10_1
try clear hcz10_2
try clear hcz12_0
try clear hcz12_1
try clear hcz12_2
try clear hcz14_0
try clear hcz14_1
try clear hcz14_2
try clear hfz10_0
try clear hfz10_1
try clear hfz10_2
try clear hfz12_0
try clear hfz12_1
try clear hfz12_2
try clear hfz14_0
try clear hfz14_1
try clear hfz14_2
obtain ⟨kq, x21_2, rfl, HA, HJ2, HO_5, BK319, HB⟩ := hcut
cases kq with
| zero => exact absurd HA.out (by simp [impl_Looked.j0])
| succ kj2 => (
have H := HA.out
clear HA
simp only [impl_Looked.j0] at H
by_cases c16 : x21_2 = true
·(
subst c16
have H1 : (some y320) = some r := by rw [if_pos rfl] at H; exact H
clear H
have H := H1
clear H1
obtain rfl := Option.some.inj H
go_wp2
go_ret
exact ⟨_, by first | rfl | (simp [errW_none, errW_some] <;> rfl) | (simp [*, errW_none, errW_some] <;> rfl), by (with_reducible repeat (first | apply r1 | apply r2 | apply r3)); exact HO_5.out, by repeat (first | (with_reducible first | exact HB.out | apply b1 | apply b2 | apply b3 | refine below_set ?_ GE319.out) | exact HB.out)⟩
)
·(
replace c16 := Bool.eq_false_iff.mpr c16
subst c16
rw [if_neg (show ¬ (false = true) by decide)] at H
have H' := am H
clear H
have hcz17_0 : wc.cell? ⟨gb319, 0, none⟩ = some (.int .i64 a0_0) := (blk_cell BK319.out 0).trans rfl
have hcz17_1 : wc.cell? ⟨gb319, 1, none⟩ = some (.slice A0_1 l0_1.length c0_1) := (blk_cell BK319.out 1).trans rfl
have hcz17_2 : wc.cell? ⟨gb319, 2, none⟩ = some (.int .i64 a0_2) := (blk_cell BK319.out 2).trans rfl
have hfz17_0 := blk_frozen BK319.out 0
have hfz17_1 := blk_frozen BK319.out 1
have hfz17_2 := blk_frozen BK319.out 2
go_wp2
go_loopg [5, 26] kj2 (fun kq v5 v26 w' => ∃ (x5_2 : List Int) (x26_2 : Int), v26 = .int .i64 x26_2 ∧ Aside0 (impl_Looked.l0 kq a1 x5_2 l0_1 (l0_1.length : Int) x26_2 a0_0 l0_1 a0_2 = some r) ∧ Aside0 (kq ≤ kj2) ∧ Aside0 (Kd.R (Kd.int .i64) 2 w' w.heap.size (fun _ => True) v5 x5_2) ∧ Aside0 (w'.heap[gb319]? = some (.cells #[.int .i64 a0_0, (.slice A0_1 l0_1.length c0_1), .int .i64 a0_2] 26 (0, 0))) ∧ Aside0 (Below w.heap.size w w'))
case atStart => exact ⟨(y320), (0), (by first | rfl | (simp; done) | (simp [*]; done)), H', ⟨Nat.le_refl _⟩, ⟨rr HO_5⟩, ⟨rk BK319⟩, ⟨by repeat (first | (with_reducible first | exact HB.out | apply b1 | apply b2 | apply b3 | refine below_set ?_ GE319.out) | exact HB.out)⟩⟩
case round => (
clear H'
try clear c1
try clear p2
try clear c8
try clear c9
try clear c9b0
try clear c9b1
try clear c14
try clear c16
try clear hcz10_0
try clear hcz10_1
try clear hcz10_2
try clear hcz12_0
try clear hcz12_1
try clear hcz12_2
try clear hcz14_0
try clear hcz14_1
try clear hcz14_2
try clear hcz17_0
try clear hcz17_1
try clear hcz17_2
try clear hfz10_0
try clear hfz10_1
try clear hfz10_2
try clear hfz12_0
try clear hfz12_1
try clear hfz12_2
try clear hfz14_0
try clear hfz14_1
try clear hfz14_2
try clear hfz17_0
try clear hfz17_1
try clear hfz17_2
try clear p2
obtain ⟨x5_2, x26_2, rfl, HA, HK2, HO_5, BK319, HB⟩ := hrel
cases gk with
| zero => exact absurd HA.out (by simp [impl_Looked.l0])
| succ k2 => (
have H := HA.out
clear HA
simp only [impl_Looked.l0] at H
refine em_ (p := x26_2 < (l0_1.length : Int)) (fun c18 => ?g3p) (fun c18 => ?g3n)
case g3p => (
rw [if_pos c18] at H
have c18b0 : decide (x26_2 < (l0_1.length : Int)) = true := decide_eq_true c18
clear c18
refine em_ (p := 0 ≤ x26_2) (fun c19 => ?g6p) (fun c19 => ?g6n)
case' g6p => (
rw [if_pos c19] at H
have c19b0 : decide (0 ≤ x26_2) = true := decide_eq_true c19
clear c19
refine em_ (p := x26_2 < (l0_1.length : Int)) (fun c20 => ?g5p) (fun c20 => ?g5n)
case' g5p => (
rw [if_pos c20] at H
have c20b0 : decide (x26_2 < (l0_1.length : Int)) = true := decide_eq_true c20
clear c20
replace H := Option.bind_eq_some_iff.mp H
obtain ⟨t325, A210, H⟩ := H
(try dsimp only at H)
have A21 := am A210
clear A210
refine em_ (p := t325 = true) (fun c22 => ?g4p) (fun c22 => ?g4n)
case g4p => (
subst c22
rw [if_pos rfl] at H
refine em_ (p := x5_2.length < 17592186044416) (fun c23 => ?g2p) (fun c23 => ?g2n)
case' g2p => (
rw [if_pos c23] at H
have LMc23 := am c23
clear c23
obtain ⟨y326, hy326⟩ : ∃ y_ : List Int, y_ = (x5_2 ++ [wrap64 (a0_2 + x26_2)]) := ⟨_, rfl⟩
replace H : (impl_Looked.l0 k2 a1 y326 l0_1 (l0_1.length : Int) (wrap64 (x26_2 + 1)) a0_0 l0_1 a0_2) = some r := by first | (rw [hy326]; with_reducible exact H) | (rw [hy326]; exact H) | exact H
have Ny326 := am hy326
clear hy326
have H' := am H
clear H
have lf6_ := trivial
)
case g2n => (
rw [if_neg c23] at H
exact absurd H (by simp)
)
all_goals (
have p324 : 0 ≤ (x26_2 : Int) := dt_
have q324 : x26_2 < (l0_1.length : Int) := dt_
obtain ⟨ad324, e324, hx324_0⟩ := Kd.at_string HR0_1.out x26_2 p324 q324
cases e324
replace hx324_0 := mv HB.out hx324_0
replace p324 := eq_true p324
replace q324 := eq_true q324
go_wp2_with (first | ((with_reducible refine gate_callee (f := 55) rfl ?_); refine gl_ (some 33) Try.func55 #[.string (rdOf ByteArray.empty l0_1 x26_2), .string a1] ?_; (with_reducible refine (strings_Contains.calls (rdOf ByteArray.empty l0_1 x26_2) a1 true _ A21.out ?sideT).mono ?_); (case sideT => exact TB.below HT.out (rb1 HB GE319)); rintro e w24 ⟨rfl, hb⟩; refine ⟨_, rfl, ?_⟩; replace HO_5 := am (Kd.R_below (rr HO_5) hb); replace BK319 := am (blk_below (rk BK319) hb); replace HB := am (below_step (rb1 HB GE319) hb); (try clear hb); (try clear hb2); (try clear hk); (try clear hi); have hcz25_0 : w24.cell? ⟨gb319, 0, none⟩ = some (.int .i64 a0_0) := (blk_cell BK319.out 0).trans rfl; have hcz25_1 : w24.cell? ⟨gb319, 1, none⟩ = some (.slice (some ad324) l0_1.length c0_1) := (blk_cell BK319.out 1).trans rfl; have hcz25_2 : w24.cell? ⟨gb319, 2, none⟩ = some (.int .i64 a0_2) := (blk_cell BK319.out 2).trans rfl; have hfz25_0 := blk_frozen BK319.out 0; have hfz25_1 := blk_frozen BK319.out 1; have hfz25_2 := blk_frozen BK319.out 2) | ((with_reducible refine gate_builtin (b := .append) (xs := #[.tmp 34, .tmp 39]) rfl ?_); (try (refine gate_guard (by rfl) ?_; dsimp only)); at_builtin; refine Kd.R_append (Kd.int .i64) (w0 := w) w.heap.size rfl (.tmp 34) (.tmp 39) 35 2 (.int .i64 0) 8 rfl Try.underlying35 info2 rfl (by decide) (by omega) u5 x5_2 (wrap64 (a0_2 + x26_2)) [.int .i64 (wrap64 (a0_2 + x26_2))] (fun _ => True) (fun _ => False) rfl rfl ?aP (fun _ hk => hk.elim) ?aF ?aO ?aB ?aS ?aL ?_; (case aP => exact rfl); (case aB => exact (rb1 HB GE319)); (case aF => exact (fun _ _ => trivial)); (case aO => exact (rr HO_5)); (case aS => exact (below_size (rb1 HB GE319))); (case aL => have := LMc23.out; omega); intro v327 w26 ho hb hg hat; rw [← Ny326.out] at ho; replace BK319 := am (blk_grown (rk BK319) hg (Kd.R_ne HO_5.out BK319.out (by decide))); replace HB := am (hb); have HO328 := am (ho); clear HO_5; clear ho hb hg hat))
go_roundg k2
case measure => have := HJ2.out; have := HK2.out; omega
case rel => exact ⟨(y326), (wrap64 (x26_2 + 1)), (by first | rfl | (simp; done) | (simp [*]; done)), H', ⟨by have := HJ2.out; have := HK2.out; omega⟩, ⟨rr HO328⟩, ⟨rk BK319⟩, ⟨by repeat (first | (with_reducible first | exact HB.out | apply b1 | apply b2 | apply b3 | refine below_set ?_ GE319.out) | exact HB.out)⟩⟩
)
)
case' g4n => (
replace c22 := Bool.eq_false_iff.mpr c22
subst c22
rw [if_neg (show ¬ (false = true) by decide)] at H
have H' := am H
clear H
have lf9_ := trivial
)
)
case g5n => (
rw [if_neg c20] at H
exact absurd H (by simp)
)
)
case g6n => (
rw [if_neg c19] at H
exact absurd H (by simp)
)
all_goals (
have p324 : 0 ≤ (x26_2 : Int) := dt_
have q324 : x26_2 < (l0_1.length : Int) := dt_
obtain ⟨ad324, e324, hx324_0⟩ := Kd.at_string HR0_1.out x26_2 p324 q324
cases e324
replace hx324_0 := mv HB.out hx324_0
replace p324 := eq_true p324
replace q324 := eq_true q324
go_wp2_with (first | ((with_reducible refine gate_callee (f := 55) rfl ?_); refine gl_ (some 33) Try.func55 #[.string (rdOf ByteArray.empty l0_1 x26_2), .string a1] ?_; (with_reducible refine (strings_Contains.calls (rdOf ByteArray.empty l0_1 x26_2) a1 false _ A21.out ?sideT).mono ?_); (case sideT => exact TB.below HT.out (rb1 HB GE319)); rintro e w27 ⟨rfl, hb⟩; refine ⟨_, rfl, ?_⟩; replace HO_5 := am (Kd.R_below (rr HO_5) hb); replace BK319 := am (blk_below (rk BK319) hb); replace HB := am (below_step (rb1 HB GE319) hb); (try clear hb); (try clear hb2); (try clear hk); (try clear hi)))
go_roundg k2
case measure => have := HJ2.out; have := HK2.out; omega
case rel => exact ⟨(x5_2), (wrap64 (x26_2 + 1)), (by first | rfl | (simp; done) | (simp [*]; done)), H', ⟨by have := HJ2.out; have := HK2.out; omega⟩, ⟨rr HO_5⟩, ⟨rk BK319⟩, ⟨by repeat (first | (with_reducible first | exact HB.out | apply b1 | apply b2 | apply b3 | refine below_set ?_ GE319.out) | exact HB.out)⟩⟩
)
)
case' g3n => (
rw [if_neg c18] at H
have c18b0 : decide (x26_2 < (l0_1.length : Int)) = false := decide_eq_false c18
clear c18
obtain rfl := Option.some.inj H
have lf8_ := trivial
)
all_goals (
go_wp2
go_ret
exact ⟨_, by first | rfl | (simp [errW_none, errW_some] <;> rfl) | (simp [*, errW_none, errW_some] <;> rfl), by (with_reducible repeat (first | apply r1 | apply r2 | apply r3)); exact HO_5.out, by repeat (first | (with_reducible first | exact HB.out | apply b1 | apply b2 | apply b3 | refine below_set ?_ GE319.out) | exact HB.out)⟩
)
)
)
)
)
)
)

/-! ### spec_DrawNewHistory: function 15 -/
def spec_DrawNewHistory.f (k : Nat) (l0 : List Int) : Option (Int) := (spec_l1New.f k l0).bind fun bt329 => ((some (([0, 1, 9, 200, 201, (-9223372036854775808)] : List Int) : List Int)).bind fun y333 => ((spec_l1Below.f bt329.1 bt329.2.1 bt329.2.2 6).bind fun bt336 => (if 0 ≤ bt336.1 then (if bt336.1 < (y333.length : Int) then (some (rd y333 bt336.1)) else (none)) else (none))))
theorem spec_DrawNewHistory.mono : ∀ a0 k, LeO (spec_DrawNewHistory.f k a0) (spec_DrawNewHistory.f (k + 1) a0) := by
 intro a0 k
 unfold spec_DrawNewHistory.f
 repeat' first
   | (with_reducible exact spec_l1New.mono _ _)
   | (with_reducible exact LeO.refl _)
   | (with_reducible exact LeO.none _)
   | (with_reducible refine LeO.ite ?_ ?_)
   | (with_reducible refine LeO.bind ?_ (fun _ => ?_))
set_option maxHeartbeats 8000000 in
set_option maxRecDepth 100000 in
theorem spec_DrawNewHistory.calls (k : Nat) (A0 : Option Addr) (c0 : Nat) (l0 : List Int) (r : Int) (w : World) (hr0 : Kd.C (Kd.int .u8) w A0 l0.length l0) (hc0 : l0.length ≤ c0) (h : spec_DrawNewHistory.f k l0 = some r) :
  Calls Try.prog 15 #[.slice A0 l0.length c0] w fun e w' => e = .returned (.int .i64 r) ∧ Below w.heap.size w w' := by
 (
have HR0 := am hr0
have HC0 := am hc0
clear hr0 hc0
have HB := am (Below.refl w.heap.size w)
have H := h
unfold spec_DrawNewHistory.f at H
clear h
replace H := Option.bind_eq_some_iff.mp H
obtain ⟨⟨t329, t330, t331⟩, A20, H⟩ := H
(try dsimp only at H)
have A2 := am A20
clear A20
obtain ⟨y333, hy333⟩ : ∃ y_ : List Int, y_ = (([0, 1, 9, 200, 201, (-9223372036854775808)] : List Int)) := ⟨_, rfl⟩
replace H : ((spec_l1Below.f t329 t330 t331 6).bind fun bt336 => (if 0 ≤ bt336.1 then (if bt336.1 < (y333.length : Int) then (some (rd y333 bt336.1)) else (none)) else (none))) = some r := by first | (rw [hy333]; with_reducible exact H) | (rw [hy333]; exact H) | exact H
have Ny333 := am hy333
clear hy333
replace H := Option.bind_eq_some_iff.mp H
obtain ⟨⟨t336, t337, t338⟩, A30, H⟩ := H
(try dsimp only at H)
have A3 := am A30
clear A30
by_cases c4 : 0 ≤ t336
·(
rw [if_pos c4] at H
have c4b0 : decide (0 ≤ t336) = true := decide_eq_true c4
clear c4
by_cases c5 : t336 < (y333.length : Int)
·(
rw [if_pos c5] at H
have c5b0 : decide (t336 < (y333.length : Int)) = true := decide_eq_true c5
clear c5
obtain rfl := Option.some.inj H
go_enter Try.func15, Try.ntmps15
go_wp2_with (first | ((with_reducible refine gate_callee (f := 49) rfl ?_); refine gl_ (some 5) Try.func49 #[.slice A0 l0.length c0] ?_; (with_reducible refine (spec_l1New.calls k _ _ l0 t329 t330 t331 w _ ?side1 ?side2 ?side3 A2.out).mono ?_); (case side1 => repeat (first | (with_reducible first | exact HB.out | apply b1 | apply b2 | apply b3) | exact HB.out)); (case side2 => exact HR0.out); (case side3 => exact HC0.out); rintro e w6 ⟨g332, rfl, hi, hb, hb2⟩; refine ⟨_, rfl, ?_⟩; replace HB := am (hb); have HI332 := am (hi); (try clear hb); (try clear hb2); (try clear hk); (try clear hi)) | ((with_reducible refine gate_dst (N := 6) rfl ?_); refine Kd.R_lit (Kd.int .i64) _ 2 ?hg (N := 6) ?hd (xs := ([0, 1, 9, 200, 201, (-9223372036854775808)] : List Int)) (inner := [.int .i64 0, .int .i64 1, .int .i64 9, .int .i64 200, .int .i64 201, .int .i64 (-9223372036854775808)]) (ok := fun _ => True) (okp := fun _ => True) ?hr ?hp (fun _ hk => hk) trivial (Below.refl _ _) (Nat.le_refl _) (by simp) ?_; (case hd => rfl); (case hg => rfl); (case hr => first | (go_simp; done) | (go_simp; rfl)); (case hp => exact (Reps.one (show Kd.M (Kd.int .i64) _ _ _ 0 [.int .i64 0] from rfl) (Reps.one (show Kd.M (Kd.int .i64) _ _ _ 1 [.int .i64 1] from rfl) (Reps.one (show Kd.M (Kd.int .i64) _ _ _ 9 [.int .i64 9] from rfl) (Reps.one (show Kd.M (Kd.int .i64) _ _ _ 200 [.int .i64 200] from rfl) (Reps.one (show Kd.M (Kd.int .i64) _ _ _ 201 [.int .i64 201] from rfl) (Reps.one (show Kd.M (Kd.int .i64) _ _ _ (-9223372036854775808) [.int .i64 (-9223372036854775808)] from rfl) (Reps.none _ _)))))))); intro v334 w7 ho8 hb hg_ hnew_; clear hg_ hnew_; (first | rw [← Ny333.out] at ho8 | (simp only [Int.reduceToNat] at ho8; rw [← Ny333.out] at ho8)); have HO335 := am (Kd.R_lower ho8 (below_size (rbi118 HB HI332 IsS118.ge))); replace HB := am (below_step (rbi118 HB HI332 IsS118.ge) hb); replace HI332 := am (IsS118.below (ri118 HI332) hb); clear hb ho8) | ((with_reducible refine gate_callee (f := 52) rfl ?_); refine gl_ (some 8) Try.func52 #[.pointer (some ⟨g332, 0, none⟩), .int .i64 6] ?_; (with_reducible refine (spec_l1Below.calls g332 t329 t330 t331 6 t336 t337 t338 w _ ?side1 ?side2 A3.out).mono ?_); (case side1 => exact ri118 HI332); (case side2 => exact rbi118 HB HI332 IsS118.ge); rintro e w9 ⟨rfl, hi, hb, hk⟩; refine ⟨_, rfl, ?_⟩; replace HO335 := am (Kd.R_mono (Kd.R_keep (IsS118.apart (show IsS118 w _ g332 t329 t330 t331 from ri118 HI332) (rr HO335) (by decide)) hk (fun _ h => h.2)) (fun _ h => h.1)); replace HB := am (hb); replace HI332 := am (hi); (try clear hb); (try clear hb2); (try clear hk); (try clear hi); obtain ⟨Ao10, co10, eo10⟩ := Kd.R_slice HO335.out; subst eo10; have p339 : 0 ≤ (t336 : Int) := dt_; have q339 : t336 < (y333.length : Int) := dt_; obtain ⟨ad339, e339, hx339_0⟩ := Kd.at_int (Kd.R_reads' HO335.out).2.2 t336 p339 q339; cases e339; replace p339 := eq_true p339; replace q339 := eq_true q339))
go_ret
exact ⟨by first | rfl | (simp [errW_none, errW_some] <;> rfl) | (simp [*, errW_none, errW_some] <;> rfl), rbi118 HB HI332 IsS118.ge⟩
)
·(
rw [if_neg c5] at H
exact absurd H (by simp)
)
)
·(
rw [if_neg c4] at H
exact absurd H (by simp)
)
)

/-! ### impl_NewHistory: function 16 -/
def impl_NewHistory.f (a0 : Int) : Option (Int × List ByteArray × Int × Bool) := (impl_in.f a0 1 200).bind fun t341 => (if t341 = true then (some (a0, ([] : List ByteArray), 0, true)) else (some (0, ([] : List ByteArray), 0, false)))
set_option maxHeartbeats 8000000 in
set_option maxRecDepth 100000 in
theorem impl_NewHistory.calls (a0 : Int) (r1 : Int) (r2 : List ByteArray) (r3 : Int) (r4 : Bool) (w : World) (h : impl_NewHistory.f a0 = some (r1, r2, r3, r4)) :
  Calls Try.prog 16 #[.int .i64 a0] w fun e w' => ∃ v1_ : Value, e = .returned (.tuple #[.agg #[.int .i64 r1, v1_, .int .i64 r3], .bool r4]) ∧ Kd.R Kd.string 9 w' w.heap.size (fun _ => True) v1_ r2 ∧ Below w.heap.size w w' := by
 (
have hu26 := Try.underlying26
have HB := am (Below.refl w.heap.size w)
have H := h
unfold impl_NewHistory.f at H
clear h
replace H := Option.bind_eq_some_iff.mp H
obtain ⟨t341, A20, H⟩ := H
(try dsimp only at H)
have A2 := am A20
clear A20
refine em_ (p := t341 = true) (fun c3 => ?g7p) (fun c3 => ?g7n)
case' g7p => (
subst c3
have H1 : (some (a0, ([] : List ByteArray), 0, true)) = some (r1, r2, r3, r4) := by rw [if_pos rfl] at H; exact H
clear H
have H := H1
clear H1
simp only [Option.some.injEq, Prod.mk.injEq] at H
obtain ⟨rfl, rfl, rfl, rfl⟩ := H
have lf10_ := trivial
)
case' g7n => (
replace c3 := Bool.eq_false_iff.mpr c3
subst c3
rw [if_neg (show ¬ (false = true) by decide)] at H
simp only [Option.some.injEq, Prod.mk.injEq] at H
obtain ⟨rfl, rfl, rfl, rfl⟩ := H
have lf11_ := trivial
)
all_goals (
go_enter Try.func16, Try.ntmps16
go_wp2_with (first | ((with_reducible refine gate_callee (f := 56) rfl ?_); refine gl_ (some 5) Try.func56 #[.int .i64 a0, .int .i64 1, .int .i64 200] ?_; (with_reducible refine (impl_in.calls a0 1 200 false _ A2.out).mono ?_); rintro e w' ⟨rfl, ⟨nd, rfl⟩⟩; refine ⟨_, rfl, ?_⟩; (try (rw [drewN_self w4]; generalize hq_ : World.drewN w4 _ = w4; have n0_ : Aside0 (w4.heap[gb340]? = some (.cells #[.int .i64 0, .slice none 0 0, .int .i64 0] 26 (0, 0))) := ⟨by rw [← hq_]; exact (rk BK340)⟩; have n1_ : Aside0 (Below w.heap.size w w4) := ⟨by rw [← hq_]; exact (rb1 HB GE340)⟩; clear BK340 HB hq_; have BK340 := n0_; have HB := n1_; clear n0_ n1_)); have hcz7_0 : w4.cell? ⟨gb340, 0, none⟩ = some (.int .i64 0) := (blk_cell BK340.out 0).trans rfl; have hcz7_1 : w4.cell? ⟨gb340, 1, none⟩ = some (.slice none 0 0) := (blk_cell BK340.out 1).trans rfl; have hcz7_2 : w4.cell? ⟨gb340, 2, none⟩ = some (.int .i64 0) := (blk_cell BK340.out 2).trans rfl; have hfz7_0 := blk_frozen BK340.out 0; have hfz7_1 := blk_frozen BK340.out 1; have hfz7_2 := blk_frozen BK340.out 2) | ((with_reducible refine gate_callee (f := 56) rfl ?_); refine gl_ (some 5) Try.func56 #[.int .i64 a0, .int .i64 1, .int .i64 200] ?_; (with_reducible refine (impl_in.calls a0 1 200 true _ A2.out).mono ?_); rintro e w' ⟨rfl, ⟨nd, rfl⟩⟩; refine ⟨_, rfl, ?_⟩; (try (rw [drewN_self w4]; generalize hq_ : World.drewN w4 _ = w4; have n0_ : Aside0 (w4.heap[gb340]? = some (.cells #[.int .i64 0, .slice none 0 0, .int .i64 0] 26 (0, 0))) := ⟨by rw [← hq_]; exact (rk BK340)⟩; have n1_ : Aside0 (Below w.heap.size w w4) := ⟨by rw [← hq_]; exact (rb1 HB GE340)⟩; clear BK340 HB hq_; have BK340 := n0_; have HB := n1_; clear n0_ n1_)); have hcz5_0 : w4.cell? ⟨gb340, 0, none⟩ = some (.int .i64 0) := (blk_cell BK340.out 0).trans rfl; have hcz5_1 : w4.cell? ⟨gb340, 1, none⟩ = some (.slice none 0 0) := (blk_cell BK340.out 1).trans rfl; have hcz5_2 : w4.cell? ⟨gb340, 2, none⟩ = some (.int .i64 0) := (blk_cell BK340.out 2).trans rfl; have hfz5_0 := blk_frozen BK340.out 0; have hfz5_1 := blk_frozen BK340.out 1; have hfz5_2 := blk_frozen BK340.out 2) | ((with_reducible refine gate_dst (N := 2) rfl ?_); refine box_event ?hg (N := 2) ?hd (cs := #[.int .i64 0, .slice none 0 0, .int .i64 0]) (t := 26) ?hr ?_; (case hd => rfl); (case hg => rfl); (case hr => first | (go_simp; done) | (go_simp; rfl)); intro gb340 hg w4 hbox hb; have BK340 := am (hbox); have GW340 := am (gw hg (rb HB)); have GE340 := GW340; replace HB := am (below_step (rb HB) hb); clear hb hbox hg))
first
| (
have q_ := lf10_
refine bodyPost_ret (results_ct rfl _ _ gb340 26 #[.int .i64 a0, .slice none 0 0, .int .i64 0] (0, 0) _ rfl (rp_0_1_2 BK340) Try.underlying26 rfl (by kernel_rfl)) rfl ?_
exact ⟨_, by first | rfl | (simp [errW_none, errW_some] <;> rfl) | (simp [*, errW_none, errW_some] <;> rfl), by first | exact Kd.R_nil _ _ _ _ _ | exact Kd.N_nil _ _ _ _ _ | exact Kd.V_nil _ _ _ _ _ | exact Kd.Q_nil _ _ _ _ _ | exact Kd.S_nil _ _ _ _ _, by repeat (first | (with_reducible first | exact HB.out | apply b1 | apply b2 | apply b3 | refine below_set ?_ GE340.out) | exact HB.out)⟩
)
| (
have q_ := lf11_
refine bodyPost_ret (results_ct rfl _ _ gb340 26 #[.int .i64 0, .slice none 0 0, .int .i64 0] (0, 0) _ rfl (rp_0_1_2 BK340) Try.underlying26 rfl (by kernel_rfl)) rfl ?_
exact ⟨_, by first | rfl | (simp [errW_none, errW_some] <;> rfl) | (simp [*, errW_none, errW_some] <;> rfl), by first | exact Kd.R_nil _ _ _ _ _ | exact Kd.N_nil _ _ _ _ _ | exact Kd.V_nil _ _ _ _ _ | exact Kd.Q_nil _ _ _ _ _ | exact Kd.S_nil _ _ _ _ _, by repeat (first | (with_reducible first | exact HB.out | apply b1 | apply b2 | apply b3 | refine below_set ?_ GE340.out) | exact HB.out)⟩
)
)
)

end Go.Proofs.Ytalopdcephohgaa.RA
