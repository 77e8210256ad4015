/- Contracts of Go functions that laws of this seat reach: each Lean function answers as its Go function does. No condition. Written by wip/tools/inj.py, over the kit's print. -/
import Derived.Test.YtalopdcephohgaaRAx0
import Derived.Test.YtalopdcephohgaaRAx2
import Derived.Test.YtalopdcephohgaaRAx16
namespace Go.Proofs.Ytalopdcephohgaa.RA
open Go.RowKit Go.Proofs.YtalopdcephohgaaW.PrintWords Go.Proofs.YtalopdcephohgaaW.PrintLast Go.Proofs.YtalopdcephohgaaW.PrintMore
attribute [local go_sem] max2_int min2_int max_two min_two max_three min_three max_four min_four   -- for this text's walks alone
set_option linter.unusedVariables false
set_option linter.unusedSimpArgs false

/-! ### spec_l12Bytes: function 62 -/
def spec_l12Bytes.l0 : Nat → ByteArray → List Int → Int → Option (List Int)
 | 0, _, _, _ => none
 | k + 1, x0, x3, x4 => if x4 < (x0.size : Int) then (if 0 ≤ x4 then (if x3.length < 17592186044416 then (spec_l12Bytes.l0 k x0 (x3 ++ [wrap64 (bt x0 x4)]) (wrap64 (x4 + 1))) else (none)) else (none)) else (some x3)
def spec_l12Bytes.f (k : Nat) (a0 : ByteArray) : Option (List Int) := spec_l12Bytes.l0 k a0 (([] : List Int)) 0
theorem spec_l12Bytes.mono_l : ∀ k, (∀ y0 y1 y2, LeO (spec_l12Bytes.l0 k y0 y1 y2) (spec_l12Bytes.l0 (k + 1) y0 y1 y2))
 | 0 => fun _ _ _ r h => by simp [spec_l12Bytes.l0] at h
 | k + 1 => by
  have ih0 := spec_l12Bytes.mono_l k
  ·intro y0 y1 y2
   unfold spec_l12Bytes.l0
   repeat' first
   | (with_reducible exact ih0 _ _ _)
   | (with_reducible exact LeO.refl _)
   | (with_reducible exact LeO.none _)
   | (with_reducible refine LeO.ite ?_ ?_)
   | (with_reducible refine LeO.bind ?_ (fun _ => ?_))
theorem spec_l12Bytes.mono : ∀ a0 k, LeO (spec_l12Bytes.f k a0) (spec_l12Bytes.f (k + 1) a0) := by
 intro a0 k
 have ih0 := spec_l12Bytes.mono_l k
 unfold spec_l12Bytes.f
 repeat' first
   | (with_reducible exact ih0 _ _ _)
   | (with_reducible exact LeO.refl _)
   | (with_reducible exact LeO.none _)
   | (with_reducible refine LeO.ite ?_ ?_)
   | (with_reducible refine LeO.bind ?_ (fun _ => ?_))
set_option maxHeartbeats 8000000 in
set_option maxRecDepth 100000 in
theorem spec_l12Bytes.calls (k : Nat) (a0 : ByteArray) (r : List Int) (w : World) (h : spec_l12Bytes.f k a0 = some r) :
  Calls Try.prog 62 #[.string a0] w fun e w' => ∃ v0_ : Value, e = .returned (v0_) ∧ Kd.R (Kd.int .i64) 2 w' w.heap.size (fun _ => True) v0_ r ∧ Below w.heap.size w w' := by
 (
have HB := am (Below.refl w.heap.size w)
have H : (spec_l12Bytes.l0 k a0 (([] : List Int)) 0) = some r := h
clear h
obtain ⟨y389, hy389⟩ : ∃ y_ : List Int, y_ = (([] : List Int)) := ⟨_, rfl⟩
replace H : (spec_l12Bytes.l0 k a0 y389 0) = some r := by first | (rw [hy389]; with_reducible exact H) | (rw [hy389]; exact H) | exact H
have Ny389 := am hy389
clear hy389
have H' := am H
clear H
go_enter Try.func62, Try.ntmps62
go_wp2_with (first | ((with_reducible refine gate_dst (N := 5) rfl ?_); refine Kd.R_lit (Kd.int .i64) _ 2 ?hg (N := 5) ?hd (xs := ([] : List Int)) (inner := []) (ok := fun _ => True) (okp := fun _ => True) ?hr ?hp (fun _ hk => hk) trivial (Below.refl _ _) (Nat.le_refl _) (by simp) ?_; (case hd => rfl); (case hg => rfl); (case hr => first | (go_simp; done) | (go_simp; rfl)); (case hp => exact (Reps.none _ _)); intro v390 w2 ho3 hb hg_ hnew_; clear hg_ hnew_; (first | rw [← Ny389.out] at ho3 | (simp only [Int.reduceToNat] at ho3; rw [← Ny389.out] at ho3)); have HO391 := am (Kd.R_lower ho3 (below_size (rb HB))); replace HB := am (below_step (rb HB) hb); clear hb ho3))
go_loopg [3, 4] k (fun kq v3 v4 w' => ∃ (x3_1 : List Int) (x4_1 : Int), v4 = .int .i64 x4_1 ∧ Aside0 (spec_l12Bytes.l0 kq a0 x3_1 x4_1 = some r) ∧ Aside0 (kq ≤ k) ∧ Aside0 (Kd.R (Kd.int .i64) 2 w' w.heap.size (fun _ => True) v3 x3_1) ∧ Aside0 (Below w.heap.size w w'))
case atStart => exact ⟨(y389), (0), (by first | rfl | (simp; done) | (simp [*]; done)), H', ⟨Nat.le_refl _⟩, ⟨rr HO391⟩, ⟨rb HB⟩⟩
case round => (
clear H'
try clear p2
obtain ⟨x3_1, x4_1, rfl, HA, HK1, HO_3, HB⟩ := hrel
cases gk with
| zero => exact absurd HA.out (by simp [spec_l12Bytes.l0])
| succ k1 => (
have H := HA.out
clear HA
simp only [spec_l12Bytes.l0] at H
by_cases c4 : x4_1 < (a0.size : Int)
·(
rw [if_pos c4] at H
have c4b0 : decide (x4_1 < (a0.size : Int)) = true := decide_eq_true c4
clear c4
by_cases c5 : 0 ≤ x4_1
·(
rw [if_pos c5] at H
have c5b0 : decide (0 ≤ x4_1) = true := decide_eq_true c5
clear c5
by_cases c7 : x3_1.length < 17592186044416
·(
rw [if_pos c7] at H
have LMc7 := am c7
clear c7
obtain ⟨y392, hy392⟩ : ∃ y_ : List Int, y_ = (x3_1 ++ [wrap64 (bt a0 x4_1)]) := ⟨_, rfl⟩
replace H : (spec_l12Bytes.l0 k1 a0 y392 (wrap64 (x4_1 + 1))) = some r := by first | (rw [hy392]; with_reducible exact H) | (rw [hy392]; exact H) | exact H
have Ny392 := am hy392
clear hy392
have H' := am H
clear H
have p6 : 0 ≤ (x4_1 : Int) := dt_
have q6 : x4_1 < (a0.size : Int) := dt_
have hx6 := bt_at a0 x4_1
replace p6 := eq_true p6
replace q6 := eq_true q6
go_wp2_with (first | ((with_reducible refine gate_builtin (b := .append) (xs := #[.tmp 12, .tmp 17]) rfl ?_); at_builtin; refine Kd.R_append (Kd.int .i64) (w0 := w) w.heap.size rfl (.tmp 12) (.tmp 17) 35 2 (.int .i64 0) 8 rfl Try.underlying35 info2 rfl (by decide) (by omega) u3 x3_1 (wrap64 (bt a0 x4_1)) [.int .i64 (wrap64 (bt a0 x4_1))] (fun _ => True) (fun _ => False) rfl rfl ?aP (fun _ hk => hk.elim) ?aF ?aO ?aB ?aS ?aL ?_; (case aP => exact rfl); (case aB => exact (rb HB)); (case aF => exact (fun _ _ => trivial)); (case aO => exact (rr HO_3)); (case aS => exact (below_size (rb HB))); (case aL => have := LMc7.out; omega); intro v393 w8 ho hb hg hat; rw [← Ny392.out] at ho; replace HB := am (hb); have HO394 := am (ho); clear HO_3; clear ho hb hg hat))
go_roundg k1
case measure => have := HK1.out; omega
case rel => exact ⟨(y392), (wrap64 (x4_1 + 1)), (by first | rfl | (simp; done) | (simp [*]; done)), H', ⟨by have := HK1.out; omega⟩, ⟨rr HO394⟩, ⟨rb HB⟩⟩
)
·(
rw [if_neg c7] at H
exact absurd H (by simp)
)
)
·(
rw [if_neg c5] at H
exact absurd H (by simp)
)
)
·(
rw [if_neg c4] at H
have c4b0 : decide (x4_1 < (a0.size : Int)) = false := decide_eq_false c4
clear c4
obtain rfl := Option.some.inj H
go_wp2
go_ret
exact ⟨_, by first | rfl | (simp [errW_none, errW_some] <;> rfl) | (simp [*, errW_none, errW_some] <;> rfl), by (with_reducible repeat (first | apply r1 | apply r2 | apply r3)); exact HO_3.out, by repeat (first | (with_reducible first | exact HB.out | apply b1 | apply b2 | apply b3) | exact HB.out)⟩
)
)
)
)

/-! ### spec_Looked: function 22 -/
mutual
def spec_Looked.j0 : Nat → ByteArray → List Int → Bool → Int → List ByteArray → Int → Option (List Int)
 | 0, _, _, _, _, _, _ => none
 | k + 1, x1, x5, x20, x396000, x396001, x396002 => if x20 = true then (some x5) else (spec_Looked.l0 k x1 x5 0 x396000 x396001 x396002)
def spec_Looked.l0 : Nat → ByteArray → List Int → Int → Int → List ByteArray → Int → Option (List Int)
 | 0, _, _, _, _, _, _ => none
 | k + 1, x1, x5, x6, x396000, x396001, x396002 => if x6 < (x396001.length : Int) then (if 0 ≤ x6 then ((spec_l12Bytes.f k (rdOf ByteArray.empty x396001 x6)).bind fun t401 => ((spec_l12Bytes.f k x1).bind fun t404 => ((spec_l11Places.f k t401 t404).bind fun t407 => (if (t407.length : Int) > 0 then (if x5.length < 17592186044416 then (spec_Looked.l0 k x1 (x5 ++ [wrap64 (x396002 + x6)]) (wrap64 (x6 + 1)) x396000 x396001 x396002) else (none)) else (spec_Looked.l0 k x1 x5 (wrap64 (x6 + 1)) x396000 x396001 x396002))))) else (none)) else (some x5)
end
def spec_Looked.f (k : Nat) (a0_0 : Int) (l0_1 : List ByteArray) (a0_2 : Int) (a1 : ByteArray) : Option (List Int) := (some (([] : List Int) : List Int)).bind fun y396 => ((spec_HistoryOk.f k a0_0 l0_1 a0_2).bind fun t399 => (if t399 = true then (if (a1.size : Int) < 1 then (spec_Looked.j0 k a1 y396 true a0_0 l0_1 a0_2) else (spec_Looked.j0 k a1 y396 (decide ((a1.size : Int) > 100)) a0_0 l0_1 a0_2)) else (spec_Looked.j0 k a1 y396 true a0_0 l0_1 a0_2)))
theorem spec_Looked.mono_l : ∀ k, (∀ y0 y1 y2 y3 y4 y5, LeO (spec_Looked.j0 k y0 y1 y2 y3 y4 y5) (spec_Looked.j0 (k + 1) y0 y1 y2 y3 y4 y5)) ∧ (∀ y0 y1 y2 y3 y4 y5, LeO (spec_Looked.l0 k y0 y1 y2 y3 y4 y5) (spec_Looked.l0 (k + 1) y0 y1 y2 y3 y4 y5))
 | 0 => ⟨fun _ _ _ _ _ _ r h => by simp [spec_Looked.j0] at h, fun _ _ _ _ _ _ r h => by simp [spec_Looked.l0] at h⟩
 | k + 1 => by
  obtain ⟨ih0, ih1⟩ := spec_Looked.mono_l k
  refine ⟨?_, ?_⟩
  ·intro y0 y1 y2 y3 y4 y5
   unfold spec_Looked.j0
   repeat' first
   | (with_reducible exact ih0 _ _ _ _ _ _)
   | (with_reducible exact ih1 _ _ _ _ _ _)
   | (with_reducible exact spec_HistoryOk.mono _ _ _ _)
   | (with_reducible exact spec_l11Places.mono _ _ _)
   | (with_reducible exact spec_l12Bytes.mono _ _)
   | (with_reducible exact LeO.refl _)
   | (with_reducible exact LeO.none _)
   | (with_reducible refine LeO.ite ?_ ?_)
   | (with_reducible refine LeO.bind ?_ (fun _ => ?_))
  ·intro y0 y1 y2 y3 y4 y5
   unfold spec_Looked.l0
   repeat' first
   | (with_reducible exact ih0 _ _ _ _ _ _)
   | (with_reducible exact ih1 _ _ _ _ _ _)
   | (with_reducible exact spec_HistoryOk.mono _ _ _ _)
   | (with_reducible exact spec_l11Places.mono _ _ _)
   | (with_reducible exact spec_l12Bytes.mono _ _)
   | (with_reducible exact LeO.refl _)
   | (with_reducible exact LeO.none _)
   | (with_reducible refine LeO.ite ?_ ?_)
   | (with_reducible refine LeO.bind ?_ (fun _ => ?_))
theorem spec_Looked.mono : ∀ a0 a1 a2 a3 k, LeO (spec_Looked.f k a0 a1 a2 a3) (spec_Looked.f (k + 1) a0 a1 a2 a3) := by
 intro a0 a1 a2 a3 k
 obtain ⟨ih0, ih1⟩ := spec_Looked.mono_l k
 unfold spec_Looked.f
 repeat' first
   | (with_reducible exact ih0 _ _ _ _ _ _)
   | (with_reducible exact ih1 _ _ _ _ _ _)
   | (with_reducible exact spec_HistoryOk.mono _ _ _ _)
   | (with_reducible exact spec_l11Places.mono _ _ _)
   | (with_reducible exact spec_l12Bytes.mono _ _)
   | (with_reducible exact LeO.refl _)
   | (with_reducible exact LeO.none _)
   | (with_reducible refine LeO.ite ?_ ?_)
   | (with_reducible refine LeO.bind ?_ (fun _ => ?_))
set_option maxHeartbeats 8000000 in
set_option maxRecDepth 100000 in
theorem spec_Looked.calls (k : Nat) (a0_0 : Int) (A0_1 : Option Addr) (c0_1 : Nat) (l0_1 : List ByteArray) (a0_2 : Int) (a1 : ByteArray) (r : List Int) (w : World) (hr0_1 : Kd.C Kd.string w A0_1 l0_1.length l0_1) (hc0_1 : l0_1.length ≤ c0_1) (h : spec_Looked.f k a0_0 l0_1 a0_2 a1 = some r) :
  Calls Try.prog 22 #[.agg #[.int .i64 a0_0, .slice A0_1 l0_1.length c0_1, .int .i64 a0_2], .string a1] w fun e w' => ∃ v0_ : Value, e = .returned (v0_) ∧ Kd.R (Kd.int .i64) 2 w' w.heap.size (fun _ => True) v0_ r ∧ Below w.heap.size w w' := by
 (
have hu26 := Try.underlying26
have HR0_1 := am hr0_1
have HC0_1 := am hc0_1
clear hr0_1 hc0_1
have HB := am (Below.refl w.heap.size w)
have H := h
unfold spec_Looked.f at H
clear h
obtain ⟨y396, hy396⟩ : ∃ y_ : List Int, y_ = (([] : List Int)) := ⟨_, rfl⟩
replace H : ((spec_HistoryOk.f k a0_0 l0_1 a0_2).bind fun t399 => (if t399 = true then (if (a1.size : Int) < 1 then (spec_Looked.j0 k a1 y396 true a0_0 l0_1 a0_2) else (spec_Looked.j0 k a1 y396 (decide ((a1.size : Int) > 100)) a0_0 l0_1 a0_2)) else (spec_Looked.j0 k a1 y396 true a0_0 l0_1 a0_2))) = some r := by first | (rw [hy396]; with_reducible exact H) | (rw [hy396]; exact H) | exact H
have Ny396 := am hy396
clear hy396
have HC3 := am H
clear H
go_enter Try.func22, Try.ntmps22
go_upto_region 2 with (first | ((with_reducible refine gate_dst (N := 2) rfl ?_); (try (refine gate_guard (by rfl) ?_; dsimp only)); refine box_event ?hg (N := 2) ?hd (cs := #[.int .i64 a0_0, .slice A0_1 l0_1.length c0_1, .int .i64 a0_2]) (t := 26) ?hr ?_; (case hd => rfl); (case hg => rfl); (case hr => first | (go_simp; done) | (go_simp; rfl)); intro gb395 hg w4 hbox hb; have BK395 := am (hbox); have GW395 := am (gw hg (rb HB)); have GE395 := GW395; replace HB := am (below_step (rb HB) hb); clear hb hbox hg) | ((with_reducible refine gate_dst (N := 7) rfl ?_); (try (refine gate_guard (by rfl) ?_; dsimp only)); refine Kd.R_lit (Kd.int .i64) _ 2 ?hg (N := 7) ?hd (xs := ([] : List Int)) (inner := []) (ok := fun _ => True) (okp := fun _ => True) ?hr ?hp (fun _ hk => hk) trivial (Below.refl _ _) (Nat.le_refl _) (by simp) ?_; (case hd => rfl); (case hg => rfl); (case hr => first | (go_simp; done) | (go_simp; rfl)); (case hp => exact (Reps.none _ _)); intro v397 w5 ho6 hb hg_ hnew_; clear hg_ hnew_; (first | rw [← Ny396.out] at ho6 | (simp only [Int.reduceToNat] at ho6; rw [← Ny396.out] at ho6)); have HO398 := am (Kd.R_lower ho6 (below_size (rb1 HB GE395))); replace BK395 := am (blk_below (rk BK395) hb); replace HB := am (below_step (rb1 HB GE395) hb); clear hb ho6))
(try simp only [Act.put, List.setIfInBounds_toArray, List.set_cons_zero, List.set_cons_succ])
go_cut [20] (fun v20 wc => ∃ (kq : Nat) (x20_2 : Bool), v20 = .bool x20_2 ∧ Aside0 (spec_Looked.j0 kq a1 y396 x20_2 a0_0 l0_1 a0_2 = some r) ∧ Aside0 (kq ≤ k) ∧ Aside0 (Kd.R (Kd.int .i64) 2 wc w.heap.size (fun _ => True) v397 y396) ∧ Aside0 (wc.heap[gb395]? = some (.cells #[.int .i64 a0_0, (.slice A0_1 l0_1.length c0_1), .int .i64 a0_2] 26 (0, 0))) ∧ Aside0 (Below w.heap.size w wc))
case first => (
have H := HC3.out
clear HC3
replace H := Option.bind_eq_some_iff.mp H
obtain ⟨t399, A70, H⟩ := H
(try dsimp only at H)
have A7 := am A70
clear A70
refine em_ (p := t399 = true) (fun c8 => ?g1p) (fun c8 => ?g1n)
case' g1p => (
subst c8
rw [if_pos rfl] at H
refine em_ (p := (a1.size : Int) < 1) (fun c9 => ?g0p) (fun c9 => ?g0n)
case' g0p => (
rw [if_pos c9] at H
have c9b0 : decide ((a1.size : Int) < 1) = true := decide_eq_true c9
have c9b1 : decide (a1.size < 1) = true := decide_eq_true (by omega)
clear c9
(first | rw [c9b0] | (simp only [i64_w, i32_w]; rw [c9b0]) | skip)
have H' := am H
clear H
have lf1_ := trivial
)
case' g0n => (
rw [if_neg c9] at H
have c9b0 : decide ((a1.size : Int) < 1) = false := decide_eq_false c9
have c9b1 : decide (a1.size < 1) = false := decide_eq_false (by omega)
clear c9
(first | rw [c9b0] | (simp only [i64_w, i32_w]; rw [c9b0]) | skip)
have H' := am H
clear H
have lf2_ := trivial
)
)
case' g1n => (
replace c8 := Bool.eq_false_iff.mpr c8
subst c8
rw [if_neg (show ¬ (false = true) by decide)] at H
have H' := am H
clear H
have lf3_ := trivial
)
all_goals (
have hcz10_0 : w5.cell? ⟨gb395, 0, none⟩ = some (.int .i64 a0_0) := (blk_cell BK395.out 0).trans rfl
have hcz10_1 : w5.cell? ⟨gb395, 1, none⟩ = some (.slice A0_1 l0_1.length c0_1) := (blk_cell BK395.out 1).trans rfl
have hcz10_2 : w5.cell? ⟨gb395, 2, none⟩ = some (.int .i64 a0_2) := (blk_cell BK395.out 2).trans rfl
have hfz10_0 := blk_frozen BK395.out 0
have hfz10_1 := blk_frozen BK395.out 1
have hfz10_2 := blk_frozen BK395.out 2
go_wp2_with (first | ((with_reducible refine gate_callee (f := 20) rfl ?_); refine gl_ (some 9) Try.func20 #[.agg #[.int .i64 a0_0, .slice A0_1 l0_1.length c0_1, .int .i64 a0_2]] ?_; (with_reducible refine (spec_HistoryOk.calls k a0_0 _ _ l0_1 a0_2 false _ ?side1 ?side2 A7.out).mono ?_); (case side1 => exact rc ((Kd.C_below HR0_1.out HB.out))); (case side2 => exact HC0_1.out); rintro e w15 ⟨rfl, hb⟩; refine ⟨_, rfl, ?_⟩; replace HO398 := am (Kd.R_below (rr HO398) hb); replace BK395 := am (blk_below (rk BK395) hb); replace HB := am (below_step (rb1 HB GE395) hb); (try clear hb); (try clear hb2); (try clear hk); (try clear hi)) | ((with_reducible refine gate_callee (f := 20) rfl ?_); refine gl_ (some 9) Try.func20 #[.agg #[.int .i64 a0_0, .slice A0_1 l0_1.length c0_1, .int .i64 a0_2]] ?_; (with_reducible refine (spec_HistoryOk.calls k a0_0 _ _ l0_1 a0_2 true _ ?side1 ?side2 A7.out).mono ?_); (case side1 => exact rc ((Kd.C_below HR0_1.out HB.out))); (case side2 => exact HC0_1.out); rintro e w11 ⟨rfl, hb⟩; refine ⟨_, rfl, ?_⟩; replace HO398 := am (Kd.R_below (rr HO398) hb); replace BK395 := am (blk_below (rk BK395) hb); replace HB := am (below_step (rb1 HB GE395) hb); (try clear hb); (try clear hb2); (try clear hk); (try clear hi)))
go_meet
first
| (
first | have q_ := lf1_ | have q_ := lf3_
case rel => exact ⟨_, (true), (by first | rfl | (simp; done) | (simp [*]; done)), H', ⟨by first | omega | exact Nat.le_refl _⟩, ⟨rr HO398⟩, ⟨rk BK395⟩, ⟨by repeat (first | (with_reducible first | exact HB.out | apply b1 | apply b2 | apply b3 | refine below_set ?_ GE395.out) | exact HB.out)⟩⟩
)
| (
have q_ := lf2_
case rel => exact ⟨_, (decide ((a1.size : Int) > 100)), (by first | rfl | (simp; done) | (simp [*]; done)), H', ⟨by first | omega | exact Nat.le_refl _⟩, ⟨rr HO398⟩, ⟨rk BK395⟩, ⟨by repeat (first | (with_reducible first | exact HB.out | apply b1 | apply b2 | apply b3 | refine below_set ?_ GE395.out) | exact HB.out)⟩⟩
)
)
)
case rest => (
clear HC3
try clear c2
try clear p2
try clear c8
try clear c9
try clear c9b0
try clear c9b1
try clear hcz10_0
try clear hcz10_1
try clear hcz10_2
try clear hcz12_0
try clear hcz12_1
try clear hcz12_2
try clear hcz14_0
try clear hcz14_1
try clear hcz14_2
try clear hfz10_0
try clear hfz10_1
try clear hfz10_2
try clear hfz12_0
try clear hfz12_1
try clear hfz12_2
try clear hfz14_0
try clear hfz14_1
try clear hfz14_2
obtain ⟨kq, x20_2, rfl, HA, HJ2, HO_5, BK395, HB⟩ := hcut
cases kq with
| zero => exact absurd HA.out (by simp [spec_Looked.j0])
| succ kj2 => (
have H := HA.out
clear HA
simp only [spec_Looked.j0] at H
by_cases c16 : x20_2 = true
·(
subst c16
have H1 : (some y396) = some r := by rw [if_pos rfl] at H; exact H
clear H
have H := H1
clear H1
obtain rfl := Option.some.inj H
go_wp2
go_ret
exact ⟨_, by first | rfl | (simp [errW_none, errW_some] <;> rfl) | (simp [*, errW_none, errW_some] <;> rfl), by (with_reducible repeat (first | apply r1 | apply r2 | apply r3)); exact HO_5.out, by repeat (first | (with_reducible first | exact HB.out | apply b1 | apply b2 | apply b3 | refine below_set ?_ GE395.out) | exact HB.out)⟩
)
·(
replace c16 := Bool.eq_false_iff.mpr c16
subst c16
rw [if_neg (show ¬ (false = true) by decide)] at H
have H' := am H
clear H
go_wp2
go_loopg [5, 6] kj2 (fun kq v5 v6 w' => ∃ (x5_2 : List Int) (x6_2 : Int), v6 = .int .i64 x6_2 ∧ Aside0 (spec_Looked.l0 kq a1 x5_2 x6_2 a0_0 l0_1 a0_2 = some r) ∧ Aside0 (kq ≤ kj2) ∧ Aside0 (Kd.R (Kd.int .i64) 2 w' w.heap.size (fun _ => True) v5 x5_2) ∧ Aside0 (w'.heap[gb395]? = some (.cells #[.int .i64 a0_0, (.slice A0_1 l0_1.length c0_1), .int .i64 a0_2] 26 (0, 0))) ∧ Aside0 (Below w.heap.size w w'))
case atStart => exact ⟨(y396), (0), (by first | rfl | (simp; done) | (simp [*]; done)), H', ⟨Nat.le_refl _⟩, ⟨rr HO_5⟩, ⟨rk BK395⟩, ⟨by repeat (first | (with_reducible first | exact HB.out | apply b1 | apply b2 | apply b3 | refine below_set ?_ GE395.out) | exact HB.out)⟩⟩
case round => (
clear H'
try clear c1
try clear c2
try clear p2
try clear c8
try clear c9
try clear c9b0
try clear c9b1
try clear c16
try clear hcz10_0
try clear hcz10_1
try clear hcz10_2
try clear hcz12_0
try clear hcz12_1
try clear hcz12_2
try clear hcz14_0
try clear hcz14_1
try clear hcz14_2
try clear hfz10_0
try clear hfz10_1
try clear hfz10_2
try clear hfz12_0
try clear hfz12_1
try clear hfz12_2
try clear hfz14_0
try clear hfz14_1
try clear hfz14_2
try clear p2
obtain ⟨x5_2, x6_2, rfl, HA, HK2, HO_5, BK395, HB⟩ := hrel
cases gk with
| zero => exact absurd HA.out (by simp [spec_Looked.l0])
| succ k2 => (
have H := HA.out
clear HA
simp only [spec_Looked.l0] at H
by_cases c17 : x6_2 < (l0_1.length : Int)
·(
rw [if_pos c17] at H
have c17b0 : decide (x6_2 < (l0_1.length : Int)) = true := decide_eq_true c17
clear c17
refine em_ (p := 0 ≤ x6_2) (fun c18 => ?g4p) (fun c18 => ?g4n)
case' g4p => (
rw [if_pos c18] at H
have c18b0 : decide (0 ≤ x6_2) = true := decide_eq_true c18
clear c18
replace H := Option.bind_eq_some_iff.mp H
obtain ⟨t401, A190, H⟩ := H
(try dsimp only at H)
have A19 := am A190
clear A190
replace H := Option.bind_eq_some_iff.mp H
obtain ⟨t404, A200, H⟩ := H
(try dsimp only at H)
have A20 := am A200
clear A200
replace H := Option.bind_eq_some_iff.mp H
obtain ⟨t407, A210, H⟩ := H
(try dsimp only at H)
have A21 := am A210
clear A210
refine em_ (p := (t407.length : Int) > 0) (fun c22 => ?g3p) (fun c22 => ?g3n)
case' g3p => (
rw [if_pos c22] at H
have c22b0 : decide (0 < (t407.length : Int)) = true := decide_eq_true c22
have c22b1 : decide (0 < t407.length) = true := decide_eq_true (by omega)
clear c22
refine em_ (p := x5_2.length < 17592186044416) (fun c23 => ?g2p) (fun c23 => ?g2n)
case' g2p => (
rw [if_pos c23] at H
have LMc23 := am c23
clear c23
obtain ⟨y410, hy410⟩ : ∃ y_ : List Int, y_ = (x5_2 ++ [wrap64 (a0_2 + x6_2)]) := ⟨_, rfl⟩
replace H : (spec_Looked.l0 k2 a1 y410 (wrap64 (x6_2 + 1)) a0_0 l0_1 a0_2) = some r := by first | (rw [hy410]; with_reducible exact H) | (rw [hy410]; exact H) | exact H
have Ny410 := am hy410
clear hy410
have H' := am H
clear H
have lf6_ := trivial
)
case g2n => (
rw [if_neg c23] at H
exact absurd H (by simp)
)
)
case' g3n => (
rw [if_neg c22] at H
have c22b0 : decide (0 < (t407.length : Int)) = false := decide_eq_false c22
have c22b1 : decide (0 < t407.length) = false := decide_eq_false (by omega)
clear c22
have H' := am H
clear H
have lf7_ := trivial
)
)
case g4n => (
rw [if_neg c18] at H
exact absurd H (by simp)
)
all_goals (
have hcz24_0 : wr.cell? ⟨gb395, 0, none⟩ = some (.int .i64 a0_0) := (blk_cell BK395.out 0).trans rfl
have hcz24_1 : wr.cell? ⟨gb395, 1, none⟩ = some (.slice A0_1 l0_1.length c0_1) := (blk_cell BK395.out 1).trans rfl
have hcz24_2 : wr.cell? ⟨gb395, 2, none⟩ = some (.int .i64 a0_2) := (blk_cell BK395.out 2).trans rfl
have hfz24_0 := blk_frozen BK395.out 0
have hfz24_1 := blk_frozen BK395.out 1
have hfz24_2 := blk_frozen BK395.out 2
have p400 : 0 ≤ (x6_2 : Int) := dt_
have q400 : x6_2 < (l0_1.length : Int) := dt_
obtain ⟨ad400, e400, hx400_0⟩ := Kd.at_string HR0_1.out x6_2 p400 q400
cases e400
replace hx400_0 := mv HB.out hx400_0
replace p400 := eq_true p400
replace q400 := eq_true q400
go_wp2_with (first | ((with_reducible refine gate_builtin (b := .append) (xs := #[.tmp 40, .tmp 45]) rfl ?_); (try (refine gate_guard (by rfl) ?_; dsimp only)); at_builtin; refine Kd.R_append (Kd.int .i64) (w0 := w) w.heap.size rfl (.tmp 40) (.tmp 45) 35 2 (.int .i64 0) 8 rfl Try.underlying35 info2 rfl (by decide) (by omega) u5 x5_2 (wrap64 (a0_2 + x6_2)) [.int .i64 (wrap64 (a0_2 + x6_2))] (fun k_ => some k_ ≠ (.slice Ao27 t401.length co27 : Value).ownBlock ∧ some k_ ≠ (.slice Ao28 t404.length co28 : Value).ownBlock ∧ some k_ ≠ (.slice Ao30 t407.length co30 : Value).ownBlock) (fun _ => False) rfl rfl ?aP (fun _ hk => hk.elim) ?aF ?aO ?aB ?aS ?aL ?_; (case aP => exact rfl); (case aB => exact (rb1 HB GE395)); (case aF => exact (fun k_ hk => ⟨Kd.fresh' (Kd.R_lt (rr HO403)) k_ hk, Kd.fresh' (Kd.R_lt (rr HO406)) k_ hk, Kd.fresh' (Kd.R_lt (rr HO409)) k_ hk⟩)); (case aO => exact (by (with_reducible repeat (first | apply r1 | apply r2 | apply r3)); exact Kd.R_mono HO_5.out (fun _ hk => ⟨hk.1.1.2, ⟨hk.1.2, hk.2⟩⟩))); (case aS => exact (below_size (rb1 HB GE395))); (case aL => have := LMc23.out; omega); intro v411 w32 ho hb hg hat; rw [← Ny410.out] at ho; replace BK395 := am (blk_grown (rk BK395) hg (Kd.R_ne HO_5.out BK395.out (by decide))); replace HO403 := am (Kd.R_after (ok := (fun k_ => some k_ ≠ (.slice Ao28 t404.length co28 : Value).ownBlock ∧ some k_ ≠ (.slice Ao30 t407.length co30 : Value).ownBlock)) (by (with_reducible repeat (first | apply r1 | apply r2 | apply r3)); exact Kd.R_mono HO403.out (fun _ hk => ⟨⟨hk.1.2, hk.2⟩, hk.1.1.2⟩)) hg hat); replace HO406 := am (Kd.R_after (ok := (fun k_ => some k_ ≠ (.slice Ao27 t401.length co27 : Value).ownBlock ∧ some k_ ≠ (.slice Ao30 t407.length co30 : Value).ownBlock)) (by (with_reducible repeat (first | apply r1 | apply r2 | apply r3)); exact Kd.R_mono HO406.out (fun _ hk => ⟨⟨hk.1.2, hk.2⟩, hk.1.1.2⟩)) hg hat); replace HO409 := am (Kd.R_after (ok := (fun k_ => some k_ ≠ (.slice Ao27 t401.length co27 : Value).ownBlock ∧ some k_ ≠ (.slice Ao28 t404.length co28 : Value).ownBlock)) (by (with_reducible repeat (first | apply r1 | apply r2 | apply r3)); exact Kd.R_mono HO409.out (fun _ hk => ⟨⟨hk.1.2, hk.2⟩, hk.1.1.2⟩)) hg hat); replace HB := am (hb); have HO412 := am (ho); clear HO_5; clear ho hb hg hat) | ((with_reducible refine gate_callee (f := 61) rfl ?_); refine gl_ (some 37) Try.func61 #[.slice Ao27 t401.length co27, .slice Ao28 t404.length co28] ?_; (with_reducible refine (spec_l11Places.calls k2 _ _ t401 _ _ t404 t407 _ ?side1 ?side2 ?side3 ?side4 A21.out).mono ?_); (case side1 => repeat (first | exact (Kd.R_reads' HO403.out).2.2 | (with_reducible refine Kd.C_alloc ?_ _) | (with_reducible refine Kd.C_drewN ?_ _) | (with_reducible refine Kd.C_drew ?_))); (case side2 => exact (Kd.R_reads' HO403.out).2.1); (case side3 => repeat (first | exact (Kd.R_reads' HO406.out).2.2 | (with_reducible refine Kd.C_alloc ?_ _) | (with_reducible refine Kd.C_drewN ?_ _) | (with_reducible refine Kd.C_drew ?_))); (case side4 => exact (Kd.R_reads' HO406.out).2.1); rintro e w29 ⟨v408, rfl, ho0, hb⟩; refine ⟨_, rfl, ?_⟩; have HO409 := am (Kd.R_lower (Kd.R_new' (Kd.R_new' (Kd.R_new' ho0 (Kd.R_lt (rr HO_5))) (Kd.R_lt (rr HO403))) (Kd.R_lt (rr HO406))) (below_size (rb1 HB GE395))); replace HO_5 := am (Kd.R_elder' (rr HO_5) (Kd.R_base ho0) hb); replace HO403 := am (Kd.R_elder' (rr HO403) (Kd.R_base ho0) hb); replace HO406 := am (Kd.R_elder' (rr HO406) (Kd.R_base ho0) hb); replace BK395 := am (blk_below (rk BK395) hb); replace HB := am (below_step (rb1 HB GE395) hb); (try clear hb); (try clear hb2); (try clear hk); (try clear hi); (try clear ho0); obtain ⟨Ao30, co30, eo30⟩ := Kd.R_slice HO409.out; subst eo30; have hcz31_0 : w29.cell? ⟨gb395, 0, none⟩ = some (.int .i64 a0_0) := (blk_cell BK395.out 0).trans rfl; have hcz31_1 : w29.cell? ⟨gb395, 1, none⟩ = some (.slice (some ad400) l0_1.length c0_1) := (blk_cell BK395.out 1).trans rfl; have hcz31_2 : w29.cell? ⟨gb395, 2, none⟩ = some (.int .i64 a0_2) := (blk_cell BK395.out 2).trans rfl; have hfz31_0 := blk_frozen BK395.out 0; have hfz31_1 := blk_frozen BK395.out 1; have hfz31_2 := blk_frozen BK395.out 2) | ((with_reducible refine gate_callee (f := 61) rfl ?_); refine gl_ (some 37) Try.func61 #[.slice Ao27 t401.length co27, .slice Ao28 t404.length co28] ?_; (with_reducible refine (spec_l11Places.calls k2 _ _ t401 _ _ t404 t407 _ ?side1 ?side2 ?side3 ?side4 A21.out).mono ?_); (case side1 => repeat (first | exact (Kd.R_reads' HO403.out).2.2 | (with_reducible refine Kd.C_alloc ?_ _) | (with_reducible refine Kd.C_drewN ?_ _) | (with_reducible refine Kd.C_drew ?_))); (case side2 => exact (Kd.R_reads' HO403.out).2.1); (case side3 => repeat (first | exact (Kd.R_reads' HO406.out).2.2 | (with_reducible refine Kd.C_alloc ?_ _) | (with_reducible refine Kd.C_drewN ?_ _) | (with_reducible refine Kd.C_drew ?_))); (case side4 => exact (Kd.R_reads' HO406.out).2.1); rintro e w38 ⟨v408, rfl, ho0, hb⟩; refine ⟨_, rfl, ?_⟩; have HO409 := am (Kd.R_lower (Kd.R_new' (Kd.R_new' (Kd.R_new' ho0 (Kd.R_lt (rr HO_5))) (Kd.R_lt (rr HO403))) (Kd.R_lt (rr HO406))) (below_size (rb1 HB GE395))); replace HO_5 := am (Kd.R_elder' (rr HO_5) (Kd.R_base ho0) hb); replace HO403 := am (Kd.R_elder' (rr HO403) (Kd.R_base ho0) hb); replace HO406 := am (Kd.R_elder' (rr HO406) (Kd.R_base ho0) hb); replace BK395 := am (blk_below (rk BK395) hb); replace HB := am (below_step (rb1 HB GE395) hb); (try clear hb); (try clear hb2); (try clear hk); (try clear hi); (try clear ho0); obtain ⟨Ao39, co39, eo39⟩ := Kd.R_slice HO409.out; subst eo39) | ((with_reducible refine gate_callee (f := 62) rfl ?_); refine gl_ (some 36) Try.func62 #[.string a1] ?_; (with_reducible refine (spec_l12Bytes.calls k2 a1 t404 _ A20.out).mono ?_); rintro e w26 ⟨v405, rfl, ho0, hb⟩; refine ⟨_, rfl, ?_⟩; have HO406 := am (Kd.R_lower (Kd.R_new' (Kd.R_new' ho0 (Kd.R_lt (rr HO_5))) (Kd.R_lt (rr HO403))) (below_size (rb1 HB GE395))); replace HO_5 := am (Kd.R_elder' (rr HO_5) (Kd.R_base ho0) hb); replace HO403 := am (Kd.R_elder' (rr HO403) (Kd.R_base ho0) hb); replace BK395 := am (blk_below (rk BK395) hb); replace HB := am (below_step (rb1 HB GE395) hb); (try clear hb); (try clear hb2); (try clear hk); (try clear hi); (try clear ho0); obtain ⟨Ao27, co27, eo27⟩ := Kd.R_slice HO403.out; subst eo27; obtain ⟨Ao28, co28, eo28⟩ := Kd.R_slice HO406.out; subst eo28) | ((with_reducible refine gate_callee (f := 62) rfl ?_); refine gl_ (some 34) Try.func62 #[.string (rdOf ByteArray.empty l0_1 x6_2)] ?_; (with_reducible refine (spec_l12Bytes.calls k2 (rdOf ByteArray.empty l0_1 x6_2) t401 _ A19.out).mono ?_); rintro e w25 ⟨v402, rfl, ho0, hb⟩; refine ⟨_, rfl, ?_⟩; have HO403 := am (Kd.R_lower (Kd.R_new' ho0 (Kd.R_lt (rr HO_5))) (below_size (rb1 HB GE395))); replace HO_5 := am (Kd.R_elder' (rr HO_5) (Kd.R_base ho0) hb); replace BK395 := am (blk_below (rk BK395) hb); replace HB := am (below_step (rb1 HB GE395) hb); (try clear hb); (try clear hb2); (try clear hk); (try clear hi); (try clear ho0)))
go_roundg k2
case measure => have := HJ2.out; have := HK2.out; omega
first
| (
have q_ := lf6_
case rel => exact ⟨(y410), (wrap64 (x6_2 + 1)), (by first | rfl | (simp; done) | (simp [*]; done)), H', ⟨by have := HJ2.out; have := HK2.out; omega⟩, ⟨Rm0 HO412⟩, ⟨rk BK395⟩, ⟨by repeat (first | (with_reducible first | exact HB.out | apply b1 | apply b2 | apply b3 | refine below_set ?_ GE395.out) | exact HB.out)⟩⟩
)
| (
have q_ := lf7_
case rel => exact ⟨(x5_2), (wrap64 (x6_2 + 1)), (by first | rfl | (simp; done) | (simp [*]; done)), H', ⟨by have := HJ2.out; have := HK2.out; omega⟩, ⟨Rm0 HO_5⟩, ⟨rk BK395⟩, ⟨by repeat (first | (with_reducible first | exact HB.out | apply b1 | apply b2 | apply b3 | refine below_set ?_ GE395.out) | exact HB.out)⟩⟩
)
)
)
·(
rw [if_neg c17] at H
have c17b0 : decide (x6_2 < (l0_1.length : Int)) = false := decide_eq_false c17
clear c17
obtain rfl := Option.some.inj H
have hcz40_0 : wr.cell? ⟨gb395, 0, none⟩ = some (.int .i64 a0_0) := (blk_cell BK395.out 0).trans rfl
have hcz40_1 : wr.cell? ⟨gb395, 1, none⟩ = some (.slice A0_1 l0_1.length c0_1) := (blk_cell BK395.out 1).trans rfl
have hcz40_2 : wr.cell? ⟨gb395, 2, none⟩ = some (.int .i64 a0_2) := (blk_cell BK395.out 2).trans rfl
have hfz40_0 := blk_frozen BK395.out 0
have hfz40_1 := blk_frozen BK395.out 1
have hfz40_2 := blk_frozen BK395.out 2
go_wp2
go_ret
exact ⟨_, by first | rfl | (simp [errW_none, errW_some] <;> rfl) | (simp [*, errW_none, errW_some] <;> rfl), by (with_reducible repeat (first | apply r1 | apply r2 | apply r3)); exact HO_5.out, by repeat (first | (with_reducible first | exact HB.out | apply b1 | apply b2 | apply b3 | refine below_set ?_ GE395.out) | exact HB.out)⟩
)
)
)
)
)
)
)

end Go.Proofs.Ytalopdcephohgaa.RA
