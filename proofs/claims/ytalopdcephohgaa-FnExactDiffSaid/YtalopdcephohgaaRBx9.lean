/- Contracts of Go functions that laws of this seat reach: each Lean function answers as its Go function does. No condition. Written by wip/tools/inj.py, over the kit's print. -/
import Derived.Test.YtalopdcephohgaaRBx0
import Derived.Test.YtalopdcephohgaaRBx7
namespace Go.Proofs.Ytalopdcephohgaa.RB
open Go.RowKit Go.Proofs.YtalopdcephohgaaW.PrintWords Go.Proofs.YtalopdcephohgaaW.PrintLast Go.Proofs.YtalopdcephohgaaW.PrintMore
attribute [local go_sem] max2_int min2_int max_two min_two max_three min_three max_four min_four   -- for this text's walks alone
set_option linter.unusedVariables false
set_option linter.unusedSimpArgs false

/-! ### spec_l1Min: function 99 -/
def spec_l1Min.f (a0 : Int) (a1 : Int) : Option (Int) := if a0 < a1 then (some a0) else (some a1)
set_option maxHeartbeats 8000000 in
set_option maxRecDepth 100000 in
theorem spec_l1Min.calls (a0 : Int) (a1 : Int) (r : Int) (w : World) (h : spec_l1Min.f a0 a1 = some r) :
  Calls Try.prog 99 #[.int .i64 a0, .int .i64 a1] w fun e w' => e = .returned (.int .i64 r) ∧ Drawn0 w w' := by
 (
have H : (if a0 < a1 then (some a0) else (some a1)) = some r := h
clear h
by_cases c3 : a0 < a1
·(
rw [if_pos c3] at H
have c3b0 : decide (a0 < a1) = true := decide_eq_true c3
clear c3
obtain rfl := Option.some.inj H
go_enter Try.func99, Try.ntmps99
go_wp2
go_ret
exact ⟨by first | rfl | (simp; done) | (simp [*]; done), by repeat (first | exact Drawn0.refl _ | apply Drawn0.step)⟩
)
·(
rw [if_neg c3] at H
have c3b0 : decide (a0 < a1) = false := decide_eq_false c3
clear c3
obtain rfl := Option.some.inj H
go_enter Try.func99, Try.ntmps99
go_wp2
go_ret
exact ⟨by first | rfl | (simp; done) | (simp [*]; done), by repeat (first | exact Drawn0.refl _ | apply Drawn0.step)⟩
)
)

/-! ### spec_l4Row: function 100 -/
def spec_l4Row.l0 : Nat → Int → List (S98) → Int → Int → Int → Bool → Bool → Bool → Option ((List (S98)))
 | 0, _, _, _, _, _, _, _, _ => none
 | k + 1, x0, x5, x6, x198000, x198001, x198002, x198003, x198004 => if x6 < x0 then ((spec_l4Blank.f x198000 x198001 x198002 x198003 x198004).bind fun bt201 => (if x5.length < 3518437208883 then (spec_l4Row.l0 k x0 (x5 ++ [(⟨bt201.1, (⟨bt201.2.1, bt201.2.2.1, bt201.2.2.2.1, bt201.2.2.2.2.1, bt201.2.2.2.2.2.1⟩ : S96), bt201.2.2.2.2.2.2⟩ : S98)]) (wrap64 (x6 + 1)) x198000 x198001 x198002 x198003 x198004) else (none))) else (some x5)
def spec_l4Row.f (k : Nat) (a0 : Int) (a1_0 : Int) (a1_1 : Int) (a1_2 : Bool) (a1_3 : Bool) (a1_4 : Bool) : Option ((List (S98))) := spec_l4Row.l0 k a0 (([] : List (S98))) 0 a1_0 a1_1 a1_2 a1_3 a1_4
theorem spec_l4Row.mono_l : ∀ k, (∀ y0 y1 y2 y3 y4 y5 y6 y7, LeO (spec_l4Row.l0 k y0 y1 y2 y3 y4 y5 y6 y7) (spec_l4Row.l0 (k + 1) y0 y1 y2 y3 y4 y5 y6 y7))
 | 0 => fun _ _ _ _ _ _ _ _ r h => by simp [spec_l4Row.l0] at h
 | k + 1 => by
  have ih0 := spec_l4Row.mono_l k
  ·intro y0 y1 y2 y3 y4 y5 y6 y7
   unfold spec_l4Row.l0
   repeat' first
   | (with_reducible exact ih0 _ _ _ _ _ _ _ _)
   | (with_reducible exact LeO.refl _)
   | (with_reducible exact LeO.none _)
   | (with_reducible refine LeO.ite ?_ ?_)
   | (with_reducible refine LeO.bind ?_ (fun _ => ?_))
theorem spec_l4Row.mono : ∀ a0 a1 a2 a3 a4 a5 k, LeO (spec_l4Row.f k a0 a1 a2 a3 a4 a5) (spec_l4Row.f (k + 1) a0 a1 a2 a3 a4 a5) := by
 intro a0 a1 a2 a3 a4 a5 k
 have ih0 := spec_l4Row.mono_l k
 unfold spec_l4Row.f
 repeat' first
   | (with_reducible exact ih0 _ _ _ _ _ _ _ _)
   | (with_reducible exact LeO.refl _)
   | (with_reducible exact LeO.none _)
   | (with_reducible refine LeO.ite ?_ ?_)
   | (with_reducible refine LeO.bind ?_ (fun _ => ?_))
set_option maxHeartbeats 8000000 in
set_option maxRecDepth 100000 in
theorem spec_l4Row.calls (k : Nat) (a0 : Int) (a1_0 : Int) (a1_1 : Int) (a1_2 : Bool) (a1_3 : Bool) (a1_4 : Bool) (r : List (S98)) (w : World) (h : spec_l4Row.f k a0 a1_0 a1_1 a1_2 a1_3 a1_4 = some r) :
  Calls Try.prog 100 #[.int .i64 a0, .agg #[.int .i64 a1_0, .int .i64 a1_1, .bool a1_2, .bool a1_3, .bool a1_4]] w fun e w' => ∃ v0_ : Value, e = .returned (v0_) ∧ Kd.R k98 98 w' w.heap.size (fun _ => True) v0_ r ∧ Below w.heap.size w w' := by
 (
have hu96 := Try.underlying96
have HB := am (Below.refl w.heap.size w)
have H : (spec_l4Row.l0 k a0 (([] : List (S98))) 0 a1_0 a1_1 a1_2 a1_3 a1_4) = some r := h
clear h
obtain ⟨y198, hy198⟩ : ∃ y_ : List (S98), y_ = (([] : List (S98))) := ⟨_, rfl⟩
replace H : (spec_l4Row.l0 k a0 y198 0 a1_0 a1_1 a1_2 a1_3 a1_4) = some r := by first | (rw [hy198]; with_reducible exact H) | (rw [hy198]; exact H) | exact H
have Ny198 := am hy198
clear hy198
have H' := am H
clear H
go_enter Try.func100, Try.ntmps100
go_wp2_with (first | ((with_reducible refine gate_dst (N := 3) rfl ?_); refine box_event ?hg (N := 3) ?hd (cs := #[.int .i64 a1_0, .int .i64 a1_1, .bool a1_2, .bool a1_3, .bool a1_4]) (t := 96) ?hr ?_; (case hd => rfl); (case hg => rfl); (case hr => first | (go_simp; done) | (go_simp; rfl)); intro gb197 hg w3 hbox hb; have BK197 := am (hbox); have GW197 := am (gw hg (rb HB)); have GE197 := GW197; replace HB := am (below_step (rb HB) hb); clear hb hbox hg) | ((with_reducible refine gate_dst (N := 7) rfl ?_); refine Kd.R_lit k98 _ 98 ?hg (N := 7) ?hd (xs := ([] : List (S98))) (inner := []) (ok := fun _ => True) (okp := fun _ => True) ?hr ?hp (fun _ hk => hk) trivial (Below.refl _ _) (Nat.le_refl _) (by simp) ?_; (case hd => rfl); (case hg => rfl); (case hr => first | (go_simp; done) | (go_simp; rfl)); (case hp => exact (Reps.none _ _)); intro v199 w4 ho5 hb hg_ hnew_; clear hg_ hnew_; (first | rw [← Ny198.out] at ho5 | (simp only [Int.reduceToNat] at ho5; rw [← Ny198.out] at ho5)); have HO200 := am (Kd.R_lower ho5 (below_size (rb1 HB GE197))); replace BK197 := am (blk_below (rk BK197) hb); replace HB := am (below_step (rb1 HB GE197) hb); clear hb ho5))
go_loopg [5, 6] k (fun kq v5 v6 w' => ∃ (x5_1 : List (S98)) (x6_1 : Int), v6 = .int .i64 x6_1 ∧ Aside0 (spec_l4Row.l0 kq a0 x5_1 x6_1 a1_0 a1_1 a1_2 a1_3 a1_4 = some r) ∧ Aside0 (kq ≤ k) ∧ Aside0 (Kd.R k98 98 w' w.heap.size (fun _ => True) v5 x5_1) ∧ Aside0 (w'.heap[gb197]? = some (.cells #[.int .i64 a1_0, .int .i64 a1_1, .bool a1_2, .bool a1_3, .bool a1_4] 96 (0, 0))) ∧ Aside0 (Below w.heap.size w w'))
case atStart => exact ⟨(y198), (0), (by first | rfl | (simp; done) | (simp [*]; done)), H', ⟨Nat.le_refl _⟩, ⟨rr HO200⟩, ⟨rk BK197⟩, ⟨by repeat (first | (with_reducible first | exact HB.out | apply b1 | apply b2 | apply b3 | refine below_set ?_ GE197.out) | exact HB.out)⟩⟩
case round => (
clear H'
try clear c1
try clear p2
obtain ⟨x5_1, x6_1, rfl, HA, HK1, HO_5, BK197, HB⟩ := hrel
cases gk with
| zero => exact absurd HA.out (by simp [spec_l4Row.l0])
| succ k1 => (
have H := HA.out
clear HA
simp only [spec_l4Row.l0] at H
by_cases c6 : x6_1 < a0
·(
rw [if_pos c6] at H
have c6b0 : decide (x6_1 < a0) = true := decide_eq_true c6
clear c6
replace H := Option.bind_eq_some_iff.mp H
obtain ⟨⟨t201, t202, t203, t204, t205, t206, t207⟩, A70, H⟩ := H
(try dsimp only at H)
have A7 := am A70
clear A70
refine em_ (p := x5_1.length < 3518437208883) (fun c8 => ?g0p) (fun c8 => ?g0n)
case' g0p => (
rw [if_pos c8] at H
have LMc8 := am c8
clear c8
obtain ⟨y208, hy208⟩ : ∃ y_ : List (S98), y_ = (x5_1 ++ [(⟨t201, (⟨t202, t203, t204, t205, t206⟩ : S96), t207⟩ : S98)]) := ⟨_, rfl⟩
replace H : (spec_l4Row.l0 k1 a0 y208 (wrap64 (x6_1 + 1)) a1_0 a1_1 a1_2 a1_3 a1_4) = some r := by first | (rw [hy208]; with_reducible exact H) | (rw [hy208]; exact H) | exact H
have Ny208 := am hy208
clear hy208
have H' := am H
clear H
have lf1_ := trivial
)
case g0n => (
rw [if_neg c8] at H
exact absurd H (by simp)
)
all_goals (
have hcz9_0 : wr.cell? ⟨gb197, 0, none⟩ = some (.int .i64 a1_0) := (blk_cell BK197.out 0).trans rfl
have hcz9_1 : wr.cell? ⟨gb197, 1, none⟩ = some (.int .i64 a1_1) := (blk_cell BK197.out 1).trans rfl
have hcz9_2 : wr.cell? ⟨gb197, 2, none⟩ = some (.bool a1_2) := (blk_cell BK197.out 2).trans rfl
have hcz9_3 : wr.cell? ⟨gb197, 3, none⟩ = some (.bool a1_3) := (blk_cell BK197.out 3).trans rfl
have hcz9_4 : wr.cell? ⟨gb197, 4, none⟩ = some (.bool a1_4) := (blk_cell BK197.out 4).trans rfl
have hfz9_0 := blk_frozen BK197.out 0
have hfz9_1 := blk_frozen BK197.out 1
have hfz9_2 := blk_frozen BK197.out 2
have hfz9_3 := blk_frozen BK197.out 3
have hfz9_4 := blk_frozen BK197.out 4
go_wp2_with (first | ((with_reducible refine gate_callee (f := 121) rfl ?_); refine gl_ (some 15) Try.func121 #[.agg #[.int .i64 a1_0, .int .i64 a1_1, .bool a1_2, .bool a1_3, .bool a1_4]] ?_; (with_reducible refine (spec_l4Blank.calls a1_0 a1_1 a1_2 a1_3 a1_4 t201 t202 t203 t204 t205 t206 t207 _ A7.out).mono ?_); rintro e w10 ⟨rfl, hb⟩; refine ⟨_, rfl, ?_⟩; replace HO_5 := am (Kd.R_below (rr HO_5) hb); replace BK197 := am (blk_below (rk BK197) hb); replace HB := am (below_step (rb1 HB GE197) hb); (try clear hb); (try clear hb2); (try clear hk); (try clear hi)) | ((with_reducible refine gate_builtin (b := .append) (xs := #[.tmp 13, .tmp 16]) rfl ?_); at_builtin; refine Kd.R_append k98 (w0 := w) w.heap.size rfl (.tmp 13) (.tmp 16) 99 98 (.agg #[(.int .i64 0), (.int .i64 0), (.int .i64 0), (.bool false), (.bool false), (.bool false), (.int .i64 0)]) 40 rfl Try.underlying99 info98 rfl (by decide) (by omega) u5 x5_1 (⟨t201, (⟨t202, t203, t204, t205, t206⟩ : S96), t207⟩ : S98) [.int .i64 t201, .int .i64 t202, .int .i64 t203, .bool t204, .bool t205, .bool t206, .int .i64 t207] (fun _ => True) (fun _ => False) rfl rfl ?aP (fun _ hk => hk.elim) ?aF ?aO ?aB ?aS ?aL ?_; (case aP => exact k98_mkM _ _ _ (⟨t201, (⟨t202, t203, t204, t205, t206⟩ : S96), t207⟩ : S98)); (case aB => exact (rb1 HB GE197)); (case aF => exact (fun _ _ => trivial)); (case aO => exact (rr HO_5)); (case aS => exact (below_size (rb1 HB GE197))); (case aL => have := LMc8.out; omega); intro v209 w11 ho hb hg hat; rw [← Ny208.out] at ho; replace BK197 := am (blk_grown (rk BK197) hg (Kd.R_ne HO_5.out BK197.out (by decide))); replace HB := am (hb); have HO210 := am (ho); clear HO_5; clear ho hb hg hat))
go_roundg k1
case measure => have := HK1.out; omega
case rel => exact ⟨(y208), (wrap64 (x6_1 + 1)), (by first | rfl | (simp; done) | (simp [*]; done)), H', ⟨by have := HK1.out; omega⟩, ⟨rr HO210⟩, ⟨rk BK197⟩, ⟨by repeat (first | (with_reducible first | exact HB.out | apply b1 | apply b2 | apply b3 | refine below_set ?_ GE197.out) | exact HB.out)⟩⟩
)
)
·(
rw [if_neg c6] at H
have c6b0 : decide (x6_1 < a0) = false := decide_eq_false c6
clear c6
obtain rfl := Option.some.inj H
go_wp2
go_ret
exact ⟨_, by first | rfl | (simp [errW_none, errW_some] <;> rfl) | (simp [*, errW_none, errW_some] <;> rfl), by (with_reducible repeat (first | apply r1 | apply r2 | apply r3)); exact HO_5.out, by repeat (first | (with_reducible first | exact HB.out | apply b1 | apply b2 | apply b3 | refine below_set ?_ GE197.out) | exact HB.out)⟩
)
)
)
)

end Go.Proofs.Ytalopdcephohgaa.RB
