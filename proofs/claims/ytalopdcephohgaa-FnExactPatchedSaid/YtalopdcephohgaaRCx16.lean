/- Contracts of Go functions that laws of this seat reach: each Lean function answers as its Go function does. No condition. Written by wip/tools/inj.py, over the kit's print. -/
import Derived.Test.YtalopdcephohgaaRCx0
namespace Go.Proofs.Ytalopdcephohgaa.RC
open Go.RowKit Go.Proofs.YtalopdcephohgaaW.PrintWords Go.Proofs.YtalopdcephohgaaW.PrintLast Go.Proofs.YtalopdcephohgaaW.PrintMore
attribute [local go_sem] max2_int min2_int max_two min_two max_three min_three max_four min_four   -- for this text's walks alone
set_option linter.unusedVariables false
set_option linter.unusedSimpArgs false

/-! ### spec_l1Max: function 97 -/
def spec_l1Max.f (a0 : Int) (a1 : Int) : Option (Int) := if a0 > a1 then (some a0) else (some a1)
set_option maxHeartbeats 8000000 in
set_option maxRecDepth 100000 in
theorem spec_l1Max.calls (a0 : Int) (a1 : Int) (r : Int) (w : World) (h : spec_l1Max.f a0 a1 = some r) :
  Calls Try.prog 97 #[.int .i64 a0, .int .i64 a1] w fun e w' => e = .returned (.int .i64 r) ∧ Drawn0 w w' := by
 (
have H : (if a0 > a1 then (some a0) else (some a1)) = some r := h
clear h
by_cases c3 : a0 > a1
·(
rw [if_pos c3] at H
have c3b0 : decide (a1 < a0) = true := decide_eq_true c3
clear c3
obtain rfl := Option.some.inj H
go_enter Try.func97, Try.ntmps97
go_wp2
go_ret
exact ⟨by first | rfl | (simp; done) | (simp [*]; done), by repeat (first | exact Drawn0.refl _ | apply Drawn0.step)⟩
)
·(
rw [if_neg c3] at H
have c3b0 : decide (a1 < a0) = false := decide_eq_false c3
clear c3
obtain rfl := Option.some.inj H
go_enter Try.func97, Try.ntmps97
go_wp2
go_ret
exact ⟨by first | rfl | (simp; done) | (simp [*]; done), by repeat (first | exact Drawn0.refl _ | apply Drawn0.step)⟩
)
)

/-! ### spec_l4Blank: function 121 -/
def spec_l4Blank.f (a0_0 : Int) (a0_1 : Int) (a0_2 : Bool) (a0_3 : Bool) (a0_4 : Bool) : Option (Int × Int × Int × Bool × Bool × Bool × Int) := some (32, a0_0, a0_1, a0_2, a0_3, a0_4, 0)
set_option maxHeartbeats 8000000 in
set_option maxRecDepth 100000 in
theorem spec_l4Blank.calls (a0_0 : Int) (a0_1 : Int) (a0_2 : Bool) (a0_3 : Bool) (a0_4 : Bool) (r1 : Int) (r2 : Int) (r3 : Int) (r4 : Bool) (r5 : Bool) (r6 : Bool) (r7 : Int) (w : World) (h : spec_l4Blank.f a0_0 a0_1 a0_2 a0_3 a0_4 = some (r1, r2, r3, r4, r5, r6, r7)) :
  Calls Try.prog 121 #[.agg #[.int .i64 a0_0, .int .i64 a0_1, .bool a0_2, .bool a0_3, .bool a0_4]] w fun e w' => e = .returned (.agg #[.int .i64 r1, .int .i64 r2, .int .i64 r3, .bool r4, .bool r5, .bool r6, .int .i64 r7]) ∧ Below w.heap.size w w' := by
 (
have hu96 := Try.underlying96
have hu98 := Try.underlying98
have HB := am (Below.refl w.heap.size w)
have H : (some (32, a0_0, a0_1, a0_2, a0_3, a0_4, 0)) = some (r1, r2, r3, r4, r5, r6, r7) := h
clear h
simp only [Option.some.injEq, Prod.mk.injEq] at H
obtain ⟨rfl, rfl, rfl, rfl, rfl, rfl, rfl⟩ := H
go_enter Try.func121, Try.ntmps121
go_wp2_with (first | ((with_reducible refine gate_dst (N := 1) rfl ?_); refine box_event ?hg (N := 1) ?hd (cs := #[.int .i64 a0_0, .int .i64 a0_1, .bool a0_2, .bool a0_3, .bool a0_4]) (t := 96) ?hr ?_; (case hd => rfl); (case hg => rfl); (case hr => first | (go_simp; done) | (go_simp; rfl)); intro gb202 hg w2 hbox hb; have BK202 := am (hbox); have GW202 := am (gw hg (rb HB)); have GE202 := GW202; replace HB := am (below_step (rb HB) hb); clear hb hbox hg) | ((with_reducible refine gate_dst (N := 2) rfl ?_); refine box_event ?hg (N := 2) ?hd (cs := #[.int .i64 0, .int .i64 0, .int .i64 0, .bool false, .bool false, .bool false, .int .i64 0]) (t := 98) ?hr ?_; (case hd => rfl); (case hg => rfl); (case hr => first | (go_simp; done) | (go_simp; rfl)); intro gb203 hg w3 hbox hb; have BK203 := am (hbox); have GW203 := am (gw hg (rb1 HB GE202)); have GE203 := GW203; replace HB := am (below_step (rb1 HB GE202) hb); have NB202_203 := am (nl hg (rk BK202)); have NB203_202 := am (ng hg (rk BK202)); replace BK202 := am (blk_below (rk BK202) hb); clear hb hbox hg; have hnb4 := NB202_203.out; have hnc4 := NB203_202.out; have hcz5_0 : w3.cell? ⟨gb202, 0, none⟩ = some (.int .i64 a0_0) := (blk_cell BK202.out 0).trans rfl; have hcz5_1 : w3.cell? ⟨gb202, 1, none⟩ = some (.int .i64 a0_1) := (blk_cell BK202.out 1).trans rfl; have hcz5_2 : w3.cell? ⟨gb202, 2, none⟩ = some (.bool a0_2) := (blk_cell BK202.out 2).trans rfl; have hcz5_3 : w3.cell? ⟨gb202, 3, none⟩ = some (.bool a0_3) := (blk_cell BK202.out 3).trans rfl; have hcz5_4 : w3.cell? ⟨gb202, 4, none⟩ = some (.bool a0_4) := (blk_cell BK202.out 4).trans rfl; have hfz5_0 := blk_frozen BK202.out 0; have hfz5_1 := blk_frozen BK202.out 1; have hfz5_2 := blk_frozen BK202.out 2; have hfz5_3 := blk_frozen BK202.out 3; have hfz5_4 := blk_frozen BK202.out 4; have hcz6_0 : w3.cell? ⟨gb203, 0, none⟩ = some (.int .i64 0) := (blk_cell BK203.out 0).trans rfl; have hcz6_1 : w3.cell? ⟨gb203, 1, none⟩ = some (.int .i64 0) := (blk_cell BK203.out 1).trans rfl; have hcz6_2 : w3.cell? ⟨gb203, 2, none⟩ = some (.int .i64 0) := (blk_cell BK203.out 2).trans rfl; have hcz6_3 : w3.cell? ⟨gb203, 3, none⟩ = some (.bool false) := (blk_cell BK203.out 3).trans rfl; have hcz6_4 : w3.cell? ⟨gb203, 4, none⟩ = some (.bool false) := (blk_cell BK203.out 4).trans rfl; have hcz6_5 : w3.cell? ⟨gb203, 5, none⟩ = some (.bool false) := (blk_cell BK203.out 5).trans rfl; have hcz6_6 : w3.cell? ⟨gb203, 6, none⟩ = some (.int .i64 0) := (blk_cell BK203.out 6).trans rfl; have hfz6_0 := blk_frozen BK203.out 0; have hfz6_1 := blk_frozen BK203.out 1; have hfz6_2 := blk_frozen BK203.out 2; have hfz6_3 := blk_frozen BK203.out 3; have hfz6_4 := blk_frozen BK203.out 4; have hfz6_5 := blk_frozen BK203.out 5; have hfz6_6 := blk_frozen BK203.out 6))
refine bodyPost_ret (results_cell_row rfl _ _ gb203 98 #[.int .i64 32, .int .i64 a0_0, .int .i64 a0_1, .bool a0_2, .bool a0_3, .bool a0_4, .int .i64 0] (0, 0) _ rfl (rp_0_1_2_3_4_5_6 BK203) Try.underlying98 rfl (by kernel_rfl)) rfl ?_
exact ⟨by first | rfl | (simp [errW_none, errW_some] <;> rfl) | (simp [*, errW_none, errW_some] <;> rfl), rb2 HB GE202 GE203⟩
)

end Go.Proofs.Ytalopdcephohgaa.RC

namespace Go.Proofs.Ytalopdcephohgaa.RC
open Go.RowKit Go.Proofs.YtalopdcephohgaaW.PrintWords Go.Proofs.YtalopdcephohgaaW.PrintLast Go.Proofs.YtalopdcephohgaaW.PrintMore
attribute [local go_sem] max2_int min2_int max_two min_two max_three min_three max_four min_four   -- for this text's walks alone
set_option linter.unusedVariables false
set_option linter.unusedSimpArgs false

/-! ### spec_l1Min: function 99 -/
def spec_l1Min.f (a0 : Int) (a1 : Int) : Option (Int) := if a0 < a1 then (some a0) else (some a1)
set_option maxHeartbeats 8000000 in
set_option maxRecDepth 100000 in
theorem spec_l1Min.calls (a0 : Int) (a1 : Int) (r : Int) (w : World) (h : spec_l1Min.f a0 a1 = some r) :
  Calls Try.prog 99 #[.int .i64 a0, .int .i64 a1] w fun e w' => e = .returned (.int .i64 r) ∧ Drawn0 w w' := by
 (
have H : (if a0 < a1 then (some a0) else (some a1)) = some r := h
clear h
by_cases c3 : a0 < a1
·(
rw [if_pos c3] at H
have c3b0 : decide (a0 < a1) = true := decide_eq_true c3
clear c3
obtain rfl := Option.some.inj H
go_enter Try.func99, Try.ntmps99
go_wp2
go_ret
exact ⟨by first | rfl | (simp; done) | (simp [*]; done), by repeat (first | exact Drawn0.refl _ | apply Drawn0.step)⟩
)
·(
rw [if_neg c3] at H
have c3b0 : decide (a0 < a1) = false := decide_eq_false c3
clear c3
obtain rfl := Option.some.inj H
go_enter Try.func99, Try.ntmps99
go_wp2
go_ret
exact ⟨by first | rfl | (simp; done) | (simp [*]; done), by repeat (first | exact Drawn0.refl _ | apply Drawn0.step)⟩
)
)

/-! ### spec_l4Row: function 100 -/
def spec_l4Row.l0 : Nat → Int → List (S98) → Int → Int → Int → Bool → Bool → Bool → Option ((List (S98)))
 | 0, _, _, _, _, _, _, _, _ => none
 | k + 1, x0, x5, x6, x271000, x271001, x271002, x271003, x271004 => if x6 < x0 then ((spec_l4Blank.f x271000 x271001 x271002 x271003 x271004).bind fun bt274 => (if x5.length < 3518437208883 then (spec_l4Row.l0 k x0 (x5 ++ [(⟨bt274.1, (⟨bt274.2.1, bt274.2.2.1, bt274.2.2.2.1, bt274.2.2.2.2.1, bt274.2.2.2.2.2.1⟩ : S96), bt274.2.2.2.2.2.2⟩ : S98)]) (wrap64 (x6 + 1)) x271000 x271001 x271002 x271003 x271004) else (none))) else (some x5)
def spec_l4Row.f (k : Nat) (a0 : Int) (a1_0 : Int) (a1_1 : Int) (a1_2 : Bool) (a1_3 : Bool) (a1_4 : Bool) : Option ((List (S98))) := spec_l4Row.l0 k a0 (([] : List (S98))) 0 a1_0 a1_1 a1_2 a1_3 a1_4
theorem spec_l4Row.mono_l : ∀ k, (∀ y0 y1 y2 y3 y4 y5 y6 y7, LeO (spec_l4Row.l0 k y0 y1 y2 y3 y4 y5 y6 y7) (spec_l4Row.l0 (k + 1) y0 y1 y2 y3 y4 y5 y6 y7))
 | 0 => fun _ _ _ _ _ _ _ _ r h => by simp [spec_l4Row.l0] at h
 | k + 1 => by
  have ih0 := spec_l4Row.mono_l k
  ·intro y0 y1 y2 y3 y4 y5 y6 y7
   unfold spec_l4Row.l0
   repeat' first
   | (with_reducible exact ih0 _ _ _ _ _ _ _ _)
   | (with_reducible exact LeO.refl _)
   | (with_reducible exact LeO.none _)
   | (with_reducible refine LeO.ite ?_ ?_)
   | (with_reducible refine LeO.bind ?_ (fun _ => ?_))
theorem spec_l4Row.mono : ∀ a0 a1 a2 a3 a4 a5 k, LeO (spec_l4Row.f k a0 a1 a2 a3 a4 a5) (spec_l4Row.f (k + 1) a0 a1 a2 a3 a4 a5) := by
 intro a0 a1 a2 a3 a4 a5 k
 have ih0 := spec_l4Row.mono_l k
 unfold spec_l4Row.f
 repeat' first
   | (with_reducible exact ih0 _ _ _ _ _ _ _ _)
   | (with_reducible exact LeO.refl _)
   | (with_reducible exact LeO.none _)
   | (with_reducible refine LeO.ite ?_ ?_)
   | (with_reducible refine LeO.bind ?_ (fun _ => ?_))
set_option maxHeartbeats 8000000 in
set_option maxRecDepth 100000 in
theorem spec_l4Row.calls (k : Nat) (a0 : Int) (a1_0 : Int) (a1_1 : Int) (a1_2 : Bool) (a1_3 : Bool) (a1_4 : Bool) (r : List (S98)) (w : World) (h : spec_l4Row.f k a0 a1_0 a1_1 a1_2 a1_3 a1_4 = some r) :
  Calls Try.prog 100 #[.int .i64 a0, .agg #[.int .i64 a1_0, .int .i64 a1_1, .bool a1_2, .bool a1_3, .bool a1_4]] w fun e w' => ∃ v0_ : Value, e = .returned (v0_) ∧ Kd.R k98 98 w' w.heap.size (fun _ => True) v0_ r ∧ Below w.heap.size w w' := by
 (
have hu96 := Try.underlying96
have HB := am (Below.refl w.heap.size w)
have H : (spec_l4Row.l0 k a0 (([] : List (S98))) 0 a1_0 a1_1 a1_2 a1_3 a1_4) = some r := h
clear h
obtain ⟨y271, hy271⟩ : ∃ y_ : List (S98), y_ = (([] : List (S98))) := ⟨_, rfl⟩
replace H : (spec_l4Row.l0 k a0 y271 0 a1_0 a1_1 a1_2 a1_3 a1_4) = some r := by first | (rw [hy271]; with_reducible exact H) | (rw [hy271]; exact H) | exact H
have Ny271 := am hy271
clear hy271
have H' := am H
clear H
go_enter Try.func100, Try.ntmps100
go_wp2_with (first | ((with_reducible refine gate_dst (N := 3) rfl ?_); refine box_event ?hg (N := 3) ?hd (cs := #[.int .i64 a1_0, .int .i64 a1_1, .bool a1_2, .bool a1_3, .bool a1_4]) (t := 96) ?hr ?_; (case hd => rfl); (case hg => rfl); (case hr => first | (go_simp; done) | (go_simp; rfl)); intro gb270 hg w3 hbox hb; have BK270 := am (hbox); have GW270 := am (gw hg (rb HB)); have GE270 := GW270; replace HB := am (below_step (rb HB) hb); clear hb hbox hg) | ((with_reducible refine gate_dst (N := 7) rfl ?_); refine Kd.R_lit k98 _ 98 ?hg (N := 7) ?hd (xs := ([] : List (S98))) (inner := []) (ok := fun _ => True) (okp := fun _ => True) ?hr ?hp (fun _ hk => hk) trivial (Below.refl _ _) (Nat.le_refl _) (by simp) ?_; (case hd => rfl); (case hg => rfl); (case hr => first | (go_simp; done) | (go_simp; rfl)); (case hp => exact (Reps.none _ _)); intro v272 w4 ho5 hb hg_ hnew_; clear hg_ hnew_; (first | rw [← Ny271.out] at ho5 | (simp only [Int.reduceToNat] at ho5; rw [← Ny271.out] at ho5)); have HO273 := am (Kd.R_lower ho5 (below_size (rb1 HB GE270))); replace BK270 := am (blk_below (rk BK270) hb); replace HB := am (below_step (rb1 HB GE270) hb); clear hb ho5))
go_loopg [5, 6] k (fun kq v5 v6 w' => ∃ (x5_1 : List (S98)) (x6_1 : Int), v6 = .int .i64 x6_1 ∧ Aside0 (spec_l4Row.l0 kq a0 x5_1 x6_1 a1_0 a1_1 a1_2 a1_3 a1_4 = some r) ∧ Aside0 (kq ≤ k) ∧ Aside0 (Kd.R k98 98 w' w.heap.size (fun _ => True) v5 x5_1) ∧ Aside0 (w'.heap[gb270]? = some (.cells #[.int .i64 a1_0, .int .i64 a1_1, .bool a1_2, .bool a1_3, .bool a1_4] 96 (0, 0))) ∧ Aside0 (Below w.heap.size w w'))
case atStart => exact ⟨(y271), (0), (by first | rfl | (simp; done) | (simp [*]; done)), H', ⟨Nat.le_refl _⟩, ⟨rr HO273⟩, ⟨rk BK270⟩, ⟨by repeat (first | (with_reducible first | exact HB.out | apply b1 | apply b2 | apply b3 | refine below_set ?_ GE270.out) | exact HB.out)⟩⟩
case round => (
clear H'
try clear c1
try clear p2
obtain ⟨x5_1, x6_1, rfl, HA, HK1, HO_5, BK270, HB⟩ := hrel
cases gk with
| zero => exact absurd HA.out (by simp [spec_l4Row.l0])
| succ k1 => (
have H := HA.out
clear HA
simp only [spec_l4Row.l0] at H
by_cases c6 : x6_1 < a0
·(
rw [if_pos c6] at H
have c6b0 : decide (x6_1 < a0) = true := decide_eq_true c6
clear c6
replace H := Option.bind_eq_some_iff.mp H
obtain ⟨⟨t274, t275, t276, t277, t278, t279, t280⟩, A70, H⟩ := H
(try dsimp only at H)
have A7 := am A70
clear A70
refine em_ (p := x5_1.length < 3518437208883) (fun c8 => ?g0p) (fun c8 => ?g0n)
case' g0p => (
rw [if_pos c8] at H
have LMc8 := am c8
clear c8
obtain ⟨y281, hy281⟩ : ∃ y_ : List (S98), y_ = (x5_1 ++ [(⟨t274, (⟨t275, t276, t277, t278, t279⟩ : S96), t280⟩ : S98)]) := ⟨_, rfl⟩
replace H : (spec_l4Row.l0 k1 a0 y281 (wrap64 (x6_1 + 1)) a1_0 a1_1 a1_2 a1_3 a1_4) = some r := by first | (rw [hy281]; with_reducible exact H) | (rw [hy281]; exact H) | exact H
have Ny281 := am hy281
clear hy281
have H' := am H
clear H
have lf1_ := trivial
)
case g0n => (
rw [if_neg c8] at H
exact absurd H (by simp)
)
all_goals (
have hcz9_0 : wr.cell? ⟨gb270, 0, none⟩ = some (.int .i64 a1_0) := (blk_cell BK270.out 0).trans rfl
have hcz9_1 : wr.cell? ⟨gb270, 1, none⟩ = some (.int .i64 a1_1) := (blk_cell BK270.out 1).trans rfl
have hcz9_2 : wr.cell? ⟨gb270, 2, none⟩ = some (.bool a1_2) := (blk_cell BK270.out 2).trans rfl
have hcz9_3 : wr.cell? ⟨gb270, 3, none⟩ = some (.bool a1_3) := (blk_cell BK270.out 3).trans rfl
have hcz9_4 : wr.cell? ⟨gb270, 4, none⟩ = some (.bool a1_4) := (blk_cell BK270.out 4).trans rfl
have hfz9_0 := blk_frozen BK270.out 0
have hfz9_1 := blk_frozen BK270.out 1
have hfz9_2 := blk_frozen BK270.out 2
have hfz9_3 := blk_frozen BK270.out 3
have hfz9_4 := blk_frozen BK270.out 4
go_wp2_with (first | ((with_reducible refine gate_callee (f := 121) rfl ?_); refine gl_ (some 15) Try.func121 #[.agg #[.int .i64 a1_0, .int .i64 a1_1, .bool a1_2, .bool a1_3, .bool a1_4]] ?_; (with_reducible refine (spec_l4Blank.calls a1_0 a1_1 a1_2 a1_3 a1_4 t274 t275 t276 t277 t278 t279 t280 _ A7.out).mono ?_); rintro e w10 ⟨rfl, hb⟩; refine ⟨_, rfl, ?_⟩; replace HO_5 := am (Kd.R_below (rr HO_5) hb); replace BK270 := am (blk_below (rk BK270) hb); replace HB := am (below_step (rb1 HB GE270) hb); (try clear hb); (try clear hb2); (try clear hk); (try clear hi)) | ((with_reducible refine gate_builtin (b := .append) (xs := #[.tmp 13, .tmp 16]) rfl ?_); at_builtin; refine Kd.R_append k98 (w0 := w) w.heap.size rfl (.tmp 13) (.tmp 16) 99 98 (.agg #[(.int .i64 0), (.int .i64 0), (.int .i64 0), (.bool false), (.bool false), (.bool false), (.int .i64 0)]) 40 rfl Try.underlying99 info98 rfl (by decide) (by omega) u5 x5_1 (⟨t274, (⟨t275, t276, t277, t278, t279⟩ : S96), t280⟩ : S98) [.int .i64 t274, .int .i64 t275, .int .i64 t276, .bool t277, .bool t278, .bool t279, .int .i64 t280] (fun _ => True) (fun _ => False) rfl rfl ?aP (fun _ hk => hk.elim) ?aF ?aO ?aB ?aS ?aL ?_; (case aP => exact k98_mkM _ _ _ (⟨t274, (⟨t275, t276, t277, t278, t279⟩ : S96), t280⟩ : S98)); (case aB => exact (rb1 HB GE270)); (case aF => exact (fun _ _ => trivial)); (case aO => exact (rr HO_5)); (case aS => exact (below_size (rb1 HB GE270))); (case aL => have := LMc8.out; omega); intro v282 w11 ho hb hg hat; rw [← Ny281.out] at ho; replace BK270 := am (blk_grown (rk BK270) hg (Kd.R_ne HO_5.out BK270.out (by decide))); replace HB := am (hb); have HO283 := am (ho); clear HO_5; clear ho hb hg hat))
go_roundg k1
case measure => have := HK1.out; omega
case rel => exact ⟨(y281), (wrap64 (x6_1 + 1)), (by first | rfl | (simp; done) | (simp [*]; done)), H', ⟨by have := HK1.out; omega⟩, ⟨rr HO283⟩, ⟨rk BK270⟩, ⟨by repeat (first | (with_reducible first | exact HB.out | apply b1 | apply b2 | apply b3 | refine below_set ?_ GE270.out) | exact HB.out)⟩⟩
)
)
·(
rw [if_neg c6] at H
have c6b0 : decide (x6_1 < a0) = false := decide_eq_false c6
clear c6
obtain rfl := Option.some.inj H
go_wp2
go_ret
exact ⟨_, by first | rfl | (simp [errW_none, errW_some] <;> rfl) | (simp [*, errW_none, errW_some] <;> rfl), by (with_reducible repeat (first | apply r1 | apply r2 | apply r3)); exact HO_5.out, by repeat (first | (with_reducible first | exact HB.out | apply b1 | apply b2 | apply b3 | refine below_set ?_ GE270.out) | exact HB.out)⟩
)
)
)
)

end Go.Proofs.Ytalopdcephohgaa.RC
