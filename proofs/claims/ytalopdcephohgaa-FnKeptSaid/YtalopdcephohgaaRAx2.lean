/- Contracts of Go functions that laws of this seat reach: each Lean function answers as its Go function does. No condition. Written by wip/tools/inj.py, over the kit's print. -/
import Derived.Test.YtalopdcephohgaaRAx0
import Derived.Test.YtalopdcephohgaaRAx1
namespace Go.Proofs.Ytalopdcephohgaa.RA
open Go.RowKit Go.Proofs.YtalopdcephohgaaW.PrintWords Go.Proofs.YtalopdcephohgaaW.PrintLast Go.Proofs.YtalopdcephohgaaW.PrintMore
attribute [local go_sem] max2_int min2_int max_two min_two max_three min_three max_four min_four   -- for this text's walks alone
set_option linter.unusedVariables false
set_option linter.unusedSimpArgs false

/-! ### spec_HistoryOk: function 20 -/
mutual
def spec_HistoryOk.j0 : Nat → Bool → Int → List ByteArray → Int → Option (Bool)
 | 0, _, _, _, _ => none
 | k + 1, x21, x104000, x104001, x104002 => if x21 = true then (some false) else (spec_HistoryOk.l0 k 0 x104000 x104001 x104002)
def spec_HistoryOk.l0 : Nat → Int → Int → List ByteArray → Int → Option (Bool)
 | 0, _, _, _, _ => none
 | k + 1, x3, x104000, x104001, x104002 => if x3 < (x104001.length : Int) then (if 0 ≤ x3 then (if ((rdOf ByteArray.empty x104001 x3).size : Int) > 300 then (some false) else (spec_HistoryOk.l0 k (wrap64 (x3 + 1)) x104000 x104001 x104002)) else (none)) else (some true)
end
def spec_HistoryOk.f (k : Nat) (a0_0 : Int) (l0_1 : List ByteArray) (a0_2 : Int) : Option (Bool) := (spec_l1In.f a0_0 1 200).bind fun t104 => (if t104 = true then (if (l0_1.length : Int) > a0_0 then (spec_HistoryOk.j0 k true a0_0 l0_1 a0_2) else ((spec_l1In.f a0_2 0 1000000).bind fun t105 => (spec_HistoryOk.j0 k (!t105) a0_0 l0_1 a0_2))) else (spec_HistoryOk.j0 k true a0_0 l0_1 a0_2))
theorem spec_HistoryOk.mono_l : ∀ k, (∀ y0 y1 y2 y3, LeO (spec_HistoryOk.j0 k y0 y1 y2 y3) (spec_HistoryOk.j0 (k + 1) y0 y1 y2 y3)) ∧ (∀ y0 y1 y2 y3, LeO (spec_HistoryOk.l0 k y0 y1 y2 y3) (spec_HistoryOk.l0 (k + 1) y0 y1 y2 y3))
 | 0 => ⟨fun _ _ _ _ r h => by simp [spec_HistoryOk.j0] at h, fun _ _ _ _ r h => by simp [spec_HistoryOk.l0] at h⟩
 | k + 1 => by
  obtain ⟨ih0, ih1⟩ := spec_HistoryOk.mono_l k
  refine ⟨?_, ?_⟩
  ·intro y0 y1 y2 y3
   unfold spec_HistoryOk.j0
   repeat' first
   | (with_reducible exact ih0 _ _ _ _)
   | (with_reducible exact ih1 _ _ _ _)
   | (with_reducible exact LeO.refl _)
   | (with_reducible exact LeO.none _)
   | (with_reducible refine LeO.ite ?_ ?_)
   | (with_reducible refine LeO.bind ?_ (fun _ => ?_))
  ·intro y0 y1 y2 y3
   unfold spec_HistoryOk.l0
   repeat' first
   | (with_reducible exact ih0 _ _ _ _)
   | (with_reducible exact ih1 _ _ _ _)
   | (with_reducible exact LeO.refl _)
   | (with_reducible exact LeO.none _)
   | (with_reducible refine LeO.ite ?_ ?_)
   | (with_reducible refine LeO.bind ?_ (fun _ => ?_))
theorem spec_HistoryOk.mono : ∀ a0 a1 a2 k, LeO (spec_HistoryOk.f k a0 a1 a2) (spec_HistoryOk.f (k + 1) a0 a1 a2) := by
 intro a0 a1 a2 k
 obtain ⟨ih0, ih1⟩ := spec_HistoryOk.mono_l k
 unfold spec_HistoryOk.f
 repeat' first
   | (with_reducible exact ih0 _ _ _ _)
   | (with_reducible exact ih1 _ _ _ _)
   | (with_reducible exact LeO.refl _)
   | (with_reducible exact LeO.none _)
   | (with_reducible refine LeO.ite ?_ ?_)
   | (with_reducible refine LeO.bind ?_ (fun _ => ?_))
set_option maxHeartbeats 8000000 in
set_option maxRecDepth 100000 in
theorem spec_HistoryOk.calls (k : Nat) (a0_0 : Int) (A0_1 : Option Addr) (c0_1 : Nat) (l0_1 : List ByteArray) (a0_2 : Int) (r : Bool) (w : World) (hr0_1 : Kd.C Kd.string w A0_1 l0_1.length l0_1) (hc0_1 : l0_1.length ≤ c0_1) (h : spec_HistoryOk.f k a0_0 l0_1 a0_2 = some r) :
  Calls Try.prog 20 #[.agg #[.int .i64 a0_0, .slice A0_1 l0_1.length c0_1, .int .i64 a0_2]] w fun e w' => e = .returned (.bool r) ∧ Below w.heap.size w w' := by
 (
have hu26 := Try.underlying26
have HR0_1 := am hr0_1
have HC0_1 := am hc0_1
clear hr0_1 hc0_1
have HB := am (Below.refl w.heap.size w)
have H := h
unfold spec_HistoryOk.f at H
clear h
have HC2 := am H
clear H
go_enter Try.func20, Try.ntmps20
go_upto_region 1 with (first | ((with_reducible refine gate_dst (N := 1) rfl ?_); (try (refine gate_guard (by rfl) ?_; dsimp only)); refine box_event ?hg (N := 1) ?hd (cs := #[.int .i64 a0_0, .slice A0_1 l0_1.length c0_1, .int .i64 a0_2]) (t := 26) ?hr ?_; (case hd => rfl); (case hg => rfl); (case hr => first | (go_simp; done) | (go_simp; rfl)); intro gb103 hg w3 hbox hb; have BK103 := am (hbox); have GW103 := am (gw hg (rb HB)); have GE103 := GW103; replace HB := am (below_step (rb HB) hb); clear hb hbox hg))
(try simp only [Act.put, List.setIfInBounds_toArray, List.set_cons_zero, List.set_cons_succ])
go_cut [21] (fun v21 wc => ∃ (kq : Nat) (x21_1 : Bool), v21 = .bool x21_1 ∧ Aside0 (spec_HistoryOk.j0 kq x21_1 a0_0 l0_1 a0_2 = some r) ∧ Aside0 (kq ≤ k) ∧ Aside0 (wc.heap[gb103]? = some (.cells #[.int .i64 a0_0, (.slice A0_1 l0_1.length c0_1), .int .i64 a0_2] 26 (0, 0))) ∧ Aside0 (Below w.heap.size w wc))
case first => (
have H := HC2.out
clear HC2
replace H := Option.bind_eq_some_iff.mp H
obtain ⟨t104, A40, H⟩ := H
(try dsimp only at H)
have A4 := am A40
clear A40
refine em_ (p := t104 = true) (fun c5 => ?g1p) (fun c5 => ?g1n)
case' g1p => (
subst c5
rw [if_pos rfl] at H
refine em_ (p := (l0_1.length : Int) > a0_0) (fun c6 => ?g0p) (fun c6 => ?g0n)
case' g0p => (
rw [if_pos c6] at H
have c6b0 : decide (a0_0 < (l0_1.length : Int)) = true := decide_eq_true c6
clear c6
(first | rw [c6b0] | (simp only [i64_w, i32_w]; rw [c6b0]) | skip)
have H' := am H
clear H
have lf1_ := trivial
)
case' g0n => (
rw [if_neg c6] at H
have c6b0 : decide (a0_0 < (l0_1.length : Int)) = false := decide_eq_false c6
clear c6
(first | rw [c6b0] | (simp only [i64_w, i32_w]; rw [c6b0]) | skip)
replace H := Option.bind_eq_some_iff.mp H
obtain ⟨t105, A80, H⟩ := H
(try dsimp only at H)
have A8 := am A80
clear A80
have H' := am H
clear H
have lf2_ := trivial
)
)
case' g1n => (
replace c5 := Bool.eq_false_iff.mpr c5
subst c5
rw [if_neg (show ¬ (false = true) by decide)] at H
have H' := am H
clear H
have lf3_ := trivial
)
all_goals (
have hcz7_0 : w3.cell? ⟨gb103, 0, none⟩ = some (.int .i64 a0_0) := (blk_cell BK103.out 0).trans rfl
have hcz7_1 : w3.cell? ⟨gb103, 1, none⟩ = some (.slice A0_1 l0_1.length c0_1) := (blk_cell BK103.out 1).trans rfl
have hcz7_2 : w3.cell? ⟨gb103, 2, none⟩ = some (.int .i64 a0_2) := (blk_cell BK103.out 2).trans rfl
have hfz7_0 := blk_frozen BK103.out 0
have hfz7_1 := blk_frozen BK103.out 1
have hfz7_2 := blk_frozen BK103.out 2
go_wp2_with (first | ((with_reducible refine gate_callee (f := 60) rfl ?_); refine gl_ (some 6) Try.func60 #[.int .i64 a0_0, .int .i64 1, .int .i64 200] ?_; (with_reducible refine (spec_l1In.calls a0_0 1 200 false _ A4.out).mono ?_); rintro e w' ⟨rfl, ⟨nd, rfl⟩⟩; refine ⟨_, rfl, ?_⟩) | ((with_reducible refine gate_callee (f := 60) rfl ?_); refine gl_ (some 6) Try.func60 #[.int .i64 a0_0, .int .i64 1, .int .i64 200] ?_; (with_reducible refine (spec_l1In.calls a0_0 1 200 true _ A4.out).mono ?_); rintro e w' ⟨rfl, ⟨nd, rfl⟩⟩; refine ⟨_, rfl, ?_⟩) | (go_at_call 60; (with_reducible refine (spec_l1In.calls a0_2 0 1000000 t105 _ A8.out).mono ?_); rintro e w' ⟨rfl, ⟨nd, rfl⟩⟩))
go_meet
first
| (
first | have q_ := lf1_ | have q_ := lf3_
case rel => exact ⟨_, (true), (by first | rfl | (simp; done) | (simp [*]; done)), H', ⟨by first | omega | exact Nat.le_refl _⟩, ⟨rk BK103⟩, ⟨by repeat (first | (with_reducible first | exact HB.out | apply b1 | apply b2 | apply b3 | refine below_set ?_ GE103.out) | exact HB.out)⟩⟩
)
| (
have q_ := lf2_
case rel => exact ⟨_, (!t105), (by first | rfl | (simp; done) | (simp [*]; done)), H', ⟨by first | omega | exact Nat.le_refl _⟩, ⟨rk BK103⟩, ⟨by repeat (first | (with_reducible first | exact HB.out | apply b1 | apply b2 | apply b3 | refine below_set ?_ GE103.out) | exact HB.out)⟩⟩
)
)
)
case rest => (
clear HC2
try clear c2
try clear p2
try clear c5
try clear c6
try clear c6b0
try clear hcz10_0
try clear hcz10_1
try clear hcz10_2
try clear hcz7_0
try clear hcz7_1
try clear hcz7_2
try clear hcz9_0
try clear hcz9_1
try clear hcz9_2
try clear hfz10_0
try clear hfz10_1
try clear hfz10_2
try clear hfz7_0
try clear hfz7_1
try clear hfz7_2
try clear hfz9_0
try clear hfz9_1
try clear hfz9_2
obtain ⟨kq, x21_1, rfl, HA, HJ1, BK103, HB⟩ := hcut
cases kq with
| zero => exact absurd HA.out (by simp [spec_HistoryOk.j0])
| succ kj1 => (
have H := HA.out
clear HA
simp only [spec_HistoryOk.j0] at H
by_cases c11 : x21_1 = true
·(
subst c11
have H1 : (some false) = some r := by rw [if_pos rfl] at H; exact H
clear H
have H := H1
clear H1
obtain rfl := Option.some.inj H
go_wp2
go_ret
exact ⟨by first | rfl | (simp [errW_none, errW_some] <;> rfl) | (simp [*, errW_none, errW_some] <;> rfl), by repeat (first | (with_reducible first | exact HB.out | apply b1 | apply b2 | apply b3 | refine below_set ?_ GE103.out) | exact HB.out)⟩
)
·(
replace c11 := Bool.eq_false_iff.mpr c11
subst c11
rw [if_neg (show ¬ (false = true) by decide)] at H
have H' := am H
clear H
go_wp2
go_loopg [3] kj1 (fun kq v3 w' => ∃ (x3_2 : Int), v3 = .int .i64 x3_2 ∧ Aside0 (spec_HistoryOk.l0 kq x3_2 a0_0 l0_1 a0_2 = some r) ∧ Aside0 (kq ≤ kj1) ∧ Aside0 (w'.heap[gb103]? = some (.cells #[.int .i64 a0_0, (.slice A0_1 l0_1.length c0_1), .int .i64 a0_2] 26 (0, 0))) ∧ Aside0 (Below w.heap.size w w'))
case atStart => exact ⟨(0), (by first | rfl | (simp; done) | (simp [*]; done)), H', ⟨Nat.le_refl _⟩, ⟨rk BK103⟩, ⟨by repeat (first | (with_reducible first | exact HB.out | apply b1 | apply b2 | apply b3 | refine below_set ?_ GE103.out) | exact HB.out)⟩⟩
case round => (
clear H'
try clear c1
try clear c2
try clear p2
try clear c5
try clear c6
try clear c6b0
try clear c11
try clear hcz10_0
try clear hcz10_1
try clear hcz10_2
try clear hcz7_0
try clear hcz7_1
try clear hcz7_2
try clear hcz9_0
try clear hcz9_1
try clear hcz9_2
try clear hfz10_0
try clear hfz10_1
try clear hfz10_2
try clear hfz7_0
try clear hfz7_1
try clear hfz7_2
try clear hfz9_0
try clear hfz9_1
try clear hfz9_2
try clear p2
obtain ⟨x3_2, rfl, HA, HK2, BK103, HB⟩ := hrel
cases gk with
| zero => exact absurd HA.out (by simp [spec_HistoryOk.l0])
| succ k2 => (
have H := HA.out
clear HA
simp only [spec_HistoryOk.l0] at H
by_cases c12 : x3_2 < (l0_1.length : Int)
·(
rw [if_pos c12] at H
have c12b0 : decide (x3_2 < (l0_1.length : Int)) = true := decide_eq_true c12
clear c12
refine em_ (p := 0 ≤ x3_2) (fun c13 => ?g3p) (fun c13 => ?g3n)
case' g3p => (
rw [if_pos c13] at H
have c13b0 : decide (0 ≤ x3_2) = true := decide_eq_true c13
clear c13
refine em_ (p := ((rdOf ByteArray.empty l0_1 x3_2).size : Int) > 300) (fun c14 => ?g2p) (fun c14 => ?g2n)
case' g2p => (
rw [if_pos c14] at H
have c14b0 : decide (300 < ((rdOf ByteArray.empty l0_1 x3_2).size : Int)) = true := decide_eq_true c14
have c14b1 : decide (300 < (rdOf ByteArray.empty l0_1 x3_2).size) = true := decide_eq_true (by omega)
clear c14
obtain rfl := Option.some.inj H
have lf6_ := trivial
)
case' g2n => (
rw [if_neg c14] at H
have c14b0 : decide (300 < ((rdOf ByteArray.empty l0_1 x3_2).size : Int)) = false := decide_eq_false c14
have c14b1 : decide (300 < (rdOf ByteArray.empty l0_1 x3_2).size) = false := decide_eq_false (by omega)
clear c14
have H' := am H
clear H
have lf7_ := trivial
)
)
case g3n => (
rw [if_neg c13] at H
exact absurd H (by simp)
)
all_goals (
have hcz15_0 : wr.cell? ⟨gb103, 0, none⟩ = some (.int .i64 a0_0) := (blk_cell BK103.out 0).trans rfl
have hcz15_1 : wr.cell? ⟨gb103, 1, none⟩ = some (.slice A0_1 l0_1.length c0_1) := (blk_cell BK103.out 1).trans rfl
have hcz15_2 : wr.cell? ⟨gb103, 2, none⟩ = some (.int .i64 a0_2) := (blk_cell BK103.out 2).trans rfl
have hfz15_0 := blk_frozen BK103.out 0
have hfz15_1 := blk_frozen BK103.out 1
have hfz15_2 := blk_frozen BK103.out 2
have p106 : 0 ≤ (x3_2 : Int) := dt_
have q106 : x3_2 < (l0_1.length : Int) := dt_
obtain ⟨ad106, e106, hx106_0⟩ := Kd.at_string HR0_1.out x3_2 p106 q106
cases e106
replace hx106_0 := mv HB.out hx106_0
replace p106 := eq_true p106
replace q106 := eq_true q106
go_wp2
first
| (
have q_ := lf7_
go_roundg k2
case measure => have := HJ1.out; have := HK2.out; omega
case rel => exact ⟨(wrap64 (x3_2 + 1)), (by first | rfl | (simp; done) | (simp [*]; done)), H', ⟨by have := HJ1.out; have := HK2.out; omega⟩, ⟨rk BK103⟩, ⟨by repeat (first | (with_reducible first | exact HB.out | apply b1 | apply b2 | apply b3 | refine below_set ?_ GE103.out) | exact HB.out)⟩⟩
)
| (
have q_ := lf6_
go_ret
exact ⟨by first | rfl | (simp [errW_none, errW_some] <;> rfl) | (simp [*, errW_none, errW_some] <;> rfl), by repeat (first | (with_reducible first | exact HB.out | apply b1 | apply b2 | apply b3 | refine below_set ?_ GE103.out) | exact HB.out)⟩
)
)
)
·(
rw [if_neg c12] at H
have c12b0 : decide (x3_2 < (l0_1.length : Int)) = false := decide_eq_false c12
clear c12
obtain rfl := Option.some.inj H
have hcz17_0 : wr.cell? ⟨gb103, 0, none⟩ = some (.int .i64 a0_0) := (blk_cell BK103.out 0).trans rfl
have hcz17_1 : wr.cell? ⟨gb103, 1, none⟩ = some (.slice A0_1 l0_1.length c0_1) := (blk_cell BK103.out 1).trans rfl
have hcz17_2 : wr.cell? ⟨gb103, 2, none⟩ = some (.int .i64 a0_2) := (blk_cell BK103.out 2).trans rfl
have hfz17_0 := blk_frozen BK103.out 0
have hfz17_1 := blk_frozen BK103.out 1
have hfz17_2 := blk_frozen BK103.out 2
go_wp2
go_ret
exact ⟨by first | rfl | (simp [errW_none, errW_some] <;> rfl) | (simp [*, errW_none, errW_some] <;> rfl), by repeat (first | (with_reducible first | exact HB.out | apply b1 | apply b2 | apply b3 | refine below_set ?_ GE103.out) | exact HB.out)⟩
)
)
)
)
)
)
)

end Go.Proofs.Ytalopdcephohgaa.RA
