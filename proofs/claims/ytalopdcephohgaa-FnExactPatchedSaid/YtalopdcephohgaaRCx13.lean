/- Contracts of Go functions that laws of this seat reach: each Lean function answers as its Go function does. No condition. Written by wip/tools/inj.py, over the kit's print. -/
import Derived.Test.YtalopdcephohgaaRCx0
import Derived.Test.YtalopdcephohgaaRCx10
import Derived.Test.YtalopdcephohgaaRCx12
namespace Go.Proofs.Ytalopdcephohgaa.RC
open Go.RowKit Go.Proofs.YtalopdcephohgaaW.PrintWords Go.Proofs.YtalopdcephohgaaW.PrintLast Go.Proofs.YtalopdcephohgaaW.PrintMore
attribute [local go_sem] max2_int min2_int max_two min_two max_three min_three max_four min_four   -- for this text's walks alone
set_option linter.unusedVariables false
set_option linter.unusedSimpArgs false

/-! ### spec_GridOk: function 69 -/
mutual
def spec_GridOk.j0 : Nat → Bool → Int → List (List (S98)) → Option (Bool)
 | 0, _, _, _ => none
 | k + 1, x19, x198000, x198001 => if x19 = true then (some false) else (spec_GridOk.l0 k 0 x198000 x198001)
def spec_GridOk.l0 : Nat → Int → Int → List (List (S98)) → Option (Bool)
 | 0, _, _, _ => none
 | k + 1, x3, x198000, x198001 => if x3 < (x198001.length : Int) then (if 0 ≤ x3 then (if ((rd_L7 x198001 x3).length : Int) = x198000 then ((spec_RowOk.f k (rd_L7 x198001 x3)).bind fun t201 => (if t201 = true then (spec_GridOk.l0 k (wrap64 (x3 + 1)) x198000 x198001) else (some false))) else (some false)) else (none)) else (some true)
end
def spec_GridOk.f (k : Nat) (a0_0 : Int) (l0_1 : List (List (S98))) : Option (Bool) := (spec_l1In.f a0_0 1 60).bind fun t198 => (if t198 = true then (if (l0_1.length : Int) < 1 then (spec_GridOk.j0 k true a0_0 l0_1) else (spec_GridOk.j0 k (decide ((l0_1.length : Int) > 30)) a0_0 l0_1)) else (spec_GridOk.j0 k true a0_0 l0_1))
theorem spec_GridOk.mono_l : ∀ k, (∀ y0 y1 y2, LeO (spec_GridOk.j0 k y0 y1 y2) (spec_GridOk.j0 (k + 1) y0 y1 y2)) ∧ (∀ y0 y1 y2, LeO (spec_GridOk.l0 k y0 y1 y2) (spec_GridOk.l0 (k + 1) y0 y1 y2))
 | 0 => ⟨fun _ _ _ r h => by simp [spec_GridOk.j0] at h, fun _ _ _ r h => by simp [spec_GridOk.l0] at h⟩
 | k + 1 => by
  obtain ⟨ih0, ih1⟩ := spec_GridOk.mono_l k
  refine ⟨?_, ?_⟩
  ·intro y0 y1 y2
   unfold spec_GridOk.j0
   repeat' first
   | (with_reducible exact ih0 _ _ _)
   | (with_reducible exact ih1 _ _ _)
   | (with_reducible exact spec_RowOk.mono _ _)
   | (with_reducible exact LeO.refl _)
   | (with_reducible exact LeO.none _)
   | (with_reducible refine LeO.ite ?_ ?_)
   | (with_reducible refine LeO.bind ?_ (fun _ => ?_))
  ·intro y0 y1 y2
   unfold spec_GridOk.l0
   repeat' first
   | (with_reducible exact ih0 _ _ _)
   | (with_reducible exact ih1 _ _ _)
   | (with_reducible exact spec_RowOk.mono _ _)
   | (with_reducible exact LeO.refl _)
   | (with_reducible exact LeO.none _)
   | (with_reducible refine LeO.ite ?_ ?_)
   | (with_reducible refine LeO.bind ?_ (fun _ => ?_))
theorem spec_GridOk.mono : ∀ a0 a1 k, LeO (spec_GridOk.f k a0 a1) (spec_GridOk.f (k + 1) a0 a1) := by
 intro a0 a1 k
 obtain ⟨ih0, ih1⟩ := spec_GridOk.mono_l k
 unfold spec_GridOk.f
 repeat' first
   | (with_reducible exact ih0 _ _ _)
   | (with_reducible exact ih1 _ _ _)
   | (with_reducible exact spec_RowOk.mono _ _)
   | (with_reducible exact LeO.refl _)
   | (with_reducible exact LeO.none _)
   | (with_reducible refine LeO.ite ?_ ?_)
   | (with_reducible refine LeO.bind ?_ (fun _ => ?_))
def spec_GridOk.T6 : Bool × List (List Nat × List Nat) := (true, [([], []), ([0], [0]), ([], []), ([1, 2], [1, 2]), ([3], [3]), ([4], [4]), ([], []), ([6], [6]), ([5, 7], [5, 7]), ([8], [8]), ([9], [9]), ([10, 9], [9, 10]), ([9], [9]), ([11, 12, 9], [9, 11, 12]), ([13, 9], [9, 13]), ([14, 9, 9], [9, 14]), ([15, 9], [9, 15]), ([9, 16], [9, 16])])
def spec_GridOk.B6 : List Nat := [0, 1, 0, 7, 15, 31, 0, 64, 255, 511, 1023, 2047, 1023, 8191, 16383, 32767, 65535, 131071]
theorem spec_GridOk.tab6 : rtab .any (opsOf Try.f69 6) = spec_GridOk.T6 := by kernel_rfl
theorem spec_GridOk.bits6 : waitsOk spec_GridOk.T6.2 spec_GridOk.B6 = true := by kernel_rfl
set_option maxHeartbeats 8000000 in
set_option maxRecDepth 100000 in
theorem spec_GridOk.calls (k : Nat) (a0_0 : Int) (A0_1 : Option Addr) (c0_1 : Nat) (l0_1 : List (List (S98))) (r : Bool) (w : World) (hr0_1 : Kd.C (Kd.slice 98 k98) w A0_1 l0_1.length l0_1) (hc0_1 : l0_1.length ≤ c0_1) (h : spec_GridOk.f k a0_0 l0_1 = some r) :
  Calls Try.prog 69 #[.agg #[.int .i64 a0_0, .slice A0_1 l0_1.length c0_1]] w fun e w' => e = .returned (.bool r) ∧ Below w.heap.size w w' := by
 (
have hu58 := Try.underlying58
have HR0_1 := am hr0_1
have HC0_1 := am hc0_1
clear hr0_1 hc0_1
have HB := am (Below.refl w.heap.size w)
have H := h
unfold spec_GridOk.f at H
clear h
have HC2 := am H
clear H
go_enter Try.func69, Try.ntmps69
go_upto_region 1 with (first | ((with_reducible refine gate_dst (N := 1) rfl ?_); (try (refine gate_guard (by rfl) ?_; dsimp only)); refine box_event ?hg (N := 1) ?hd (cs := #[.int .i64 a0_0, .slice A0_1 l0_1.length c0_1]) (t := 58) ?hr ?_; (case hd => rfl); (case hg => rfl); (case hr => first | (go_simp; done) | (go_simp; rfl)); intro gb197 hg w3 hbox hb; have BK197 := am (hbox); have GW197 := am (gw hg (rb HB)); have GE197 := GW197; replace HB := am (below_step (rb HB) hb); clear hb hbox hg))
(try simp only [Act.put, List.setIfInBounds_toArray, List.set_cons_zero, List.set_cons_succ])
go_cut [19] (fun v19 wc => ∃ (kq : Nat) (x19_1 : Bool), v19 = .bool x19_1 ∧ Aside0 (spec_GridOk.j0 kq x19_1 a0_0 l0_1 = some r) ∧ Aside0 (kq ≤ k) ∧ Aside0 (wc.heap[gb197]? = some (.cells #[.int .i64 a0_0, (.slice A0_1 l0_1.length c0_1)] 58 (0, 0))) ∧ Aside0 (Below w.heap.size w wc))
case first => (
have H := HC2.out
clear HC2
replace H := Option.bind_eq_some_iff.mp H
obtain ⟨t198, A40, H⟩ := H
(try dsimp only at H)
have A4 := am A40
clear A40
refine em_ (p := t198 = true) (fun c5 => ?g0p) (fun c5 => ?g0n)
case g0p => (
subst c5
rw [if_pos rfl] at H
by_cases c6 : (l0_1.length : Int) < 1
·(
rw [if_pos c6] at H
have c6b0 : decide ((l0_1.length : Int) < 1) = true := decide_eq_true c6
have c6b1 : decide (l0_1.length < 1) = true := decide_eq_true (by omega)
clear c6
(first | rw [c6b0] | (simp only [i64_w, i32_w]; rw [c6b0]) | skip)
have H' := am H
clear H
have hcz7_0 : w3.cell? ⟨gb197, 0, none⟩ = some (.int .i64 a0_0) := (blk_cell BK197.out 0).trans rfl
have hcz7_1 : w3.cell? ⟨gb197, 1, none⟩ = some (.slice A0_1 l0_1.length c0_1) := (blk_cell BK197.out 1).trans rfl
have hfz7_0 := blk_frozen BK197.out 0
have hfz7_1 := blk_frozen BK197.out 1
go_wp2_with (first | ((with_reducible refine gate_callee (f := 60) rfl ?_); refine gl_ (some 6) Try.func60 #[.int .i64 a0_0, .int .i64 1, .int .i64 60] ?_; (with_reducible refine (spec_l1In.calls a0_0 1 60 true _ A4.out).mono ?_); rintro e w' ⟨rfl, ⟨nd, rfl⟩⟩; refine ⟨_, rfl, ?_⟩))
go_meet
case rel => exact ⟨_, (true), (by first | rfl | (simp; done) | (simp [*]; done)), H', ⟨by first | omega | exact Nat.le_refl _⟩, ⟨rk BK197⟩, ⟨by repeat (first | (with_reducible first | exact HB.out | apply b1 | apply b2 | apply b3 | refine below_set ?_ GE197.out) | exact HB.out)⟩⟩
)
·(
rw [if_neg c6] at H
have c6b0 : decide ((l0_1.length : Int) < 1) = false := decide_eq_false c6
have c6b1 : decide (l0_1.length < 1) = false := decide_eq_false (by omega)
clear c6
(first | rw [c6b0] | (simp only [i64_w, i32_w]; rw [c6b0]) | skip)
have H' := am H
clear H
have hcz8_0 : w3.cell? ⟨gb197, 0, none⟩ = some (.int .i64 a0_0) := (blk_cell BK197.out 0).trans rfl
have hcz8_1 : w3.cell? ⟨gb197, 1, none⟩ = some (.slice A0_1 l0_1.length c0_1) := (blk_cell BK197.out 1).trans rfl
have hfz8_0 := blk_frozen BK197.out 0
have hfz8_1 := blk_frozen BK197.out 1
go_wp2_with (first | ((with_reducible refine gate_callee (f := 60) rfl ?_); refine gl_ (some 6) Try.func60 #[.int .i64 a0_0, .int .i64 1, .int .i64 60] ?_; (with_reducible refine (spec_l1In.calls a0_0 1 60 true _ A4.out).mono ?_); rintro e w' ⟨rfl, ⟨nd, rfl⟩⟩; refine ⟨_, rfl, ?_⟩))
go_meet
case rel => exact ⟨_, (decide ((l0_1.length : Int) > 30)), (by first | rfl | (simp; done) | (simp [*]; done)), H', ⟨by first | omega | exact Nat.le_refl _⟩, ⟨rk BK197⟩, ⟨by repeat (first | (with_reducible first | exact HB.out | apply b1 | apply b2 | apply b3 | refine below_set ?_ GE197.out) | exact HB.out)⟩⟩
)
)
case' g0n => (
replace c5 := Bool.eq_false_iff.mpr c5
subst c5
rw [if_neg (show ¬ (false = true) by decide)] at H
have H' := am H
clear H
have lf3_ := trivial
)
all_goals (
have hcz9_0 : w3.cell? ⟨gb197, 0, none⟩ = some (.int .i64 a0_0) := (blk_cell BK197.out 0).trans rfl
have hcz9_1 : w3.cell? ⟨gb197, 1, none⟩ = some (.slice A0_1 l0_1.length c0_1) := (blk_cell BK197.out 1).trans rfl
have hfz9_0 := blk_frozen BK197.out 0
have hfz9_1 := blk_frozen BK197.out 1
go_wp2_with (first | ((with_reducible refine gate_callee (f := 60) rfl ?_); refine gl_ (some 6) Try.func60 #[.int .i64 a0_0, .int .i64 1, .int .i64 60] ?_; (with_reducible refine (spec_l1In.calls a0_0 1 60 false _ A4.out).mono ?_); rintro e w' ⟨rfl, ⟨nd, rfl⟩⟩; refine ⟨_, rfl, ?_⟩))
go_meet
case rel => exact ⟨_, (true), (by first | rfl | (simp; done) | (simp [*]; done)), H', ⟨by first | omega | exact Nat.le_refl _⟩, ⟨rk BK197⟩, ⟨by repeat (first | (with_reducible first | exact HB.out | apply b1 | apply b2 | apply b3 | refine below_set ?_ GE197.out) | exact HB.out)⟩⟩
)
)
case rest => (
clear HC2
try clear p2
try clear c5
try clear c6
try clear c6b0
try clear c6b1
try clear hcz7_0
try clear hcz7_1
try clear hcz8_0
try clear hcz8_1
try clear hcz9_0
try clear hcz9_1
try clear hfz7_0
try clear hfz7_1
try clear hfz8_0
try clear hfz8_1
try clear hfz9_0
try clear hfz9_1
obtain ⟨kq, x19_1, rfl, HA, HJ1, BK197, HB⟩ := hcut
cases kq with
| zero => exact absurd HA.out (by simp [spec_GridOk.j0])
| succ kj1 => (
have H := HA.out
clear HA
simp only [spec_GridOk.j0] at H
by_cases c10 : x19_1 = true
·(
subst c10
have H1 : (some false) = some r := by rw [if_pos rfl] at H; exact H
clear H
have H := H1
clear H1
obtain rfl := Option.some.inj H
go_wp2
go_ret
exact ⟨by first | rfl | (simp [errW_none, errW_some] <;> rfl) | (simp [*, errW_none, errW_some] <;> rfl), by repeat (first | (with_reducible first | exact HB.out | apply b1 | apply b2 | apply b3 | refine below_set ?_ GE197.out) | exact HB.out)⟩
)
·(
replace c10 := Bool.eq_false_iff.mpr c10
subst c10
rw [if_neg (show ¬ (false = true) by decide)] at H
have H' := am H
clear H
go_wp2
go_loopg [3] kj1 (fun kq v3 w' => ∃ (x3_2 : Int), v3 = .int .i64 x3_2 ∧ Aside0 (spec_GridOk.l0 kq x3_2 a0_0 l0_1 = some r) ∧ Aside0 (kq ≤ kj1) ∧ Aside0 (w'.heap[gb197]? = some (.cells #[.int .i64 a0_0, (.slice A0_1 l0_1.length c0_1)] 58 (0, 0))) ∧ Aside0 (Below w.heap.size w w'))
case atStart => exact ⟨(0), (by first | rfl | (simp; done) | (simp [*]; done)), H', ⟨Nat.le_refl _⟩, ⟨rk BK197⟩, ⟨by repeat (first | (with_reducible first | exact HB.out | apply b1 | apply b2 | apply b3 | refine below_set ?_ GE197.out) | exact HB.out)⟩⟩
case round => (
clear H'
try clear c1
try clear p2
try clear c5
try clear c6
try clear c6b0
try clear c6b1
try clear c10
try clear hcz7_0
try clear hcz7_1
try clear hcz8_0
try clear hcz8_1
try clear hcz9_0
try clear hcz9_1
try clear hfz7_0
try clear hfz7_1
try clear hfz8_0
try clear hfz8_1
try clear hfz9_0
try clear hfz9_1
try clear p2
obtain ⟨x3_2, rfl, HA, HK2, BK197, HB⟩ := hrel
cases gk with
| zero => exact absurd HA.out (by simp [spec_GridOk.l0])
| succ k2 => (
have H := HA.out
clear HA
simp only [spec_GridOk.l0] at H
by_cases c11 : x3_2 < (l0_1.length : Int)
·(
rw [if_pos c11] at H
have c11b0 : decide (x3_2 < (l0_1.length : Int)) = true := decide_eq_true c11
clear c11
refine em_ (p := 0 ≤ x3_2) (fun c12 => ?g3p) (fun c12 => ?g3n)
case' g3p => (
rw [if_pos c12] at H
have c12b0 : decide (0 ≤ x3_2) = true := decide_eq_true c12
clear c12
refine em_ (p := ((rd_L7 l0_1 x3_2).length : Int) = a0_0) (fun c13 => ?g2p) (fun c13 => ?g2n)
case' g2p => (
rw [if_pos c13] at H
have c13b0 : (((rd_L7 l0_1 x3_2).length : Int) == a0_0) = true := beq_iff_eq.mpr c13
have c13b1 : (((rd_L7 l0_1 x3_2).length : Int) != a0_0) = false := bne_eq_false_iff_eq.mpr c13
clear c13
replace H := Option.bind_eq_some_iff.mp H
obtain ⟨t201, A140, H⟩ := H
(try dsimp only at H)
have A14 := am A140
clear A140
refine em_ (p := t201 = true) (fun c15 => ?g1p) (fun c15 => ?g1n)
case' g1p => (
subst c15
have H1 : (spec_GridOk.l0 k2 (wrap64 (x3_2 + 1)) a0_0 l0_1) = some r := by rw [if_pos rfl] at H; exact H
clear H
have H := H1
clear H1
have H' := am H
clear H
have lf8_ := trivial
)
case' g1n => (
replace c15 := Bool.eq_false_iff.mpr c15
subst c15
have H1 : (some false) = some r := by rw [if_neg (show ¬ (false = true) by decide)] at H; exact H
clear H
have H := H1
clear H1
obtain rfl := Option.some.inj H
have lf9_ := trivial
)
)
case' g2n => (
rw [if_neg c13] at H
have c13b0 : (((rd_L7 l0_1 x3_2).length : Int) == a0_0) = false := beq_eq_false_iff_ne.mpr c13
have c13b1 : (((rd_L7 l0_1 x3_2).length : Int) != a0_0) = true := bne_iff_ne.mpr c13
obtain rfl := Option.some.inj H
have lf10_ := trivial
)
)
case g3n => (
rw [if_neg c12] at H
exact absurd H (by simp)
)
all_goals (
have hcz16_0 : wr.cell? ⟨gb197, 0, none⟩ = some (.int .i64 a0_0) := (blk_cell BK197.out 0).trans rfl
have hcz16_1 : wr.cell? ⟨gb197, 1, none⟩ = some (.slice A0_1 l0_1.length c0_1) := (blk_cell BK197.out 1).trans rfl
have hfz16_0 := blk_frozen BK197.out 0
have hfz16_1 := blk_frozen BK197.out 1
try go_wp2
replace BK197 := am (blk_drew BK197.out)
replace HB := am (below_drew1 HB.out)
have p199 : 0 ≤ (x3_2 : Int) := dt_
have q199 : x3_2 < (l0_1.length : Int) := dt_
obtain ⟨ad199, A199_0, c199_0, e199, hx199_0, hl199_0, hi199_0⟩ := at_L7 HR0_1.out x3_2 p199 q199
have hw199_0 := hx199_0
cases e199
replace hx199_0 := mv HB.out hx199_0
have HR199_0 := am hi199_0
have HC199_0 := am hl199_0
clear hi199_0 hl199_0
replace p199 := eq_true p199
replace q199 := eq_true q199
first
| (
have p200 : 0 ≤ (x3_2 : Int) := dt_
have q200 : x3_2 < (l0_1.length : Int) := dt_
obtain ⟨ad200, A200_0, c200_0, e200, hx200_0, hl200_0, hi200_0⟩ := at_L7 HR0_1.out x3_2 p200 q200
have hw200_0 := hx200_0
obtain rfl : ad199 = ad200 := (by injection e200)
replace hx200_0 := mv HB.out hx200_0
have HR200_0 := am hi200_0
have HC200_0 := am hl200_0
clear hi200_0 hl200_0
replace p200 := eq_true p200
replace q200 := eq_true q200
have ea_ := Option.some.inj (hx199_0.symm.trans hx200_0)
injection ea_ with ea_ en_ ec_
subst ea_
subst ec_
clear en_
refine start_ (n := 18) (S := fun w' => w'.cell? ⟨gb197, 0, none⟩ = some (.int .i64 a0_0) ∧ w'.cell? ⟨gb197, 1, none⟩ = some (.slice (some ad199) l0_1.length c0_1) ∧ w'.cell? (ad199.add (x3_2).toNat) = some (.slice A199_0 (rd_L7 l0_1 x3_2).length c199_0) ∧ w'.cell? (ad199.add (x3_2).toNat) = some (.slice A199_0 (rd_L7 l0_1 x3_2).length c199_0)) (ds := []) (bm 18 0) (by kernel_rfl) rfl rfl ⟨(blk_cell BK197.out 0).trans rfl, (blk_cell BK197.out 1).trans rfl, ((HB.out.cell (World.block_lt_of_cell? w _ hw199_0)).trans hw199_0), ((HB.out.cell (World.block_lt_of_cell? w _ hw200_0)).trans hw200_0)⟩ (fun hHeld => ?_); refine with_tabW spec_GridOk.tab6 spec_GridOk.bits6 (fun HT_ HW_ => ?_)
generalize wr.drew = w17 at BK197 HB HR199_0 HR200_0 hx199_0 hx200_0 hHeld ⊢
)
| (
refine start_ (n := 18) (S := fun w' => w'.cell? ⟨gb197, 0, none⟩ = some (.int .i64 a0_0) ∧ w'.cell? ⟨gb197, 1, none⟩ = some (.slice (some ad199) l0_1.length c0_1) ∧ w'.cell? (ad199.add (x3_2).toNat) = some (.slice A199_0 (rd_L7 l0_1 x3_2).length c199_0)) (ds := []) (bm 18 0) (by kernel_rfl) rfl rfl ⟨(blk_cell BK197.out 0).trans rfl, (blk_cell BK197.out 1).trans rfl, ((HB.out.cell (World.block_lt_of_cell? w _ hw199_0)).trans hw199_0)⟩ (fun hHeld => ?_); refine with_tabW spec_GridOk.tab6 spec_GridOk.bits6 (fun HT_ HW_ => ?_)
generalize wr.drew = w23 at BK197 HB HR199_0 hx199_0 hHeld ⊢
)
refine pu_ 0 27 (bm 18 1) HT_.out ?_
refine pu_ 2 29 (bm 18 5) HT_.out ?_
refine pu_ 6 33 (bm 18 69) HT_.out ?_
refine take_ (i := 1) (N := some 28) (v := ?_) (a' := ?_) (bm 18 71) rfl rfl (take_ofW HT_.out HW_.out (by kernel_rfl)) (fun _ _ _ h => h) (Or.inl ⟨by rfl, ?_⟩) hHeld ?_ ?_
rotate_left
first
| (
·(
rintro w' ⟨s0, s1, s2, s3⟩
go_simp
with_reducible rfl
)
)
| (
·(
rintro w' ⟨s0, s1, s2⟩
go_simp
with_reducible rfl
)
)
rotate_left
·(
simp only [Act.put, List.setIfInBounds_toArray, List.set_cons_zero, List.set_cons_succ, i64_w, i32_w]
rfl
)
refine pu_ 3 30 (bm 18 79) HT_.out ?_
refine take_ (i := 4) (N := some 31) (v := ?_) (a' := ?_) (bm 18 95) rfl rfl (take_ofW HT_.out HW_.out (by kernel_rfl)) (fun _ _ _ h => h) (Or.inl ⟨by rfl, ?_⟩) hHeld ?_ ?_
rotate_left
first
| (
·(
rintro w' ⟨s0, s1, s2, s3⟩
go_simp
with_reducible rfl
)
)
| (
·(
rintro w' ⟨s0, s1, s2⟩
go_simp
with_reducible rfl
)
)
rotate_left
·(
simp only [Act.put, List.setIfInBounds_toArray, List.set_cons_zero, List.set_cons_succ, i64_w, i32_w]
rfl
)
refine pu_ 5 32 (bm 18 127) HT_.out ?_
refine take_ (i := 7) (N := some 34) (v := ?_) (a' := ?_) (bm 18 255) rfl rfl (take_ofW HT_.out HW_.out (by kernel_rfl)) (fun _ _ _ h => h) (Or.inl ⟨by rfl, ?_⟩) hHeld ?_ ?_
rotate_left
first
| (
·(
rintro w' ⟨s0, s1, s2, s3⟩
go_simp
with_reducible rfl
)
)
| (
·(
rintro w' ⟨s0, s1, s2⟩
go_simp
with_reducible rfl
)
)
rotate_left
·(
simp only [Act.put, List.setIfInBounds_toArray, List.set_cons_zero, List.set_cons_succ, i64_w, i32_w]
rfl
)
refine pu_ 8 35 (bm 18 511) HT_.out ?_
refine pu_ 9 36 (bm 18 1023) HT_.out ?_
first | refine pu_ 10 37 (bm 18 2047) HT_.out ?_ | refine un_ 10 37 (bm 18 2047) HT_.out ?_
first
| (
refine pu_ 12 39 (bm 18 6143) HT_.out ?_
refine take_ (i := 11) (N := some 38) (v := ?_) (a' := ?_) (bm 18 8191) rfl rfl (take_ofW HT_.out HW_.out (by kernel_rfl)) (fun _ _ _ h => h) (Or.inl ⟨by rfl, ?_⟩) hHeld ?_ ?_
rotate_left
·(
rintro w' ⟨s0, s1, s2, s3⟩
go_simp
with_reducible rfl
)
rotate_left
·(
simp only [Act.put, List.setIfInBounds_toArray, List.set_cons_zero, List.set_cons_succ, i64_w, i32_w]
rfl
)
refine pu_ 13 40 (bm 18 16383) HT_.out ?_
refine take_ (i := 14) (N := some 41) (v := ?_) (a' := ?_) (bm 18 32767) rfl rfl (take_ofW HT_.out HW_.out (by kernel_rfl)) (fun _ _ _ h => h) (Or.inl ⟨by rfl, ?_⟩) hHeld ?_ ?_
rotate_left
·(
rintro w' ⟨s0, s1, s2, s3⟩
go_simp
with_reducible rfl
)
rotate_left
·(
simp only [Act.put, List.setIfInBounds_toArray, List.set_cons_zero, List.set_cons_succ, i64_w, i32_w]
rfl
)
refine one_ (i := 15) (N := some 42) (bm 18 65535) rfl rfl (one_of HT_.out (by kernel_rfl)) (by decide) (fun K hK => ?_)
refine goes_ Try.func96 (by kernel_rfl) rfl #[.slice A199_0 (rd_L7 l0_1 x3_2).length c199_0] (by rfl) rfl rfl mt ?_
first | with_reducible refine (spec_RowOk.calls k2 _ _ (rd_L7 l0_1 x3_2) false _ ?side1 ?side2 A14.out).mono ?_ | with_reducible refine (spec_RowOk.calls k2 _ _ (rd_L7 l0_1 x3_2) true _ ?side1 ?side2 A14.out).mono ?_
(case side1 => exact rc ((Kd.C_below HR200_0.out HB.out)))
(case side2 => exact HC200_0.out)
rintro e w18 ⟨rfl, hb⟩
refine ⟨_, rfl, ?_⟩
replace BK197 := am (blk_below (rk BK197) hb)
replace HB := am (below_step (rb1 HB GE197) hb)
(try clear hb)
refine hK.out _ _ ⟨(blk_cell BK197.out 0).trans rfl, (blk_cell BK197.out 1).trans rfl, ((HB.out.cell (World.block_lt_of_cell? w _ hw199_0)).trans hw199_0), ((HB.out.cell (World.block_lt_of_cell? w _ hw200_0)).trans hw200_0)⟩ (fun hHeld => ?_)
clear hK K
refine norm_ (a' := _) (show Act.put _ (some 42) _ = _ from na) ?_
)
| (
refine un_ 11 38 (bm 18 4095) HT_.out ?_
refine un_ 12 39 (bm 18 8191) HT_.out ?_
refine un_ 13 40 (bm 18 16383) HT_.out ?_
refine un_ 14 41 (bm 18 32767) HT_.out ?_
refine un_ 15 42 (bm 18 65535) HT_.out ?_
)
first | refine pu_ 16 43 (bm 18 131071) HT_.out ?_ | refine un_ 16 43 (bm 18 131071) HT_.out ?_
refine pu_ 17 44 (bm 18 262143) HT_.out ?_
refine done_ (done_of HT_.out (by kernel_rfl)) ?_
try go_wp2
first
| (
have q_ := lf8_
go_roundg k2
case measure => have := HJ1.out; have := HK2.out; omega
case rel => exact ⟨(wrap64 (x3_2 + 1)), (by first | rfl | (simp; done) | (simp [*]; done)), H', ⟨by have := HJ1.out; have := HK2.out; omega⟩, ⟨rk BK197⟩, ⟨by repeat (first | (with_reducible first | exact HB.out | apply b1 | apply b2 | apply b3 | refine below_set ?_ GE197.out) | exact HB.out)⟩⟩
)
| (
first | have q_ := lf9_ | have q_ := lf10_
go_ret
exact ⟨by first | rfl | (simp [errW_none, errW_some] <;> rfl) | (simp [*, errW_none, errW_some] <;> rfl), by repeat (first | (with_reducible first | exact HB.out | apply b1 | apply b2 | apply b3 | refine below_set ?_ GE197.out) | exact HB.out)⟩
)
)
)
·(
rw [if_neg c11] at H
have c11b0 : decide (x3_2 < (l0_1.length : Int)) = false := decide_eq_false c11
clear c11
obtain rfl := Option.some.inj H
have hcz24_0 : wr.cell? ⟨gb197, 0, none⟩ = some (.int .i64 a0_0) := (blk_cell BK197.out 0).trans rfl
have hcz24_1 : wr.cell? ⟨gb197, 1, none⟩ = some (.slice A0_1 l0_1.length c0_1) := (blk_cell BK197.out 1).trans rfl
have hfz24_0 := blk_frozen BK197.out 0
have hfz24_1 := blk_frozen BK197.out 1
go_wp2
go_ret
exact ⟨by first | rfl | (simp [errW_none, errW_some] <;> rfl) | (simp [*, errW_none, errW_some] <;> rfl), by repeat (first | (with_reducible first | exact HB.out | apply b1 | apply b2 | apply b3 | refine below_set ?_ GE197.out) | exact HB.out)⟩
)
)
)
)
)
)
)

end Go.Proofs.Ytalopdcephohgaa.RC
