/- Contracts of Go functions that laws of this seat reach: each Lean function answers as its Go function does. No condition. Written by wip/tools/inj.py, over the kit's print. -/
import Derived.Test.YtalopdcephohgaaRAx0
import Derived.Test.YtalopdcephohgaaRAx1
namespace Go.Proofs.Ytalopdcephohgaa.RA
open Go.RowKit Go.Proofs.YtalopdcephohgaaW.PrintWords Go.Proofs.YtalopdcephohgaaW.PrintLast Go.Proofs.YtalopdcephohgaaW.PrintMore
attribute [local go_sem] max2_int min2_int max_two min_two max_three min_three max_four min_four   -- for this text's walks alone
set_option linter.unusedVariables false
set_option linter.unusedSimpArgs false

/-! ### spec_NewHistory: function 24 -/
def spec_NewHistory.f (a0 : Int) : Option (Int × List ByteArray × Int × Bool) := (spec_l1In.f a0 1 200).bind fun t127 => (if t127 = true then (some (a0, ([] : List ByteArray), 0, true)) else (some (0, ([] : List ByteArray), 0, false)))
set_option maxHeartbeats 8000000 in
set_option maxRecDepth 100000 in
theorem spec_NewHistory.calls (a0 : Int) (r1 : Int) (r2 : List ByteArray) (r3 : Int) (r4 : Bool) (w : World) (h : spec_NewHistory.f a0 = some (r1, r2, r3, r4)) :
  Calls Try.prog 24 #[.int .i64 a0] w fun e w' => ∃ v1_ : Value, e = .returned (.tuple #[.agg #[.int .i64 r1, v1_, .int .i64 r3], .bool r4]) ∧ Kd.R Kd.string 9 w' w.heap.size (fun _ => True) v1_ r2 ∧ Below w.heap.size w w' := by
 (
have hu26 := Try.underlying26
have HB := am (Below.refl w.heap.size w)
have H := h
unfold spec_NewHistory.f at H
clear h
replace H := Option.bind_eq_some_iff.mp H
obtain ⟨t127, A20, H⟩ := H
(try dsimp only at H)
have A2 := am A20
clear A20
refine em_ (p := t127 = true) (fun c3 => ?g0p) (fun c3 => ?g0n)
case' g0p => (
subst c3
have H1 : (some (a0, ([] : List ByteArray), 0, true)) = some (r1, r2, r3, r4) := by rw [if_pos rfl] at H; exact H
clear H
have H := H1
clear H1
simp only [Option.some.injEq, Prod.mk.injEq] at H
obtain ⟨rfl, rfl, rfl, rfl⟩ := H
have lf1_ := trivial
)
case' g0n => (
replace c3 := Bool.eq_false_iff.mpr c3
subst c3
rw [if_neg (show ¬ (false = true) by decide)] at H
simp only [Option.some.injEq, Prod.mk.injEq] at H
obtain ⟨rfl, rfl, rfl, rfl⟩ := H
have lf2_ := trivial
)
all_goals (
go_enter Try.func24, Try.ntmps24
go_wp2_with (first | ((with_reducible refine gate_callee (f := 60) rfl ?_); refine gl_ (some 5) Try.func60 #[.int .i64 a0, .int .i64 1, .int .i64 200] ?_; (with_reducible refine (spec_l1In.calls a0 1 200 false _ A2.out).mono ?_); rintro e w' ⟨rfl, ⟨nd, rfl⟩⟩; refine ⟨_, rfl, ?_⟩; (try (rw [drewN_self w4]; generalize hq_ : World.drewN w4 _ = w4; have n0_ : Aside0 (w4.heap[gb126]? = some (.cells #[.int .i64 0, .slice none 0 0, .int .i64 0] 26 (0, 0))) := ⟨by rw [← hq_]; exact (rk BK126)⟩; have n1_ : Aside0 (Below w.heap.size w w4) := ⟨by rw [← hq_]; exact (rb1 HB GE126)⟩; clear BK126 HB hq_; have BK126 := n0_; have HB := n1_; clear n0_ n1_)); have hcz7_0 : w4.cell? ⟨gb126, 0, none⟩ = some (.int .i64 0) := (blk_cell BK126.out 0).trans rfl; have hcz7_1 : w4.cell? ⟨gb126, 1, none⟩ = some (.slice none 0 0) := (blk_cell BK126.out 1).trans rfl; have hcz7_2 : w4.cell? ⟨gb126, 2, none⟩ = some (.int .i64 0) := (blk_cell BK126.out 2).trans rfl; have hfz7_0 := blk_frozen BK126.out 0; have hfz7_1 := blk_frozen BK126.out 1; have hfz7_2 := blk_frozen BK126.out 2) | ((with_reducible refine gate_callee (f := 60) rfl ?_); refine gl_ (some 5) Try.func60 #[.int .i64 a0, .int .i64 1, .int .i64 200] ?_; (with_reducible refine (spec_l1In.calls a0 1 200 true _ A2.out).mono ?_); rintro e w' ⟨rfl, ⟨nd, rfl⟩⟩; refine ⟨_, rfl, ?_⟩; (try (rw [drewN_self w4]; generalize hq_ : World.drewN w4 _ = w4; have n0_ : Aside0 (w4.heap[gb126]? = some (.cells #[.int .i64 0, .slice none 0 0, .int .i64 0] 26 (0, 0))) := ⟨by rw [← hq_]; exact (rk BK126)⟩; have n1_ : Aside0 (Below w.heap.size w w4) := ⟨by rw [← hq_]; exact (rb1 HB GE126)⟩; clear BK126 HB hq_; have BK126 := n0_; have HB := n1_; clear n0_ n1_)); have hcz5_0 : w4.cell? ⟨gb126, 0, none⟩ = some (.int .i64 0) := (blk_cell BK126.out 0).trans rfl; have hcz5_1 : w4.cell? ⟨gb126, 1, none⟩ = some (.slice none 0 0) := (blk_cell BK126.out 1).trans rfl; have hcz5_2 : w4.cell? ⟨gb126, 2, none⟩ = some (.int .i64 0) := (blk_cell BK126.out 2).trans rfl; have hfz5_0 := blk_frozen BK126.out 0; have hfz5_1 := blk_frozen BK126.out 1; have hfz5_2 := blk_frozen BK126.out 2) | ((with_reducible refine gate_dst (N := 2) rfl ?_); refine box_event ?hg (N := 2) ?hd (cs := #[.int .i64 0, .slice none 0 0, .int .i64 0]) (t := 26) ?hr ?_; (case hd => rfl); (case hg => rfl); (case hr => first | (go_simp; done) | (go_simp; rfl)); intro gb126 hg w4 hbox hb; have BK126 := am (hbox); have GW126 := am (gw hg (rb HB)); have GE126 := GW126; replace HB := am (below_step (rb HB) hb); clear hb hbox hg))
first
| (
have q_ := lf1_
refine bodyPost_ret (results_ct rfl _ _ gb126 26 #[.int .i64 a0, .slice none 0 0, .int .i64 0] (0, 0) _ rfl (rp_0_1_2 BK126) Try.underlying26 rfl (by kernel_rfl)) rfl ?_
exact ⟨_, by first | rfl | (simp [errW_none, errW_some] <;> rfl) | (simp [*, errW_none, errW_some] <;> rfl), by first | exact Kd.R_nil _ _ _ _ _ | exact Kd.N_nil _ _ _ _ _ | exact Kd.V_nil _ _ _ _ _ | exact Kd.Q_nil _ _ _ _ _ | exact Kd.S_nil _ _ _ _ _, by repeat (first | (with_reducible first | exact HB.out | apply b1 | apply b2 | apply b3 | refine below_set ?_ GE126.out) | exact HB.out)⟩
)
| (
have q_ := lf2_
refine bodyPost_ret (results_ct rfl _ _ gb126 26 #[.int .i64 0, .slice none 0 0, .int .i64 0] (0, 0) _ rfl (rp_0_1_2 BK126) Try.underlying26 rfl (by kernel_rfl)) rfl ?_
exact ⟨_, by first | rfl | (simp [errW_none, errW_some] <;> rfl) | (simp [*, errW_none, errW_some] <;> rfl), by first | exact Kd.R_nil _ _ _ _ _ | exact Kd.N_nil _ _ _ _ _ | exact Kd.V_nil _ _ _ _ _ | exact Kd.Q_nil _ _ _ _ _ | exact Kd.S_nil _ _ _ _ _, by repeat (first | (with_reducible first | exact HB.out | apply b1 | apply b2 | apply b3 | refine below_set ?_ GE126.out) | exact HB.out)⟩
)
)
)

/-! ### spec_l1Byte: function 90 -/
def spec_l1Byte.f (s0_0 : List Int) (s0_1 : Int) (s0_2 : Int) : Option (Int × Int × Int) := if s0_1 < (s0_0.length : Int) then (if 0 ≤ s0_1 then (some (Go.bits .and .i64 (wrap64 ((Go.bits .and .i64 (Go.bits .xor .i64 ((wrap64 ((wrap64 (s0_2 * 6364136223846793005)) + 1442695040888963407)) / 8589934592) ((wrap64 ((wrap64 (s0_2 * 6364136223846793005)) + 1442695040888963407)) / 35184372088832)) 255) + (wrap64 (rd s0_0 s0_1)))) 255, wrap64 (s0_1 + 1), wrap64 ((wrap64 (s0_2 * 6364136223846793005)) + 1442695040888963407))) else (none)) else (some (Go.bits .and .i64 (Go.bits .xor .i64 ((wrap64 ((wrap64 (s0_2 * 6364136223846793005)) + 1442695040888963407)) / 8589934592) ((wrap64 ((wrap64 (s0_2 * 6364136223846793005)) + 1442695040888963407)) / 35184372088832)) 255, s0_1, wrap64 ((wrap64 (s0_2 * 6364136223846793005)) + 1442695040888963407)))
set_option maxHeartbeats 8000000 in
set_option maxRecDepth 100000 in
theorem spec_l1Byte.calls (g : Nat) (s0_0 : List Int) (s0_1 : Int) (s0_2 : Int) (r1 : Int) (r2 : Int) (r3 : Int) (w0 w : World) (hI : IsS118 w0 w g s0_0 s0_1 s0_2) (hB : Below w0.heap.size w0 w) (h : spec_l1Byte.f s0_0 s0_1 s0_2 = some (r1, r2, r3)) :
  Calls Try.prog 90 #[.pointer (some ⟨g, 0, none⟩)] w fun e w' => e = .returned (.int .i64 r1) ∧ IsS118 w0 w' g s0_0 r2 r3 ∧ Below w0.heap.size w0 w' ∧ KeepBut w w' g none := by
 (
have HI0 := am hI
have HK := am (KeepBut.refl w g none)
have HL := am hB.size
clear hI
have HW0 := am hB.size
have HB := am hB
clear hB
have H := h
unfold spec_l1Byte.f at H
clear h
by_cases c2 : s0_1 < (s0_0.length : Int)
·(
rw [if_pos c2] at H
have c2b0 : decide (s0_1 < (s0_0.length : Int)) = true := decide_eq_true c2
clear c2
by_cases c3 : 0 ≤ s0_1
·(
rw [if_pos c3] at H
have c3b0 : decide (0 ≤ s0_1) = true := decide_eq_true c3
clear c3
simp only [Option.some.injEq, Prod.mk.injEq] at H
obtain ⟨rfl, rfl, rfl⟩ := H
obtain ⟨ASz4_0, cSz4_0, HGz4, hgz4, HSz4_0⟩ := HI0.out
have hcz4_0 := cellS118_0 HGz4
have hcz4_1 := cellS118_1 HGz4
have hcz4_2 := cellS118_2 HGz4
have hfz4_1 := blk_frozen HGz4 1
have hfz4_2 := blk_frozen HGz4 2
clear HGz4 hgz4
have p128 : 0 ≤ (s0_1 : Int) := dt_
have q128 : s0_1 < (s0_0.length : Int) := dt_
obtain ⟨ad128, e128, hx128_0⟩ := Kd.at_int HSz4_0 s0_1 p128 q128
cases e128
have hn128_0 : ad128.block ≠ g := Nat.ne_of_lt (Nat.lt_of_lt_of_le (by have := World.block_lt_of_cell? _ _ hx128_0; first | rwa [add_block] at this | exact this) (IsS118.ge HI0.out))
replace hx128_0 := pw_cell_below HB.out hx128_0
replace hx128_0 := (cell_far (p := ⟨g, 2, none⟩) (ab hn128_0) (.int .i64 (wrap64 ((wrap64 (s0_2 * 6364136223846793005)) + 1442695040888963407)))).trans hx128_0
(try have hy128_0 := fun (n_ : Nat) => (show (((w.drewN n_).setCell ⟨g, 2, none⟩ (.int .i64 (wrap64 ((wrap64 (s0_2 * 6364136223846793005)) + 1442695040888963407))))).cell? _ = some _ from hx128_0))
clear hn128_0
replace p128 := eq_true p128
replace q128 := eq_true q128
go_enter Try.func90, Try.ntmps90
go_wp2
repeat (go_quiet (fail); try go_wp2)
go_ret
exact ⟨by first | rfl | (simp [errW_none, errW_some] <;> rfl) | (simp [*, errW_none, errW_some] <;> rfl), ri118 HI0, rbi118 HB HI0 IsS118.ge, rkk HK⟩
)
·(
rw [if_neg c3] at H
exact absurd H (by simp)
)
)
·(
rw [if_neg c2] at H
have c2b0 : decide (s0_1 < (s0_0.length : Int)) = false := decide_eq_false c2
clear c2
simp only [Option.some.injEq, Prod.mk.injEq] at H
obtain ⟨rfl, rfl, rfl⟩ := H
obtain ⟨ASz5_0, cSz5_0, HGz5, hgz5, HSz5_0⟩ := HI0.out
have hcz5_0 := cellS118_0 HGz5
have hcz5_1 := cellS118_1 HGz5
have hcz5_2 := cellS118_2 HGz5
have hfz5_1 := blk_frozen HGz5 1
have hfz5_2 := blk_frozen HGz5 2
clear HGz5 hgz5
go_enter Try.func90, Try.ntmps90
go_wp2
repeat (go_quiet (fail); try go_wp2)
go_ret
exact ⟨by first | rfl | (simp [errW_none, errW_some] <;> rfl) | (simp [*, errW_none, errW_some] <;> rfl), ri118 HI0, rbi118 HB HI0 IsS118.ge, rkk HK⟩
)
)

/-! ### spec_l1Below: function 52 -/
def spec_l1Below.f (s0_0 : List Int) (s0_1 : Int) (s0_2 : Int) (a1 : Int) : Option (Int × Int × Int) := if a1 ≤ 0 then (some (0, s0_1, s0_2)) else (if a1 ≤ 256 then ((spec_l1Byte.f s0_0 s0_1 s0_2).bind fun bt129 => (if a1 = 0 then (none) else (some (Int.tmod bt129.1 a1, bt129.2.1, bt129.2.2)))) else ((spec_l1Byte.f s0_0 s0_1 s0_2).bind fun bt132 => ((spec_l1Byte.f s0_0 bt132.2.1 bt132.2.2).bind fun bt135 => ((spec_l1Byte.f s0_0 bt135.2.1 bt135.2.2).bind fun bt138 => ((spec_l1Byte.f s0_0 bt138.2.1 bt138.2.2).bind fun bt141 => (if a1 = 0 then (none) else (some (Int.tmod (wrap64 ((wrap64 ((wrap64 ((wrap64 (bt132.1 * 16777216)) + (wrap64 (bt135.1 * 65536)))) + (wrap64 (bt138.1 * 256)))) + bt141.1)) a1, bt141.2.1, bt141.2.2))))))))
set_option maxHeartbeats 8000000 in
set_option maxRecDepth 100000 in
theorem spec_l1Below.calls (g : Nat) (s0_0 : List Int) (s0_1 : Int) (s0_2 : Int) (a1 : Int) (r1 : Int) (r2 : Int) (r3 : Int) (w0 w : World) (hI : IsS118 w0 w g s0_0 s0_1 s0_2) (hB : Below w0.heap.size w0 w) (h : spec_l1Below.f s0_0 s0_1 s0_2 a1 = some (r1, r2, r3)) :
  Calls Try.prog 52 #[.pointer (some ⟨g, 0, none⟩), .int .i64 a1] w fun e w' => e = .returned (.int .i64 r1) ∧ IsS118 w0 w' g s0_0 r2 r3 ∧ Below w0.heap.size w0 w' ∧ KeepBut w w' g none := by
 (
have HI0 := am hI
have HK := am (KeepBut.refl w g none)
have HL := am hB.size
clear hI
have HW0 := am hB.size
have HB := am hB
clear hB
have H := h
unfold spec_l1Below.f at H
clear h
by_cases c3 : a1 ≤ 0
·(
rw [if_pos c3] at H
have c3b0 : decide (a1 ≤ 0) = true := decide_eq_true c3
clear c3
simp only [Option.some.injEq, Prod.mk.injEq] at H
obtain ⟨rfl, rfl, rfl⟩ := H
go_enter Try.func52, Try.ntmps52
go_wp2
go_ret
exact ⟨by first | rfl | (simp [errW_none, errW_some] <;> rfl) | (simp [*, errW_none, errW_some] <;> rfl), ri118 HI0, rbi118 HB HI0 IsS118.ge, rkk HK⟩
)
·(
rw [if_neg c3] at H
have c3b0 : decide (a1 ≤ 0) = false := decide_eq_false c3
clear c3
refine em_ (p := a1 ≤ 256) (fun c4 => ?g3p) (fun c4 => ?g3n)
case' g3p => (
rw [if_pos c4] at H
have c4b0 : decide (a1 ≤ 256) = true := decide_eq_true c4
clear c4
replace H := Option.bind_eq_some_iff.mp H
obtain ⟨⟨t129, t130, t131⟩, A50, H⟩ := H
(try dsimp only at H)
have A5 := am A50
clear A50
refine em_ (p := a1 = 0) (fun c6 => ?g1p) (fun c6 => ?g1n)
case g1p => (
rw [if_pos c6] at H
exact absurd H (by simp)
)
case' g1n => (
rw [if_neg c6] at H
have c6b0 : (a1 == 0) = false := beq_eq_false_iff_ne.mpr c6
have c6b1 : (a1 != 0) = true := bne_iff_ne.mpr c6
simp only [Option.some.injEq, Prod.mk.injEq] at H
obtain ⟨rfl, rfl, rfl⟩ := H
have lf4_ := trivial
)
)
case' g3n => (
rw [if_neg c4] at H
have c4b0 : decide (a1 ≤ 256) = false := decide_eq_false c4
clear c4
replace H := Option.bind_eq_some_iff.mp H
obtain ⟨⟨t132, t133, t134⟩, A80, H⟩ := H
(try dsimp only at H)
have A8 := am A80
clear A80
replace H := Option.bind_eq_some_iff.mp H
obtain ⟨⟨t135, t136, t137⟩, A90, H⟩ := H
(try dsimp only at H)
have A9 := am A90
clear A90
replace H := Option.bind_eq_some_iff.mp H
obtain ⟨⟨t138, t139, t140⟩, A100, H⟩ := H
(try dsimp only at H)
have A10 := am A100
clear A100
replace H := Option.bind_eq_some_iff.mp H
obtain ⟨⟨t141, t142, t143⟩, A110, H⟩ := H
(try dsimp only at H)
have A11 := am A110
clear A110
refine em_ (p := a1 = 0) (fun c12 => ?g2p) (fun c12 => ?g2n)
case g2p => (
rw [if_pos c12] at H
exact absurd H (by simp)
)
case' g2n => (
rw [if_neg c12] at H
have c12b0 : (a1 == 0) = false := beq_eq_false_iff_ne.mpr c12
have c12b1 : (a1 != 0) = true := bne_iff_ne.mpr c12
simp only [Option.some.injEq, Prod.mk.injEq] at H
obtain ⟨rfl, rfl, rfl⟩ := H
have lf5_ := trivial
)
)
all_goals (
go_enter Try.func52, Try.ntmps52
go_wp2_with (first | ((with_reducible refine gate_callee (f := 90) rfl ?_); refine gl_ (some 22) Try.func90 #[.pointer (some ⟨g, 0, none⟩)] ?_; (with_reducible refine (spec_l1Byte.calls g s0_0 t136 t137 t138 t139 t140 w0 _ ?side1 ?side2 A10.out).mono ?_); (case side1 => exact ri118 HI0); (case side2 => exact rbi118 HB HI0 IsS118.ge); rintro e w15 ⟨rfl, hi, hb, hk⟩; refine ⟨_, rfl, ?_⟩; replace HK := am (KeepBut.trans (rkk HK) hk (.inl rfl)); replace HB := am (hb); replace HI0 := am (hi); (try clear hb); (try clear hb2); (try clear hk); (try clear hi)) | ((with_reducible refine gate_callee (f := 90) rfl ?_); refine gl_ (some 24) Try.func90 #[.pointer (some ⟨g, 0, none⟩)] ?_; (with_reducible refine (spec_l1Byte.calls g s0_0 t139 t140 t141 t142 t143 w0 _ ?side1 ?side2 A11.out).mono ?_); (case side1 => exact ri118 HI0); (case side2 => exact rbi118 HB HI0 IsS118.ge); rintro e w16 ⟨rfl, hi, hb, hk⟩; refine ⟨_, rfl, ?_⟩; replace HK := am (KeepBut.trans (rkk HK) hk (.inl rfl)); replace HB := am (hb); replace HI0 := am (hi); (try clear hb); (try clear hb2); (try clear hk); (try clear hi)) | ((with_reducible refine gate_callee (f := 90) rfl ?_); refine gl_ (some 18) Try.func90 #[.pointer (some ⟨g, 0, none⟩)] ?_; (with_reducible refine (spec_l1Byte.calls g s0_0 s0_1 s0_2 t132 t133 t134 w0 _ ?side1 ?side2 A8.out).mono ?_); (case side1 => exact ri118 HI0); (case side2 => exact rbi118 HB HI0 IsS118.ge); rintro e w13 ⟨rfl, hi, hb, hk⟩; refine ⟨_, rfl, ?_⟩; replace HK := am (KeepBut.trans (rkk HK) hk (.inl rfl)); replace HB := am (hb); replace HI0 := am (hi); (try clear hb); (try clear hb2); (try clear hk); (try clear hi)) | ((with_reducible refine gate_callee (f := 90) rfl ?_); refine gl_ (some 20) Try.func90 #[.pointer (some ⟨g, 0, none⟩)] ?_; (with_reducible refine (spec_l1Byte.calls g s0_0 t133 t134 t135 t136 t137 w0 _ ?side1 ?side2 A9.out).mono ?_); (case side1 => exact ri118 HI0); (case side2 => exact rbi118 HB HI0 IsS118.ge); rintro e w14 ⟨rfl, hi, hb, hk⟩; refine ⟨_, rfl, ?_⟩; replace HK := am (KeepBut.trans (rkk HK) hk (.inl rfl)); replace HB := am (hb); replace HI0 := am (hi); (try clear hb); (try clear hb2); (try clear hk); (try clear hi)) | ((with_reducible refine gate_callee (f := 90) rfl ?_); refine gl_ (some 14) Try.func90 #[.pointer (some ⟨g, 0, none⟩)] ?_; (with_reducible refine (spec_l1Byte.calls g s0_0 s0_1 s0_2 t129 t130 t131 w0 _ ?side1 ?side2 A5.out).mono ?_); (case side1 => exact ri118 HI0); (case side2 => exact rbi118 HB HI0 IsS118.ge); rintro e w7 ⟨rfl, hi, hb, hk⟩; refine ⟨_, rfl, ?_⟩; replace HK := am (KeepBut.trans (rkk HK) hk (.inl rfl)); replace HB := am (hb); replace HI0 := am (hi); (try clear hb); (try clear hb2); (try clear hk); (try clear hi)))
go_ret
exact ⟨by first | rfl | (simp [errW_none, errW_some] <;> rfl) | (simp [*, errW_none, errW_some] <;> rfl), ri118 HI0, rbi118 HB HI0 IsS118.ge, rkk HK⟩
)
)
)

/-! ### spec_l1Once: function 51 -/
def spec_l1Once.f (s0_0 : List Int) (s0_1 : Int) (s0_2 : Int) (a1 : Int) : Option (Bool × Int × Int) := (spec_l1Below.f s0_0 s0_1 s0_2 a1).bind fun bt144 => (some ((bt144.1 == 0), bt144.2.1, bt144.2.2))
set_option maxHeartbeats 8000000 in
set_option maxRecDepth 100000 in
theorem spec_l1Once.calls (g : Nat) (s0_0 : List Int) (s0_1 : Int) (s0_2 : Int) (a1 : Int) (r1 : Bool) (r2 : Int) (r3 : Int) (w0 w : World) (hI : IsS118 w0 w g s0_0 s0_1 s0_2) (hB : Below w0.heap.size w0 w) (h : spec_l1Once.f s0_0 s0_1 s0_2 a1 = some (r1, r2, r3)) :
  Calls Try.prog 51 #[.pointer (some ⟨g, 0, none⟩), .int .i64 a1] w fun e w' => e = .returned (.bool r1) ∧ IsS118 w0 w' g s0_0 r2 r3 ∧ Below w0.heap.size w0 w' ∧ KeepBut w w' g none := by
 (
have HI0 := am hI
have HK := am (KeepBut.refl w g none)
have HL := am hB.size
clear hI
have HW0 := am hB.size
have HB := am hB
clear hB
have H := h
unfold spec_l1Once.f at H
clear h
replace H := Option.bind_eq_some_iff.mp H
obtain ⟨⟨t144, t145, t146⟩, A30, H⟩ := H
(try dsimp only at H)
have A3 := am A30
clear A30
simp only [Option.some.injEq, Prod.mk.injEq] at H
obtain ⟨rfl, rfl, rfl⟩ := H
go_enter Try.func51, Try.ntmps51
go_wp2_with (first | ((with_reducible refine gate_callee (f := 52) rfl ?_); refine gl_ (some 7) Try.func52 #[.pointer (some ⟨g, 0, none⟩), .int .i64 a1] ?_; (with_reducible refine (spec_l1Below.calls g s0_0 s0_1 s0_2 a1 t144 t145 t146 w0 _ ?side1 ?side2 A3.out).mono ?_); (case side1 => exact ri118 HI0); (case side2 => exact rbi118 HB HI0 IsS118.ge); rintro e w4 ⟨rfl, hi, hb, hk⟩; refine ⟨_, rfl, ?_⟩; replace HK := am (KeepBut.trans (rkk HK) hk (.inl rfl)); replace HB := am (hb); replace HI0 := am (hi); (try clear hb); (try clear hb2); (try clear hk); (try clear hi)))
go_ret
exact ⟨by first | rfl | (simp [errW_none, errW_some] <;> rfl) | (simp [*, errW_none, errW_some] <;> rfl), ri118 HI0, rbi118 HB HI0 IsS118.ge, rkk HK⟩
)

end Go.Proofs.Ytalopdcephohgaa.RA
