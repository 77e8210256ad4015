/- Contracts of Go functions that laws of this seat reach: each Lean function answers as its Go function does. No condition. Written by wip/tools/inj.py, over the kit's print. -/
import Derived.Test.YtalopdcephohgaaRBx0
import Derived.Test.YtalopdcephohgaaRBx7
import Derived.Test.YtalopdcephohgaaRBx8
import Derived.Test.YtalopdcephohgaaRBx9
namespace Go.Proofs.Ytalopdcephohgaa.RB
open Go.RowKit Go.Proofs.YtalopdcephohgaaW.PrintWords Go.Proofs.YtalopdcephohgaaW.PrintLast Go.Proofs.YtalopdcephohgaaW.PrintMore
attribute [local go_sem] max2_int min2_int max_two min_two max_three min_three max_four min_four   -- for this text's walks alone
set_option linter.unusedVariables false
set_option linter.unusedSimpArgs false

/-! ### spec_l5Resized: function 70 -/
def spec_l5Resized.l0 : Nat → Int → Int → Int → Int → Int → List (List (S98)) → Int → List (List (S98)) → Option (Int × (List (List (S98))))
 | 0, _, _, _, _, _, _, _, _ => none
 | k + 1, x1, x2, x8, x9, x212000, x212001, x214000, x214001 => if x9 < (wrap64 (x8 + x2)) then ((some (([] : List (S98)) : List (S98))).bind fun y215 => (if x9 < (x212001.length : Int) then (if 0 ≤ x9 then ((spec_l1Min.f x1 x212000).bind fun t219 => (if 0 ≤ t219 then (if t219 ≤ ((rd_L7 x212001 x9).length : Int) then ((spec_l4Mended.f k ((rd_L7 x212001 x9).take (t219 : Int).toNat)).bind fun t224 => ((spec_l4Row.f k (wrap64 (x1 - (t224.length : Int))) 0 0 false false false).bind fun t227 => (if t224.length + t227.length < 3518437208883 then (if x214001.length < 5864062014805 then (spec_l5Resized.l0 k x1 x2 x8 (wrap64 (x9 + 1)) x212000 x212001 x214000 (x214001 ++ [(t224 ++ t227)])) else (none)) else (none)))) else (none)) else (none))) else (none)) else ((spec_l4Row.f k (wrap64 (x1 - (y215.length : Int))) 0 0 false false false).bind fun t236 => (if y215.length + t236.length < 3518437208883 then (if x214001.length < 5864062014805 then (spec_l5Resized.l0 k x1 x2 x8 (wrap64 (x9 + 1)) x212000 x212001 x214000 (x214001 ++ [(y215 ++ t236)])) else (none)) else (none))))) else (some (x214000, x214001))
def spec_l5Resized.f (k : Nat) (a0_0 : Int) (l0_1 : List (List (S98))) (a1 : Int) (a2 : Int) : Option (Int × (List (List (S98)))) := (spec_l1Max.f 0 (wrap64 ((l0_1.length : Int) - a2))).bind fun t214 => (spec_l5Resized.l0 k a1 a2 t214 t214 a0_0 l0_1 a1 ([] : List (List (S98))))
theorem spec_l5Resized.mono_l : ∀ k, (∀ y0 y1 y2 y3 y4 y5 y6 y7, LeO (spec_l5Resized.l0 k y0 y1 y2 y3 y4 y5 y6 y7) (spec_l5Resized.l0 (k + 1) y0 y1 y2 y3 y4 y5 y6 y7))
 | 0 => fun _ _ _ _ _ _ _ _ r h => by simp [spec_l5Resized.l0] at h
 | k + 1 => by
  have ih0 := spec_l5Resized.mono_l k
  ·intro y0 y1 y2 y3 y4 y5 y6 y7
   unfold spec_l5Resized.l0
   repeat' first
   | (with_reducible exact ih0 _ _ _ _ _ _ _ _)
   | (with_reducible exact spec_l4Mended.mono _ _)
   | (with_reducible exact spec_l4Row.mono _ _ _ _ _ _ _)
   | (with_reducible exact LeO.refl _)
   | (with_reducible exact LeO.none _)
   | (with_reducible refine LeO.ite ?_ ?_)
   | (with_reducible refine LeO.bind ?_ (fun _ => ?_))
theorem spec_l5Resized.mono : ∀ a0 a1 a2 a3 k, LeO (spec_l5Resized.f k a0 a1 a2 a3) (spec_l5Resized.f (k + 1) a0 a1 a2 a3) := by
 intro a0 a1 a2 a3 k
 have ih0 := spec_l5Resized.mono_l k
 unfold spec_l5Resized.f
 repeat' first
   | (with_reducible exact ih0 _ _ _ _ _ _ _ _)
   | (with_reducible exact spec_l4Mended.mono _ _)
   | (with_reducible exact spec_l4Row.mono _ _ _ _ _ _ _)
   | (with_reducible exact LeO.refl _)
   | (with_reducible exact LeO.none _)
   | (with_reducible refine LeO.ite ?_ ?_)
   | (with_reducible refine LeO.bind ?_ (fun _ => ?_))
def spec_l5Resized.T8 : Bool × List (List Nat × List Nat) := (true, [([], []), ([0], [0]), ([], []), ([1, 2], [1, 2]), ([3], [3]), ([], []), ([], []), ([6], [6]), ([5, 7], [5, 7]), ([4, 8], [4, 8]), ([9, 8], [9]), ([10, 10, 0, 1, 2, 3, 4, 5, 6, 7, 8, 9, 10], [10])])
def spec_l5Resized.B8 : List Nat := [0, 1, 0, 7, 15, 0, 0, 64, 224, 511, 1023, 2047]
theorem spec_l5Resized.tab8 : rtab .any (opsOf Try.f70 8) = spec_l5Resized.T8 := by kernel_rfl
theorem spec_l5Resized.bits8 : waitsOk spec_l5Resized.T8.2 spec_l5Resized.B8 = true := by kernel_rfl
def spec_l5Resized.T9 : Bool × List (List Nat × List Nat) := (true, [([], []), ([0], [0]), ([], []), ([], []), ([], []), ([4], [4]), ([3, 5], [3, 5]), ([], []), ([6, 7], [6, 7]), ([2, 8, 8], [2, 8]), ([9], [9]), ([1, 10, 9], [1, 10]), ([0, 1, 2, 3, 4, 5, 6, 7, 8, 9, 10, 11], []), ([12, 11, 11, 0, 1, 2, 3, 4, 5, 6, 7, 8, 9, 10, 11], [11, 12])])
def spec_l5Resized.B9 : List Nat := [0, 1, 0, 0, 0, 16, 56, 0, 248, 508, 1020, 2047, 4095, 8191]
theorem spec_l5Resized.tab9 : rtab .any (opsOf Try.f70 9) = spec_l5Resized.T9 := by kernel_rfl
theorem spec_l5Resized.bits9 : waitsOk spec_l5Resized.T9.2 spec_l5Resized.B9 = true := by kernel_rfl
set_option maxHeartbeats 8000000 in
set_option maxRecDepth 100000 in
theorem spec_l5Resized.calls (k : Nat) (a0_0 : Int) (A0_1 : Option Addr) (c0_1 : Nat) (l0_1 : List (List (S98))) (a1 : Int) (a2 : Int) (r1 : Int) (r2 : List (List (S98))) (w : World) (hr0_1 : Kd.C (Kd.slice 98 k98) w A0_1 l0_1.length l0_1) (hc0_1 : l0_1.length ≤ c0_1) (h : spec_l5Resized.f k a0_0 l0_1 a1 a2 = some (r1, r2)) :
  Calls Try.prog 70 #[.agg #[.int .i64 a0_0, .slice A0_1 l0_1.length c0_1], .int .i64 a1, .int .i64 a2] w fun e w' => ∃ v1_ : Value, e = .returned (.agg #[.int .i64 r1, v1_]) ∧ Kd.S (Kd.slice 98 k98) 99 w' w.heap.size (fun _ => True) v1_ r2 ∧ Below w.heap.size w w' := by
 (
have hu58 := Try.underlying58
have hu96 := Try.underlying96
have HR0_1 := am hr0_1
have HC0_1 := am hc0_1
clear hr0_1 hc0_1
have HB := am (Below.refl w.heap.size w)
have H := h
unfold spec_l5Resized.f at H
clear h
replace H := Option.bind_eq_some_iff.mp H
obtain ⟨t214, A40, H⟩ := H
(try dsimp only at H)
have A4 := am A40
clear A40
have H' := am H
clear H
go_enter Try.func70, Try.ntmps70
go_wp2_with (first | ((with_reducible refine gate_dst (N := 3) rfl ?_); refine box_event ?hg (N := 3) ?hd (cs := #[.int .i64 a0_0, .slice A0_1 l0_1.length c0_1]) (t := 58) ?hr ?_; (case hd => rfl); (case hg => rfl); (case hr => first | (go_simp; done) | (go_simp; rfl)); intro gb211 hg w5 hbox hb; have BK211 := am (hbox); have GW211 := am (gw hg (rb HB)); have GE211 := GW211; replace HB := am (below_step (rb HB) hb); clear hb hbox hg) | ((with_reducible refine gate_dst (N := 6) rfl ?_); refine box_event ?hg (N := 6) ?hd (cs := #[.int .i64 0, .slice none 0 0]) (t := 58) ?hr ?_; (case hd => rfl); (case hg => rfl); (case hr => first | (go_simp; done) | (go_simp; rfl)); intro gb212 hg w6 hbox hb; have BK212 := am (hbox); have GW212 := am (gw hg (rb1 HB GE211)); have GE212 := GW212; replace HB := am (below_step (rb1 HB GE211) hb); have NB211_212 := am (nl hg (rk BK211)); have NB212_211 := am (ng hg (rk BK211)); replace BK211 := am (blk_below (rk BK211) hb); clear hb hbox hg) | ((with_reducible refine gate_dst (N := 7) rfl ?_); refine box_event ?hg (N := 7) ?hd (cs := #[.int .i64 0, .slice none 0 0]) (t := 58) ?hr ?_; (case hd => rfl); (case hg => rfl); (case hr => first | (go_simp; done) | (go_simp; rfl)); intro gb213 hg w7 hbox hb; have BK213 := am (hbox); have GW213 := am (gw hg (rb2 HB GE211 GE212)); have GE213 := GW213; replace HB := am (below_step (rb2 HB GE211 GE212) hb); have NB211_213 := am (nl hg (rk BK211)); have NB213_211 := am (ng hg (rk BK211)); replace BK211 := am (blk_below (rk BK211) hb); have NB212_213 := am (nl hg (rk BK212)); have NB213_212 := am (ng hg (rk BK212)); replace BK212 := am (blk_below (rk BK212) hb); clear hb hbox hg; have hnb8 := NB213_211.out; have hnc8 := NB211_213.out; have hnb9 := NB213_212.out; have hnc9 := NB212_213.out; have hcz10_0 : w7.cell? ⟨gb213, 0, none⟩ = some (.int .i64 0) := (blk_cell BK213.out 0).trans rfl; have hcz10_1 : w7.cell? ⟨gb213, 1, none⟩ = some (.slice none 0 0) := (blk_cell BK213.out 1).trans rfl; have hfz10_0 := blk_frozen BK213.out 0; have hfz10_1 := blk_frozen BK213.out 1; have hnb11 := NB211_212.out; have hnc11 := NB212_211.out; have hcz12_0 : w7.cell? ⟨gb211, 0, none⟩ = some (.int .i64 a0_0) := (blk_cell BK211.out 0).trans rfl; have hcz12_1 : w7.cell? ⟨gb211, 1, none⟩ = some (.slice A0_1 l0_1.length c0_1) := (blk_cell BK211.out 1).trans rfl; have hfz12_0 := blk_frozen BK211.out 0; have hfz12_1 := blk_frozen BK211.out 1) | ((with_reducible refine gate_callee (f := 97) rfl ?_); refine gl_ (some 18) Try.func97 #[.int .i64 0, .int .i64 (wrap64 ((l0_1.length : Int) - a2))] ?_; (with_reducible refine (spec_l1Max.calls 0 (wrap64 ((l0_1.length : Int) - a2)) t214 _ A4.out).mono ?_); rintro e w' ⟨rfl, ⟨nd, rfl⟩⟩; refine ⟨_, rfl, ?_⟩))
go_loopg [9] k (fun kq v9 w' => ∃ (x9_1 : Int) (x214001_1 : List (List (S98))) (u214001 : Value), v9 = .int .i64 x9_1 ∧ Aside0 (spec_l5Resized.l0 kq a1 a2 t214 x9_1 a0_0 l0_1 a1 x214001_1 = some (r1, r2)) ∧ Aside0 (kq ≤ k) ∧ Aside0 (Kd.S (Kd.slice 98 k98) 99 w' w.heap.size (fun _ => True) u214001 x214001_1) ∧ Aside0 (w'.heap[gb211]? = some (.cells #[.int .i64 a0_0, (.slice A0_1 l0_1.length c0_1)] 58 (0, 0))) ∧ Aside0 (w'.heap[gb212]? = some (.cells #[.int .i64 0, (.slice none 0 0)] 58 (0, 0))) ∧ Aside0 (w'.heap[gb213]? = some (.cells #[.int .i64 a1, u214001] 58 (0, 0))) ∧ Aside0 (Below w.heap.size w w'))
case atStart => exact ⟨(t214), (([] : List (List (S98)))), (.slice none 0 0), (by first | rfl | (simp; done) | (simp [*]; done)), H', ⟨Nat.le_refl _⟩, ⟨by first | exact Kd.S_nil _ _ _ _ _ | exact Kd.N_nil _ _ _ _ _ | exact Kd.V_nil _ _ _ _ _ | exact Kd.Q_nil _ _ _ _ _ | exact Kd.R_nil _ _ _ _ _⟩, ⟨by (with_reducible repeat (first | apply k1 | apply k2 | apply k3)); refine blk_far ?_ NB211_213.out _; (with_reducible repeat (first | apply k1 | apply k2 | apply k3)); refine blk_far ?_ NB211_213.out _; (with_reducible repeat (first | apply k1 | apply k2 | apply k3)); exact BK211.out⟩, ⟨by (with_reducible repeat (first | apply k1 | apply k2 | apply k3)); refine blk_far ?_ NB212_213.out _; (with_reducible repeat (first | apply k1 | apply k2 | apply k3)); refine blk_far ?_ NB212_213.out _; (with_reducible repeat (first | apply k1 | apply k2 | apply k3)); exact BK212.out⟩, ⟨by (with_reducible repeat (first | apply k1 | apply k2 | apply k3)); refine blk_put (cs := #[.int .i64 a1, .slice none 0 0]) ?_ 1 _ rfl; (with_reducible repeat (first | apply k1 | apply k2 | apply k3)); refine blk_put (cs := #[.int .i64 0, .slice none 0 0]) ?_ 0 _ rfl; (with_reducible repeat (first | apply k1 | apply k2 | apply k3)); exact BK213.out⟩, ⟨rb3 HB GE211 GE212 GE213⟩⟩
case round => (
clear H'
try clear c1
try clear p2
try clear p6
try clear c7
try clear c8
try clear c9
try clear c11
try clear hcz10_0
try clear hcz10_1
try clear hcz12_0
try clear hcz12_1
try clear hfz10_0
try clear hfz10_1
try clear hfz12_0
try clear hfz12_1
obtain ⟨x9_1, x214001_1, u214001, rfl, HA, HK1, HO_214001, BK211, BK212, BK213, HB⟩ := hrel
cases gk with
| zero => exact absurd HA.out (by simp [spec_l5Resized.l0])
| succ k1 => (
have H := HA.out
clear HA
simp only [spec_l5Resized.l0] at H
by_cases c13 : x9_1 < (wrap64 (t214 + a2))
·(
rw [if_pos c13] at H
have c13b0 : decide (x9_1 < (wrap64 (t214 + a2))) = true := decide_eq_true c13
clear c13
obtain ⟨y215, hy215⟩ : ∃ y_ : List (S98), y_ = (([] : List (S98))) := ⟨_, rfl⟩
replace H : (if x9_1 < (l0_1.length : Int) then (if 0 ≤ x9_1 then ((spec_l1Min.f a1 a0_0).bind fun t219 => (if 0 ≤ t219 then (if t219 ≤ ((rd_L7 l0_1 x9_1).length : Int) then ((spec_l4Mended.f k1 ((rd_L7 l0_1 x9_1).take (t219 : Int).toNat)).bind fun t224 => ((spec_l4Row.f k1 (wrap64 (a1 - (t224.length : Int))) 0 0 false false false).bind fun t227 => (if t224.length + t227.length < 3518437208883 then (if x214001_1.length < 5864062014805 then (spec_l5Resized.l0 k1 a1 a2 t214 (wrap64 (x9_1 + 1)) a0_0 l0_1 a1 (x214001_1 ++ [(t224 ++ t227)])) else (none)) else (none)))) else (none)) else (none))) else (none)) else ((spec_l4Row.f k1 (wrap64 (a1 - (y215.length : Int))) 0 0 false false false).bind fun t236 => (if y215.length + t236.length < 3518437208883 then (if x214001_1.length < 5864062014805 then (spec_l5Resized.l0 k1 a1 a2 t214 (wrap64 (x9_1 + 1)) a0_0 l0_1 a1 (x214001_1 ++ [(y215 ++ t236)])) else (none)) else (none)))) = some (r1, r2) := by first | (rw [hy215]; with_reducible exact H) | (rw [hy215]; exact H) | exact H
have Ny215 := am hy215
clear hy215
refine em_ (p := x9_1 < (l0_1.length : Int)) (fun c14 => ?g7p) (fun c14 => ?g7n)
case' g7p => (
rw [if_pos c14] at H
have c14b0 : decide (x9_1 < (l0_1.length : Int)) = true := decide_eq_true c14
clear c14
refine em_ (p := 0 ≤ x9_1) (fun c15 => ?g4p) (fun c15 => ?g4n)
case' g4p => (
rw [if_pos c15] at H
have c15b0 : decide (0 ≤ x9_1) = true := decide_eq_true c15
clear c15
replace H := Option.bind_eq_some_iff.mp H
obtain ⟨t219, A160, H⟩ := H
(try dsimp only at H)
have A16 := am A160
clear A160
refine em_ (p := 0 ≤ t219) (fun c17 => ?g3p) (fun c17 => ?g3n)
case' g3p => (
rw [if_pos c17] at H
have c17b0 := eq_true c17
have c17b1 : decide (0 ≤ t219) = true := decide_eq_true c17
clear c17
refine em_ (p := t219 ≤ ((rd_L7 l0_1 x9_1).length : Int)) (fun c18 => ?g2p) (fun c18 => ?g2n)
case' g2p => (
rw [if_pos c18] at H
have c18b0 := eq_true c18
have c18b1 : decide (t219 ≤ ((rd_L7 l0_1 x9_1).length : Int)) = true := decide_eq_true c18
clear c18
obtain ⟨y220, hy220⟩ : ∃ y_ : List (S98), y_ = ((rd_L7 l0_1 x9_1).take (t219 : Int).toNat) := ⟨_, rfl⟩
replace H : ((spec_l4Mended.f k1 y220).bind fun t224 => ((spec_l4Row.f k1 (wrap64 (a1 - (t224.length : Int))) 0 0 false false false).bind fun t227 => (if t224.length + t227.length < 3518437208883 then (if x214001_1.length < 5864062014805 then (spec_l5Resized.l0 k1 a1 a2 t214 (wrap64 (x9_1 + 1)) a0_0 l0_1 a1 (x214001_1 ++ [(t224 ++ t227)])) else (none)) else (none)))) = some (r1, r2) := by first | (rw [hy220]; with_reducible exact H) | (rw [hy220]; exact H) | exact H
have Ny220 := am hy220
clear hy220
replace H := Option.bind_eq_some_iff.mp H
obtain ⟨t224, A190, H⟩ := H
(try dsimp only at H)
have A19 := am A190
clear A190
replace H := Option.bind_eq_some_iff.mp H
obtain ⟨t227, A200, H⟩ := H
(try dsimp only at H)
have A20 := am A200
clear A200
refine em_ (p := t224.length + t227.length < 3518437208883) (fun c21 => ?g1p) (fun c21 => ?g1n)
case' g1p => (
rw [if_pos c21] at H
have LMc21 := am c21
clear c21
obtain ⟨y230, hy230⟩ : ∃ y_ : List (S98), y_ = (t224 ++ t227) := ⟨_, rfl⟩
replace H : (if x214001_1.length < 5864062014805 then (spec_l5Resized.l0 k1 a1 a2 t214 (wrap64 (x9_1 + 1)) a0_0 l0_1 a1 (x214001_1 ++ [y230])) else (none)) = some (r1, r2) := by first | (rw [hy230]; with_reducible exact H) | (rw [hy230]; exact H) | exact H
have Ny230 := am hy230
clear hy230
refine em_ (p := x214001_1.length < 5864062014805) (fun c22 => ?g0p) (fun c22 => ?g0n)
case' g0p => (
rw [if_pos c22] at H
have LMc22 := am c22
clear c22
obtain ⟨y233, hy233⟩ : ∃ y_ : List (List (S98)), y_ = (x214001_1 ++ [y230]) := ⟨_, rfl⟩
replace H : (spec_l5Resized.l0 k1 a1 a2 t214 (wrap64 (x9_1 + 1)) a0_0 l0_1 a1 y233) = some (r1, r2) := by first | (rw [hy233]; with_reducible exact H) | (rw [hy233]; exact H) | exact H
have Ny233 := am hy233
clear hy233
have H' := am H
clear H
have lf1_ := trivial
)
case g0n => (
rw [if_neg c22] at H
exact absurd H (by simp)
)
)
case g1n => (
rw [if_neg c21] at H
exact absurd H (by simp)
)
)
case g2n => (
rw [if_neg c18] at H
exact absurd H (by simp)
)
)
case g3n => (
rw [if_neg c17] at H
exact absurd H (by simp)
)
)
case g4n => (
rw [if_neg c15] at H
exact absurd H (by simp)
)
)
case' g7n => (
rw [if_neg c14] at H
have c14b0 : decide (x9_1 < (l0_1.length : Int)) = false := decide_eq_false c14
clear c14
replace H := Option.bind_eq_some_iff.mp H
obtain ⟨t236, A400, H⟩ := H
(try dsimp only at H)
have A40 := am A400
clear A400
refine em_ (p := y215.length + t236.length < 3518437208883) (fun c41 => ?g6p) (fun c41 => ?g6n)
case' g6p => (
rw [if_pos c41] at H
have LMc41 := am c41
clear c41
obtain ⟨y239, hy239⟩ : ∃ y_ : List (S98), y_ = (y215 ++ t236) := ⟨_, rfl⟩
replace H : (if x214001_1.length < 5864062014805 then (spec_l5Resized.l0 k1 a1 a2 t214 (wrap64 (x9_1 + 1)) a0_0 l0_1 a1 (x214001_1 ++ [y239])) else (none)) = some (r1, r2) := by first | (rw [hy239]; with_reducible exact H) | (rw [hy239]; exact H) | exact H
have Ny239 := am hy239
clear hy239
refine em_ (p := x214001_1.length < 5864062014805) (fun c42 => ?g5p) (fun c42 => ?g5n)
case' g5p => (
rw [if_pos c42] at H
have LMc42 := am c42
clear c42
obtain ⟨y242, hy242⟩ : ∃ y_ : List (List (S98)), y_ = (x214001_1 ++ [y239]) := ⟨_, rfl⟩
replace H : (spec_l5Resized.l0 k1 a1 a2 t214 (wrap64 (x9_1 + 1)) a0_0 l0_1 a1 y242) = some (r1, r2) := by first | (rw [hy242]; with_reducible exact H) | (rw [hy242]; exact H) | exact H
have Ny242 := am hy242
clear hy242
have H' := am H
clear H
have lf2_ := trivial
)
case g5n => (
rw [if_neg c42] at H
exact absurd H (by simp)
)
)
case g6n => (
rw [if_neg c41] at H
exact absurd H (by simp)
)
)
all_goals (
try go_wp2_with (first | ((with_reducible refine gate_dst (N := 27) rfl ?_); refine Kd.R_lit k98 _ 98 ?hg (N := 27) ?hd (xs := ([] : List (S98))) (inner := []) (ok := fun _ => True) (okp := fun _ => True) ?hr ?hp (fun _ hk => hk) trivial (Below.refl _ _) (Nat.le_refl _) (by simp) ?_; (case hd => rfl); (case hg => rfl); (case hr => first | (go_simp; done) | (go_simp; rfl)); (case hp => exact (Reps.none _ _)); intro v216 w23 ho24 hb hg_ hnew_; clear hg_ hnew_; (first | rw [← Ny215.out] at ho24 | (simp only [Int.reduceToNat] at ho24; rw [← Ny215.out] at ho24)); replace HO_214001 := am (Kd.S_elder' (rs HO_214001) (Kd.R_base ho24) hb); have HO217 := am (Kd.R_lower ho24 (below_size (rb3 HB GE211 GE212 GE213))); replace BK211 := am (blk_below (rk BK211) hb); replace BK212 := am (blk_below (rk BK212) hb); replace BK213 := am (blk_below (rk BK213) hb); replace HB := am (below_step (rb3 HB GE211 GE212 GE213) hb); clear hb ho24; have hnb25 := NB211_212.out; have hnc25 := NB212_211.out; have hnb26 := NB211_213.out; have hnc26 := NB213_211.out; have hcz27_0 : w23.cell? ⟨gb211, 0, none⟩ = some (.int .i64 a0_0) := (blk_cell BK211.out 0).trans rfl; have hcz27_1 : w23.cell? ⟨gb211, 1, none⟩ = some (.slice A0_1 l0_1.length c0_1) := (blk_cell BK211.out 1).trans rfl; have hfz27_0 := blk_frozen BK211.out 0; have hfz27_1 := blk_frozen BK211.out 1))
replace HO_214001 := am (Kd.S_drew HO_214001.out)
replace HO217 := am (Kd.R_drew HO217.out)
replace BK211 := am (blk_drew BK211.out)
replace BK212 := am (blk_drew BK212.out)
replace BK213 := am (blk_drew BK213.out)
replace HB := am (below_drew1 HB.out)
first
| (
have q_ := lf1_
have p218 : 0 ≤ (x9_1 : Int) := dt_
have q218 : x9_1 < (l0_1.length : Int) := dt_
obtain ⟨ad218, A218_0, c218_0, e218, hx218_0, hl218_0, hi218_0⟩ := at_L7 HR0_1.out x9_1 p218 q218
have hw218_0 := hx218_0
cases e218
replace hx218_0 := mv HB.out hx218_0
have HR218_0 := am hi218_0
have HC218_0 := am hl218_0
clear hi218_0 hl218_0
replace p218 := eq_true p218
replace q218 := eq_true q218
refine start_ (n := 12) (S := fun w' => w'.cell? ⟨gb211, 0, none⟩ = some (.int .i64 a0_0) ∧ w'.cell? ⟨gb211, 1, none⟩ = some (.slice (some ad218) l0_1.length c0_1) ∧ w'.cell? (ad218.add (x9_1).toNat) = some (.slice A218_0 (rd_L7 l0_1 x9_1).length c218_0)) (ds := []) (bm 12 0) (by kernel_rfl) rfl rfl ⟨(blk_cell BK211.out 0).trans rfl, (blk_cell BK211.out 1).trans rfl, ((HB.out.cell (World.block_lt_of_cell? w _ hw218_0)).trans hw218_0)⟩ (fun hHeld => ?_); refine with_tabW spec_l5Resized.tab8 spec_l5Resized.bits8 (fun HT_ HW_ => ?_)
generalize w23.drew = w28 at HO_214001 HO217 BK211 BK212 BK213 HB HR218_0 hx218_0 hHeld ⊢
refine pu_ 0 33 (bm 12 1) HT_.out ?_
refine pu_ 2 35 (bm 12 5) HT_.out ?_
refine pu_ 5 38 (bm 12 37) HT_.out ?_
refine pu_ 6 39 (bm 12 101) HT_.out ?_
refine take_ (i := 1) (N := some 34) (v := ?_) (a' := ?_) (bm 12 103) rfl rfl (take_ofW HT_.out HW_.out (by kernel_rfl)) (fun _ _ _ h => h) (Or.inl ⟨by rfl, ?_⟩) hHeld ?_ ?_
rotate_left
·(
rintro w' ⟨s0, s1, s2⟩
go_simp
with_reducible rfl
)
rotate_left
·(
simp only [Act.put, List.setIfInBounds_toArray, List.set_cons_zero, List.set_cons_succ, i64_w, i32_w]
rfl
)
refine pu_ 3 36 (bm 12 111) HT_.out ?_
refine take_ (i := 4) (N := some 37) (v := ?_) (a' := ?_) (bm 12 127) rfl rfl (take_ofW HT_.out HW_.out (by kernel_rfl)) (fun _ _ _ h => h) (Or.inl ⟨by rfl, ?_⟩) hHeld ?_ ?_
rotate_left
·(
rintro w' ⟨s0, s1, s2⟩
go_simp
with_reducible rfl
)
rotate_left
·(
simp only [Act.put, List.setIfInBounds_toArray, List.set_cons_zero, List.set_cons_succ, i64_w, i32_w]
rfl
)
refine take_ (i := 7) (N := some 40) (v := ?_) (a' := ?_) (bm 12 255) rfl rfl (take_ofW HT_.out HW_.out (by kernel_rfl)) (fun _ _ _ h => h) (Or.inl ⟨by rfl, ?_⟩) hHeld ?_ ?_
rotate_left
·(
rintro w' ⟨s0, s1, s2⟩
go_simp
with_reducible rfl
)
rotate_left
·(
simp only [Act.put, List.setIfInBounds_toArray, List.set_cons_zero, List.set_cons_succ, i64_w, i32_w]
rfl
)
refine one_ (i := 8) (N := some 41) (bm 12 511) rfl rfl (one_of HT_.out (by kernel_rfl)) (by decide) (fun K hK => ?_)
refine goes_ Try.func99 (by kernel_rfl) rfl #[.int .i64 a1, .int .i64 a0_0] (by rfl) rfl rfl mt ?_
with_reducible refine (spec_l1Min.calls a1 a0_0 t219 _ A16.out).mono ?_
rintro e w' ⟨rfl, ⟨nd, rfl⟩⟩
refine ⟨_, rfl, ?_⟩
have q29 : (t219 : Int) ≤ (((rd_L7 l0_1 x9_1).length : Int) : Int) := dt_
obtain ⟨i029, hi029, _, hsz29, _⟩ := info_parts info98
have hroom29 : (rd_L7 l0_1 x9_1).length ≤ c218_0 := HC218_0.out
have hC29 : Kd.C k98 _ A218_0 (rd_L7 l0_1 x9_1).length (rd_L7 l0_1 x9_1) := HR218_0.out
have hcut29 := cut_to (P := Try.prog) 99 98 .i64 Try.underlying99 hi029 A218_0 (rd_L7 l0_1 x9_1).length c218_0 t219 dt_ q29 hroom29
have hr29 := Kd.C_take (m := (t219 : Int).toNat) hC29 (by omega)
have hy29 : y220.length = (t219 : Int).toNat := (by rw [Ny220.out, List.length_take]; omega)
rw [← Ny220.out] at hr29
rw [← hy29] at hcut29
have HR223 := am hr29
have HC223 := am (show y220.length ≤ c218_0 from by omega)
clear hr29 hC29 hroom29 hi029 hsz29
have KY29 := am hy29
clear hy29
replace q29 := eq_true q29
refine hK.out _ _ ⟨(blk_cell BK211.out 0).trans rfl, (blk_cell BK211.out 1).trans rfl, ((HB.out.cell (World.block_lt_of_cell? w _ hw218_0)).trans hw218_0)⟩ (fun hHeld => ?_)
clear hK K
refine norm_ (a' := _) (show Act.put _ (some 41) _ = _ from na) ?_
refine pu_ 9 42 (bm 12 1023) HT_.out ?_
refine one_ (i := 10) (N := some 43) (bm 12 2047) rfl rfl (one_of HT_.out (by kernel_rfl)) (by decide) (fun K hK => ?_)
refine goes_ Try.func98 (by kernel_rfl) rfl #[.slice A218_0 y220.length c218_0] (by rfl) rfl rfl mt ?_
with_reducible refine (spec_l4Mended.calls k1 _ _ y220 t224 _ ?side1 ?side2 A19.out).mono ?_
(case side1 => repeat (first | exact (Kd.C_below HR223.out (rb3 HB GE211 GE212 GE213)) | (with_reducible refine Kd.C_alloc ?_ _) | (with_reducible refine Kd.C_drewN ?_ _) | (with_reducible refine Kd.C_drew ?_)))
(case side2 => exact HC223.out)
rintro e w30 ⟨v225, rfl, ho0, hb⟩
refine ⟨_, rfl, ?_⟩
replace HO_214001 := am (Kd.S_elder' (rs HO_214001) (Kd.R_base ho0) hb)
have HO226 := am (Kd.R_lower (Kd.R_new' ho0 (Kd.R_lt (rr HO217))) (below_size (rb3 HB GE211 GE212 GE213)))
replace HO217 := am (Kd.R_elder' (rr HO217) (Kd.R_base ho0) hb)
replace BK211 := am (blk_below (rk BK211) hb)
replace BK212 := am (blk_below (rk BK212) hb)
replace BK213 := am (blk_below (rk BK213) hb)
replace HB := am (below_step (rb3 HB GE211 GE212 GE213) hb)
(try clear hb)
(try clear ho0)
refine hK.out _ _ ⟨(blk_cell BK211.out 0).trans rfl, (blk_cell BK211.out 1).trans rfl, ((HB.out.cell (World.block_lt_of_cell? w _ hw218_0)).trans hw218_0)⟩ (fun hHeld => ?_)
clear hK K
refine norm_ (a' := _) (show Act.put _ (some 43) _ = _ from na) ?_
refine pu_ 11 10 (bm 12 4095) HT_.out ?_
refine done_ (done_of HT_.out (by kernel_rfl)) ?_
try go_wp2
replace HO_214001 := am (Kd.S_drew HO_214001.out)
replace HO217 := am (Kd.R_drew HO217.out)
replace HO226 := am (Kd.R_drew HO226.out)
replace BK211 := am (blk_drew BK211.out)
replace BK212 := am (blk_drew BK212.out)
replace BK213 := am (blk_drew BK213.out)
replace HB := am (below_drew1 HB.out)
obtain ⟨Ao32, co32, eo32⟩ := Kd.R_slice HO226.out
(first | subst eo32 | (injection eo32 with f1_ f2_ f3_; have f4_ := f1_.symm; have f5_ := f3_.symm; clear f1_ f2_ f3_; subst f4_; subst f5_))
refine start_ (n := 14) (S := fun w' => w'.cell? ⟨gb213, 0, none⟩ = some (.int .i64 a1) ∧ w'.cell? ⟨gb213, 1, none⟩ = some (u214001)) (ds := [13]) (bm 14 0) (by kernel_rfl) rfl rfl ⟨(blk_cell BK213.out 0).trans rfl, (blk_cell BK213.out 1).trans rfl⟩ (fun hHeld => ?_); refine with_tabW spec_l5Resized.tab9 spec_l5Resized.bits9 (fun HT_ HW_ => ?_)
generalize w30.drew = w31 at HO_214001 HO217 HO226 BK211 BK212 BK213 HB hHeld ⊢
refine pu_ 0 44 (bm 14 1) HT_.out ?_
refine pu_ 2 46 (bm 14 5) HT_.out ?_
refine pu_ 3 47 (bm 14 13) HT_.out ?_
refine pu_ 4 48 (bm 14 29) HT_.out ?_
refine pu_ 5 49 (bm 14 61) HT_.out ?_
refine pu_ 6 50 (bm 14 125) HT_.out ?_
refine pu_ 7 51 (bm 14 253) HT_.out ?_
refine take_ (i := 1) (N := some 45) (v := ?_) (a' := ?_) (bm 14 255) rfl rfl (take_ofW HT_.out HW_.out (by kernel_rfl)) (fun _ _ _ h => h) (Or.inl ⟨by rfl, ?_⟩) hHeld ?_ ?_
rotate_left
·(
rintro w' ⟨s0, s1⟩
go_simp
with_reducible rfl
)
rotate_left
·(
simp only [Act.put, List.setIfInBounds_toArray, List.set_cons_zero, List.set_cons_succ, i64_w, i32_w]
rfl
)
refine one_ (i := 8) (N := some 52) (bm 14 511) rfl rfl (one_of HT_.out (by kernel_rfl)) (by decide) (fun K hK => ?_)
refine goes_ Try.func100 (by kernel_rfl) rfl #[.int .i64 (wrap64 (a1 - (t224.length : Int))), .agg #[.int .i64 0, .int .i64 0, .bool false, .bool false, .bool false]] (by rfl) rfl rfl mt ?_
with_reducible refine (spec_l4Row.calls k1 (wrap64 (a1 - (t224.length : Int))) 0 0 false false false t227 _ A20.out).mono ?_
rintro e w33 ⟨v228, rfl, ho0, hb⟩
refine ⟨_, rfl, ?_⟩
replace HO_214001 := am (Kd.S_elder' (rs HO_214001) (Kd.R_base ho0) hb)
have HO229 := am (Kd.R_lower (Kd.R_new' (Kd.R_new' ho0 (Kd.R_lt (rr HO217))) (Kd.R_lt (rr HO226))) (below_size (rb3 HB GE211 GE212 GE213)))
replace HO217 := am (Kd.R_elder' (rr HO217) (Kd.R_base ho0) hb)
replace HO226 := am (Kd.R_elder' (rr HO226) (Kd.R_base ho0) hb)
replace BK211 := am (blk_below (rk BK211) hb)
replace BK212 := am (blk_below (rk BK212) hb)
replace BK213 := am (blk_below (rk BK213) hb)
replace HB := am (below_step (rb3 HB GE211 GE212 GE213) hb)
(try clear hb)
(try clear ho0)
obtain ⟨Ao35, co35, eo35⟩ := Kd.R_slice HO229.out
(first | subst eo35 | (injection eo35 with f1_ f2_ f3_; have f4_ := f1_.symm; have f5_ := f3_.symm; clear f1_ f2_ f3_; subst f4_; subst f5_))
refine hK.out _ _ ⟨(blk_cell BK213.out 0).trans rfl, (blk_cell BK213.out 1).trans rfl⟩ (fun hHeld => ?_)
clear hK K
refine norm_ (a' := _) (show Act.put _ (some 52) _ = _ from na) ?_
refine one_ (i := 9) (N := some 53) (bm 14 1023) rfl rfl (one_of HT_.out (by kernel_rfl)) (by decide) (fun K hK => ?_)
refine Kd.R_append_rows_step k98 (w0 := w) w.heap.size (by rfl) (.tmp 46) (.tmp 52) 99 98 (.agg #[(.int .i64 0), (.int .i64 0), (.int .i64 0), (.bool false), (.bool false), (.bool false), (.int .i64 0)]) 40 rfl Try.underlying99 info98 rfl (by decide) (by omega) (.slice Ao32 t224.length co32) t224 t227 _ _ _ (fun k_ => some k_ ≠ (v216 : Value).ownBlock ∧ some k_ ≠ (.slice Ao35 t227.length co35 : Value).ownBlock) (fun _ => False) rfl rfl ?aO ?aR (fun _ _ h => h) (fun _ h => h.elim) ?aF ?aB ?aS ?aL ?_
(case aR => repeat (first | exact (Kd.R_reads' HO229.out).2.2 | (with_reducible refine Kd.C_alloc ?_ _) | (with_reducible refine Kd.C_drewN ?_ _) | (with_reducible refine Kd.C_drew ?_)))
(case aB => exact (rb3 HB GE211 GE212 GE213))
(case aF => exact (fun k_ hk => ⟨Kd.fresh' (Kd.R_lt (rr HO217)) k_ hk, Kd.fresh' (Kd.R_lt (rr HO229)) k_ hk⟩))
(case aO => exact (by (with_reducible repeat (first | apply r1 | apply r2 | apply r3)); exact Kd.R_mono HO226.out (fun _ hk => ⟨hk.1.2, hk.2⟩)))
(case aS => exact (below_size (rb3 HB GE211 GE212 GE213)))
(case aL => have := LMc21.out; omega)
intro v231 w34 ho hb hg hat
rw [← Ny230.out] at ho
replace HO_214001 := am (Kd.S_after (ok := (fun k_ => some k_ ≠ (v216 : Value).ownBlock ∧ some k_ ≠ (.slice Ao35 t227.length co35 : Value).ownBlock)) (by (with_reducible repeat (first | apply Kd.S_alloc | apply Kd.S_drewN | apply Kd.S_drew)); exact Kd.S_mono HO_214001.out (fun _ hk => ⟨⟨hk.1.1.2, hk.2⟩, hk.1.2⟩)) hg hat)
replace BK211 := am (blk_grown (rk BK211) hg (Kd.R_ne HO226.out BK211.out (by decide)))
replace BK212 := am (blk_grown (rk BK212) hg (Kd.R_ne HO226.out BK212.out (by decide)))
replace BK213 := am (blk_grown (rk BK213) hg (Kd.R_ne HO226.out BK213.out (by decide)))
replace HO217 := am (Kd.R_after (ok := (fun k_ => some k_ ≠ (.slice Ao35 t227.length co35 : Value).ownBlock)) (by (with_reducible repeat (first | apply r1 | apply r2 | apply r3)); exact Kd.R_mono HO217.out (fun _ hk => ⟨hk.2, hk.1.2⟩)) hg hat)
replace HO229 := am (Kd.R_after (ok := (fun k_ => some k_ ≠ (v216 : Value).ownBlock)) (by (with_reducible repeat (first | apply r1 | apply r2 | apply r3)); exact Kd.R_mono HO229.out (fun _ hk => ⟨hk.1.2, hk.2⟩)) hg hat)
replace HB := am (hb)
have HO232 := am (ho)
clear HO226
clear ho hb hg hat
obtain ⟨Ao37, co37, eo37⟩ := Kd.R_slice HO232.out
(first | subst eo37 | (injection eo37 with f1_ f2_ f3_; have f4_ := f1_.symm; have f5_ := f3_.symm; clear f1_ f2_ f3_; subst f4_; subst f5_))
refine hK.out _ _ ⟨(blk_cell BK213.out 0).trans rfl, (blk_cell BK213.out 1).trans rfl⟩ (fun hHeld => ?_)
clear hK K
refine norm_ (a' := _) (show Act.put _ (some 53) _ = _ from na) ?_
refine one_ (i := 10) (N := some 54) (bm 14 2047) rfl rfl (one_of HT_.out (by kernel_rfl)) (by decide) (fun K hK => ?_)
refine value_ (w1 := ?_) (v := ?_) (by rfl) rfl ?_ ?_
rotate_left 2
·(
go_simp
constructor
·rfl
·rfl
)
refine hK.out _ _ ⟨(blk_cell (blk_alloc BK213.out _) 0).trans rfl, (blk_cell (blk_alloc BK213.out _) 1).trans rfl⟩ (fun hHeld => ?_)
clear hK K
refine norm_ (a' := _) (show Act.put _ (some 54) _ = _ from na) ?_
refine one_ (i := 11) (N := some 55) (bm 14 4095) rfl rfl (one_of HT_.out (by kernel_rfl)) (by decide) (fun K hK => ?_)
refine Kd.S_append_step (Kd.slice 98 k98) (w0 := w) w.heap.size (by rfl) (.tmp 45) (.tmp 54) 56 99 (.slice none 0 0) 24 rfl Try.underlying56 info99 rfl (by decide) (by omega) u214001 x214001_1 y230 [.slice Ao37 y230.length co37] (fun k_ => some k_ ≠ (v216 : Value).ownBlock ∧ some k_ ≠ (.slice Ao35 t227.length co35 : Value).ownBlock) (fun k_ => some k_ = (.slice Ao37 y230.length co37 : Value).ownBlock) rfl rfl ?aP (fun k_ hk_ => ((Kd.R_mono (ok' := fun k_ => ((fun k_ => some k_ ≠ (v216 : Value).ownBlock ∧ some k_ ≠ (.slice Ao35 t227.length co35 : Value).ownBlock)) k_ ∧ some k_ ≠ (u214001 : Value).ownBlock) (Kd.R_apart' (HO232.out) (Kd.S_typed HO_214001.out) (by decide)) (fun k_ hk => ⟨⟨hk.1.1, hk.1.2⟩, hk.2⟩))).1 k_ hk_.symm) ?aF ?aO ?aB ?aS ?aL ?_
(case aP => exact Kd.M_row (Kd.R_mono (Kd.R_tight rfl (Kd.R_mono (ok' := fun k_ => ((fun k_ => some k_ ≠ (v216 : Value).ownBlock ∧ some k_ ≠ (.slice Ao35 t227.length co35 : Value).ownBlock)) k_ ∧ some k_ ≠ (u214001 : Value).ownBlock) (Kd.R_apart' (HO232.out) (Kd.S_typed HO_214001.out) (by decide)) (fun k_ hk => ⟨⟨hk.1.1, hk.1.2⟩, hk.2⟩))) (fun _ h_ => h_)))
(case aB => exact (rb3 HB GE211 GE212 GE213))
(case aF => exact (fun k_ hk => ⟨Kd.fresh' (Kd.R_lt (rr HO217)) k_ hk, Kd.fresh' (Kd.R_lt (rr HO229)) k_ hk⟩))
(case aO => exact (by (with_reducible repeat (first | apply Kd.S_alloc | apply Kd.S_drewN | apply Kd.S_drew)); exact Kd.S_mono HO_214001.out (fun k_ hk => ⟨⟨hk.1.1, hk.1.2⟩, fun e_ => hk.2 e_⟩)))
(case aS => exact (below_size (rb3 HB GE211 GE212 GE213)))
(case aL => have := LMc22.out; omega)
intro v234 w36 ho hb hg hat
rw [← Ny233.out] at ho
replace BK211 := am (blk_grown (rk BK211) hg (Kd.S_ne HO_214001.out BK211.out (by decide)))
replace BK212 := am (blk_grown (rk BK212) hg (Kd.S_ne HO_214001.out BK212.out (by decide)))
replace BK213 := am (blk_grown (rk BK213) hg (Kd.S_ne HO_214001.out BK213.out (by decide)))
replace HO217 := am (Kd.R_over' (rr HO217) (Kd.S_typed (rs HO_214001)) (by decide) hg)
replace HO229 := am (Kd.R_over' (rr HO229) (Kd.S_typed (rs HO_214001)) (by decide) hg)
replace HB := am (hb)
have HO235 := am (ho)
clear HO_214001 HO232
clear ho hb hg hat
obtain ⟨Ao38, co38, eo38⟩ := Kd.S_slice HO235.out
(first | subst eo38 | (injection eo38 with f1_ f2_ f3_; have f4_ := f1_.symm; have f5_ := f3_.symm; clear f1_ f2_ f3_; subst f4_; subst f5_))
refine hK.out _ _ ⟨(blk_cell BK213.out 0).trans rfl, (blk_cell BK213.out 1).trans rfl⟩ (fun hHeld => ?_)
clear hK K
refine norm_ (a' := _) (show Act.put _ (some 55) _ = _ from na) ?_
refine pu_ 12 56 (bm 14 8191) HT_.out ?_
refine last_ (i := 13) (N := none) (bm 14 16383) rfl rfl (one_of HT_.out (by kernel_rfl)) (by decide) (fun K hK => ?_)
have hs39 : w36.cell? ⟨gb213, 1, none⟩ = some (u214001) := (blk_cell BK213.out 1).trans rfl
have hfs39 := blk_frozen BK213.out 1
have hns39_0 := NB211_213.out
have hns39_1 := NB212_213.out
have hms39_0 := NB213_211.out
have hms39_1 := NB213_212.out
refine skip_ (w1 := ?_) (by rfl) rfl ?_ ?_
rotate_left
·(
go_simp
rfl
)
refine hK.out _ _ ?_
clear hK K
refine done_ (done_of HT_.out (by kernel_rfl)) ?_
try go_wp2
go_roundg k1
case measure => have := HK1.out; omega
case rel => exact ⟨(wrap64 (x9_1 + 1)), (y233), (.slice Ao38 y233.length co38), (by first | rfl | (simp; done) | (simp [*]; done)), H', ⟨by have := HK1.out; omega⟩, ⟨by (with_reducible repeat (first | apply Kd.S_alloc | apply Kd.S_drewN | apply Kd.S_drew)); exact Kd.S_mono (Kd.S_far (p := ⟨gb213, 1, none⟩) (Kd.S_types HO235.out BK213.out (by decide)) (fun _ hk => hk.2) (.slice Ao38 y233.length co38)) (fun _ hk => trivial)⟩, ⟨by (with_reducible repeat (first | apply k1 | apply k2 | apply k3)); refine blk_far ?_ NB211_213.out _; (with_reducible repeat (first | apply k1 | apply k2 | apply k3)); exact BK211.out⟩, ⟨by (with_reducible repeat (first | apply k1 | apply k2 | apply k3)); refine blk_far ?_ NB212_213.out _; (with_reducible repeat (first | apply k1 | apply k2 | apply k3)); exact BK212.out⟩, ⟨by (with_reducible repeat (first | apply k1 | apply k2 | apply k3)); refine blk_put (cs := #[.int .i64 a1, u214001]) ?_ 1 _ rfl; (with_reducible repeat (first | apply k1 | apply k2 | apply k3)); exact BK213.out⟩, ⟨rb3 HB GE211 GE212 GE213⟩⟩
)
| (
have q_ := lf2_
obtain ⟨Ao49, co49, eo49⟩ := Kd.R_slice HO217.out
(first | subst eo49 | (injection eo49 with f1_ f2_ f3_; have f4_ := f1_.symm; have f5_ := f3_.symm; clear f1_ f2_ f3_; subst f4_; subst f5_))
refine start_ (n := 14) (S := fun w' => w'.cell? ⟨gb213, 0, none⟩ = some (.int .i64 a1) ∧ w'.cell? ⟨gb213, 1, none⟩ = some (u214001)) (ds := [13]) (bm 14 0) (by kernel_rfl) rfl rfl ⟨(blk_cell BK213.out 0).trans rfl, (blk_cell BK213.out 1).trans rfl⟩ (fun hHeld => ?_); refine with_tabW spec_l5Resized.tab9 spec_l5Resized.bits9 (fun HT_ HW_ => ?_)
generalize w23.drew = w48 at HO_214001 HO217 BK211 BK212 BK213 HB hHeld ⊢
refine pu_ 0 44 (bm 14 1) HT_.out ?_
refine pu_ 2 46 (bm 14 5) HT_.out ?_
refine pu_ 3 47 (bm 14 13) HT_.out ?_
refine pu_ 4 48 (bm 14 29) HT_.out ?_
refine pu_ 5 49 (bm 14 61) HT_.out ?_
refine pu_ 6 50 (bm 14 125) HT_.out ?_
refine pu_ 7 51 (bm 14 253) HT_.out ?_
refine take_ (i := 1) (N := some 45) (v := ?_) (a' := ?_) (bm 14 255) rfl rfl (take_ofW HT_.out HW_.out (by kernel_rfl)) (fun _ _ _ h => h) (Or.inl ⟨by rfl, ?_⟩) hHeld ?_ ?_
rotate_left
·(
rintro w' ⟨s0, s1⟩
go_simp
with_reducible rfl
)
rotate_left
·(
simp only [Act.put, List.setIfInBounds_toArray, List.set_cons_zero, List.set_cons_succ, i64_w, i32_w]
rfl
)
refine one_ (i := 8) (N := some 52) (bm 14 511) rfl rfl (one_of HT_.out (by kernel_rfl)) (by decide) (fun K hK => ?_)
refine goes_ Try.func100 (by kernel_rfl) rfl #[.int .i64 (wrap64 (a1 - (y215.length : Int))), .agg #[.int .i64 0, .int .i64 0, .bool false, .bool false, .bool false]] (by rfl) rfl rfl mt ?_
with_reducible refine (spec_l4Row.calls k1 (wrap64 (a1 - (y215.length : Int))) 0 0 false false false t236 _ A40.out).mono ?_
rintro e w50 ⟨v237, rfl, ho0, hb⟩
refine ⟨_, rfl, ?_⟩
replace HO_214001 := am (Kd.S_elder' (rs HO_214001) (Kd.R_base ho0) hb)
have HO238 := am (Kd.R_lower (Kd.R_new' ho0 (Kd.R_lt (rr HO217))) (below_size (rb3 HB GE211 GE212 GE213)))
replace HO217 := am (Kd.R_elder' (rr HO217) (Kd.R_base ho0) hb)
replace BK211 := am (blk_below (rk BK211) hb)
replace BK212 := am (blk_below (rk BK212) hb)
replace BK213 := am (blk_below (rk BK213) hb)
replace HB := am (below_step (rb3 HB GE211 GE212 GE213) hb)
(try clear hb)
(try clear ho0)
obtain ⟨Ao52, co52, eo52⟩ := Kd.R_slice HO238.out
(first | subst eo52 | (injection eo52 with f1_ f2_ f3_; have f4_ := f1_.symm; have f5_ := f3_.symm; clear f1_ f2_ f3_; subst f4_; subst f5_))
refine hK.out _ _ ⟨(blk_cell BK213.out 0).trans rfl, (blk_cell BK213.out 1).trans rfl⟩ (fun hHeld => ?_)
clear hK K
refine norm_ (a' := _) (show Act.put _ (some 52) _ = _ from na) ?_
refine one_ (i := 9) (N := some 53) (bm 14 1023) rfl rfl (one_of HT_.out (by kernel_rfl)) (by decide) (fun K hK => ?_)
refine Kd.R_append_rows_step k98 (w0 := w) w.heap.size (by rfl) (.tmp 46) (.tmp 52) 99 98 (.agg #[(.int .i64 0), (.int .i64 0), (.int .i64 0), (.bool false), (.bool false), (.bool false), (.int .i64 0)]) 40 rfl Try.underlying99 info98 rfl (by decide) (by omega) (.slice Ao49 y215.length co49) y215 t236 _ _ _ (fun k_ => some k_ ≠ (.slice Ao52 t236.length co52 : Value).ownBlock) (fun _ => False) rfl rfl ?aO ?aR (fun _ _ h => h) (fun _ h => h.elim) ?aF ?aB ?aS ?aL ?_
(case aR => repeat (first | exact (Kd.R_reads' HO238.out).2.2 | (with_reducible refine Kd.C_alloc ?_ _) | (with_reducible refine Kd.C_drewN ?_ _) | (with_reducible refine Kd.C_drew ?_)))
(case aB => exact (rb3 HB GE211 GE212 GE213))
(case aF => exact (fun k_ hk => Kd.fresh' (Kd.R_lt (rr HO238)) k_ hk))
(case aO => exact (by (with_reducible repeat (first | apply r1 | apply r2 | apply r3)); exact Kd.R_mono HO217.out (fun _ hk => hk.2)))
(case aS => exact (below_size (rb3 HB GE211 GE212 GE213)))
(case aL => have := LMc41.out; omega)
intro v240 w51 ho hb hg hat
rw [← Ny239.out] at ho
replace HO_214001 := am (Kd.S_after (ok := (fun k_ => some k_ ≠ (.slice Ao52 t236.length co52 : Value).ownBlock)) (rm HO_214001) hg hat)
replace BK211 := am (blk_grown (rk BK211) hg (Kd.R_ne HO217.out BK211.out (by decide)))
replace BK212 := am (blk_grown (rk BK212) hg (Kd.R_ne HO217.out BK212.out (by decide)))
replace BK213 := am (blk_grown (rk BK213) hg (Kd.R_ne HO217.out BK213.out (by decide)))
replace HO238 := am (Kd.R_after (ok := (fun _ => True)) (rr HO238) hg hat)
replace HB := am (hb)
have HO241 := am (ho)
clear HO217
clear ho hb hg hat
obtain ⟨Ao54, co54, eo54⟩ := Kd.R_slice HO241.out
(first | subst eo54 | (injection eo54 with f1_ f2_ f3_; have f4_ := f1_.symm; have f5_ := f3_.symm; clear f1_ f2_ f3_; subst f4_; subst f5_))
refine hK.out _ _ ⟨(blk_cell BK213.out 0).trans rfl, (blk_cell BK213.out 1).trans rfl⟩ (fun hHeld => ?_)
clear hK K
refine norm_ (a' := _) (show Act.put _ (some 53) _ = _ from na) ?_
refine one_ (i := 10) (N := some 54) (bm 14 2047) rfl rfl (one_of HT_.out (by kernel_rfl)) (by decide) (fun K hK => ?_)
refine value_ (w1 := ?_) (v := ?_) (by rfl) rfl ?_ ?_
rotate_left 2
·(
go_simp
constructor
·rfl
·rfl
)
refine hK.out _ _ ⟨(blk_cell (blk_alloc BK213.out _) 0).trans rfl, (blk_cell (blk_alloc BK213.out _) 1).trans rfl⟩ (fun hHeld => ?_)
clear hK K
refine norm_ (a' := _) (show Act.put _ (some 54) _ = _ from na) ?_
refine one_ (i := 11) (N := some 55) (bm 14 4095) rfl rfl (one_of HT_.out (by kernel_rfl)) (by decide) (fun K hK => ?_)
refine Kd.S_append_step (Kd.slice 98 k98) (w0 := w) w.heap.size (by rfl) (.tmp 45) (.tmp 54) 56 99 (.slice none 0 0) 24 rfl Try.underlying56 info99 rfl (by decide) (by omega) u214001 x214001_1 y239 [.slice Ao54 y239.length co54] (fun k_ => some k_ ≠ (.slice Ao52 t236.length co52 : Value).ownBlock) (fun k_ => some k_ = (.slice Ao54 y239.length co54 : Value).ownBlock) rfl rfl ?aP (fun k_ hk_ => ((Kd.R_mono (ok' := fun k_ => ((fun k_ => some k_ ≠ (.slice Ao52 t236.length co52 : Value).ownBlock)) k_ ∧ some k_ ≠ (u214001 : Value).ownBlock) (Kd.R_apart' (HO241.out) (Kd.S_typed HO_214001.out) (by decide)) (fun k_ hk => ⟨hk.1, hk.2⟩))).1 k_ hk_.symm) ?aF ?aO ?aB ?aS ?aL ?_
(case aP => exact Kd.M_row (Kd.R_mono (Kd.R_tight rfl (Kd.R_mono (ok' := fun k_ => ((fun k_ => some k_ ≠ (.slice Ao52 t236.length co52 : Value).ownBlock)) k_ ∧ some k_ ≠ (u214001 : Value).ownBlock) (Kd.R_apart' (HO241.out) (Kd.S_typed HO_214001.out) (by decide)) (fun k_ hk => ⟨hk.1, hk.2⟩))) (fun _ h_ => h_)))
(case aB => exact (rb3 HB GE211 GE212 GE213))
(case aF => exact (fun k_ hk => Kd.fresh' (Kd.R_lt (rr HO238)) k_ hk))
(case aO => exact (by (with_reducible repeat (first | apply Kd.S_alloc | apply Kd.S_drewN | apply Kd.S_drew)); exact Kd.S_mono HO_214001.out (fun k_ hk => ⟨hk.1, fun e_ => hk.2 e_⟩)))
(case aS => exact (below_size (rb3 HB GE211 GE212 GE213)))
(case aL => have := LMc42.out; omega)
intro v243 w53 ho hb hg hat
rw [← Ny242.out] at ho
replace BK211 := am (blk_grown (rk BK211) hg (Kd.S_ne HO_214001.out BK211.out (by decide)))
replace BK212 := am (blk_grown (rk BK212) hg (Kd.S_ne HO_214001.out BK212.out (by decide)))
replace BK213 := am (blk_grown (rk BK213) hg (Kd.S_ne HO_214001.out BK213.out (by decide)))
replace HO238 := am (Kd.R_over' (rr HO238) (Kd.S_typed (rs HO_214001)) (by decide) hg)
replace HB := am (hb)
have HO244 := am (ho)
clear HO_214001 HO241
clear ho hb hg hat
obtain ⟨Ao55, co55, eo55⟩ := Kd.S_slice HO244.out
(first | subst eo55 | (injection eo55 with f1_ f2_ f3_; have f4_ := f1_.symm; have f5_ := f3_.symm; clear f1_ f2_ f3_; subst f4_; subst f5_))
refine hK.out _ _ ⟨(blk_cell BK213.out 0).trans rfl, (blk_cell BK213.out 1).trans rfl⟩ (fun hHeld => ?_)
clear hK K
refine norm_ (a' := _) (show Act.put _ (some 55) _ = _ from na) ?_
refine pu_ 12 56 (bm 14 8191) HT_.out ?_
refine last_ (i := 13) (N := none) (bm 14 16383) rfl rfl (one_of HT_.out (by kernel_rfl)) (by decide) (fun K hK => ?_)
have hs56 : w53.cell? ⟨gb213, 1, none⟩ = some (u214001) := (blk_cell BK213.out 1).trans rfl
have hfs56 := blk_frozen BK213.out 1
have hns56_0 := NB211_213.out
have hns56_1 := NB212_213.out
have hms56_0 := NB213_211.out
have hms56_1 := NB213_212.out
refine skip_ (w1 := ?_) (by rfl) rfl ?_ ?_
rotate_left
·(
go_simp
rfl
)
refine hK.out _ _ ?_
clear hK K
refine done_ (done_of HT_.out (by kernel_rfl)) ?_
try go_wp2
go_roundg k1
case measure => have := HK1.out; omega
case rel => exact ⟨(wrap64 (x9_1 + 1)), (y242), (.slice Ao55 y242.length co55), (by first | rfl | (simp; done) | (simp [*]; done)), H', ⟨by have := HK1.out; omega⟩, ⟨by (with_reducible repeat (first | apply Kd.S_alloc | apply Kd.S_drewN | apply Kd.S_drew)); exact Kd.S_mono (Kd.S_far (p := ⟨gb213, 1, none⟩) (Kd.S_types HO244.out BK213.out (by decide)) (fun _ hk => hk.2) (.slice Ao55 y242.length co55)) (fun _ hk => trivial)⟩, ⟨by (with_reducible repeat (first | apply k1 | apply k2 | apply k3)); refine blk_far ?_ NB211_213.out _; (with_reducible repeat (first | apply k1 | apply k2 | apply k3)); exact BK211.out⟩, ⟨by (with_reducible repeat (first | apply k1 | apply k2 | apply k3)); refine blk_far ?_ NB212_213.out _; (with_reducible repeat (first | apply k1 | apply k2 | apply k3)); exact BK212.out⟩, ⟨by (with_reducible repeat (first | apply k1 | apply k2 | apply k3)); refine blk_put (cs := #[.int .i64 a1, u214001]) ?_ 1 _ rfl; (with_reducible repeat (first | apply k1 | apply k2 | apply k3)); exact BK213.out⟩, ⟨rb3 HB GE211 GE212 GE213⟩⟩
)
)
)
·(
rw [if_neg c13] at H
have c13b0 : decide (x9_1 < (wrap64 (t214 + a2))) = false := decide_eq_false c13
clear c13
simp only [Option.some.injEq, Prod.mk.injEq] at H
obtain ⟨rfl, rfl⟩ := H
have hnb57 := NB213_211.out
have hnc57 := NB211_213.out
have hnb58 := NB213_212.out
have hnc58 := NB212_213.out
have hcz59_0 : wr.cell? ⟨gb213, 0, none⟩ = some (.int .i64 a1) := (blk_cell BK213.out 0).trans rfl
have hcz59_1 : wr.cell? ⟨gb213, 1, none⟩ = some (u214001) := (blk_cell BK213.out 1).trans rfl
have hfz59_0 := blk_frozen BK213.out 0
have hfz59_1 := blk_frozen BK213.out 1
have hnb60 := NB212_211.out
have hnc60 := NB211_212.out
have hcz61_0 : wr.cell? ⟨gb212, 0, none⟩ = some (.int .i64 0) := (blk_cell BK212.out 0).trans rfl
have hcz61_1 : wr.cell? ⟨gb212, 1, none⟩ = some (.slice none 0 0) := (blk_cell BK212.out 1).trans rfl
have hfz61_0 := blk_frozen BK212.out 0
have hfz61_1 := blk_frozen BK212.out 1
obtain ⟨Ao62, co62, eo62⟩ := Kd.S_slice HO_214001.out
subst eo62
go_wp2
refine bodyPost_ret (results_cell_row rfl _ _ gb212 58 #[.int .i64 a1, .slice Ao62 x214001_1.length co62] (0, 0) _ rfl (rp_0_1 BK212) Try.underlying58 rfl (by kernel_rfl)) rfl ?_
exact ⟨_, by first | rfl | (simp [errW_none, errW_some] <;> rfl) | (simp [*, errW_none, errW_some] <;> rfl), by (with_reducible repeat (first | apply Kd.S_alloc | apply Kd.S_drewN | apply Kd.S_drew)); exact Kd.S_mono (Kd.S_far (p := ⟨gb212, 1, none⟩) (Kd.S_far (p := ⟨gb212, 0, none⟩) (Kd.S_types HO_214001.out BK212.out (by decide)) (fun _ hk => hk.2) (.int .i64 a1)) (fun _ hk => hk.2) (.slice Ao62 x214001_1.length co62)) (fun _ hk => trivial), rb3 HB GE211 GE212 GE213⟩
)
)
)
)

end Go.Proofs.Ytalopdcephohgaa.RB
