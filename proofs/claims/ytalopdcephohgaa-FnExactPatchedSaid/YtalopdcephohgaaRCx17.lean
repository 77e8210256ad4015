/- Contracts of Go functions that laws of this seat reach: each Lean function answers as its Go function does. No condition. Written by wip/tools/inj.py, over the kit's print. -/
import Derived.Test.YtalopdcephohgaaRCx0
import Derived.Test.YtalopdcephohgaaRCx15
import Derived.Test.YtalopdcephohgaaRCx16
namespace Go.Proofs.Ytalopdcephohgaa.RC
open Go.RowKit Go.Proofs.YtalopdcephohgaaW.PrintWords Go.Proofs.YtalopdcephohgaaW.PrintLast Go.Proofs.YtalopdcephohgaaW.PrintMore
attribute [local go_sem] max2_int min2_int max_two min_two max_three min_three max_four min_four   -- for this text's walks alone
set_option linter.unusedVariables false
set_option linter.unusedSimpArgs false

/-! ### spec_l5Resized: function 70 -/
def spec_l5Resized.l0 : Nat → Int → Int → Int → Int → Int → List (List (S98)) → Int → List (List (S98)) → Option (Int × (List (List (S98))))
 | 0, _, _, _, _, _, _, _, _ => none
 | k + 1, x1, x2, x8, x9, x285000, x285001, x287000, x287001 => if x9 < (wrap64 (x8 + x2)) then ((some (([] : List (S98)) : List (S98))).bind fun y288 => (if x9 < (x285001.length : Int) then (if 0 ≤ x9 then ((spec_l1Min.f x1 x285000).bind fun t292 => (if 0 ≤ t292 then (if t292 ≤ ((rd_L7 x285001 x9).length : Int) then ((spec_l4Mended.f k ((rd_L7 x285001 x9).take (t292 : Int).toNat)).bind fun t297 => ((spec_l4Row.f k (wrap64 (x1 - (t297.length : Int))) 0 0 false false false).bind fun t300 => (if t297.length + t300.length < 3518437208883 then (if x287001.length < 5864062014805 then (spec_l5Resized.l0 k x1 x2 x8 (wrap64 (x9 + 1)) x285000 x285001 x287000 (x287001 ++ [(t297 ++ t300)])) else (none)) else (none)))) else (none)) else (none))) else (none)) else ((spec_l4Row.f k (wrap64 (x1 - (y288.length : Int))) 0 0 false false false).bind fun t309 => (if y288.length + t309.length < 3518437208883 then (if x287001.length < 5864062014805 then (spec_l5Resized.l0 k x1 x2 x8 (wrap64 (x9 + 1)) x285000 x285001 x287000 (x287001 ++ [(y288 ++ t309)])) else (none)) else (none))))) else (some (x287000, x287001))
def spec_l5Resized.f (k : Nat) (a0_0 : Int) (l0_1 : List (List (S98))) (a1 : Int) (a2 : Int) : Option (Int × (List (List (S98)))) := (spec_l1Max.f 0 (wrap64 ((l0_1.length : Int) - a2))).bind fun t287 => (spec_l5Resized.l0 k a1 a2 t287 t287 a0_0 l0_1 a1 ([] : List (List (S98))))
theorem spec_l5Resized.mono_l : ∀ k, (∀ y0 y1 y2 y3 y4 y5 y6 y7, LeO (spec_l5Resized.l0 k y0 y1 y2 y3 y4 y5 y6 y7) (spec_l5Resized.l0 (k + 1) y0 y1 y2 y3 y4 y5 y6 y7))
 | 0 => fun _ _ _ _ _ _ _ _ r h => by simp [spec_l5Resized.l0] at h
 | k + 1 => by
  have ih0 := spec_l5Resized.mono_l k
  ·intro y0 y1 y2 y3 y4 y5 y6 y7
   unfold spec_l5Resized.l0
   repeat' first
   | (with_reducible exact ih0 _ _ _ _ _ _ _ _)
   | (with_reducible exact spec_l4Mended.mono _ _)
   | (with_reducible exact spec_l4Row.mono _ _ _ _ _ _ _)
   | (with_reducible exact LeO.refl _)
   | (with_reducible exact LeO.none _)
   | (with_reducible refine LeO.ite ?_ ?_)
   | (with_reducible refine LeO.bind ?_ (fun _ => ?_))
theorem spec_l5Resized.mono : ∀ a0 a1 a2 a3 k, LeO (spec_l5Resized.f k a0 a1 a2 a3) (spec_l5Resized.f (k + 1) a0 a1 a2 a3) := by
 intro a0 a1 a2 a3 k
 have ih0 := spec_l5Resized.mono_l k
 unfold spec_l5Resized.f
 repeat' first
   | (with_reducible exact ih0 _ _ _ _ _ _ _ _)
   | (with_reducible exact spec_l4Mended.mono _ _)
   | (with_reducible exact spec_l4Row.mono _ _ _ _ _ _ _)
   | (with_reducible exact LeO.refl _)
   | (with_reducible exact LeO.none _)
   | (with_reducible refine LeO.ite ?_ ?_)
   | (with_reducible refine LeO.bind ?_ (fun _ => ?_))
def spec_l5Resized.T8 : Bool × List (List Nat × List Nat) := (true, [([], []), ([0], [0]), ([], []), ([1, 2], [1, 2]), ([3], [3]), ([], []), ([], []), ([6], [6]), ([5, 7], [5, 7]), ([4, 8], [4, 8]), ([9, 8], [9]), ([10, 10, 0, 1, 2, 3, 4, 5, 6, 7, 8, 9, 10], [10])])
def spec_l5Resized.B8 : List Nat := [0, 1, 0, 7, 15, 0, 0, 64, 224, 511, 1023, 2047]
theorem spec_l5Resized.tab8 : rtab .any (opsOf Try.f70 8) = spec_l5Resized.T8 := by kernel_rfl
theorem spec_l5Resized.bits8 : waitsOk spec_l5Resized.T8.2 spec_l5Resized.B8 = true := by kernel_rfl
def spec_l5Resized.T9 : Bool × List (List Nat × List Nat) := (true, [([], []), ([0], [0]), ([], []), ([], []), ([], []), ([4], [4]), ([3, 5], [3, 5]), ([], []), ([6, 7], [6, 7]), ([2, 8, 8], [2, 8]), ([9], [9]), ([1, 10, 9], [1, 10]), ([0, 1, 2, 3, 4, 5, 6, 7, 8, 9, 10, 11], []), ([12, 11, 11, 0, 1, 2, 3, 4, 5, 6, 7, 8, 9, 10, 11], [11, 12])])
def spec_l5Resized.B9 : List Nat := [0, 1, 0, 0, 0, 16, 56, 0, 248, 508, 1020, 2047, 4095, 8191]
theorem spec_l5Resized.tab9 : rtab .any (opsOf Try.f70 9) = spec_l5Resized.T9 := by kernel_rfl
theorem spec_l5Resized.bits9 : waitsOk spec_l5Resized.T9.2 spec_l5Resized.B9 = true := by kernel_rfl
set_option maxHeartbeats 8000000 in
set_option maxRecDepth 100000 in
theorem spec_l5Resized.calls (k : Nat) (a0_0 : Int) (A0_1 : Option Addr) (c0_1 : Nat) (l0_1 : List (List (S98))) (a1 : Int) (a2 : Int) (r1 : Int) (r2 : List (List (S98))) (w : World) (hr0_1 : Kd.C (Kd.slice 98 k98) w A0_1 l0_1.length l0_1) (hc0_1 : l0_1.length ≤ c0_1) (h : spec_l5Resized.f k a0_0 l0_1 a1 a2 = some (r1, r2)) :
  Calls Try.prog 70 #[.agg #[.int .i64 a0_0, .slice A0_1 l0_1.length c0_1], .int .i64 a1, .int .i64 a2] w fun e w' => ∃ v1_ : Value, e = .returned (.agg #[.int .i64 r1, v1_]) ∧ Kd.S (Kd.slice 98 k98) 99 w' w.heap.size (fun _ => True) v1_ r2 ∧ Below w.heap.size w w' := by
 (
have hu58 := Try.underlying58
have hu96 := Try.underlying96
have HR0_1 := am hr0_1
have HC0_1 := am hc0_1
clear hr0_1 hc0_1
have HB := am (Below.refl w.heap.size w)
have H := h
unfold spec_l5Resized.f at H
clear h
replace H := Option.bind_eq_some_iff.mp H
obtain ⟨t287, A40, H⟩ := H
(try dsimp only at H)
have A4 := am A40
clear A40
have H' := am H
clear H
go_enter Try.func70, Try.ntmps70
go_wp2_with (first | ((with_reducible refine gate_dst (N := 3) rfl ?_); refine box_event ?hg (N := 3) ?hd (cs := #[.int .i64 a0_0, .slice A0_1 l0_1.length c0_1]) (t := 58) ?hr ?_; (case hd => rfl); (case hg => rfl); (case hr => first | (go_simp; done) | (go_simp; rfl)); intro gb284 hg w5 hbox hb; have BK284 := am (hbox); have GW284 := am (gw hg (rb HB)); have GE284 := GW284; replace HB := am (below_step (rb HB) hb); clear hb hbox hg) | ((with_reducible refine gate_dst (N := 6) rfl ?_); refine box_event ?hg (N := 6) ?hd (cs := #[.int .i64 0, .slice none 0 0]) (t := 58) ?hr ?_; (case hd => rfl); (case hg => rfl); (case hr => first | (go_simp; done) | (go_simp; rfl)); intro gb285 hg w6 hbox hb; have BK285 := am (hbox); have GW285 := am (gw hg (rb1 HB GE284)); have GE285 := GW285; replace HB := am (below_step (rb1 HB GE284) hb); have NB284_285 := am (nl hg (rk BK284)); have NB285_284 := am (ng hg (rk BK284)); replace BK284 := am (blk_below (rk BK284) hb); clear hb hbox hg) | ((with_reducible refine gate_dst (N := 7) rfl ?_); refine box_event ?hg (N := 7) ?hd (cs := #[.int .i64 0, .slice none 0 0]) (t := 58) ?hr ?_; (case hd => rfl); (case hg => rfl); (case hr => first | (go_simp; done) | (go_simp; rfl)); intro gb286 hg w7 hbox hb; have BK286 := am (hbox); have GW286 := am (gw hg (rb2 HB GE284 GE285)); have GE286 := GW286; replace HB := am (below_step (rb2 HB GE284 GE285) hb); have NB284_286 := am (nl hg (rk BK284)); have NB286_284 := am (ng hg (rk BK284)); replace BK284 := am (blk_below (rk BK284) hb); have NB285_286 := am (nl hg (rk BK285)); have NB286_285 := am (ng hg (rk BK285)); replace BK285 := am (blk_below (rk BK285) hb); clear hb hbox hg; have hnb8 := NB286_284.out; have hnc8 := NB284_286.out; have hnb9 := NB286_285.out; have hnc9 := NB285_286.out; have hcz10_0 : w7.cell? ⟨gb286, 0, none⟩ = some (.int .i64 0) := (blk_cell BK286.out 0).trans rfl; have hcz10_1 : w7.cell? ⟨gb286, 1, none⟩ = some (.slice none 0 0) := (blk_cell BK286.out 1).trans rfl; have hfz10_0 := blk_frozen BK286.out 0; have hfz10_1 := blk_frozen BK286.out 1; have hnb11 := NB284_285.out; have hnc11 := NB285_284.out; have hcz12_0 : w7.cell? ⟨gb284, 0, none⟩ = some (.int .i64 a0_0) := (blk_cell BK284.out 0).trans rfl; have hcz12_1 : w7.cell? ⟨gb284, 1, none⟩ = some (.slice A0_1 l0_1.length c0_1) := (blk_cell BK284.out 1).trans rfl; have hfz12_0 := blk_frozen BK284.out 0; have hfz12_1 := blk_frozen BK284.out 1) | ((with_reducible refine gate_callee (f := 97) rfl ?_); refine gl_ (some 18) Try.func97 #[.int .i64 0, .int .i64 (wrap64 ((l0_1.length : Int) - a2))] ?_; (with_reducible refine (spec_l1Max.calls 0 (wrap64 ((l0_1.length : Int) - a2)) t287 _ A4.out).mono ?_); rintro e w' ⟨rfl, ⟨nd, rfl⟩⟩; refine ⟨_, rfl, ?_⟩))
go_loopg [9] k (fun kq v9 w' => ∃ (x9_1 : Int) (x287001_1 : List (List (S98))) (u287001 : Value), v9 = .int .i64 x9_1 ∧ Aside0 (spec_l5Resized.l0 kq a1 a2 t287 x9_1 a0_0 l0_1 a1 x287001_1 = some (r1, r2)) ∧ Aside0 (kq ≤ k) ∧ Aside0 (Kd.S (Kd.slice 98 k98) 99 w' w.heap.size (fun _ => True) u287001 x287001_1) ∧ Aside0 (w'.heap[gb284]? = some (.cells #[.int .i64 a0_0, (.slice A0_1 l0_1.length c0_1)] 58 (0, 0))) ∧ Aside0 (w'.heap[gb285]? = some (.cells #[.int .i64 0, (.slice none 0 0)] 58 (0, 0))) ∧ Aside0 (w'.heap[gb286]? = some (.cells #[.int .i64 a1, u287001] 58 (0, 0))) ∧ Aside0 (Below w.heap.size w w'))
case atStart => exact ⟨(t287), (([] : List (List (S98)))), (.slice none 0 0), (by first | rfl | (simp; done) | (simp [*]; done)), H', ⟨Nat.le_refl _⟩, ⟨by first | exact Kd.S_nil _ _ _ _ _ | exact Kd.N_nil _ _ _ _ _ | exact Kd.V_nil _ _ _ _ _ | exact Kd.Q_nil _ _ _ _ _ | exact Kd.R_nil _ _ _ _ _⟩, ⟨rf2 NB284_286 BK284⟩, ⟨rf2 NB285_286 BK285⟩, ⟨by (with_reducible repeat (first | apply k1 | apply k2 | apply k3)); refine blk_put (cs := #[.int .i64 a1, .slice none 0 0]) ?_ 1 _ rfl; (with_reducible repeat (first | apply k1 | apply k2 | apply k3)); refine blk_put (cs := #[.int .i64 0, .slice none 0 0]) ?_ 0 _ rfl; (with_reducible repeat (first | apply k1 | apply k2 | apply k3)); exact BK286.out⟩, ⟨rb3 HB GE284 GE285 GE286⟩⟩
case round => (
clear H'
try clear c1
try clear p2
try clear p6
try clear c7
try clear c8
try clear c9
try clear c11
try clear hcz10_0
try clear hcz10_1
try clear hcz12_0
try clear hcz12_1
try clear hfz10_0
try clear hfz10_1
try clear hfz12_0
try clear hfz12_1
obtain ⟨x9_1, x287001_1, u287001, rfl, HA, HK1, HO_287001, BK284, BK285, BK286, HB⟩ := hrel
cases gk with
| zero => exact absurd HA.out (by simp [spec_l5Resized.l0])
| succ k1 => (
have H := HA.out
clear HA
simp only [spec_l5Resized.l0] at H
by_cases c13 : x9_1 < (wrap64 (t287 + a2))
·(
rw [if_pos c13] at H
have c13b0 : decide (x9_1 < (wrap64 (t287 + a2))) = true := decide_eq_true c13
clear c13
obtain ⟨y288, hy288⟩ : ∃ y_ : List (S98), y_ = (([] : List (S98))) := ⟨_, rfl⟩
replace H : (if x9_1 < (l0_1.length : Int) then (if 0 ≤ x9_1 then ((spec_l1Min.f a1 a0_0).bind fun t292 => (if 0 ≤ t292 then (if t292 ≤ ((rd_L7 l0_1 x9_1).length : Int) then ((spec_l4Mended.f k1 ((rd_L7 l0_1 x9_1).take (t292 : Int).toNat)).bind fun t297 => ((spec_l4Row.f k1 (wrap64 (a1 - (t297.length : Int))) 0 0 false false false).bind fun t300 => (if t297.length + t300.length < 3518437208883 then (if x287001_1.length < 5864062014805 then (spec_l5Resized.l0 k1 a1 a2 t287 (wrap64 (x9_1 + 1)) a0_0 l0_1 a1 (x287001_1 ++ [(t297 ++ t300)])) else (none)) else (none)))) else (none)) else (none))) else (none)) else ((spec_l4Row.f k1 (wrap64 (a1 - (y288.length : Int))) 0 0 false false false).bind fun t309 => (if y288.length + t309.length < 3518437208883 then (if x287001_1.length < 5864062014805 then (spec_l5Resized.l0 k1 a1 a2 t287 (wrap64 (x9_1 + 1)) a0_0 l0_1 a1 (x287001_1 ++ [(y288 ++ t309)])) else (none)) else (none)))) = some (r1, r2) := by first | (rw [hy288]; with_reducible exact H) | (rw [hy288]; exact H) | exact H
have Ny288 := am hy288
clear hy288
refine em_ (p := x9_1 < (l0_1.length : Int)) (fun c14 => ?g7p) (fun c14 => ?g7n)
case' g7p => (
rw [if_pos c14] at H
have c14b0 : decide (x9_1 < (l0_1.length : Int)) = true := decide_eq_true c14
clear c14
refine em_ (p := 0 ≤ x9_1) (fun c15 => ?g4p) (fun c15 => ?g4n)
case' g4p => (
rw [if_pos c15] at H
have c15b0 : decide (0 ≤ x9_1) = true := decide_eq_true c15
clear c15
replace H := Option.bind_eq_some_iff.mp H
obtain ⟨t292, A160, H⟩ := H
(try dsimp only at H)
have A16 := am A160
clear A160
refine em_ (p := 0 ≤ t292) (fun c17 => ?g3p) (fun c17 => ?g3n)
case' g3p => (
rw [if_pos c17] at H
have c17b0 := eq_true c17
have c17b1 : decide (0 ≤ t292) = true := decide_eq_true c17
clear c17
refine em_ (p := t292 ≤ ((rd_L7 l0_1 x9_1).length : Int)) (fun c18 => ?g2p) (fun c18 => ?g2n)
case' g2p => (
rw [if_pos c18] at H
have c18b0 := eq_true c18
have c18b1 : decide (t292 ≤ ((rd_L7 l0_1 x9_1).length : Int)) = true := decide_eq_true c18
clear c18
obtain ⟨y293, hy293⟩ : ∃ y_ : List (S98), y_ = ((rd_L7 l0_1 x9_1).take (t292 : Int).toNat) := ⟨_, rfl⟩
replace H : ((spec_l4Mended.f k1 y293).bind fun t297 => ((spec_l4Row.f k1 (wrap64 (a1 - (t297.length : Int))) 0 0 false false false).bind fun t300 => (if t297.length + t300.length < 3518437208883 then (if x287001_1.length < 5864062014805 then (spec_l5Resized.l0 k1 a1 a2 t287 (wrap64 (x9_1 + 1)) a0_0 l0_1 a1 (x287001_1 ++ [(t297 ++ t300)])) else (none)) else (none)))) = some (r1, r2) := by first | (rw [hy293]; with_reducible exact H) | (rw [hy293]; exact H) | exact H
have Ny293 := am hy293
clear hy293
replace H := Option.bind_eq_some_iff.mp H
obtain ⟨t297, A190, H⟩ := H
(try dsimp only at H)
have A19 := am A190
clear A190
replace H := Option.bind_eq_some_iff.mp H
obtain ⟨t300, A200, H⟩ := H
(try dsimp only at H)
have A20 := am A200
clear A200
refine em_ (p := t297.length + t300.length < 3518437208883) (fun c21 => ?g1p) (fun c21 => ?g1n)
case' g1p => (
rw [if_pos c21] at H
have LMc21 := am c21
clear c21
obtain ⟨y303, hy303⟩ : ∃ y_ : List (S98), y_ = (t297 ++ t300) := ⟨_, rfl⟩
replace H : (if x287001_1.length < 5864062014805 then (spec_l5Resized.l0 k1 a1 a2 t287 (wrap64 (x9_1 + 1)) a0_0 l0_1 a1 (x287001_1 ++ [y303])) else (none)) = some (r1, r2) := by first | (rw [hy303]; with_reducible exact H) | (rw [hy303]; exact H) | exact H
have Ny303 := am hy303
clear hy303
refine em_ (p := x287001_1.length < 5864062014805) (fun c22 => ?g0p) (fun c22 => ?g0n)
case' g0p => (
rw [if_pos c22] at H
have LMc22 := am c22
clear c22
obtain ⟨y306, hy306⟩ : ∃ y_ : List (List (S98)), y_ = (x287001_1 ++ [y303]) := ⟨_, rfl⟩
replace H : (spec_l5Resized.l0 k1 a1 a2 t287 (wrap64 (x9_1 + 1)) a0_0 l0_1 a1 y306) = some (r1, r2) := by first | (rw [hy306]; with_reducible exact H) | (rw [hy306]; exact H) | exact H
have Ny306 := am hy306
clear hy306
have H' := am H
clear H
have lf1_ := trivial
)
case g0n => (
rw [if_neg c22] at H
exact absurd H (by simp)
)
)
case g1n => (
rw [if_neg c21] at H
exact absurd H (by simp)
)
)
case g2n => (
rw [if_neg c18] at H
exact absurd H (by simp)
)
)
case g3n => (
rw [if_neg c17] at H
exact absurd H (by simp)
)
)
case g4n => (
rw [if_neg c15] at H
exact absurd H (by simp)
)
)
case' g7n => (
rw [if_neg c14] at H
have c14b0 : decide (x9_1 < (l0_1.length : Int)) = false := decide_eq_false c14
clear c14
replace H := Option.bind_eq_some_iff.mp H
obtain ⟨t309, A400, H⟩ := H
(try dsimp only at H)
have A40 := am A400
clear A400
refine em_ (p := y288.length + t309.length < 3518437208883) (fun c41 => ?g6p) (fun c41 => ?g6n)
case' g6p => (
rw [if_pos c41] at H
have LMc41 := am c41
clear c41
obtain ⟨y312, hy312⟩ : ∃ y_ : List (S98), y_ = (y288 ++ t309) := ⟨_, rfl⟩
replace H : (if x287001_1.length < 5864062014805 then (spec_l5Resized.l0 k1 a1 a2 t287 (wrap64 (x9_1 + 1)) a0_0 l0_1 a1 (x287001_1 ++ [y312])) else (none)) = some (r1, r2) := by first | (rw [hy312]; with_reducible exact H) | (rw [hy312]; exact H) | exact H
have Ny312 := am hy312
clear hy312
refine em_ (p := x287001_1.length < 5864062014805) (fun c42 => ?g5p) (fun c42 => ?g5n)
case' g5p => (
rw [if_pos c42] at H
have LMc42 := am c42
clear c42
obtain ⟨y315, hy315⟩ : ∃ y_ : List (List (S98)), y_ = (x287001_1 ++ [y312]) := ⟨_, rfl⟩
replace H : (spec_l5Resized.l0 k1 a1 a2 t287 (wrap64 (x9_1 + 1)) a0_0 l0_1 a1 y315) = some (r1, r2) := by first | (rw [hy315]; with_reducible exact H) | (rw [hy315]; exact H) | exact H
have Ny315 := am hy315
clear hy315
have H' := am H
clear H
have lf2_ := trivial
)
case g5n => (
rw [if_neg c42] at H
exact absurd H (by simp)
)
)
case g6n => (
rw [if_neg c41] at H
exact absurd H (by simp)
)
)
all_goals (
try go_wp2_with (first | ((with_reducible refine gate_dst (N := 27) rfl ?_); refine Kd.R_lit k98 _ 98 ?hg (N := 27) ?hd (xs := ([] : List (S98))) (inner := []) (ok := fun _ => True) (okp := fun _ => True) ?hr ?hp (fun _ hk => hk) trivial (Below.refl _ _) (Nat.le_refl _) (by simp) ?_; (case hd => rfl); (case hg => rfl); (case hr => first | (go_simp; done) | (go_simp; rfl)); (case hp => exact (Reps.none _ _)); intro v289 w23 ho24 hb hg_ hnew_; clear hg_ hnew_; (first | rw [← Ny288.out] at ho24 | (simp only [Int.reduceToNat] at ho24; rw [← Ny288.out] at ho24)); replace HO_287001 := am (Kd.S_elder' (rs HO_287001) (Kd.R_base ho24) hb); have HO290 := am (Kd.R_lower ho24 (below_size (rb3 HB GE284 GE285 GE286))); replace BK284 := am (blk_below (rk BK284) hb); replace BK285 := am (blk_below (rk BK285) hb); replace BK286 := am (blk_below (rk BK286) hb); replace HB := am (below_step (rb3 HB GE284 GE285 GE286) hb); clear hb ho24; have hnb25 := NB284_285.out; have hnc25 := NB285_284.out; have hnb26 := NB284_286.out; have hnc26 := NB286_284.out; have hcz27_0 : w23.cell? ⟨gb284, 0, none⟩ = some (.int .i64 a0_0) := (blk_cell BK284.out 0).trans rfl; have hcz27_1 : w23.cell? ⟨gb284, 1, none⟩ = some (.slice A0_1 l0_1.length c0_1) := (blk_cell BK284.out 1).trans rfl; have hfz27_0 := blk_frozen BK284.out 0; have hfz27_1 := blk_frozen BK284.out 1))
replace HO_287001 := am (Kd.S_drew HO_287001.out)
replace HO290 := am (Kd.R_drew HO290.out)
replace BK284 := am (blk_drew BK284.out)
replace BK285 := am (blk_drew BK285.out)
replace BK286 := am (blk_drew BK286.out)
replace HB := am (below_drew1 HB.out)
first
| (
have q_ := lf1_
have p291 : 0 ≤ (x9_1 : Int) := dt_
have q291 : x9_1 < (l0_1.length : Int) := dt_
obtain ⟨ad291, A291_0, c291_0, e291, hx291_0, hl291_0, hi291_0⟩ := at_L7 HR0_1.out x9_1 p291 q291
have hw291_0 := hx291_0
cases e291
replace hx291_0 := mv HB.out hx291_0
have HR291_0 := am hi291_0
have HC291_0 := am hl291_0
clear hi291_0 hl291_0
replace p291 := eq_true p291
replace q291 := eq_true q291
refine start_ (n := 12) (S := fun w' => w'.cell? ⟨gb284, 0, none⟩ = some (.int .i64 a0_0) ∧ w'.cell? ⟨gb284, 1, none⟩ = some (.slice (some ad291) l0_1.length c0_1) ∧ w'.cell? (ad291.add (x9_1).toNat) = some (.slice A291_0 (rd_L7 l0_1 x9_1).length c291_0)) (ds := []) (bm 12 0) (by kernel_rfl) rfl rfl ⟨(blk_cell BK284.out 0).trans rfl, (blk_cell BK284.out 1).trans rfl, ((HB.out.cell (World.block_lt_of_cell? w _ hw291_0)).trans hw291_0)⟩ (fun hHeld => ?_); refine with_tabW spec_l5Resized.tab8 spec_l5Resized.bits8 (fun HT_ HW_ => ?_)
generalize w23.drew = w28 at HO_287001 HO290 BK284 BK285 BK286 HB HR291_0 hx291_0 hHeld ⊢
refine pu_ 0 33 (bm 12 1) HT_.out ?_
refine pu_ 2 35 (bm 12 5) HT_.out ?_
refine pu_ 5 38 (bm 12 37) HT_.out ?_
refine pu_ 6 39 (bm 12 101) HT_.out ?_
refine take_ (i := 1) (N := some 34) (v := ?_) (a' := ?_) (bm 12 103) rfl rfl (take_ofW HT_.out HW_.out (by kernel_rfl)) (fun _ _ _ h => h) (Or.inl ⟨by rfl, ?_⟩) hHeld ?_ ?_
rotate_left
·(
rintro w' ⟨s0, s1, s2⟩
go_simp
with_reducible rfl
)
rotate_left
·(
simp only [Act.put, List.setIfInBounds_toArray, List.set_cons_zero, List.set_cons_succ, i64_w, i32_w]
rfl
)
refine pu_ 3 36 (bm 12 111) HT_.out ?_
refine take_ (i := 4) (N := some 37) (v := ?_) (a' := ?_) (bm 12 127) rfl rfl (take_ofW HT_.out HW_.out (by kernel_rfl)) (fun _ _ _ h => h) (Or.inl ⟨by rfl, ?_⟩) hHeld ?_ ?_
rotate_left
·(
rintro w' ⟨s0, s1, s2⟩
go_simp
with_reducible rfl
)
rotate_left
·(
simp only [Act.put, List.setIfInBounds_toArray, List.set_cons_zero, List.set_cons_succ, i64_w, i32_w]
rfl
)
refine take_ (i := 7) (N := some 40) (v := ?_) (a' := ?_) (bm 12 255) rfl rfl (take_ofW HT_.out HW_.out (by kernel_rfl)) (fun _ _ _ h => h) (Or.inl ⟨by rfl, ?_⟩) hHeld ?_ ?_
rotate_left
·(
rintro w' ⟨s0, s1, s2⟩
go_simp
with_reducible rfl
)
rotate_left
·(
simp only [Act.put, List.setIfInBounds_toArray, List.set_cons_zero, List.set_cons_succ, i64_w, i32_w]
rfl
)
refine one_ (i := 8) (N := some 41) (bm 12 511) rfl rfl (one_of HT_.out (by kernel_rfl)) (by decide) (fun K hK => ?_)
refine goes_ Try.func99 (by kernel_rfl) rfl #[.int .i64 a1, .int .i64 a0_0] (by rfl) rfl rfl mt ?_
with_reducible refine (spec_l1Min.calls a1 a0_0 t292 _ A16.out).mono ?_
rintro e w' ⟨rfl, ⟨nd, rfl⟩⟩
refine ⟨_, rfl, ?_⟩
have q29 : (t292 : Int) ≤ (((rd_L7 l0_1 x9_1).length : Int) : Int) := dt_
obtain ⟨i029, hi029, _, hsz29, _⟩ := info_parts info98
have hroom29 : (rd_L7 l0_1 x9_1).length ≤ c291_0 := HC291_0.out
have hC29 : Kd.C k98 _ A291_0 (rd_L7 l0_1 x9_1).length (rd_L7 l0_1 x9_1) := HR291_0.out
have hcut29 := cut_to (P := Try.prog) 99 98 .i64 Try.underlying99 hi029 A291_0 (rd_L7 l0_1 x9_1).length c291_0 t292 dt_ q29 hroom29
have hr29 := Kd.C_take (m := (t292 : Int).toNat) hC29 (by omega)
have hy29 : y293.length = (t292 : Int).toNat := (by rw [Ny293.out, List.length_take]; omega)
rw [← Ny293.out] at hr29
rw [← hy29] at hcut29
have HR296 := am hr29
have HC296 := am (show y293.length ≤ c291_0 from by omega)
clear hr29 hC29 hroom29 hi029 hsz29
have KY29 := am hy29
clear hy29
replace q29 := eq_true q29
refine hK.out _ _ ⟨(blk_cell BK284.out 0).trans rfl, (blk_cell BK284.out 1).trans rfl, ((HB.out.cell (World.block_lt_of_cell? w _ hw291_0)).trans hw291_0)⟩ (fun hHeld => ?_)
clear hK K
refine norm_ (a' := _) (show Act.put _ (some 41) _ = _ from na) ?_
refine pu_ 9 42 (bm 12 1023) HT_.out ?_
refine one_ (i := 10) (N := some 43) (bm 12 2047) rfl rfl (one_of HT_.out (by kernel_rfl)) (by decide) (fun K hK => ?_)
refine goes_ Try.func98 (by kernel_rfl) rfl #[.slice A291_0 y293.length c291_0] (by rfl) rfl rfl mt ?_
with_reducible refine (spec_l4Mended.calls k1 _ _ y293 t297 _ ?side1 ?side2 A19.out).mono ?_
(case side1 => repeat (first | exact (Kd.C_below HR296.out (rb3 HB GE284 GE285 GE286)) | (with_reducible refine Kd.C_alloc ?_ _) | (with_reducible refine Kd.C_drewN ?_ _) | (with_reducible refine Kd.C_drew ?_)))
(case side2 => exact HC296.out)
rintro e w30 ⟨v298, rfl, ho0, hb⟩
refine ⟨_, rfl, ?_⟩
replace HO_287001 := am (Kd.S_elder' (rs HO_287001) (Kd.R_base ho0) hb)
have HO299 := am (Kd.R_lower (Kd.R_new' ho0 (Kd.R_lt (rr HO290))) (below_size (rb3 HB GE284 GE285 GE286)))
replace HO290 := am (Kd.R_elder' (rr HO290) (Kd.R_base ho0) hb)
replace BK284 := am (blk_below (rk BK284) hb)
replace BK285 := am (blk_below (rk BK285) hb)
replace BK286 := am (blk_below (rk BK286) hb)
replace HB := am (below_step (rb3 HB GE284 GE285 GE286) hb)
(try clear hb)
(try clear ho0)
refine hK.out _ _ ⟨(blk_cell BK284.out 0).trans rfl, (blk_cell BK284.out 1).trans rfl, ((HB.out.cell (World.block_lt_of_cell? w _ hw291_0)).trans hw291_0)⟩ (fun hHeld => ?_)
clear hK K
refine norm_ (a' := _) (show Act.put _ (some 43) _ = _ from na) ?_
refine pu_ 11 10 (bm 12 4095) HT_.out ?_
refine done_ (done_of HT_.out (by kernel_rfl)) ?_
try go_wp2
replace HO_287001 := am (Kd.S_drew HO_287001.out)
replace HO290 := am (Kd.R_drew HO290.out)
replace HO299 := am (Kd.R_drew HO299.out)
replace BK284 := am (blk_drew BK284.out)
replace BK285 := am (blk_drew BK285.out)
replace BK286 := am (blk_drew BK286.out)
replace HB := am (below_drew1 HB.out)
obtain ⟨Ao32, co32, eo32⟩ := Kd.R_slice HO299.out
(first | subst eo32 | (injection eo32 with f1_ f2_ f3_; have f4_ := f1_.symm; have f5_ := f3_.symm; clear f1_ f2_ f3_; subst f4_; subst f5_))
refine start_ (n := 14) (S := fun w' => w'.cell? ⟨gb286, 0, none⟩ = some (.int .i64 a1) ∧ w'.cell? ⟨gb286, 1, none⟩ = some (u287001)) (ds := [13]) (bm 14 0) (by kernel_rfl) rfl rfl (bc2 BK286) (fun hHeld => ?_); refine with_tabW spec_l5Resized.tab9 spec_l5Resized.bits9 (fun HT_ HW_ => ?_)
generalize w30.drew = w31 at HO_287001 HO290 HO299 BK284 BK285 BK286 HB hHeld ⊢
refine pu_ 0 44 (bm 14 1) HT_.out ?_
refine pu_ 2 46 (bm 14 5) HT_.out ?_
refine pu_ 3 47 (bm 14 13) HT_.out ?_
refine pu_ 4 48 (bm 14 29) HT_.out ?_
refine pu_ 5 49 (bm 14 61) HT_.out ?_
refine pu_ 6 50 (bm 14 125) HT_.out ?_
refine pu_ 7 51 (bm 14 253) HT_.out ?_
refine take_ (i := 1) (N := some 45) (v := ?_) (a' := ?_) (bm 14 255) rfl rfl (take_ofW HT_.out HW_.out (by kernel_rfl)) (fun _ _ _ h => h) (Or.inl ⟨by rfl, ?_⟩) hHeld ?_ ?_
rotate_left
·(
rintro w' ⟨s0, s1⟩
go_simp
with_reducible rfl
)
rotate_left
·(
simp only [Act.put, List.setIfInBounds_toArray, List.set_cons_zero, List.set_cons_succ, i64_w, i32_w]
rfl
)
refine one_ (i := 8) (N := some 52) (bm 14 511) rfl rfl (one_of HT_.out (by kernel_rfl)) (by decide) (fun K hK => ?_)
refine goes_ Try.func100 (by kernel_rfl) rfl #[.int .i64 (wrap64 (a1 - (t297.length : Int))), .agg #[.int .i64 0, .int .i64 0, .bool false, .bool false, .bool false]] (by rfl) rfl rfl mt ?_
with_reducible refine (spec_l4Row.calls k1 (wrap64 (a1 - (t297.length : Int))) 0 0 false false false t300 _ A20.out).mono ?_
rintro e w33 ⟨v301, rfl, ho0, hb⟩
refine ⟨_, rfl, ?_⟩
replace HO_287001 := am (Kd.S_elder' (rs HO_287001) (Kd.R_base ho0) hb)
have HO302 := am (Kd.R_lower (Kd.R_new' (Kd.R_new' ho0 (Kd.R_lt (rr HO290))) (Kd.R_lt (rr HO299))) (below_size (rb3 HB GE284 GE285 GE286)))
replace HO290 := am (Kd.R_elder' (rr HO290) (Kd.R_base ho0) hb)
replace HO299 := am (Kd.R_elder' (rr HO299) (Kd.R_base ho0) hb)
replace BK284 := am (blk_below (rk BK284) hb)
replace BK285 := am (blk_below (rk BK285) hb)
replace BK286 := am (blk_below (rk BK286) hb)
replace HB := am (below_step (rb3 HB GE284 GE285 GE286) hb)
(try clear hb)
(try clear ho0)
obtain ⟨Ao35, co35, eo35⟩ := Kd.R_slice HO302.out
(first | subst eo35 | (injection eo35 with f1_ f2_ f3_; have f4_ := f1_.symm; have f5_ := f3_.symm; clear f1_ f2_ f3_; subst f4_; subst f5_))
refine hK.out _ _ (bc2 BK286) (fun hHeld => ?_)
clear hK K
refine norm_ (a' := _) (show Act.put _ (some 52) _ = _ from na) ?_
refine one_ (i := 9) (N := some 53) (bm 14 1023) rfl rfl (one_of HT_.out (by kernel_rfl)) (by decide) (fun K hK => ?_)
refine Kd.R_append_rows_step k98 (w0 := w) w.heap.size (by rfl) (.tmp 46) (.tmp 52) 99 98 (.agg #[(.int .i64 0), (.int .i64 0), (.int .i64 0), (.bool false), (.bool false), (.bool false), (.int .i64 0)]) 40 rfl Try.underlying99 info98 rfl (by decide) (by omega) (.slice Ao32 t297.length co32) t297 t300 _ _ _ (fun k_ => some k_ ≠ (v289 : Value).ownBlock ∧ some k_ ≠ (.slice Ao35 t300.length co35 : Value).ownBlock) (fun _ => False) rfl rfl ?aO ?aR (fun _ _ h => h) (fun _ h => h.elim) ?aF ?aB ?aS ?aL ?_
(case aR => repeat (first | exact (Kd.R_reads' HO302.out).2.2 | (with_reducible refine Kd.C_alloc ?_ _) | (with_reducible refine Kd.C_drewN ?_ _) | (with_reducible refine Kd.C_drew ?_)))
(case aB => exact (rb3 HB GE284 GE285 GE286))
(case aF => exact (fun k_ hk => ⟨Kd.fresh' (Kd.R_lt (rr HO290)) k_ hk, Kd.fresh' (Kd.R_lt (rr HO302)) k_ hk⟩))
(case aO => exact (by (with_reducible repeat (first | apply r1 | apply r2 | apply r3)); exact Kd.R_mono HO299.out (fun _ hk => ⟨hk.1.2, hk.2⟩)))
(case aS => exact (below_size (rb3 HB GE284 GE285 GE286)))
(case aL => have := LMc21.out; omega)
intro v304 w34 ho hb hg hat
rw [← Ny303.out] at ho
replace HO_287001 := am (Kd.S_after (ok := (fun k_ => some k_ ≠ (v289 : Value).ownBlock ∧ some k_ ≠ (.slice Ao35 t300.length co35 : Value).ownBlock)) (by (with_reducible repeat (first | apply Kd.S_alloc | apply Kd.S_drewN | apply Kd.S_drew)); exact Kd.S_mono HO_287001.out (fun _ hk => ⟨⟨hk.1.1.2, hk.2⟩, hk.1.2⟩)) hg hat)
replace BK284 := am (blk_grown (rk BK284) hg (Kd.R_ne HO299.out BK284.out (by decide)))
replace BK285 := am (blk_grown (rk BK285) hg (Kd.R_ne HO299.out BK285.out (by decide)))
replace BK286 := am (blk_grown (rk BK286) hg (Kd.R_ne HO299.out BK286.out (by decide)))
replace HO290 := am (Kd.R_after (ok := (fun k_ => some k_ ≠ (.slice Ao35 t300.length co35 : Value).ownBlock)) (by (with_reducible repeat (first | apply r1 | apply r2 | apply r3)); exact Kd.R_mono HO290.out (fun _ hk => ⟨hk.2, hk.1.2⟩)) hg hat)
replace HO302 := am (Kd.R_after (ok := (fun k_ => some k_ ≠ (v289 : Value).ownBlock)) (by (with_reducible repeat (first | apply r1 | apply r2 | apply r3)); exact Kd.R_mono HO302.out (fun _ hk => ⟨hk.1.2, hk.2⟩)) hg hat)
replace HB := am (hb)
have HO305 := am (ho)
clear HO299
clear ho hb hg hat
obtain ⟨Ao37, co37, eo37⟩ := Kd.R_slice HO305.out
(first | subst eo37 | (injection eo37 with f1_ f2_ f3_; have f4_ := f1_.symm; have f5_ := f3_.symm; clear f1_ f2_ f3_; subst f4_; subst f5_))
refine hK.out _ _ (bc2 BK286) (fun hHeld => ?_)
clear hK K
refine norm_ (a' := _) (show Act.put _ (some 53) _ = _ from na) ?_
refine one_ (i := 10) (N := some 54) (bm 14 2047) rfl rfl (one_of HT_.out (by kernel_rfl)) (by decide) (fun K hK => ?_)
refine value_ (w1 := ?_) (v := ?_) (by rfl) rfl ?_ ?_
rotate_left 2
·(
go_simp
constructor
·rfl
·rfl
)
refine hK.out _ _ ⟨(blk_cell (blk_alloc BK286.out _) 0).trans rfl, (blk_cell (blk_alloc BK286.out _) 1).trans rfl⟩ (fun hHeld => ?_)
clear hK K
refine norm_ (a' := _) (show Act.put _ (some 54) _ = _ from na) ?_
refine one_ (i := 11) (N := some 55) (bm 14 4095) rfl rfl (one_of HT_.out (by kernel_rfl)) (by decide) (fun K hK => ?_)
refine Kd.S_append_step (Kd.slice 98 k98) (w0 := w) w.heap.size (by rfl) (.tmp 45) (.tmp 54) 56 99 (.slice none 0 0) 24 rfl Try.underlying56 info99 rfl (by decide) (by omega) u287001 x287001_1 y303 [.slice Ao37 y303.length co37] (fun k_ => some k_ ≠ (v289 : Value).ownBlock ∧ some k_ ≠ (.slice Ao35 t300.length co35 : Value).ownBlock) (fun k_ => some k_ = (.slice Ao37 y303.length co37 : Value).ownBlock) rfl rfl ?aP (fun k_ hk_ => ((Kd.R_mono (ok' := fun k_ => ((fun k_ => some k_ ≠ (v289 : Value).ownBlock ∧ some k_ ≠ (.slice Ao35 t300.length co35 : Value).ownBlock)) k_ ∧ some k_ ≠ (u287001 : Value).ownBlock) (Kd.R_apart' (HO305.out) (Kd.S_typed HO_287001.out) (by decide)) (fun k_ hk => ⟨⟨hk.1.1, hk.1.2⟩, hk.2⟩))).1 k_ hk_.symm) ?aF ?aO ?aB ?aS ?aL ?_
(case aP => exact Kd.M_row (Kd.R_mono (Kd.R_tight rfl (Kd.R_mono (ok' := fun k_ => ((fun k_ => some k_ ≠ (v289 : Value).ownBlock ∧ some k_ ≠ (.slice Ao35 t300.length co35 : Value).ownBlock)) k_ ∧ some k_ ≠ (u287001 : Value).ownBlock) (Kd.R_apart' (HO305.out) (Kd.S_typed HO_287001.out) (by decide)) (fun k_ hk => ⟨⟨hk.1.1, hk.1.2⟩, hk.2⟩))) (fun _ h_ => h_)))
(case aB => exact (rb3 HB GE284 GE285 GE286))
(case aF => exact (fun k_ hk => ⟨Kd.fresh' (Kd.R_lt (rr HO290)) k_ hk, Kd.fresh' (Kd.R_lt (rr HO302)) k_ hk⟩))
(case aO => exact (by (with_reducible repeat (first | apply Kd.S_alloc | apply Kd.S_drewN | apply Kd.S_drew)); exact Kd.S_mono HO_287001.out (fun k_ hk => ⟨⟨hk.1.1, hk.1.2⟩, fun e_ => hk.2 e_⟩)))
(case aS => exact (below_size (rb3 HB GE284 GE285 GE286)))
(case aL => have := LMc22.out; omega)
intro v307 w36 ho hb hg hat
rw [← Ny306.out] at ho
replace BK284 := am (blk_grown (rk BK284) hg (Kd.S_ne HO_287001.out BK284.out (by decide)))
replace BK285 := am (blk_grown (rk BK285) hg (Kd.S_ne HO_287001.out BK285.out (by decide)))
replace BK286 := am (blk_grown (rk BK286) hg (Kd.S_ne HO_287001.out BK286.out (by decide)))
replace HO290 := am (Kd.R_over' (rr HO290) (Kd.S_typed (rs HO_287001)) (by decide) hg)
replace HO302 := am (Kd.R_over' (rr HO302) (Kd.S_typed (rs HO_287001)) (by decide) hg)
replace HB := am (hb)
have HO308 := am (ho)
clear HO_287001 HO305
clear ho hb hg hat
obtain ⟨Ao38, co38, eo38⟩ := Kd.S_slice HO308.out
(first | subst eo38 | (injection eo38 with f1_ f2_ f3_; have f4_ := f1_.symm; have f5_ := f3_.symm; clear f1_ f2_ f3_; subst f4_; subst f5_))
refine hK.out _ _ (bc2 BK286) (fun hHeld => ?_)
clear hK K
refine norm_ (a' := _) (show Act.put _ (some 55) _ = _ from na) ?_
refine pu_ 12 56 (bm 14 8191) HT_.out ?_
refine last_ (i := 13) (N := none) (bm 14 16383) rfl rfl (one_of HT_.out (by kernel_rfl)) (by decide) (fun K hK => ?_)
have hs39 : w36.cell? ⟨gb286, 1, none⟩ = some (u287001) := (blk_cell BK286.out 1).trans rfl
have hfs39 := blk_frozen BK286.out 1
have hns39_0 := NB284_286.out
have hns39_1 := NB285_286.out
have hms39_0 := NB286_284.out
have hms39_1 := NB286_285.out
refine skip_ (w1 := ?_) (by rfl) rfl ?_ ?_
rotate_left
·(
go_simp
rfl
)
refine hK.out _ _ ?_
clear hK K
refine done_ (done_of HT_.out (by kernel_rfl)) ?_
try go_wp2
go_roundg k1
case measure => have := HK1.out; omega
case rel => exact ⟨(wrap64 (x9_1 + 1)), (y306), (.slice Ao38 y306.length co38), (by first | rfl | (simp; done) | (simp [*]; done)), H', ⟨by have := HK1.out; omega⟩, ⟨by (with_reducible repeat (first | apply Kd.S_alloc | apply Kd.S_drewN | apply Kd.S_drew)); exact Kd.S_mono (Kd.S_far (p := ⟨gb286, 1, none⟩) (Kd.S_types HO308.out BK286.out (by decide)) (fun _ hk => hk.2) (.slice Ao38 y306.length co38)) (fun _ hk => trivial)⟩, ⟨rf1 NB284_286 BK284⟩, ⟨rf1 NB285_286 BK285⟩, ⟨by (with_reducible repeat (first | apply k1 | apply k2 | apply k3)); refine blk_put (cs := #[.int .i64 a1, u287001]) ?_ 1 _ rfl; (with_reducible repeat (first | apply k1 | apply k2 | apply k3)); exact BK286.out⟩, ⟨rb3 HB GE284 GE285 GE286⟩⟩
)
| (
have q_ := lf2_
obtain ⟨Ao49, co49, eo49⟩ := Kd.R_slice HO290.out
(first | subst eo49 | (injection eo49 with f1_ f2_ f3_; have f4_ := f1_.symm; have f5_ := f3_.symm; clear f1_ f2_ f3_; subst f4_; subst f5_))
refine start_ (n := 14) (S := fun w' => w'.cell? ⟨gb286, 0, none⟩ = some (.int .i64 a1) ∧ w'.cell? ⟨gb286, 1, none⟩ = some (u287001)) (ds := [13]) (bm 14 0) (by kernel_rfl) rfl rfl (bc2 BK286) (fun hHeld => ?_); refine with_tabW spec_l5Resized.tab9 spec_l5Resized.bits9 (fun HT_ HW_ => ?_)
generalize w23.drew = w48 at HO_287001 HO290 BK284 BK285 BK286 HB hHeld ⊢
refine pu_ 0 44 (bm 14 1) HT_.out ?_
refine pu_ 2 46 (bm 14 5) HT_.out ?_
refine pu_ 3 47 (bm 14 13) HT_.out ?_
refine pu_ 4 48 (bm 14 29) HT_.out ?_
refine pu_ 5 49 (bm 14 61) HT_.out ?_
refine pu_ 6 50 (bm 14 125) HT_.out ?_
refine pu_ 7 51 (bm 14 253) HT_.out ?_
refine take_ (i := 1) (N := some 45) (v := ?_) (a' := ?_) (bm 14 255) rfl rfl (take_ofW HT_.out HW_.out (by kernel_rfl)) (fun _ _ _ h => h) (Or.inl ⟨by rfl, ?_⟩) hHeld ?_ ?_
rotate_left
·(
rintro w' ⟨s0, s1⟩
go_simp
with_reducible rfl
)
rotate_left
·(
simp only [Act.put, List.setIfInBounds_toArray, List.set_cons_zero, List.set_cons_succ, i64_w, i32_w]
rfl
)
refine one_ (i := 8) (N := some 52) (bm 14 511) rfl rfl (one_of HT_.out (by kernel_rfl)) (by decide) (fun K hK => ?_)
refine goes_ Try.func100 (by kernel_rfl) rfl #[.int .i64 (wrap64 (a1 - (y288.length : Int))), .agg #[.int .i64 0, .int .i64 0, .bool false, .bool false, .bool false]] (by rfl) rfl rfl mt ?_
with_reducible refine (spec_l4Row.calls k1 (wrap64 (a1 - (y288.length : Int))) 0 0 false false false t309 _ A40.out).mono ?_
rintro e w50 ⟨v310, rfl, ho0, hb⟩
refine ⟨_, rfl, ?_⟩
replace HO_287001 := am (Kd.S_elder' (rs HO_287001) (Kd.R_base ho0) hb)
have HO311 := am (Kd.R_lower (Kd.R_new' ho0 (Kd.R_lt (rr HO290))) (below_size (rb3 HB GE284 GE285 GE286)))
replace HO290 := am (Kd.R_elder' (rr HO290) (Kd.R_base ho0) hb)
replace BK284 := am (blk_below (rk BK284) hb)
replace BK285 := am (blk_below (rk BK285) hb)
replace BK286 := am (blk_below (rk BK286) hb)
replace HB := am (below_step (rb3 HB GE284 GE285 GE286) hb)
(try clear hb)
(try clear ho0)
obtain ⟨Ao52, co52, eo52⟩ := Kd.R_slice HO311.out
(first | subst eo52 | (injection eo52 with f1_ f2_ f3_; have f4_ := f1_.symm; have f5_ := f3_.symm; clear f1_ f2_ f3_; subst f4_; subst f5_))
refine hK.out _ _ (bc2 BK286) (fun hHeld => ?_)
clear hK K
refine norm_ (a' := _) (show Act.put _ (some 52) _ = _ from na) ?_
refine one_ (i := 9) (N := some 53) (bm 14 1023) rfl rfl (one_of HT_.out (by kernel_rfl)) (by decide) (fun K hK => ?_)
refine Kd.R_append_rows_step k98 (w0 := w) w.heap.size (by rfl) (.tmp 46) (.tmp 52) 99 98 (.agg #[(.int .i64 0), (.int .i64 0), (.int .i64 0), (.bool false), (.bool false), (.bool false), (.int .i64 0)]) 40 rfl Try.underlying99 info98 rfl (by decide) (by omega) (.slice Ao49 y288.length co49) y288 t309 _ _ _ (fun k_ => some k_ ≠ (.slice Ao52 t309.length co52 : Value).ownBlock) (fun _ => False) rfl rfl ?aO ?aR (fun _ _ h => h) (fun _ h => h.elim) ?aF ?aB ?aS ?aL ?_
(case aR => repeat (first | exact (Kd.R_reads' HO311.out).2.2 | (with_reducible refine Kd.C_alloc ?_ _) | (with_reducible refine Kd.C_drewN ?_ _) | (with_reducible refine Kd.C_drew ?_)))
(case aB => exact (rb3 HB GE284 GE285 GE286))
(case aF => exact (fun k_ hk => Kd.fresh' (Kd.R_lt (rr HO311)) k_ hk))
(case aO => exact (rrm HO290))
(case aS => exact (below_size (rb3 HB GE284 GE285 GE286)))
(case aL => have := LMc41.out; omega)
intro v313 w51 ho hb hg hat
rw [← Ny312.out] at ho
replace HO_287001 := am (Kd.S_after (ok := (fun k_ => some k_ ≠ (.slice Ao52 t309.length co52 : Value).ownBlock)) (rm HO_287001) hg hat)
replace BK284 := am (blk_grown (rk BK284) hg (Kd.R_ne HO290.out BK284.out (by decide)))
replace BK285 := am (blk_grown (rk BK285) hg (Kd.R_ne HO290.out BK285.out (by decide)))
replace BK286 := am (blk_grown (rk BK286) hg (Kd.R_ne HO290.out BK286.out (by decide)))
replace HO311 := am (Kd.R_after (ok := (fun _ => True)) (rr HO311) hg hat)
replace HB := am (hb)
have HO314 := am (ho)
clear HO290
clear ho hb hg hat
obtain ⟨Ao54, co54, eo54⟩ := Kd.R_slice HO314.out
(first | subst eo54 | (injection eo54 with f1_ f2_ f3_; have f4_ := f1_.symm; have f5_ := f3_.symm; clear f1_ f2_ f3_; subst f4_; subst f5_))
refine hK.out _ _ (bc2 BK286) (fun hHeld => ?_)
clear hK K
refine norm_ (a' := _) (show Act.put _ (some 53) _ = _ from na) ?_
refine one_ (i := 10) (N := some 54) (bm 14 2047) rfl rfl (one_of HT_.out (by kernel_rfl)) (by decide) (fun K hK => ?_)
refine value_ (w1 := ?_) (v := ?_) (by rfl) rfl ?_ ?_
rotate_left 2
·(
go_simp
constructor
·rfl
·rfl
)
refine hK.out _ _ ⟨(blk_cell (blk_alloc BK286.out _) 0).trans rfl, (blk_cell (blk_alloc BK286.out _) 1).trans rfl⟩ (fun hHeld => ?_)
clear hK K
refine norm_ (a' := _) (show Act.put _ (some 54) _ = _ from na) ?_
refine one_ (i := 11) (N := some 55) (bm 14 4095) rfl rfl (one_of HT_.out (by kernel_rfl)) (by decide) (fun K hK => ?_)
refine Kd.S_append_step (Kd.slice 98 k98) (w0 := w) w.heap.size (by rfl) (.tmp 45) (.tmp 54) 56 99 (.slice none 0 0) 24 rfl Try.underlying56 info99 rfl (by decide) (by omega) u287001 x287001_1 y312 [.slice Ao54 y312.length co54] (fun k_ => some k_ ≠ (.slice Ao52 t309.length co52 : Value).ownBlock) (fun k_ => some k_ = (.slice Ao54 y312.length co54 : Value).ownBlock) rfl rfl ?aP (fun k_ hk_ => ((Kd.R_mono (ok' := fun k_ => ((fun k_ => some k_ ≠ (.slice Ao52 t309.length co52 : Value).ownBlock)) k_ ∧ some k_ ≠ (u287001 : Value).ownBlock) (Kd.R_apart' (HO314.out) (Kd.S_typed HO_287001.out) (by decide)) (fun k_ hk => ⟨hk.1, hk.2⟩))).1 k_ hk_.symm) ?aF ?aO ?aB ?aS ?aL ?_
(case aP => exact Kd.M_row (Kd.R_mono (Kd.R_tight rfl (Kd.R_mono (ok' := fun k_ => ((fun k_ => some k_ ≠ (.slice Ao52 t309.length co52 : Value).ownBlock)) k_ ∧ some k_ ≠ (u287001 : Value).ownBlock) (Kd.R_apart' (HO314.out) (Kd.S_typed HO_287001.out) (by decide)) (fun k_ hk => ⟨hk.1, hk.2⟩))) (fun _ h_ => h_)))
(case aB => exact (rb3 HB GE284 GE285 GE286))
(case aF => exact (fun k_ hk => Kd.fresh' (Kd.R_lt (rr HO311)) k_ hk))
(case aO => exact (by (with_reducible repeat (first | apply Kd.S_alloc | apply Kd.S_drewN | apply Kd.S_drew)); exact Kd.S_mono HO_287001.out (fun k_ hk => ⟨hk.1, fun e_ => hk.2 e_⟩)))
(case aS => exact (below_size (rb3 HB GE284 GE285 GE286)))
(case aL => have := LMc42.out; omega)
intro v316 w53 ho hb hg hat
rw [← Ny315.out] at ho
replace BK284 := am (blk_grown (rk BK284) hg (Kd.S_ne HO_287001.out BK284.out (by decide)))
replace BK285 := am (blk_grown (rk BK285) hg (Kd.S_ne HO_287001.out BK285.out (by decide)))
replace BK286 := am (blk_grown (rk BK286) hg (Kd.S_ne HO_287001.out BK286.out (by decide)))
replace HO311 := am (Kd.R_over' (rr HO311) (Kd.S_typed (rs HO_287001)) (by decide) hg)
replace HB := am (hb)
have HO317 := am (ho)
clear HO_287001 HO314
clear ho hb hg hat
obtain ⟨Ao55, co55, eo55⟩ := Kd.S_slice HO317.out
(first | subst eo55 | (injection eo55 with f1_ f2_ f3_; have f4_ := f1_.symm; have f5_ := f3_.symm; clear f1_ f2_ f3_; subst f4_; subst f5_))
refine hK.out _ _ (bc2 BK286) (fun hHeld => ?_)
clear hK K
refine norm_ (a' := _) (show Act.put _ (some 55) _ = _ from na) ?_
refine pu_ 12 56 (bm 14 8191) HT_.out ?_
refine last_ (i := 13) (N := none) (bm 14 16383) rfl rfl (one_of HT_.out (by kernel_rfl)) (by decide) (fun K hK => ?_)
have hs56 : w53.cell? ⟨gb286, 1, none⟩ = some (u287001) := (blk_cell BK286.out 1).trans rfl
have hfs56 := blk_frozen BK286.out 1
have hns56_0 := NB284_286.out
have hns56_1 := NB285_286.out
have hms56_0 := NB286_284.out
have hms56_1 := NB286_285.out
refine skip_ (w1 := ?_) (by rfl) rfl ?_ ?_
rotate_left
·(
go_simp
rfl
)
refine hK.out _ _ ?_
clear hK K
refine done_ (done_of HT_.out (by kernel_rfl)) ?_
try go_wp2
go_roundg k1
case measure => have := HK1.out; omega
case rel => exact ⟨(wrap64 (x9_1 + 1)), (y315), (.slice Ao55 y315.length co55), (by first | rfl | (simp; done) | (simp [*]; done)), H', ⟨by have := HK1.out; omega⟩, ⟨by (with_reducible repeat (first | apply Kd.S_alloc | apply Kd.S_drewN | apply Kd.S_drew)); exact Kd.S_mono (Kd.S_far (p := ⟨gb286, 1, none⟩) (Kd.S_types HO317.out BK286.out (by decide)) (fun _ hk => hk.2) (.slice Ao55 y315.length co55)) (fun _ hk => trivial)⟩, ⟨rf1 NB284_286 BK284⟩, ⟨rf1 NB285_286 BK285⟩, ⟨by (with_reducible repeat (first | apply k1 | apply k2 | apply k3)); refine blk_put (cs := #[.int .i64 a1, u287001]) ?_ 1 _ rfl; (with_reducible repeat (first | apply k1 | apply k2 | apply k3)); exact BK286.out⟩, ⟨rb3 HB GE284 GE285 GE286⟩⟩
)
)
)
·(
rw [if_neg c13] at H
have c13b0 : decide (x9_1 < (wrap64 (t287 + a2))) = false := decide_eq_false c13
clear c13
simp only [Option.some.injEq, Prod.mk.injEq] at H
obtain ⟨rfl, rfl⟩ := H
have hnb57 := NB286_284.out
have hnc57 := NB284_286.out
have hnb58 := NB286_285.out
have hnc58 := NB285_286.out
have hcz59_0 : wr.cell? ⟨gb286, 0, none⟩ = some (.int .i64 a1) := (blk_cell BK286.out 0).trans rfl
have hcz59_1 : wr.cell? ⟨gb286, 1, none⟩ = some (u287001) := (blk_cell BK286.out 1).trans rfl
have hfz59_0 := blk_frozen BK286.out 0
have hfz59_1 := blk_frozen BK286.out 1
have hnb60 := NB285_284.out
have hnc60 := NB284_285.out
have hcz61_0 : wr.cell? ⟨gb285, 0, none⟩ = some (.int .i64 0) := (blk_cell BK285.out 0).trans rfl
have hcz61_1 : wr.cell? ⟨gb285, 1, none⟩ = some (.slice none 0 0) := (blk_cell BK285.out 1).trans rfl
have hfz61_0 := blk_frozen BK285.out 0
have hfz61_1 := blk_frozen BK285.out 1
obtain ⟨Ao62, co62, eo62⟩ := Kd.S_slice HO_287001.out
subst eo62
go_wp2
refine bodyPost_ret (results_cell_row rfl _ _ gb285 58 #[.int .i64 a1, .slice Ao62 x287001_1.length co62] (0, 0) _ rfl (rp_0_1 BK285) Try.underlying58 rfl (by kernel_rfl)) rfl ?_
exact ⟨_, by first | rfl | (simp [errW_none, errW_some] <;> rfl) | (simp [*, errW_none, errW_some] <;> rfl), by (with_reducible repeat (first | apply Kd.S_alloc | apply Kd.S_drewN | apply Kd.S_drew)); exact Kd.S_mono (Kd.S_far (p := ⟨gb285, 1, none⟩) (Kd.S_far (p := ⟨gb285, 0, none⟩) (Kd.S_types HO_287001.out BK285.out (by decide)) (fun _ hk => hk.2) (.int .i64 a1)) (fun _ hk => hk.2) (.slice Ao62 x287001_1.length co62)) (fun _ hk => trivial), rb3 HB GE284 GE285 GE286⟩
)
)
)
)

end Go.Proofs.Ytalopdcephohgaa.RC
