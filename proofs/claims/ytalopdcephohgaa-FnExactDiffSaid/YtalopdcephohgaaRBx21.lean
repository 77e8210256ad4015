/- Contracts of Go functions that laws of this seat reach: each Lean function answers as its Go function does. No condition. Written by wip/tools/inj.py, over the kit's print. -/
import Derived.Test.YtalopdcephohgaaRBx0
import Derived.Test.YtalopdcephohgaaRBx15
import Derived.Test.YtalopdcephohgaaRBx19
import Derived.Test.YtalopdcephohgaaRBx20
namespace Go.Proofs.Ytalopdcephohgaa.RB
open Go.RowKit Go.Proofs.YtalopdcephohgaaW.PrintWords Go.Proofs.YtalopdcephohgaaW.PrintLast Go.Proofs.YtalopdcephohgaaW.PrintMore
attribute [local go_sem] max2_int min2_int max_two min_two max_three min_three max_four min_four   -- for this text's walks alone
set_option linter.unusedVariables false
set_option linter.unusedSimpArgs false

/-! ### impl_Diff: function 33 -/
mutual
def impl_Diff.j0 : Nat → Bool → Int → List (List (S98)) → Int → List (List (S98)) → Option (Int × Int × (List (S101)) × Bool)
 | 0, _, _, _, _, _ => none
 | k + 1, x17, x467000, x467001, x468000, x468001 => if x17 = true then (some (0, 0, ([] : List (S101)), false)) else ((impl_Grid_resized.f k x467000 x467001 x468000 (x468001.length : Int)).bind fun bt472 => (impl_Diff.l0 k x468001 (x468001.length : Int) 0 x468000 (x468001.length : Int) ([] : List (S101)) bt472.1 bt472.2))
def impl_Diff.l0 : Nat → List (List (S98)) → Int → Int → Int → Int → List (S101) → Int → List (List (S98)) → Option (Int × Int × (List (S101)) × Bool)
 | 0, _, _, _, _, _, _, _, _ => none
 | k + 1, x32, x33, x34, x472000, x472001, x472002, x477000, x477001 => if x34 < x33 then (if 0 ≤ x34 then (if x34 < (x32.length : Int) then (if x34 < (x477001.length : Int) then ((impl_runs.f k x34 (rd_L7 x477001 x34) (rd_L7 x32 x34)).bind fun t479 => (if x472002.length + t479.length < 3518437208883 then (impl_Diff.l0 k x32 x33 (wrap64 (x34 + 1)) x472000 x472001 (x472002 ++ t479) x477000 x477001) else (none))) else (none)) else (none)) else (none)) else (if (x472002.length : Int) > 400 then (some (0, 0, ([] : List (S101)), false)) else (some (x472000, x472001, x472002, true)))
end
def impl_Diff.f (k : Nat) (a0_0 : Int) (l0_1 : List (List (S98))) (a1_0 : Int) (l1_1 : List (List (S98))) : Option (Int × Int × (List (S101)) × Bool) := (impl_GridOk.f k a0_0 l0_1).bind fun t469 => (if t469 = true then ((impl_GridOk.f k a1_0 l1_1).bind fun t470 => (impl_Diff.j0 k (!t470) a0_0 l0_1 a1_0 l1_1)) else (impl_Diff.j0 k true a0_0 l0_1 a1_0 l1_1))
theorem impl_Diff.mono_l : ∀ k, (∀ y0 y1 y2 y3 y4, LeO (impl_Diff.j0 k y0 y1 y2 y3 y4) (impl_Diff.j0 (k + 1) y0 y1 y2 y3 y4)) ∧ (∀ y0 y1 y2 y3 y4 y5 y6 y7, LeO (impl_Diff.l0 k y0 y1 y2 y3 y4 y5 y6 y7) (impl_Diff.l0 (k + 1) y0 y1 y2 y3 y4 y5 y6 y7))
 | 0 => ⟨fun _ _ _ _ _ r h => by simp [impl_Diff.j0] at h, fun _ _ _ _ _ _ _ _ r h => by simp [impl_Diff.l0] at h⟩
 | k + 1 => by
  obtain ⟨ih0, ih1⟩ := impl_Diff.mono_l k
  refine ⟨?_, ?_⟩
  ·intro y0 y1 y2 y3 y4
   unfold impl_Diff.j0
   repeat' first
   | (with_reducible exact ih0 _ _ _ _ _)
   | (with_reducible exact ih1 _ _ _ _ _ _ _ _)
   | (with_reducible exact impl_GridOk.mono _ _ _)
   | (with_reducible exact impl_Grid_resized.mono _ _ _ _ _)
   | (with_reducible exact impl_runs.mono _ _ _ _)
   | (with_reducible exact LeO.refl _)
   | (with_reducible exact LeO.none _)
   | (with_reducible refine LeO.ite ?_ ?_)
   | (with_reducible refine LeO.bind ?_ (fun _ => ?_))
  ·intro y0 y1 y2 y3 y4 y5 y6 y7
   unfold impl_Diff.l0
   repeat' first
   | (with_reducible exact ih0 _ _ _ _ _)
   | (with_reducible exact ih1 _ _ _ _ _ _ _ _)
   | (with_reducible exact impl_GridOk.mono _ _ _)
   | (with_reducible exact impl_Grid_resized.mono _ _ _ _ _)
   | (with_reducible exact impl_runs.mono _ _ _ _)
   | (with_reducible exact LeO.refl _)
   | (with_reducible exact LeO.none _)
   | (with_reducible refine LeO.ite ?_ ?_)
   | (with_reducible refine LeO.bind ?_ (fun _ => ?_))
theorem impl_Diff.mono : ∀ a0 a1 a2 a3 k, LeO (impl_Diff.f k a0 a1 a2 a3) (impl_Diff.f (k + 1) a0 a1 a2 a3) := by
 intro a0 a1 a2 a3 k
 obtain ⟨ih0, ih1⟩ := impl_Diff.mono_l k
 unfold impl_Diff.f
 repeat' first
   | (with_reducible exact ih0 _ _ _ _ _)
   | (with_reducible exact ih1 _ _ _ _ _ _ _ _)
   | (with_reducible exact impl_GridOk.mono _ _ _)
   | (with_reducible exact impl_Grid_resized.mono _ _ _ _ _)
   | (with_reducible exact impl_runs.mono _ _ _ _)
   | (with_reducible exact LeO.refl _)
   | (with_reducible exact LeO.none _)
   | (with_reducible refine LeO.ite ?_ ?_)
   | (with_reducible refine LeO.bind ?_ (fun _ => ?_))
def impl_Diff.T8 : Bool × List (List Nat × List Nat) := (true, [([], []), ([0], [0]), ([], []), ([], []), ([3], [3]), ([], []), ([4, 5], [4, 5]), ([6], [6]), ([], []), ([2, 7, 8], [2, 7, 8]), ([1, 9, 9], [1, 9]), ([0, 1, 2, 3, 4, 5, 6, 7, 8, 9, 10], []), ([11, 10, 10, 0, 1, 2, 3, 4, 5, 6, 7, 8, 9, 10], [10, 11])])
def impl_Diff.B8 : List Nat := [0, 1, 0, 0, 8, 0, 56, 120, 0, 508, 1023, 2047, 4095]
theorem impl_Diff.tab8 : rtab .any (opsOf Try.f33 8) = impl_Diff.T8 := by kernel_rfl
theorem impl_Diff.bits8 : waitsOk impl_Diff.T8.2 impl_Diff.B8 = true := by kernel_rfl
set_option maxHeartbeats 8000000 in
set_option maxRecDepth 100000 in
theorem impl_Diff.calls (k : Nat) (a0_0 : Int) (A0_1 : Option Addr) (c0_1 : Nat) (l0_1 : List (List (S98))) (a1_0 : Int) (A1_1 : Option Addr) (c1_1 : Nat) (l1_1 : List (List (S98))) (r1 : Int) (r2 : Int) (r3 : List (S101)) (r4 : Bool) (w : World) (hr0_1 : Kd.C (Kd.slice 98 k98) w A0_1 l0_1.length l0_1) (hc0_1 : l0_1.length ≤ c0_1) (hr1_1 : Kd.C (Kd.slice 98 k98) w A1_1 l1_1.length l1_1) (hc1_1 : l1_1.length ≤ c1_1) (h : impl_Diff.f k a0_0 l0_1 a1_0 l1_1 = some (r1, r2, r3, r4)) :
  Calls Try.prog 33 #[.agg #[.int .i64 a0_0, .slice A0_1 l0_1.length c0_1], .agg #[.int .i64 a1_0, .slice A1_1 l1_1.length c1_1]] w fun e w' => ∃ v2_ : Value, e = .returned (.tuple #[.agg #[.int .i64 r1, .int .i64 r2, v2_], .bool r4]) ∧ Kd.S k101 101 w' w.heap.size (fun _ => True) v2_ r3 ∧ Below w.heap.size w w' := by
 (
have hu58 := Try.underlying58
have hu53 := Try.underlying53
have HR0_1 := am hr0_1
have HC0_1 := am hc0_1
clear hr0_1 hc0_1
have HR1_1 := am hr1_1
have HC1_1 := am hc1_1
clear hr1_1 hc1_1
have HB := am (Below.refl w.heap.size w)
have H := h
unfold impl_Diff.f at H
clear h
have HC3 := am H
clear H
go_enter Try.func33, Try.ntmps33
go_upto_region 1 with (first | ((with_reducible refine gate_dst (N := 2) rfl ?_); refine box_event ?hg (N := 2) ?hd (cs := #[.int .i64 a0_0, .slice A0_1 l0_1.length c0_1]) (t := 58) ?hr ?_; (case hd => rfl); (case hg => rfl); (case hr => first | (go_simp; done) | (go_simp; rfl)); intro gb466 hg w4 hbox hb; have BK466 := am (hbox); have GW466 := am (gw hg (rb HB)); have GE466 := GW466; replace HB := am (below_step (rb HB) hb); clear hb hbox hg) | ((with_reducible refine gate_dst (N := 3) rfl ?_); refine box_event ?hg (N := 3) ?hd (cs := #[.int .i64 a1_0, .slice A1_1 l1_1.length c1_1]) (t := 58) ?hr ?_; (case hd => rfl); (case hg => rfl); (case hr => first | (go_simp; done) | (go_simp; rfl)); intro gb467 hg w5 hbox hb; have BK467 := am (hbox); have GW467 := am (gw hg (rb1 HB GE466)); have GE467 := GW467; replace HB := am (below_step (rb1 HB GE466) hb); have NB466_467 := am (nl hg (rk BK466)); have NB467_466 := am (ng hg (rk BK466)); replace BK466 := am (blk_below (rk BK466) hb); clear hb hbox hg) | ((with_reducible refine gate_dst (N := 4) rfl ?_); refine box_event ?hg (N := 4) ?hd (cs := #[.int .i64 0, .int .i64 0, .slice none 0 0]) (t := 53) ?hr ?_; (case hd => rfl); (case hg => rfl); (case hr => first | (go_simp; done) | (go_simp; rfl)); intro gb468 hg w6 hbox hb; have BK468 := am (hbox); have GW468 := am (gw hg (rb2 HB GE466 GE467)); have GE468 := GW468; replace HB := am (below_step (rb2 HB GE466 GE467) hb); have NB466_468 := am (nl hg (rk BK466)); have NB468_466 := am (ng hg (rk BK466)); replace BK466 := am (blk_below (rk BK466) hb); have NB467_468 := am (nl hg (rk BK467)); have NB468_467 := am (ng hg (rk BK467)); replace BK467 := am (blk_below (rk BK467) hb); clear hb hbox hg))
(try simp only [Act.put, List.setIfInBounds_toArray, List.set_cons_zero, List.set_cons_succ])
go_cut [17] (fun v17 wc => ∃ (kq : Nat) (x17_2 : Bool), v17 = .bool x17_2 ∧ Aside0 (impl_Diff.j0 kq x17_2 a0_0 l0_1 a1_0 l1_1 = some (r1, r2, r3, r4)) ∧ Aside0 (kq ≤ k) ∧ Aside0 (wc.heap[gb466]? = some (.cells #[.int .i64 a0_0, (.slice A0_1 l0_1.length c0_1)] 58 (0, 0))) ∧ Aside0 (wc.heap[gb467]? = some (.cells #[.int .i64 a1_0, (.slice A1_1 l1_1.length c1_1)] 58 (0, 0))) ∧ Aside0 (wc.heap[gb468]? = some (.cells #[.int .i64 0, .int .i64 0, (.slice none 0 0)] 53 (0, 0))) ∧ Aside0 (Below w.heap.size w wc))
case first => (
have H := HC3.out
clear HC3
replace H := Option.bind_eq_some_iff.mp H
obtain ⟨t469, A70, H⟩ := H
(try dsimp only at H)
have A7 := am A70
clear A70
by_cases c8 : t469 = true
·(
subst c8
rw [if_pos rfl] at H
replace H := Option.bind_eq_some_iff.mp H
obtain ⟨t470, A90, H⟩ := H
(try dsimp only at H)
have A9 := am A90
clear A90
have H' := am H
clear H
have hnb10 := NB466_467.out
have hnc10 := NB467_466.out
have hnb11 := NB466_468.out
have hnc11 := NB468_466.out
have hcz12_0 : w6.cell? ⟨gb466, 0, none⟩ = some (.int .i64 a0_0) := (blk_cell BK466.out 0).trans rfl
have hcz12_1 : w6.cell? ⟨gb466, 1, none⟩ = some (.slice A0_1 l0_1.length c0_1) := (blk_cell BK466.out 1).trans rfl
have hfz12_0 := blk_frozen BK466.out 0
have hfz12_1 := blk_frozen BK466.out 1
go_wp2_with (first | ((with_reducible refine gate_callee (f := 48) rfl ?_); refine gl_ (some 11) Try.func48 #[.agg #[.int .i64 a0_0, .slice A0_1 l0_1.length c0_1]] ?_; (with_reducible refine (impl_GridOk.calls k a0_0 _ _ l0_1 true _ ?side1 ?side2 A7.out).mono ?_); (case side1 => exact rc ((Kd.C_below HR0_1.out HB.out))); (case side2 => exact HC0_1.out); rintro e w13 ⟨rfl, hb⟩; refine ⟨_, rfl, ?_⟩; replace BK466 := am (blk_below (rk BK466) hb); replace BK467 := am (blk_below (rk BK467) hb); replace BK468 := am (blk_below (rk BK468) hb); replace HB := am (below_step (rb3 HB GE466 GE467 GE468) hb); (try clear hb); (try clear hb2); (try clear hk); (try clear hi); have hnb14 := NB467_468.out; have hnc14 := NB468_467.out; have hcz15_0 : w13.cell? ⟨gb467, 0, none⟩ = some (.int .i64 a1_0) := (blk_cell BK467.out 0).trans rfl; have hcz15_1 : w13.cell? ⟨gb467, 1, none⟩ = some (.slice A1_1 l1_1.length c1_1) := (blk_cell BK467.out 1).trans rfl; have hfz15_0 := blk_frozen BK467.out 0; have hfz15_1 := blk_frozen BK467.out 1) | (go_at_call 48; (with_reducible refine (impl_GridOk.calls k a1_0 _ _ l1_1 t470 _ ?side1 ?side2 A9.out).mono ?_); (case side1 => exact rc ((Kd.C_below HR1_1.out HB.out))); (case side2 => exact HC1_1.out); rintro e w16 ⟨rfl, hb⟩; replace BK466 := am (blk_below (rk BK466) hb); replace BK467 := am (blk_below (rk BK467) hb); replace BK468 := am (blk_below (rk BK468) hb); replace HB := am (below_step (rb3 HB GE466 GE467 GE468) hb); (try clear hb); (try clear hb2); (try clear hk); (try clear hi)))
go_meet
case rel => exact ⟨_, (!t470), (by first | rfl | (simp; done) | (simp [*]; done)), H', ⟨by first | omega | exact Nat.le_refl _⟩, ⟨rk BK466⟩, ⟨rk BK467⟩, ⟨rk BK468⟩, ⟨rb3 HB GE466 GE467 GE468⟩⟩
)
·(
replace c8 := Bool.eq_false_iff.mpr c8
subst c8
rw [if_neg (show ¬ (false = true) by decide)] at H
have H' := am H
clear H
have hnb17 := NB466_467.out
have hnc17 := NB467_466.out
have hnb18 := NB466_468.out
have hnc18 := NB468_466.out
have hcz19_0 : w6.cell? ⟨gb466, 0, none⟩ = some (.int .i64 a0_0) := (blk_cell BK466.out 0).trans rfl
have hcz19_1 : w6.cell? ⟨gb466, 1, none⟩ = some (.slice A0_1 l0_1.length c0_1) := (blk_cell BK466.out 1).trans rfl
have hfz19_0 := blk_frozen BK466.out 0
have hfz19_1 := blk_frozen BK466.out 1
go_wp2_with (first | ((with_reducible refine gate_callee (f := 48) rfl ?_); refine gl_ (some 11) Try.func48 #[.agg #[.int .i64 a0_0, .slice A0_1 l0_1.length c0_1]] ?_; (with_reducible refine (impl_GridOk.calls k a0_0 _ _ l0_1 false _ ?side1 ?side2 A7.out).mono ?_); (case side1 => exact rc ((Kd.C_below HR0_1.out HB.out))); (case side2 => exact HC0_1.out); rintro e w20 ⟨rfl, hb⟩; refine ⟨_, rfl, ?_⟩; replace BK466 := am (blk_below (rk BK466) hb); replace BK467 := am (blk_below (rk BK467) hb); replace BK468 := am (blk_below (rk BK468) hb); replace HB := am (below_step (rb3 HB GE466 GE467 GE468) hb); (try clear hb); (try clear hb2); (try clear hk); (try clear hi)))
go_meet
case rel => exact ⟨_, (true), (by first | rfl | (simp; done) | (simp [*]; done)), H', ⟨by first | omega | exact Nat.le_refl _⟩, ⟨rk BK466⟩, ⟨rk BK467⟩, ⟨rk BK468⟩, ⟨rb3 HB GE466 GE467 GE468⟩⟩
)
)
case rest => (
clear HC3
try clear c1
try clear p2
try clear c3
try clear c4
try clear c8
try clear c10
try clear c11
try clear c14
try clear c17
try clear c18
try clear hcz12_0
try clear hcz12_1
try clear hcz15_0
try clear hcz15_1
try clear hcz19_0
try clear hcz19_1
try clear hfz12_0
try clear hfz12_1
try clear hfz15_0
try clear hfz15_1
try clear hfz19_0
try clear hfz19_1
obtain ⟨kq, x17_2, rfl, HA, HJ2, BK466, BK467, BK468, HB⟩ := hcut
cases kq with
| zero => exact absurd HA.out (by simp [impl_Diff.j0])
| succ kj2 => (
have H := HA.out
clear HA
simp only [impl_Diff.j0] at H
by_cases c21 : x17_2 = true
·(
subst c21
have H1 : (some (0, 0, ([] : List (S101)), false)) = some (r1, r2, r3, r4) := by rw [if_pos rfl] at H; exact H
clear H
have H := H1
clear H1
simp only [Option.some.injEq, Prod.mk.injEq] at H
obtain ⟨rfl, rfl, rfl, rfl⟩ := H
have hnb22 := NB468_466.out
have hnc22 := NB466_468.out
have hnb23 := NB468_467.out
have hnc23 := NB467_468.out
have hcz24_0 : wc.cell? ⟨gb468, 0, none⟩ = some (.int .i64 0) := (blk_cell BK468.out 0).trans rfl
have hcz24_1 : wc.cell? ⟨gb468, 1, none⟩ = some (.int .i64 0) := (blk_cell BK468.out 1).trans rfl
have hcz24_2 : wc.cell? ⟨gb468, 2, none⟩ = some (.slice none 0 0) := (blk_cell BK468.out 2).trans rfl
have hfz24_0 := blk_frozen BK468.out 0
have hfz24_1 := blk_frozen BK468.out 1
have hfz24_2 := blk_frozen BK468.out 2
go_wp2
refine bodyPost_ret (results_ct rfl _ _ gb468 53 #[.int .i64 0, .int .i64 0, .slice none 0 0] (0, 0) _ rfl (rp_0_1_2 BK468) Try.underlying53 rfl (by kernel_rfl)) rfl ?_
exact ⟨_, by first | rfl | (simp [errW_none, errW_some] <;> rfl) | (simp [*, errW_none, errW_some] <;> rfl), by first | exact Kd.S_nil _ _ _ _ _ | exact Kd.N_nil _ _ _ _ _ | exact Kd.V_nil _ _ _ _ _ | exact Kd.Q_nil _ _ _ _ _ | exact Kd.R_nil _ _ _ _ _, rb3 HB GE466 GE467 GE468⟩
)
·(
replace c21 := Bool.eq_false_iff.mpr c21
subst c21
rw [if_neg (show ¬ (false = true) by decide)] at H
replace H := Option.bind_eq_some_iff.mp H
obtain ⟨⟨t472, t473⟩, A250, H⟩ := H
(try dsimp only at H)
have A25 := am A250
clear A250
have H' := am H
clear H
have hnb26 := NB467_466.out
have hnc26 := NB466_467.out
have hnb27 := NB467_468.out
have hnc27 := NB468_467.out
have hcz28_0 : wc.cell? ⟨gb467, 0, none⟩ = some (.int .i64 a1_0) := (blk_cell BK467.out 0).trans rfl
have hcz28_1 : wc.cell? ⟨gb467, 1, none⟩ = some (.slice A1_1 l1_1.length c1_1) := (blk_cell BK467.out 1).trans rfl
have hfz28_0 := blk_frozen BK467.out 0
have hfz28_1 := blk_frozen BK467.out 1
go_wp2_with (first | ((with_reducible refine gate_dst (N := 6) rfl ?_); refine box_event ?hg (N := 6) ?hd (cs := #[.int .i64 0, .int .i64 0, .slice none 0 0]) (t := 53) ?hr ?_; (case hd => rfl); (case hg => rfl); (case hr => first | (go_simp; done) | (go_simp; rfl)); intro gb471 hg w29 hbox hb; have BK471 := am (hbox); have GW471 := am (gw hg (rb3 HB GE466 GE467 GE468)); have GE471 := GW471; replace HB := am (below_step (rb3 HB GE466 GE467 GE468) hb); have NB466_471 := am (nl hg (rk BK466)); have NB471_466 := am (ng hg (rk BK466)); replace BK466 := am (blk_below (rk BK466) hb); have NB467_471 := am (nl hg (rk BK467)); have NB471_467 := am (ng hg (rk BK467)); replace BK467 := am (blk_below (rk BK467) hb); have NB468_471 := am (nl hg (rk BK468)); have NB471_468 := am (ng hg (rk BK468)); replace BK468 := am (blk_below (rk BK468) hb); clear hb hbox hg; have hnb30 := NB471_466.out; have hnc30 := NB466_471.out; have hnb31 := NB471_467.out; have hnc31 := NB467_471.out; have hnb32 := NB471_468.out; have hnc32 := NB468_471.out; have hcz33_0 : w29.cell? ⟨gb471, 0, none⟩ = some (.int .i64 0) := (blk_cell BK471.out 0).trans rfl; have hcz33_1 : w29.cell? ⟨gb471, 1, none⟩ = some (.int .i64 0) := (blk_cell BK471.out 1).trans rfl; have hcz33_2 : w29.cell? ⟨gb471, 2, none⟩ = some (.slice none 0 0) := (blk_cell BK471.out 2).trans rfl; have hfz33_0 := blk_frozen BK471.out 0; have hfz33_1 := blk_frozen BK471.out 1; have hfz33_2 := blk_frozen BK471.out 2; have hnb34 := NB466_468.out; have hnc34 := NB468_466.out; have hcz35_0 : w29.cell? ⟨gb466, 0, none⟩ = some (.int .i64 a0_0) := (blk_cell BK466.out 0).trans rfl; have hcz35_1 : w29.cell? ⟨gb466, 1, none⟩ = some (.slice A0_1 l0_1.length c0_1) := (blk_cell BK466.out 1).trans rfl; have hfz35_0 := blk_frozen BK466.out 0; have hfz35_1 := blk_frozen BK466.out 1) | ((with_reducible refine gate_callee (f := 72) rfl ?_); refine gl_ (some 30) Try.func72 #[.agg #[.int .i64 a0_0, .slice A0_1 l0_1.length c0_1], .int .i64 a1_0, .int .i64 (l1_1.length : Int)] ?_; (with_reducible refine (impl_Grid_resized.calls kj2 a0_0 _ _ l0_1 a1_0 (l1_1.length : Int) t472 t473 _ ?side1 ?side2 A25.out).mono ?_); (case side1 => exact Kd.C_below HR0_1.out (rb4 HB GE466 GE467 GE468 GE471)); (case side2 => exact HC0_1.out); rintro e w36 ⟨v474, rfl, ho0, hb⟩; refine ⟨_, rfl, ?_⟩; have HO475 := am (Kd.S_lower (Sx_floor ho0) (below_size (rb4 HB GE466 GE467 GE468 GE471))); replace BK466 := am (blk_below (g := gb466) (o := .cells #[.int .i64 a0_0, .slice A0_1 l0_1.length c0_1] 58 (0, 0)) (rf3 NB466_471 BK466) hb); replace BK467 := am (blk_below (g := gb467) (o := .cells #[.int .i64 a1_0, .slice A1_1 l1_1.length c1_1] 58 (0, 0)) (rf3 NB467_471 BK467) hb); replace BK468 := am (blk_below (g := gb468) (o := .cells #[.int .i64 0, .int .i64 0, .slice none 0 0] 53 (0, 0)) (rf3 NB468_471 BK468) hb); replace BK471 := am (blk_below (g := gb471) (o := .cells #[.int .i64 a1_0, .int .i64 (l1_1.length : Int), .slice none 0 0] 53 (0, 0)) (rp_0_1_2 BK471) hb); replace HB := am (below_step (rb4 HB GE466 GE467 GE468 GE471) hb); (try clear hb); (try clear hb2); (try clear hk); (try clear hi); (try clear ho0)) | ((with_reducible refine gate_dst (N := 7) rfl ?_); refine box_event ?hg (N := 7) ?hd (cs := #[.int .i64 0, .slice none 0 0]) (t := 58) ?hr ?_; (case hd => rfl); (case hg => rfl); (case hr => first | (go_simp; done) | (go_simp; rfl)); intro gb476 hg w38 hbox hb; replace HO475 := am (Kd.S_below (rs HO475) hb); have BK476 := am (hbox); have GW476 := am (gw hg (rb4 HB GE466 GE467 GE468 GE471)); have GE476 := GW476; replace HB := am (below_step (rb4 HB GE466 GE467 GE468 GE471) hb); have NB466_476 := am (nl hg (rk BK466)); have NB476_466 := am (ng hg (rk BK466)); replace BK466 := am (blk_below (rk BK466) hb); have NB467_476 := am (nl hg (rk BK467)); have NB476_467 := am (ng hg (rk BK467)); replace BK467 := am (blk_below (rk BK467) hb); have NB468_476 := am (nl hg (rk BK468)); have NB476_468 := am (ng hg (rk BK468)); replace BK468 := am (blk_below (rk BK468) hb); have NB471_476 := am (nl hg (rk BK471)); have NB476_471 := am (ng hg (rk BK471)); replace BK471 := am (blk_below (rk BK471) hb); clear hb hbox hg; have hnb39 := NB476_466.out; have hnc39 := NB466_476.out; have hnb40 := NB476_467.out; have hnc40 := NB467_476.out; have hnb41 := NB476_468.out; have hnc41 := NB468_476.out; have hnb42 := NB476_471.out; have hnc42 := NB471_476.out; have hcz43_0 : w38.cell? ⟨gb476, 0, none⟩ = some (.int .i64 0) := (blk_cell BK476.out 0).trans rfl; have hcz43_1 : w38.cell? ⟨gb476, 1, none⟩ = some (.slice none 0 0) := (blk_cell BK476.out 1).trans rfl; have hfz43_0 := blk_frozen BK476.out 0; have hfz43_1 := blk_frozen BK476.out 1; obtain ⟨Ao44, co44, eo44⟩ := Kd.S_slice HO475.out; subst eo44; have hcz45_0 : w38.cell? ⟨gb467, 0, none⟩ = some (.int .i64 a1_0) := (blk_cell BK467.out 0).trans rfl; have hcz45_1 : w38.cell? ⟨gb467, 1, none⟩ = some (.slice A1_1 l1_1.length c1_1) := (blk_cell BK467.out 1).trans rfl; have hfz45_0 := blk_frozen BK467.out 0; have hfz45_1 := blk_frozen BK467.out 1))
go_loopg [34] kj2 (fun kq v34 w' => ∃ (x34_2 : Int) (x472002_2 : List (S101)) (u472002 : Value), v34 = .int .i64 x34_2 ∧ Aside0 (impl_Diff.l0 kq l1_1 (l1_1.length : Int) x34_2 a1_0 (l1_1.length : Int) x472002_2 t472 t473 = some (r1, r2, r3, r4)) ∧ Aside0 (kq ≤ kj2) ∧ Aside0 (Kd.S k101 101 w' w.heap.size (fun _ => True) u472002 x472002_2) ∧ Aside0 (Kd.S (Kd.slice 98 k98) 99 w' w.heap.size (fun _ => True) (.slice Ao44 t473.length co44) t473) ∧ Aside0 (w'.heap[gb466]? = some (.cells #[.int .i64 a0_0, (.slice A0_1 l0_1.length c0_1)] 58 (0, 0))) ∧ Aside0 (w'.heap[gb467]? = some (.cells #[.int .i64 a1_0, (.slice A1_1 l1_1.length c1_1)] 58 (0, 0))) ∧ Aside0 (w'.heap[gb468]? = some (.cells #[.int .i64 0, .int .i64 0, (.slice none 0 0)] 53 (0, 0))) ∧ Aside0 (w'.heap[gb471]? = some (.cells #[.int .i64 a1_0, .int .i64 (l1_1.length : Int), u472002] 53 (0, 0))) ∧ Aside0 (w'.heap[gb476]? = some (.cells #[.int .i64 t472, (.slice Ao44 t473.length co44)] 58 (0, 0))) ∧ Aside0 (Below w.heap.size w w'))
case atStart => exact ⟨(0), (([] : List (S101))), (.slice none 0 0), (by first | rfl | (simp; done) | (simp [*]; done)), H', ⟨Nat.le_refl _⟩, ⟨by first | exact Kd.S_nil _ _ _ _ _ | exact Kd.N_nil _ _ _ _ _ | exact Kd.V_nil _ _ _ _ _ | exact Kd.Q_nil _ _ _ _ _ | exact Kd.R_nil _ _ _ _ _⟩, ⟨by (with_reducible repeat (first | apply Kd.S_alloc | apply Kd.S_drewN | apply Kd.S_drew)); exact Kd.S_mono (Kd.S_far (p := ⟨gb476, 1, none⟩) (Kd.S_far (p := ⟨gb476, 0, none⟩) (Kd.S_types HO475.out BK476.out (by decide)) (fun _ hk => hk.2) (.int .i64 t472)) (fun _ hk => hk.2) (.slice Ao44 t473.length co44)) (fun _ hk => trivial)⟩, ⟨by (with_reducible repeat (first | apply k1 | apply k2 | apply k3)); refine blk_far ?_ NB466_476.out _; (with_reducible repeat (first | apply k1 | apply k2 | apply k3)); refine blk_far ?_ NB466_476.out _; (with_reducible repeat (first | apply k1 | apply k2 | apply k3)); exact BK466.out⟩, ⟨by (with_reducible repeat (first | apply k1 | apply k2 | apply k3)); refine blk_far ?_ NB467_476.out _; (with_reducible repeat (first | apply k1 | apply k2 | apply k3)); refine blk_far ?_ NB467_476.out _; (with_reducible repeat (first | apply k1 | apply k2 | apply k3)); exact BK467.out⟩, ⟨by (with_reducible repeat (first | apply k1 | apply k2 | apply k3)); refine blk_far ?_ NB468_476.out _; (with_reducible repeat (first | apply k1 | apply k2 | apply k3)); refine blk_far ?_ NB468_476.out _; (with_reducible repeat (first | apply k1 | apply k2 | apply k3)); exact BK468.out⟩, ⟨by (with_reducible repeat (first | apply k1 | apply k2 | apply k3)); refine blk_far ?_ NB471_476.out _; (with_reducible repeat (first | apply k1 | apply k2 | apply k3)); refine blk_far ?_ NB471_476.out _; (with_reducible repeat (first | apply k1 | apply k2 | apply k3)); exact BK471.out⟩, ⟨by (with_reducible repeat (first | apply k1 | apply k2 | apply k3)); refine blk_put (cs := #[.int .i64 t472, .slice none 0 0]) ?_ 1 _ rfl; (with_reducible repeat (first | apply k1 | apply k2 | apply k3)); refine blk_put (cs := #[.int .i64 0, .slice none 0 0]) ?_ 0 _ rfl; (with_reducible repeat (first | apply k1 | apply k2 | apply k3)); exact BK476.out⟩, ⟨rb5 HB GE466 GE467 GE468 GE471 GE476⟩⟩
case round => (
clear H'
try clear c1
try clear c2
try clear p2
try clear c3
try clear c4
try clear c7
try clear c8
try clear c10
try clear c11
try clear c14
try clear c17
try clear c18
try clear c21
try clear c22
try clear c23
try clear c26
try clear c27
try clear c30
try clear c31
try clear c32
try clear c33
try clear c34
try clear c39
try clear c40
try clear c41
try clear c42
try clear hcz12_0
try clear hcz12_1
try clear hcz15_0
try clear hcz15_1
try clear hcz19_0
try clear hcz19_1
try clear hcz24_0
try clear hcz24_1
try clear hcz24_2
try clear hcz28_0
try clear hcz28_1
try clear hcz33_0
try clear hcz33_1
try clear hcz33_2
try clear hcz35_0
try clear hcz35_1
try clear hcz43_0
try clear hcz43_1
try clear hcz45_0
try clear hcz45_1
try clear hfz12_0
try clear hfz12_1
try clear hfz15_0
try clear hfz15_1
try clear hfz19_0
try clear hfz19_1
try clear hfz24_0
try clear hfz24_1
try clear hfz24_2
try clear hfz28_0
try clear hfz28_1
try clear hfz33_0
try clear hfz33_1
try clear hfz33_2
try clear hfz35_0
try clear hfz35_1
try clear hfz43_0
try clear hfz43_1
try clear hfz45_0
try clear hfz45_1
try clear p2
obtain ⟨x34_2, x472002_2, u472002, rfl, HA, HK2, HO_472002, HO_477001, BK466, BK467, BK468, BK471, BK476, HB⟩ := hrel
cases gk with
| zero => exact absurd HA.out (by simp [impl_Diff.l0])
| succ k2 => (
have H := HA.out
clear HA
simp only [impl_Diff.l0] at H
by_cases c46 : x34_2 < (l1_1.length : Int)
·(
rw [if_pos c46] at H
have c46b0 : decide (x34_2 < (l1_1.length : Int)) = true := decide_eq_true c46
clear c46
refine em_ (p := 0 ≤ x34_2) (fun c47 => ?g3p) (fun c47 => ?g3n)
case' g3p => (
rw [if_pos c47] at H
have c47b0 : decide (0 ≤ x34_2) = true := decide_eq_true c47
clear c47
refine em_ (p := x34_2 < (l1_1.length : Int)) (fun c48 => ?g2p) (fun c48 => ?g2n)
case' g2p => (
rw [if_pos c48] at H
have c48b0 : decide (x34_2 < (l1_1.length : Int)) = true := decide_eq_true c48
clear c48
refine em_ (p := x34_2 < (t473.length : Int)) (fun c49 => ?g1p) (fun c49 => ?g1n)
case' g1p => (
rw [if_pos c49] at H
have c49b0 : decide (x34_2 < (t473.length : Int)) = true := decide_eq_true c49
clear c49
replace H := Option.bind_eq_some_iff.mp H
obtain ⟨t479, A500, H⟩ := H
(try dsimp only at H)
have A50 := am A500
clear A500
refine em_ (p := x472002_2.length + t479.length < 3518437208883) (fun c51 => ?g0p) (fun c51 => ?g0n)
case' g0p => (
rw [if_pos c51] at H
have LMc51 := am c51
clear c51
obtain ⟨y482, hy482⟩ : ∃ y_ : List (S101), y_ = (x472002_2 ++ t479) := ⟨_, rfl⟩
replace H : (impl_Diff.l0 k2 l1_1 (l1_1.length : Int) (wrap64 (x34_2 + 1)) a1_0 (l1_1.length : Int) y482 t472 t473) = some (r1, r2, r3, r4) := by first | (rw [hy482]; with_reducible exact H) | (rw [hy482]; exact H) | exact H
have Ny482 := am hy482
clear hy482
have H' := am H
clear H
have lf5_ := trivial
)
case g0n => (
rw [if_neg c51] at H
exact absurd H (by simp)
)
)
case g1n => (
rw [if_neg c49] at H
exact absurd H (by simp)
)
)
case g2n => (
rw [if_neg c48] at H
exact absurd H (by simp)
)
)
case g3n => (
rw [if_neg c47] at H
exact absurd H (by simp)
)
all_goals (
have p477 : 0 ≤ (x34_2 : Int) := dt_
have q477 : x34_2 < (l1_1.length : Int) := dt_
obtain ⟨ad477, A477_0, c477_0, e477, hx477_0, hl477_0, hi477_0⟩ := at_L7 HR1_1.out x34_2 p477 q477
cases e477
replace hx477_0 := mv HB.out hx477_0
have HR477_0 := am hi477_0
have HC477_0 := am hl477_0
clear hi477_0 hl477_0
replace p477 := eq_true p477
replace q477 := eq_true q477
try go_wp2
replace HO_472002 := am (Kd.S_drew HO_472002.out)
replace HO_477001 := am (Kd.S_drew HO_477001.out)
replace BK466 := am (blk_drew BK466.out)
replace BK467 := am (blk_drew BK467.out)
replace BK468 := am (blk_drew BK468.out)
replace BK471 := am (blk_drew BK471.out)
replace BK476 := am (blk_drew BK476.out)
replace HB := am (below_drew1 HB.out)
have p478 : 0 ≤ (x34_2 : Int) := dt_
have q478 : x34_2 < (t473.length : Int) := dt_
obtain ⟨ad478, A478_0, c478_0, e478, hx478_0, hl478_0, hi478_0⟩ := at_L7 (Kd.S_reads' HO_477001.out).2.2 x34_2 p478 q478
cases e478
obtain ⟨ce478, hce478, hMe478, hcc478⟩ := Kd.S_get HO_477001.out [] x34_2 p478 (by first | exact q478 | exact dt_ | (have e_ := (Kd.S_reads' HO_477001.out).1; omega))
obtain ⟨ve478_0, rfl, ge478_0⟩ := hMe478
have hv478_0 := hcc478 0 _ rfl
rw [Nat.add_zero, show ((Kd.slice 98 k98)).sz = 1 from rfl, Nat.mul_one] at hv478_0
replace hv478_0 := Option.some.inj (hv478_0.symm.trans hx478_0)
rw [hv478_0] at ge478_0
have HL478_0 := am (show Kd.R k98 98 _ _ _ _ (rd_L7 t473 x34_2) from ge478_0)
clear hv478_0 ge478_0
clear hcc478 hce478
have HR478_0 := am hi478_0
have HC478_0 := am hl478_0
clear hi478_0 hl478_0
replace p478 := eq_true p478
replace q478 := eq_true q478
refine start_ (n := 13) (S := fun w' => w'.cell? ⟨gb471, 0, none⟩ = some (.int .i64 a1_0) ∧ w'.cell? ⟨gb471, 1, none⟩ = some (.int .i64 (l1_1.length : Int)) ∧ w'.cell? ⟨gb471, 2, none⟩ = some (u472002) ∧ w'.cell? ⟨gb476, 0, none⟩ = some (.int .i64 t472) ∧ w'.cell? ⟨gb476, 1, none⟩ = some (.slice (some ad478) t473.length co44) ∧ w'.cell? (ad478.add (x34_2).toNat) = some (.slice A478_0 (rd_L7 t473 x34_2).length c478_0)) (ds := [10, 12]) (bm 13 0) (by kernel_rfl) rfl rfl ⟨(blk_cell BK471.out 0).trans rfl, (blk_cell BK471.out 1).trans rfl, (blk_cell BK471.out 2).trans rfl, (blk_cell BK476.out 0).trans rfl, (blk_cell BK476.out 1).trans rfl, hx478_0⟩ (fun hHeld => ?_); refine with_tabW impl_Diff.tab8 impl_Diff.bits8 (fun HT_ HW_ => ?_)
generalize wr.drew = w52 at HO_472002 HO_477001 BK466 BK467 BK468 BK471 BK476 HB HL478_0 HR478_0 hx478_0 hHeld ⊢
refine pu_ 0 39 (bm 13 1) HT_.out ?_
refine pu_ 2 41 (bm 13 5) HT_.out ?_
refine pu_ 3 42 (bm 13 13) HT_.out ?_
refine pu_ 5 44 (bm 13 45) HT_.out ?_
refine pu_ 8 47 (bm 13 301) HT_.out ?_
refine take_ (i := 1) (N := some 40) (v := ?_) (a' := ?_) (bm 13 303) rfl rfl (take_ofW HT_.out HW_.out (by kernel_rfl)) (fun _ _ _ h => h) (Or.inl ⟨by rfl, ?_⟩) hHeld ?_ ?_
rotate_left
·(
rintro w' ⟨s0, s1, s2, s3, s4, s5⟩
go_simp
with_reducible rfl
)
rotate_left
·(
simp only [Act.put, List.setIfInBounds_toArray, List.set_cons_zero, List.set_cons_succ, i64_w, i32_w]
rfl
)
refine take_ (i := 4) (N := some 43) (v := ?_) (a' := ?_) (bm 13 319) rfl rfl (take_ofW HT_.out HW_.out (by kernel_rfl)) (fun _ _ _ h => h) (Or.inl ⟨by rfl, ?_⟩) hHeld ?_ ?_
rotate_left
·(
rintro w' ⟨s0, s1, s2, s3, s4, s5⟩
go_simp
with_reducible rfl
)
rotate_left
·(
simp only [Act.put, List.setIfInBounds_toArray, List.set_cons_zero, List.set_cons_succ, i64_w, i32_w]
rfl
)
refine pu_ 6 45 (bm 13 383) HT_.out ?_
refine take_ (i := 7) (N := some 46) (v := ?_) (a' := ?_) (bm 13 511) rfl rfl (take_ofW HT_.out HW_.out (by kernel_rfl)) (fun _ _ _ h => h) (Or.inl ⟨by rfl, ?_⟩) hHeld ?_ ?_
rotate_left
·(
rintro w' ⟨s0, s1, s2, s3, s4, s5⟩
go_simp
with_reducible rfl
)
rotate_left
·(
simp only [Act.put, List.setIfInBounds_toArray, List.set_cons_zero, List.set_cons_succ, i64_w, i32_w]
rfl
)
refine one_ (i := 9) (N := some 48) (bm 13 1023) rfl rfl (one_of HT_.out (by kernel_rfl)) (by decide) (fun K hK => ?_)
refine goes_ Try.func73 (by kernel_rfl) rfl #[.int .i64 x34_2, .slice A478_0 (rd_L7 t473 x34_2).length c478_0, .slice A477_0 (rd_L7 l1_1 x34_2).length c477_0] (by rfl) rfl rfl mt ?_
with_reducible refine (impl_runs.calls k2 x34_2 _ _ (rd_L7 t473 x34_2) _ _ (rd_L7 l1_1 x34_2) t479 _ ?side1 ?side2 ?side3 ?side4 A50.out).mono ?_
(case side1 => repeat (first | exact (by repeat (first | (with_reducible exact HR478_0.out) | (with_reducible refine Kd.C_alloc ?_ _) | (with_reducible refine Kd.C_drewN ?_ _) | (with_reducible refine Kd.C_drew ?_) | exact HR478_0.out)) | (with_reducible refine Kd.C_alloc ?_ _) | (with_reducible refine Kd.C_drewN ?_ _) | (with_reducible refine Kd.C_drew ?_)))
(case side2 => exact HC478_0.out)
(case side3 => exact rc ((Kd.C_below HR477_0.out HB.out)))
(case side4 => exact HC477_0.out)
rintro e w53 ⟨v480, rfl, ho0, hb⟩
have HS5_ := (hb.cell (World.block_lt_of_cell? _ _ (hHeld.2.2.2.2.2))).trans (hHeld.2.2.2.2.2)
refine ⟨_, rfl, ?_⟩
replace HO_477001 := am (Kd.S_below (Sx_cap (rs HO_477001)) hb)
have HO481 := am (Kd.S_lower (Kd.S_new' (Kd.S_new' (Sx_floor ho0) (Kd.S_lt (rs HO_472002))) (Kd.R_lt (rr HL478_0))) (below_size (rb5 HB GE466 GE467 GE468 GE471 GE476)))
replace HO_472002 := am (Kd.S_elder' (Sx_cap (rs HO_472002)) (Kd.S_base ho0) hb)
replace HL478_0 := am (Kd.R_below (rr HL478_0) hb)
replace BK466 := am (blk_below (rk BK466) hb)
replace BK467 := am (blk_below (rk BK467) hb)
replace BK468 := am (blk_below (rk BK468) hb)
replace BK471 := am (blk_below (rk BK471) hb)
replace BK476 := am (blk_below (rk BK476) hb)
replace HR478_0 := am (Kd.C_below (by repeat (first | (with_reducible exact HR478_0.out) | (with_reducible refine Kd.C_alloc ?_ _) | (with_reducible refine Kd.C_drewN ?_ _) | (with_reducible refine Kd.C_drew ?_) | exact HR478_0.out)) hb)
replace HB := am (below_step (rb5 HB GE466 GE467 GE468 GE471 GE476) hb)
(try clear hb)
(try clear ho0)
obtain ⟨Ao56, co56, eo56⟩ := Kd.S_slice HO481.out
(first | subst eo56 | (injection eo56 with f1_ f2_ f3_; have f4_ := f1_.symm; have f5_ := f3_.symm; clear f1_ f2_ f3_; subst f4_; subst f5_))
refine hK.out _ _ ⟨(blk_cell BK471.out 0).trans rfl, (blk_cell BK471.out 1).trans rfl, (blk_cell BK471.out 2).trans rfl, (blk_cell BK476.out 0).trans rfl, (blk_cell BK476.out 1).trans rfl, HS5_⟩ (fun hHeld => ?_)
clear hK K
refine norm_ (a' := _) (show Act.put _ (some 48) _ = _ from na) ?_
refine last_ (i := 10) (N := some 49) (bm 13 2047) rfl rfl (one_of HT_.out (by kernel_rfl)) (by decide) (fun K hK => ?_)
refine Kd.S_append_rows_step k101 (w0 := w) w.heap.size (by rfl) (.tmp 40) (.tmp 48) 51 101 (.agg #[(.int .i64 0), (.int .i64 0), (.slice none 0 0)]) 40 rfl Try.underlying51 info101 rfl (by decide) (by omega) u472002 x472002_2 t479 _ _ _ (fun _ => True) _ rfl rfl ?aO (rs HO481) ?aK ?aF ?aB ?aS ?aL ?_
(case aK => exact fun k_ hk => ⟨trivial, hk.1.2⟩)
(case aB => exact (rb5 HB GE466 GE467 GE468 GE471 GE476))
(case aF => exact (fun _ _ => trivial))
(case aO => exact (by (with_reducible repeat (first | apply Kd.S_alloc | apply Kd.S_drewN | apply Kd.S_drew)); exact Kd.S_mono HO_472002.out (fun k_ hk => ⟨trivial, fun e_ => Nat.not_lt.2 (e_.1.1.2) (hk.1.2)⟩)))
(case aS => exact (below_size (rb5 HB GE466 GE467 GE468 GE471 GE476)))
(case aL => have := LMc51.out; omega)
intro v483 w55 ho hb hg hat
rw [← Ny482.out] at ho
replace HO_477001 := am (Kd.S_over' (rs HO_477001) (Kd.S_typed (rs HO_472002)) (by decide) hg)
replace BK466 := am (blk_grown (rk BK466) hg (Kd.S_ne HO_472002.out BK466.out (by decide)))
replace BK467 := am (blk_grown (rk BK467) hg (Kd.S_ne HO_472002.out BK467.out (by decide)))
replace BK468 := am (blk_grown (rk BK468) hg (Kd.S_ne HO_472002.out BK468.out (by decide)))
replace BK471 := am (blk_grown (rk BK471) hg (Kd.S_ne HO_472002.out BK471.out (by decide)))
replace BK476 := am (blk_grown (rk BK476) hg (Kd.S_ne HO_472002.out BK476.out (by decide)))
replace HL478_0 := am (Kd.R_over' (rr HL478_0) (Kd.S_typed (rs HO_472002)) (by decide) hg)
replace HB := am (hb)
have HO484 := am (ho)
clear HO_472002 HO481
clear ho hb hg hat
obtain ⟨Ao57, co57, eo57⟩ := Kd.S_slice HO484.out
(first | subst eo57 | (injection eo57 with f1_ f2_ f3_; have f4_ := f1_.symm; have f5_ := f3_.symm; clear f1_ f2_ f3_; subst f4_; subst f5_))
refine hK.out _ _ ?_
clear hK K
refine norm_ (a' := _) (show Act.put _ (some 49) _ = _ from na) ?_
refine pu_ 11 50 (bm 13 4095) HT_.out ?_
refine last_ (i := 12) (N := none) (bm 13 8191) rfl rfl (one_of HT_.out (by kernel_rfl)) (by decide) (fun K hK => ?_)
have hs58 : w55.cell? ⟨gb471, 2, none⟩ = some (u472002) := (blk_cell BK471.out 2).trans rfl
have hfs58 := blk_frozen BK471.out 2
have hns58_0 := NB466_471.out
have hns58_1 := NB467_471.out
have hns58_2 := NB468_471.out
have hns58_4 := NB476_471.out
have hms58_0 := NB471_466.out
have hms58_1 := NB471_467.out
have hms58_2 := NB471_468.out
have hms58_4 := NB471_476.out
refine skip_ (w1 := ?_) (by rfl) rfl ?_ ?_
rotate_left
·(
go_simp
rfl
)
refine hK.out _ _ ?_
clear hK K
refine done_ (done_of HT_.out (by kernel_rfl)) ?_
try go_wp2
go_roundg k2
case measure => have := HJ2.out; have := HK2.out; omega
case rel => exact ⟨(wrap64 (x34_2 + 1)), (y482), (.slice Ao57 y482.length co57), (by first | rfl | (simp; done) | (simp [*]; done)), H', ⟨by have := HJ2.out; have := HK2.out; omega⟩, ⟨by (with_reducible repeat (first | apply Kd.S_alloc | apply Kd.S_drewN | apply Kd.S_drew)); exact Kd.S_mono (Kd.S_far (p := ⟨gb471, 2, none⟩) (Kd.S_types HO484.out BK471.out (by decide)) (fun _ hk => hk.2) (.slice Ao57 y482.length co57)) (fun _ hk => trivial)⟩, ⟨by (with_reducible repeat (first | apply Kd.S_alloc | apply Kd.S_drewN | apply Kd.S_drew)); exact Kd.S_mono (Kd.S_far (p := ⟨gb471, 2, none⟩) (Kd.S_types HO_477001.out BK471.out (by decide)) (fun _ hk => hk.2) (.slice Ao57 y482.length co57)) (fun _ hk => trivial)⟩, ⟨by (with_reducible repeat (first | apply k1 | apply k2 | apply k3)); refine blk_far ?_ NB466_471.out _; (with_reducible repeat (first | apply k1 | apply k2 | apply k3)); exact BK466.out⟩, ⟨by (with_reducible repeat (first | apply k1 | apply k2 | apply k3)); refine blk_far ?_ NB467_471.out _; (with_reducible repeat (first | apply k1 | apply k2 | apply k3)); exact BK467.out⟩, ⟨by (with_reducible repeat (first | apply k1 | apply k2 | apply k3)); refine blk_far ?_ NB468_471.out _; (with_reducible repeat (first | apply k1 | apply k2 | apply k3)); exact BK468.out⟩, ⟨by (with_reducible repeat (first | apply k1 | apply k2 | apply k3)); refine blk_put (cs := #[.int .i64 a1_0, .int .i64 (l1_1.length : Int), u472002]) ?_ 2 _ rfl; (with_reducible repeat (first | apply k1 | apply k2 | apply k3)); exact BK471.out⟩, ⟨by (with_reducible repeat (first | apply k1 | apply k2 | apply k3)); refine blk_far ?_ NB476_471.out _; (with_reducible repeat (first | apply k1 | apply k2 | apply k3)); exact BK476.out⟩, ⟨rb5 HB GE466 GE467 GE468 GE471 GE476⟩⟩
)
)
·(
rw [if_neg c46] at H
have c46b0 : decide (x34_2 < (l1_1.length : Int)) = false := decide_eq_false c46
clear c46
refine em_ (p := (x472002_2.length : Int) > 400) (fun c59 => ?g4p) (fun c59 => ?g4n)
case' g4p => (
rw [if_pos c59] at H
have c59b0 : decide (400 < (x472002_2.length : Int)) = true := decide_eq_true c59
have c59b1 : decide (400 < x472002_2.length) = true := decide_eq_true (by omega)
clear c59
simp only [Option.some.injEq, Prod.mk.injEq] at H
obtain ⟨rfl, rfl, rfl, rfl⟩ := H
have lf6_ := trivial
)
case' g4n => (
rw [if_neg c59] at H
have c59b0 : decide (400 < (x472002_2.length : Int)) = false := decide_eq_false c59
have c59b1 : decide (400 < x472002_2.length) = false := decide_eq_false (by omega)
clear c59
simp only [Option.some.injEq, Prod.mk.injEq] at H
obtain ⟨rfl, rfl, rfl, rfl⟩ := H
have lf7_ := trivial
)
all_goals (
have hnb60 := NB471_466.out
have hnc60 := NB466_471.out
have hnb61 := NB471_467.out
have hnc61 := NB467_471.out
have hnb62 := NB471_468.out
have hnc62 := NB468_471.out
have hnb63 := NB471_476.out
have hnc63 := NB476_471.out
have hcz64_0 : wr.cell? ⟨gb471, 0, none⟩ = some (.int .i64 a1_0) := (blk_cell BK471.out 0).trans rfl
have hcz64_1 : wr.cell? ⟨gb471, 1, none⟩ = some (.int .i64 (l1_1.length : Int)) := (blk_cell BK471.out 1).trans rfl
have hcz64_2 : wr.cell? ⟨gb471, 2, none⟩ = some (u472002) := (blk_cell BK471.out 2).trans rfl
have hfz64_0 := blk_frozen BK471.out 0
have hfz64_1 := blk_frozen BK471.out 1
have hfz64_2 := blk_frozen BK471.out 2
obtain ⟨Ao65, co65, eo65⟩ := Kd.S_slice HO_472002.out
subst eo65
have hnb66 := NB468_466.out
have hnc66 := NB466_468.out
have hnb67 := NB468_467.out
have hnc67 := NB467_468.out
have hnb68 := NB468_476.out
have hnc68 := NB476_468.out
have hcz69_0 : wr.cell? ⟨gb468, 0, none⟩ = some (.int .i64 0) := (blk_cell BK468.out 0).trans rfl
have hcz69_1 : wr.cell? ⟨gb468, 1, none⟩ = some (.int .i64 0) := (blk_cell BK468.out 1).trans rfl
have hcz69_2 : wr.cell? ⟨gb468, 2, none⟩ = some (.slice none 0 0) := (blk_cell BK468.out 2).trans rfl
have hfz69_0 := blk_frozen BK468.out 0
have hfz69_1 := blk_frozen BK468.out 1
have hfz69_2 := blk_frozen BK468.out 2
go_wp2
first
| (
have q_ := lf7_
refine bodyPost_ret (results_ct rfl _ _ gb468 53 #[.int .i64 a1_0, .int .i64 (l1_1.length : Int), .slice Ao65 x472002_2.length co65] (0, 0) _ rfl (rp_0_1_2 BK468) Try.underlying53 rfl (by kernel_rfl)) rfl ?_
exact ⟨_, by first | rfl | (simp [errW_none, errW_some] <;> rfl) | (simp [*, errW_none, errW_some] <;> rfl), by (with_reducible repeat (first | apply Kd.S_alloc | apply Kd.S_drewN | apply Kd.S_drew)); exact Kd.S_mono (Kd.S_far (p := ⟨gb468, 2, none⟩) (Kd.S_far (p := ⟨gb468, 1, none⟩) (Kd.S_far (p := ⟨gb468, 0, none⟩) (Kd.S_types HO_472002.out BK468.out (by decide)) (fun _ hk => hk.2) (.int .i64 a1_0)) (fun _ hk => hk.2) (.int .i64 (l1_1.length : Int))) (fun _ hk => hk.2) (.slice Ao65 x472002_2.length co65)) (fun _ hk => trivial), rb5 HB GE466 GE467 GE468 GE471 GE476⟩
)
| (
have q_ := lf6_
refine bodyPost_ret (results_ct rfl _ _ gb468 53 #[.int .i64 0, .int .i64 0, .slice none 0 0] (0, 0) _ rfl (rp_0_1_2 BK468) Try.underlying53 rfl (by kernel_rfl)) rfl ?_
exact ⟨_, by first | rfl | (simp [errW_none, errW_some] <;> rfl) | (simp [*, errW_none, errW_some] <;> rfl), by first | exact Kd.S_nil _ _ _ _ _ | exact Kd.N_nil _ _ _ _ _ | exact Kd.V_nil _ _ _ _ _ | exact Kd.Q_nil _ _ _ _ _ | exact Kd.R_nil _ _ _ _ _, rb5 HB GE466 GE467 GE468 GE471 GE476⟩
)
)
)
)
)
)
)
)
)

end Go.Proofs.Ytalopdcephohgaa.RB
