/- Contracts of Go functions that laws of this seat reach: each Lean function answers as its Go function does. No condition. Written by wip/tools/inj.py, over the kit's print. -/
import Derived.Test.YtalopdcephohgaaDoorSAx0
import Derived.Test.YtalopdcephohgaaDoorSAx1
namespace Go.Proofs.YtalopdcephohgaaDoor.SA
open Go.RowKit Go.Proofs.YtalopdcephohgaaDoorW.PrintWords Go.Proofs.YtalopdcephohgaaDoorW.PrintLast Go.Proofs.YtalopdcephohgaaDoorW.PrintMore
attribute [local go_sem] max2_int min2_int max_two min_two max_three min_three max_four min_four   -- for this text's walks alone
set_option linter.unusedVariables false
set_option linter.unusedSimpArgs false

/-! ### spec_l10Numbers: function 16 -/
mutual
def spec_l10Numbers.l0 : Nat → List Int → Int → Int → Int → List (S40) → Option (List Int)
 | 0, _, _, _, _, _ => none
 | k + 1, x3, x4, x115000, x115001, x115002 => if x4 < (x115002.length : Int) then (if 0 ≤ x4 then ((some (([(rd_T40 x115002 x4).f0, (rd_T40 x115002 x4).f1, (((rd_T40 x115002 x4).f2).length : Int)] : List Int) : List Int)).bind fun y120 => (if x3.length + y120.length < 17592186044416 then (spec_l10Numbers.l1 k (x3 ++ y120) x4 0 x115000 x115001 x115002 ((rd_T40 x115002 x4).f0) ((rd_T40 x115002 x4).f1) ((rd_T40 x115002 x4).f2)) else (none))) else (none)) else (some x3)
def spec_l10Numbers.l1 : Nat → List Int → Int → Int → Int → Int → List (S40) → Int → Int → List (S45) → Option (List Int)
 | 0, _, _, _, _, _, _, _, _, _ => none
 | k + 1, x3, x4, x6, x115000, x115001, x115002, x120000, x120001, x120002 => if x6 < (x120002.length : Int) then (if 0 ≤ x6 then ((spec_l10Flags.f ((rd_T45 x120002 x6).f1.f0) ((rd_T45 x120002 x6).f1.f1) ((rd_T45 x120002 x6).f1.f2) ((rd_T45 x120002 x6).f1.f3) ((rd_T45 x120002 x6).f1.f4)).bind fun t128 => ((some (([(rd_T45 x120002 x6).f0, (rd_T45 x120002 x6).f1.f0, (rd_T45 x120002 x6).f1.f1, t128, (rd_T45 x120002 x6).f2] : List Int) : List Int)).bind fun y129 => (if x3.length + y129.length < 17592186044416 then (spec_l10Numbers.l1 k (x3 ++ y129) x4 (wrap64 (x6 + 1)) x115000 x115001 x115002 x120000 x120001 x120002) else (none)))) else (none)) else (spec_l10Numbers.l0 k x3 (wrap64 (x4 + 1)) x115000 x115001 x115002)
end
def spec_l10Numbers.f (k : Nat) (a0_0 : Int) (a0_1 : Int) (l0_2 : List (S40)) : Option (List Int) := spec_l10Numbers.l0 k (([a0_0, a0_1] : List Int)) 0 a0_0 a0_1 l0_2
theorem spec_l10Numbers.mono_l : ∀ k, (∀ y0 y1 y2 y3 y4, LeO (spec_l10Numbers.l0 k y0 y1 y2 y3 y4) (spec_l10Numbers.l0 (k + 1) y0 y1 y2 y3 y4)) ∧ (∀ y0 y1 y2 y3 y4 y5 y6 y7 y8, LeO (spec_l10Numbers.l1 k y0 y1 y2 y3 y4 y5 y6 y7 y8) (spec_l10Numbers.l1 (k + 1) y0 y1 y2 y3 y4 y5 y6 y7 y8))
 | 0 => ⟨fun _ _ _ _ _ r h => by simp [spec_l10Numbers.l0] at h, fun _ _ _ _ _ _ _ _ _ r h => by simp [spec_l10Numbers.l1] at h⟩
 | k + 1 => by
  obtain ⟨ih0, ih1⟩ := spec_l10Numbers.mono_l k
  refine ⟨?_, ?_⟩
  ·intro y0 y1 y2 y3 y4
   unfold spec_l10Numbers.l0
   repeat' first
   | (with_reducible exact ih0 _ _ _ _ _)
   | (with_reducible exact ih1 _ _ _ _ _ _ _ _ _)
   | (with_reducible exact LeO.refl _)
   | (with_reducible exact LeO.none _)
   | (with_reducible refine LeO.ite ?_ ?_)
   | (with_reducible refine LeO.bind ?_ (fun _ => ?_))
  ·intro y0 y1 y2 y3 y4 y5 y6 y7 y8
   unfold spec_l10Numbers.l1
   repeat' first
   | (with_reducible exact ih0 _ _ _ _ _)
   | (with_reducible exact ih1 _ _ _ _ _ _ _ _ _)
   | (with_reducible exact LeO.refl _)
   | (with_reducible exact LeO.none _)
   | (with_reducible refine LeO.ite ?_ ?_)
   | (with_reducible refine LeO.bind ?_ (fun _ => ?_))
theorem spec_l10Numbers.mono : ∀ a0 a1 a2 k, LeO (spec_l10Numbers.f k a0 a1 a2) (spec_l10Numbers.f (k + 1) a0 a1 a2) := by
 intro a0 a1 a2 k
 obtain ⟨ih0, ih1⟩ := spec_l10Numbers.mono_l k
 unfold spec_l10Numbers.f
 repeat' first
   | (with_reducible exact ih0 _ _ _ _ _)
   | (with_reducible exact ih1 _ _ _ _ _ _ _ _ _)
   | (with_reducible exact LeO.refl _)
   | (with_reducible exact LeO.none _)
   | (with_reducible refine LeO.ite ?_ ?_)
   | (with_reducible refine LeO.bind ?_ (fun _ => ?_))
def spec_l10Numbers.T11 : Bool × List (List Nat × List Nat) := (true, [([], []), ([], []), ([1], [1]), ([], []), ([3], [3]), ([4], [4]), ([], []), ([6], [6]), ([7], [7]), ([], []), ([9], [9]), ([10], [10]), ([], []), ([12], [12]), ([2, 5, 8, 11, 13], [2, 5, 8, 11, 13]), ([0, 14, 11], [0, 14]), ([15, 15, 0, 1, 2, 3, 4, 5, 6, 7, 8, 9, 10, 11, 12, 13, 14, 15], [0, 15])])
def spec_l10Numbers.B11 : List Nat := [0, 0, 2, 0, 8, 24, 0, 64, 192, 0, 512, 1536, 0, 4096, 16382, 32767, 65535]
theorem spec_l10Numbers.tab11 : rtab .any (opsOf Tryd.f16 11) = spec_l10Numbers.T11 := by kernel_rfl
theorem spec_l10Numbers.bits11 : waitsOk spec_l10Numbers.T11.2 spec_l10Numbers.B11 = true := by kernel_rfl
set_option maxHeartbeats 8000000 in
set_option maxRecDepth 100000 in
theorem spec_l10Numbers.calls (k : Nat) (a0_0 : Int) (a0_1 : Int) (A0_2 : Option Addr) (c0_2 : Nat) (l0_2 : List (S40)) (r : List Int) (w : World) (hr0_2 : Kd.C k40 w A0_2 l0_2.length l0_2) (hc0_2 : l0_2.length ≤ c0_2) (h : spec_l10Numbers.f k a0_0 a0_1 l0_2 = some r) :
  Calls Tryd.prog 16 #[.agg #[.int .i64 a0_0, .int .i64 a0_1, .slice A0_2 l0_2.length c0_2]] w fun e w' => ∃ v0_ : Value, e = .returned (v0_) ∧ Kd.R (Kd.int .i64) 2 w' w.heap.size (fun _ => True) v0_ r ∧ Below w.heap.size w w' := by
 (
have hu29 := Tryd.underlying29
have hu40 := Tryd.underlying40
have hu45 := Tryd.underlying45
have hu43 := Tryd.underlying43
have HR0_2 := am hr0_2
have HC0_2 := am hc0_2
clear hr0_2 hc0_2
have HB := am (Below.refl w.heap.size w)
have H : (spec_l10Numbers.l0 k (([a0_0, a0_1] : List Int)) 0 a0_0 a0_1 l0_2) = some r := h
clear h
obtain ⟨y115, hy115⟩ : ∃ y_ : List Int, y_ = (([a0_0, a0_1] : List Int)) := ⟨_, rfl⟩
replace H : (spec_l10Numbers.l0 k y115 0 a0_0 a0_1 l0_2) = some r := by first | (rw [hy115]; with_reducible exact H) | (rw [hy115]; exact H) | exact H
have Ny115 := am hy115
clear hy115
have H' := am H
clear H
go_enter Tryd.func16, Tryd.ntmps16
go_wp2_with (first | ((with_reducible refine gate_dst (N := 1) rfl ?_); refine box_event ?hg (N := 1) ?hd (cs := #[.int .i64 a0_0, .int .i64 a0_1, .slice A0_2 l0_2.length c0_2]) (t := 29) ?hr ?_; (case hd => rfl); (case hg => rfl); (case hr => first | (go_simp; done) | (go_simp; rfl)); intro gb114 hg w2 hbox hb; have BK114 := am (hbox); have GW114 := am (gw hg (rb HB)); have GE114 := GW114; replace HB := am (below_step (rb HB) hb); clear hb hbox hg; have hcz3_0 : w2.cell? ⟨gb114, 0, none⟩ = some (.int .i64 a0_0) := (blk_cell BK114.out 0).trans rfl; have hcz3_1 : w2.cell? ⟨gb114, 1, none⟩ = some (.int .i64 a0_1) := (blk_cell BK114.out 1).trans rfl; have hcz3_2 : w2.cell? ⟨gb114, 2, none⟩ = some (.slice A0_2 l0_2.length c0_2) := (blk_cell BK114.out 2).trans rfl; have hfz3_0 := blk_frozen BK114.out 0; have hfz3_1 := blk_frozen BK114.out 1; have hfz3_2 := blk_frozen BK114.out 2) | ((with_reducible refine gate_dst (N := 12) rfl ?_); refine Kd.R_lit (Kd.int .i64) _ 2 ?hg (N := 12) ?hd (xs := ([a0_0, a0_1] : List Int)) (inner := [.int .i64 a0_0, .int .i64 a0_1]) (ok := fun _ => True) (okp := fun _ => True) ?hr ?hp (fun _ hk => hk) trivial (Below.refl _ _) (Nat.le_refl _) (by simp) ?_; (case hd => rfl); (case hg => rfl); (case hr => first | (go_simp; done) | (go_simp; rfl)); (case hp => exact (Reps.one (show Kd.M (Kd.int .i64) _ _ _ a0_0 [.int .i64 a0_0] from rfl) (Reps.one (show Kd.M (Kd.int .i64) _ _ _ a0_1 [.int .i64 a0_1] from rfl) (Reps.none _ _)))); intro v116 w4 ho5 hb hg_ hnew_; clear hg_ hnew_; (first | rw [← Ny115.out] at ho5 | (simp only [Int.reduceToNat] at ho5; rw [← Ny115.out] at ho5)); have HO117 := am (Kd.R_lower ho5 (below_size (rb1 HB GE114))); replace BK114 := am (blk_below (rk BK114) hb); replace HB := am (below_step (rb1 HB GE114) hb); clear hb ho5))
go_loopg [3, 4] k (fun kq v3 v4 w' => ∃ (x3_1 : List Int) (x4_1 : Int), v4 = .int .i64 x4_1 ∧ Aside0 (spec_l10Numbers.l0 kq x3_1 x4_1 a0_0 a0_1 l0_2 = some r) ∧ Aside0 (kq ≤ k) ∧ Aside0 (Kd.R (Kd.int .i64) 2 w' w.heap.size (fun _ => True) v3 x3_1) ∧ Aside0 (w'.heap[gb114]? = some (.cells #[.int .i64 a0_0, .int .i64 a0_1, (.slice A0_2 l0_2.length c0_2)] 29 (0, 0))) ∧ Aside0 (Below w.heap.size w w'))
case atStart => exact ⟨(y115), (0), (by first | rfl | (simp; done) | (simp [*]; done)), H', ⟨Nat.le_refl _⟩, ⟨rr HO117⟩, ⟨rk BK114⟩, ⟨by repeat (first | (with_reducible first | exact HB.out | apply b1 | apply b2 | apply b3 | refine below_set ?_ GE114.out) | exact HB.out)⟩⟩
case round => (
clear H'
try clear c1
try clear p2
try clear hcz3_0
try clear hcz3_1
try clear hcz3_2
try clear hfz3_0
try clear hfz3_1
try clear hfz3_2
obtain ⟨x3_1, x4_1, rfl, HA, HK1, HO_3, BK114, HB⟩ := hrel
cases gk with
| zero => exact absurd HA.out (by simp [spec_l10Numbers.l0])
| succ k1 => (
have H := HA.out
clear HA
simp only [spec_l10Numbers.l0] at H
by_cases c6 : x4_1 < (l0_2.length : Int)
·(
rw [if_pos c6] at H
have c6b0 : decide (x4_1 < (l0_2.length : Int)) = true := decide_eq_true c6
clear c6
refine em_ (p := 0 ≤ x4_1) (fun c7 => ?g1p) (fun c7 => ?g1n)
case' g1p => (
rw [if_pos c7] at H
have c7b0 : decide (0 ≤ x4_1) = true := decide_eq_true c7
clear c7
obtain ⟨y120, hy120⟩ : ∃ y_ : List Int, y_ = (([(rd_T40 l0_2 x4_1).f0, (rd_T40 l0_2 x4_1).f1, (((rd_T40 l0_2 x4_1).f2).length : Int)] : List Int)) := ⟨_, rfl⟩
replace H : (if x3_1.length + y120.length < 17592186044416 then (spec_l10Numbers.l1 k1 (x3_1 ++ y120) x4_1 0 a0_0 a0_1 l0_2 ((rd_T40 l0_2 x4_1).f0) ((rd_T40 l0_2 x4_1).f1) ((rd_T40 l0_2 x4_1).f2)) else (none)) = some r := by first | (rw [hy120]; with_reducible exact H) | (rw [hy120]; exact H) | exact H
have Ny120 := am hy120
clear hy120
refine em_ (p := x3_1.length + y120.length < 17592186044416) (fun c8 => ?g0p) (fun c8 => ?g0n)
case' g0p => (
rw [if_pos c8] at H
have LMc8 := am c8
clear c8
obtain ⟨y123, hy123⟩ : ∃ y_ : List Int, y_ = (x3_1 ++ y120) := ⟨_, rfl⟩
replace H : (spec_l10Numbers.l1 k1 y123 x4_1 0 a0_0 a0_1 l0_2 ((rd_T40 l0_2 x4_1).f0) ((rd_T40 l0_2 x4_1).f1) ((rd_T40 l0_2 x4_1).f2)) = some r := by first | (rw [hy123]; with_reducible exact H) | (rw [hy123]; exact H) | exact H
have Ny123 := am hy123
clear hy123
have H' := am H
clear H
have lf1_ := trivial
)
case g0n => (
rw [if_neg c8] at H
exact absurd H (by simp)
)
)
case g1n => (
rw [if_neg c7] at H
exact absurd H (by simp)
)
all_goals (
have hcz9_0 : wr.cell? ⟨gb114, 0, none⟩ = some (.int .i64 a0_0) := (blk_cell BK114.out 0).trans rfl
have hcz9_1 : wr.cell? ⟨gb114, 1, none⟩ = some (.int .i64 a0_1) := (blk_cell BK114.out 1).trans rfl
have hcz9_2 : wr.cell? ⟨gb114, 2, none⟩ = some (.slice A0_2 l0_2.length c0_2) := (blk_cell BK114.out 2).trans rfl
have hfz9_0 := blk_frozen BK114.out 0
have hfz9_1 := blk_frozen BK114.out 1
have hfz9_2 := blk_frozen BK114.out 2
have p118 : 0 ≤ (x4_1 : Int) := dt_
have q118 : x4_1 < (l0_2.length : Int) := dt_
obtain ⟨ad118, A118_2, c118_2, e118, hx118_0, hx118_1, hx118_2, hl118_2, hi118_2⟩ := at_T40 HR0_2.out x4_1 p118 q118
cases e118
replace hx118_0 := mv HB.out hx118_0
replace hx118_1 := mv HB.out hx118_1
replace hx118_2 := mv HB.out hx118_2
have HR118_2 := am hi118_2
have HC118_2 := am hl118_2
clear hi118_2 hl118_2
replace p118 := eq_true p118
replace q118 := eq_true q118
go_wp2_with (first | ((with_reducible refine gate_dst (N := 5) rfl ?_); refine box_event ?hg (N := 5) ?hd (cs := #[.int .i64 0, .int .i64 0, .slice none 0 0]) (t := 40) ?hr ?_; (case hd => rfl); (case hg => rfl); (case hr => first | (go_simp; done) | (go_simp; rfl)); intro gb119 hg w10 hbox hb; replace HO_3 := am (Kd.R_below (rr HO_3) hb); have BK119 := am (hbox); have GW119 := am (gw hg (rb1 HB GE114)); have GE119 := GW119; replace HB := am (below_step (rb1 HB GE114) hb); have NB114_119 := am (nl hg (rk BK114)); have NB119_114 := am (ng hg (rk BK114)); replace BK114 := am (blk_below (rk BK114) hb); clear hb hbox hg; have hnb11 := NB119_114.out; have hnc11 := NB114_119.out; have hcz12_0 : w10.cell? ⟨gb119, 0, none⟩ = some (.int .i64 0) := (blk_cell BK119.out 0).trans rfl; have hcz12_1 : w10.cell? ⟨gb119, 1, none⟩ = some (.int .i64 0) := (blk_cell BK119.out 1).trans rfl; have hcz12_2 : w10.cell? ⟨gb119, 2, none⟩ = some (.slice none 0 0) := (blk_cell BK119.out 2).trans rfl; have hfz12_0 := blk_frozen BK119.out 0; have hfz12_1 := blk_frozen BK119.out 1; have hfz12_2 := blk_frozen BK119.out 2) | ((with_reducible refine gate_dst (N := 33) rfl ?_); refine Kd.R_lit (Kd.int .i64) _ 2 ?hg (N := 33) ?hd (xs := ([(rd_T40 l0_2 x4_1).f0, (rd_T40 l0_2 x4_1).f1, (((rd_T40 l0_2 x4_1).f2).length : Int)] : List Int)) (inner := [.int .i64 ((rd_T40 l0_2 x4_1).f0), .int .i64 ((rd_T40 l0_2 x4_1).f1), .int .i64 (((rd_T40 l0_2 x4_1).f2).length : Int)]) (ok := fun _ => True) (okp := fun _ => True) ?hr ?hp (fun _ hk => hk) trivial (Below.refl _ _) (Nat.le_refl _) (by simp) ?_; (case hd => rfl); (case hg => rfl); (case hr => first | (go_simp; done) | (go_simp; rfl)); (case hp => exact (Reps.one (show Kd.M (Kd.int .i64) _ _ _ ((rd_T40 l0_2 x4_1).f0) [.int .i64 ((rd_T40 l0_2 x4_1).f0)] from rfl) (Reps.one (show Kd.M (Kd.int .i64) _ _ _ ((rd_T40 l0_2 x4_1).f1) [.int .i64 ((rd_T40 l0_2 x4_1).f1)] from rfl) (Reps.one (show Kd.M (Kd.int .i64) _ _ _ (((rd_T40 l0_2 x4_1).f2).length : Int) [.int .i64 (((rd_T40 l0_2 x4_1).f2).length : Int)] from rfl) (Reps.none _ _))))); intro v121 w13 ho14 hb hg_ hnew_; clear hg_ hnew_; (first | rw [← Ny120.out] at ho14 | (simp only [Int.reduceToNat] at ho14; rw [← Ny120.out] at ho14)); have HO122 := am (Kd.R_lower (Kd.R_new' ho14 (Kd.R_lt (Rf3 HO_3 BK119))) (below_size (rb2 HB GE114 GE119))); replace HO_3 := am (Kd.R_elder' (Rf3 HO_3 BK119) (Kd.R_base ho14) hb); replace BK114 := am (blk_below (g := gb114) (o := .cells #[.int .i64 a0_0, .int .i64 a0_1, .slice (some ad118) l0_2.length c0_2] 29 (0, 0)) (rf3 NB114_119 BK114) hb); replace BK119 := am (blk_below (g := gb119) (o := .cells #[.int .i64 ((rd_T40 l0_2 x4_1).f0), .int .i64 ((rd_T40 l0_2 x4_1).f1), .slice A118_2 ((rd_T40 l0_2 x4_1).f2).length c118_2] 40 (0, 0)) (rp_0_1_2 BK119) hb); replace HB := am (below_step (rb2 HB GE114 GE119) hb); clear hb ho14; obtain ⟨Ao16, co16, eo16⟩ := Kd.R_slice HO122.out; subst eo16) | ((with_reducible refine gate_builtin (b := .append) (xs := #[.tmp 25, .tmp 33]) rfl ?_); at_builtin; refine Kd.R_append_rows (Kd.int .i64) (w0 := w) w.heap.size rfl (.tmp 25) (.tmp 33) 47 2 (.int .i64 0) 8 rfl Tryd.underlying47 info2 rfl (by decide) (by omega) u3 x3_1 y120 _ _ _ (fun k_ => some k_ ≠ (.slice Ao16 y120.length co16 : Value).ownBlock) (fun _ => False) rfl rfl ?aO ?aR (fun _ _ h => h) (fun _ h => h.elim) ?aF ?aB ?aS ?aL ?_; (case aR => repeat (first | exact (Kd.R_reads' HO122.out).2.2 | (with_reducible refine Kd.C_alloc ?_ _) | (with_reducible refine Kd.C_drewN ?_ _) | (with_reducible refine Kd.C_drew ?_))); (case aB => exact (rb2 HB GE114 GE119)); (case aF => exact (fun k_ hk => Kd.fresh' (Kd.R_lt (rr HO122)) k_ hk)); (case aO => exact (rrm HO_3)); (case aS => exact (below_size (rb2 HB GE114 GE119))); (case aL => have := LMc8.out; omega); intro v124 w15 ho hb hg hat; rw [← Ny123.out] at ho; replace BK114 := am (blk_grown (rk BK114) hg (Kd.R_ne HO_3.out BK114.out (by decide))); replace BK119 := am (blk_grown (rk BK119) hg (Kd.R_ne HO_3.out BK119.out (by decide))); replace HO122 := am (Kd.R_after (ok := (fun _ => True)) (rr HO122) hg hat); replace HB := am (hb); have HO125 := am (ho); clear HO_3; clear ho hb hg hat))
go_loopg [3, 6] k1 (fun kq v3 v6 w' => ∃ (x3_2 : List Int) (x6_2 : Int), v6 = .int .i64 x6_2 ∧ Aside0 (spec_l10Numbers.l1 kq x3_2 x4_1 x6_2 a0_0 a0_1 l0_2 ((rd_T40 l0_2 x4_1).f0) ((rd_T40 l0_2 x4_1).f1) ((rd_T40 l0_2 x4_1).f2) = some r) ∧ Aside0 (kq ≤ k1) ∧ Aside0 (Kd.R (Kd.int .i64) 2 w' w.heap.size (fun _ => True) v3 x3_2) ∧ Aside0 (w'.heap[gb114]? = some (.cells #[.int .i64 a0_0, .int .i64 a0_1, (.slice (some ad118) l0_2.length c0_2)] 29 (0, 0))) ∧ Aside0 (w'.heap[gb119]? = some (.cells #[.int .i64 ((rd_T40 l0_2 x4_1).f0), .int .i64 ((rd_T40 l0_2 x4_1).f1), (.slice A118_2 ((rd_T40 l0_2 x4_1).f2).length c118_2)] 40 (0, 0))) ∧ Aside0 (Below w.heap.size w w'))
case atStart => exact ⟨(y123), (0), (by first | rfl | (simp; done) | (simp [*]; done)), H', ⟨Nat.le_refl _⟩, ⟨Rm0 HO125⟩, ⟨rk BK114⟩, ⟨rk BK119⟩, ⟨rb2 HB GE114 GE119⟩⟩
case round => (
clear H'
try clear c1
try clear p1
try clear q1
try clear hx1
try clear p2
try clear c6
try clear c6b0
try clear c7
try clear c7b0
try clear c8
try clear c11
try clear p11
try clear q11
try clear hx11
try clear c16
try clear hcz12_0
try clear hcz12_1
try clear hcz12_2
try clear hcz3_0
try clear hcz3_1
try clear hcz3_2
try clear hcz9_0
try clear hcz9_1
try clear hcz9_2
try clear hfz12_0
try clear hfz12_1
try clear hfz12_2
try clear hfz3_0
try clear hfz3_1
try clear hfz3_2
try clear hfz9_0
try clear hfz9_1
try clear hfz9_2
try clear hx118_0
try clear hx118_1
try clear hx118_2
try clear p118
try clear p2
try clear q118
obtain ⟨x3_2, x6_2, rfl, HA, HK2, HO_3, BK114, BK119, HB⟩ := hrel
cases gk with
| zero => exact absurd HA.out (by simp [spec_l10Numbers.l1])
| succ k2 => (
have H := HA.out
clear HA
simp only [spec_l10Numbers.l1] at H
by_cases c17 : x6_2 < (((rd_T40 l0_2 x4_1).f2).length : Int)
·(
rw [if_pos c17] at H
have c17b0 : decide (x6_2 < (((rd_T40 l0_2 x4_1).f2).length : Int)) = true := decide_eq_true c17
clear c17
refine em_ (p := 0 ≤ x6_2) (fun c18 => ?g3p) (fun c18 => ?g3n)
case' g3p => (
rw [if_pos c18] at H
have c18b0 : decide (0 ≤ x6_2) = true := decide_eq_true c18
clear c18
replace H := Option.bind_eq_some_iff.mp H
obtain ⟨t128, A190, H⟩ := H
(try dsimp only at H)
have A19 := am A190
clear A190
obtain ⟨y129, hy129⟩ : ∃ y_ : List Int, y_ = (([(rd_T45 ((rd_T40 l0_2 x4_1).f2) x6_2).f0, (rd_T45 ((rd_T40 l0_2 x4_1).f2) x6_2).f1.f0, (rd_T45 ((rd_T40 l0_2 x4_1).f2) x6_2).f1.f1, t128, (rd_T45 ((rd_T40 l0_2 x4_1).f2) x6_2).f2] : List Int)) := ⟨_, rfl⟩
replace H : (if x3_2.length + y129.length < 17592186044416 then (spec_l10Numbers.l1 k2 (x3_2 ++ y129) x4_1 (wrap64 (x6_2 + 1)) a0_0 a0_1 l0_2 ((rd_T40 l0_2 x4_1).f0) ((rd_T40 l0_2 x4_1).f1) ((rd_T40 l0_2 x4_1).f2)) else (none)) = some r := by first | (rw [hy129]; with_reducible exact H) | (rw [hy129]; exact H) | exact H
have Ny129 := am hy129
clear hy129
refine em_ (p := x3_2.length + y129.length < 17592186044416) (fun c20 => ?g2p) (fun c20 => ?g2n)
case' g2p => (
rw [if_pos c20] at H
have LMc20 := am c20
clear c20
obtain ⟨y132, hy132⟩ : ∃ y_ : List Int, y_ = (x3_2 ++ y129) := ⟨_, rfl⟩
replace H : (spec_l10Numbers.l1 k2 y132 x4_1 (wrap64 (x6_2 + 1)) a0_0 a0_1 l0_2 ((rd_T40 l0_2 x4_1).f0) ((rd_T40 l0_2 x4_1).f1) ((rd_T40 l0_2 x4_1).f2)) = some r := by first | (rw [hy132]; with_reducible exact H) | (rw [hy132]; exact H) | exact H
have Ny132 := am hy132
clear hy132
have H' := am H
clear H
have lf3_ := trivial
)
case g2n => (
rw [if_neg c20] at H
exact absurd H (by simp)
)
)
case g3n => (
rw [if_neg c18] at H
exact absurd H (by simp)
)
all_goals (
have hnb21 := NB119_114.out
have hnc21 := NB114_119.out
have hcz22_0 : wr.cell? ⟨gb119, 0, none⟩ = some (.int .i64 ((rd_T40 l0_2 x4_1).f0)) := (blk_cell BK119.out 0).trans rfl
have hcz22_1 : wr.cell? ⟨gb119, 1, none⟩ = some (.int .i64 ((rd_T40 l0_2 x4_1).f1)) := (blk_cell BK119.out 1).trans rfl
have hcz22_2 : wr.cell? ⟨gb119, 2, none⟩ = some (.slice A118_2 ((rd_T40 l0_2 x4_1).f2).length c118_2) := (blk_cell BK119.out 2).trans rfl
have hfz22_0 := blk_frozen BK119.out 0
have hfz22_1 := blk_frozen BK119.out 1
have hfz22_2 := blk_frozen BK119.out 2
have p126 : 0 ≤ (x6_2 : Int) := dt_
have q126 : x6_2 < (((rd_T40 l0_2 x4_1).f2).length : Int) := dt_
obtain ⟨ad126, e126, hx126_0, hx126_1, hx126_2, hx126_3, hx126_4, hx126_5, hx126_6⟩ := at_T45 HR118_2.out x6_2 p126 q126
cases e126
replace hx126_0 := mv HB.out hx126_0
replace hx126_1 := mv HB.out hx126_1
replace hx126_2 := mv HB.out hx126_2
replace hx126_3 := mv HB.out hx126_3
replace hx126_4 := mv HB.out hx126_4
replace hx126_5 := mv HB.out hx126_5
replace hx126_6 := mv HB.out hx126_6
replace p126 := eq_true p126
replace q126 := eq_true q126
try go_wp2_with (first | ((with_reducible refine gate_dst (N := 7) rfl ?_); refine box_event ?hg (N := 7) ?hd (cs := #[.int .i64 0, .int .i64 0, .int .i64 0, .bool false, .bool false, .bool false, .int .i64 0]) (t := 45) ?hr ?_; (case hd => rfl); (case hg => rfl); (case hr => first | (go_simp; done) | (go_simp; rfl)); intro gb127 hg w23 hbox hb; replace HO_3 := am (Kd.R_below (rr HO_3) hb); have BK127 := am (hbox); have GW127 := am (gw hg (rb2 HB GE114 GE119)); have GE127 := GW127; replace HB := am (below_step (rb2 HB GE114 GE119) hb); have NB114_127 := am (nl hg (rk BK114)); have NB127_114 := am (ng hg (rk BK114)); replace BK114 := am (blk_below (rk BK114) hb); have NB119_127 := am (nl hg (rk BK119)); have NB127_119 := am (ng hg (rk BK119)); replace BK119 := am (blk_below (rk BK119) hb); clear hb hbox hg; have hnb24 := NB127_114.out; have hnc24 := NB114_127.out; have hnb25 := NB127_119.out; have hnc25 := NB119_127.out; have hcz26_0 : w23.cell? ⟨gb127, 0, none⟩ = some (.int .i64 0) := (blk_cell BK127.out 0).trans rfl; have hcz26_1 : w23.cell? ⟨gb127, 1, none⟩ = some (.int .i64 0) := (blk_cell BK127.out 1).trans rfl; have hcz26_2 : w23.cell? ⟨gb127, 2, none⟩ = some (.int .i64 0) := (blk_cell BK127.out 2).trans rfl; have hcz26_3 : w23.cell? ⟨gb127, 3, none⟩ = some (.bool false) := (blk_cell BK127.out 3).trans rfl; have hcz26_4 : w23.cell? ⟨gb127, 4, none⟩ = some (.bool false) := (blk_cell BK127.out 4).trans rfl; have hcz26_5 : w23.cell? ⟨gb127, 5, none⟩ = some (.bool false) := (blk_cell BK127.out 5).trans rfl; have hcz26_6 : w23.cell? ⟨gb127, 6, none⟩ = some (.int .i64 0) := (blk_cell BK127.out 6).trans rfl; have hfz26_0 := blk_frozen BK127.out 0; have hfz26_1 := blk_frozen BK127.out 1; have hfz26_2 := blk_frozen BK127.out 2; have hfz26_3 := blk_frozen BK127.out 3; have hfz26_4 := blk_frozen BK127.out 4; have hfz26_5 := blk_frozen BK127.out 5; have hfz26_6 := blk_frozen BK127.out 6))
have n0_ : Aside0 (Kd.R (Kd.int .i64) 2 (((((((w23.setCell ⟨gb127, 0, none⟩ (.int .i64 ((rd_T45 ((rd_T40 l0_2 x4_1).f2) x6_2).f0))).setCell ⟨gb127, 1, none⟩ (.int .i64 ((rd_T45 ((rd_T40 l0_2 x4_1).f2) x6_2).f1.f0))).setCell ⟨gb127, 2, none⟩ (.int .i64 ((rd_T45 ((rd_T40 l0_2 x4_1).f2) x6_2).f1.f1))).setCell ⟨gb127, 3, none⟩ (.bool ((rd_T45 ((rd_T40 l0_2 x4_1).f2) x6_2).f1.f2))).setCell ⟨gb127, 4, none⟩ (.bool ((rd_T45 ((rd_T40 l0_2 x4_1).f2) x6_2).f1.f3))).setCell ⟨gb127, 5, none⟩ (.bool ((rd_T45 ((rd_T40 l0_2 x4_1).f2) x6_2).f1.f4))).setCell ⟨gb127, 6, none⟩ (.int .i64 ((rd_T45 ((rd_T40 l0_2 x4_1).f2) x6_2).f2))) w.heap.size (fun _ => True) u3 x3_2) := ⟨Rm7 HO_3 BK127⟩
have n1_ : Aside0 ((((((((w23.setCell ⟨gb127, 0, none⟩ (.int .i64 ((rd_T45 ((rd_T40 l0_2 x4_1).f2) x6_2).f0))).setCell ⟨gb127, 1, none⟩ (.int .i64 ((rd_T45 ((rd_T40 l0_2 x4_1).f2) x6_2).f1.f0))).setCell ⟨gb127, 2, none⟩ (.int .i64 ((rd_T45 ((rd_T40 l0_2 x4_1).f2) x6_2).f1.f1))).setCell ⟨gb127, 3, none⟩ (.bool ((rd_T45 ((rd_T40 l0_2 x4_1).f2) x6_2).f1.f2))).setCell ⟨gb127, 4, none⟩ (.bool ((rd_T45 ((rd_T40 l0_2 x4_1).f2) x6_2).f1.f3))).setCell ⟨gb127, 5, none⟩ (.bool ((rd_T45 ((rd_T40 l0_2 x4_1).f2) x6_2).f1.f4))).setCell ⟨gb127, 6, none⟩ (.int .i64 ((rd_T45 ((rd_T40 l0_2 x4_1).f2) x6_2).f2))).heap[gb114]? = some (.cells #[.int .i64 a0_0, .int .i64 a0_1, .slice (some ad118) l0_2.length c0_2] 29 (0, 0))) := ⟨rf7 NB114_127 BK114⟩
have n2_ : Aside0 ((((((((w23.setCell ⟨gb127, 0, none⟩ (.int .i64 ((rd_T45 ((rd_T40 l0_2 x4_1).f2) x6_2).f0))).setCell ⟨gb127, 1, none⟩ (.int .i64 ((rd_T45 ((rd_T40 l0_2 x4_1).f2) x6_2).f1.f0))).setCell ⟨gb127, 2, none⟩ (.int .i64 ((rd_T45 ((rd_T40 l0_2 x4_1).f2) x6_2).f1.f1))).setCell ⟨gb127, 3, none⟩ (.bool ((rd_T45 ((rd_T40 l0_2 x4_1).f2) x6_2).f1.f2))).setCell ⟨gb127, 4, none⟩ (.bool ((rd_T45 ((rd_T40 l0_2 x4_1).f2) x6_2).f1.f3))).setCell ⟨gb127, 5, none⟩ (.bool ((rd_T45 ((rd_T40 l0_2 x4_1).f2) x6_2).f1.f4))).setCell ⟨gb127, 6, none⟩ (.int .i64 ((rd_T45 ((rd_T40 l0_2 x4_1).f2) x6_2).f2))).heap[gb119]? = some (.cells #[.int .i64 ((rd_T40 l0_2 x4_1).f0), .int .i64 ((rd_T40 l0_2 x4_1).f1), .slice (some ad126) ((rd_T40 l0_2 x4_1).f2).length c118_2] 40 (0, 0))) := ⟨rf7 NB119_127 BK119⟩
have n3_ : Aside0 ((((((((w23.setCell ⟨gb127, 0, none⟩ (.int .i64 ((rd_T45 ((rd_T40 l0_2 x4_1).f2) x6_2).f0))).setCell ⟨gb127, 1, none⟩ (.int .i64 ((rd_T45 ((rd_T40 l0_2 x4_1).f2) x6_2).f1.f0))).setCell ⟨gb127, 2, none⟩ (.int .i64 ((rd_T45 ((rd_T40 l0_2 x4_1).f2) x6_2).f1.f1))).setCell ⟨gb127, 3, none⟩ (.bool ((rd_T45 ((rd_T40 l0_2 x4_1).f2) x6_2).f1.f2))).setCell ⟨gb127, 4, none⟩ (.bool ((rd_T45 ((rd_T40 l0_2 x4_1).f2) x6_2).f1.f3))).setCell ⟨gb127, 5, none⟩ (.bool ((rd_T45 ((rd_T40 l0_2 x4_1).f2) x6_2).f1.f4))).setCell ⟨gb127, 6, none⟩ (.int .i64 ((rd_T45 ((rd_T40 l0_2 x4_1).f2) x6_2).f2))).heap[gb127]? = some (.cells #[.int .i64 ((rd_T45 ((rd_T40 l0_2 x4_1).f2) x6_2).f0), .int .i64 ((rd_T45 ((rd_T40 l0_2 x4_1).f2) x6_2).f1.f0), .int .i64 ((rd_T45 ((rd_T40 l0_2 x4_1).f2) x6_2).f1.f1), .bool ((rd_T45 ((rd_T40 l0_2 x4_1).f2) x6_2).f1.f2), .bool ((rd_T45 ((rd_T40 l0_2 x4_1).f2) x6_2).f1.f3), .bool ((rd_T45 ((rd_T40 l0_2 x4_1).f2) x6_2).f1.f4), .int .i64 ((rd_T45 ((rd_T40 l0_2 x4_1).f2) x6_2).f2)] 45 (0, 0))) := ⟨by (with_reducible repeat (first | apply k1 | apply k2 | apply k3)); refine blk_put (cs := #[.int .i64 ((rd_T45 ((rd_T40 l0_2 x4_1).f2) x6_2).f0), .int .i64 ((rd_T45 ((rd_T40 l0_2 x4_1).f2) x6_2).f1.f0), .int .i64 ((rd_T45 ((rd_T40 l0_2 x4_1).f2) x6_2).f1.f1), .bool ((rd_T45 ((rd_T40 l0_2 x4_1).f2) x6_2).f1.f2), .bool ((rd_T45 ((rd_T40 l0_2 x4_1).f2) x6_2).f1.f3), .bool ((rd_T45 ((rd_T40 l0_2 x4_1).f2) x6_2).f1.f4), .int .i64 0]) ?_ 6 _ rfl; (with_reducible repeat (first | apply k1 | apply k2 | apply k3)); refine blk_put (cs := #[.int .i64 ((rd_T45 ((rd_T40 l0_2 x4_1).f2) x6_2).f0), .int .i64 ((rd_T45 ((rd_T40 l0_2 x4_1).f2) x6_2).f1.f0), .int .i64 ((rd_T45 ((rd_T40 l0_2 x4_1).f2) x6_2).f1.f1), .bool ((rd_T45 ((rd_T40 l0_2 x4_1).f2) x6_2).f1.f2), .bool ((rd_T45 ((rd_T40 l0_2 x4_1).f2) x6_2).f1.f3), .bool false, .int .i64 0]) ?_ 5 _ rfl; (with_reducible repeat (first | apply k1 | apply k2 | apply k3)); refine blk_put (cs := #[.int .i64 ((rd_T45 ((rd_T40 l0_2 x4_1).f2) x6_2).f0), .int .i64 ((rd_T45 ((rd_T40 l0_2 x4_1).f2) x6_2).f1.f0), .int .i64 ((rd_T45 ((rd_T40 l0_2 x4_1).f2) x6_2).f1.f1), .bool ((rd_T45 ((rd_T40 l0_2 x4_1).f2) x6_2).f1.f2), .bool false, .bool false, .int .i64 0]) ?_ 4 _ rfl; (with_reducible repeat (first | apply k1 | apply k2 | apply k3)); refine blk_put (cs := #[.int .i64 ((rd_T45 ((rd_T40 l0_2 x4_1).f2) x6_2).f0), .int .i64 ((rd_T45 ((rd_T40 l0_2 x4_1).f2) x6_2).f1.f0), .int .i64 ((rd_T45 ((rd_T40 l0_2 x4_1).f2) x6_2).f1.f1), .bool false, .bool false, .bool false, .int .i64 0]) ?_ 3 _ rfl; (with_reducible repeat (first | apply k1 | apply k2 | apply k3)); refine blk_put (cs := #[.int .i64 ((rd_T45 ((rd_T40 l0_2 x4_1).f2) x6_2).f0), .int .i64 ((rd_T45 ((rd_T40 l0_2 x4_1).f2) x6_2).f1.f0), .int .i64 0, .bool false, .bool false, .bool false, .int .i64 0]) ?_ 2 _ rfl; (with_reducible repeat (first | apply k1 | apply k2 | apply k3)); refine blk_put (cs := #[.int .i64 ((rd_T45 ((rd_T40 l0_2 x4_1).f2) x6_2).f0), .int .i64 0, .int .i64 0, .bool false, .bool false, .bool false, .int .i64 0]) ?_ 1 _ rfl; (with_reducible repeat (first | apply k1 | apply k2 | apply k3)); refine blk_put (cs := #[.int .i64 0, .int .i64 0, .int .i64 0, .bool false, .bool false, .bool false, .int .i64 0]) ?_ 0 _ rfl; (with_reducible repeat (first | apply k1 | apply k2 | apply k3)); exact BK127.out⟩
have n4_ : Aside0 (Below w.heap.size w (((((((w23.setCell ⟨gb127, 0, none⟩ (.int .i64 ((rd_T45 ((rd_T40 l0_2 x4_1).f2) x6_2).f0))).setCell ⟨gb127, 1, none⟩ (.int .i64 ((rd_T45 ((rd_T40 l0_2 x4_1).f2) x6_2).f1.f0))).setCell ⟨gb127, 2, none⟩ (.int .i64 ((rd_T45 ((rd_T40 l0_2 x4_1).f2) x6_2).f1.f1))).setCell ⟨gb127, 3, none⟩ (.bool ((rd_T45 ((rd_T40 l0_2 x4_1).f2) x6_2).f1.f2))).setCell ⟨gb127, 4, none⟩ (.bool ((rd_T45 ((rd_T40 l0_2 x4_1).f2) x6_2).f1.f3))).setCell ⟨gb127, 5, none⟩ (.bool ((rd_T45 ((rd_T40 l0_2 x4_1).f2) x6_2).f1.f4))).setCell ⟨gb127, 6, none⟩ (.int .i64 ((rd_T45 ((rd_T40 l0_2 x4_1).f2) x6_2).f2)))) := ⟨rb3 HB GE114 GE119 GE127⟩
(try clear HO_3)
(try clear BK114)
(try clear BK119)
(try clear BK127)
(try clear HB)
generalize (((((((w23.setCell ⟨gb127, 0, none⟩ (.int .i64 ((rd_T45 ((rd_T40 l0_2 x4_1).f2) x6_2).f0))).setCell ⟨gb127, 1, none⟩ (.int .i64 ((rd_T45 ((rd_T40 l0_2 x4_1).f2) x6_2).f1.f0))).setCell ⟨gb127, 2, none⟩ (.int .i64 ((rd_T45 ((rd_T40 l0_2 x4_1).f2) x6_2).f1.f1))).setCell ⟨gb127, 3, none⟩ (.bool ((rd_T45 ((rd_T40 l0_2 x4_1).f2) x6_2).f1.f2))).setCell ⟨gb127, 4, none⟩ (.bool ((rd_T45 ((rd_T40 l0_2 x4_1).f2) x6_2).f1.f3))).setCell ⟨gb127, 5, none⟩ (.bool ((rd_T45 ((rd_T40 l0_2 x4_1).f2) x6_2).f1.f4))).setCell ⟨gb127, 6, none⟩ (.int .i64 ((rd_T45 ((rd_T40 l0_2 x4_1).f2) x6_2).f2))) = w27 at n0_ n1_ n2_ n3_ n4_ ⊢
have HO_3 := n0_
have BK114 := n1_
have BK119 := n2_
have BK127 := n3_
have HB := n4_
clear n0_ n1_ n2_ n3_ n4_
replace HO_3 := am (Kd.R_drew HO_3.out)
replace BK114 := am (blk_drew BK114.out)
replace BK119 := am (blk_drew BK119.out)
replace BK127 := am (blk_drew BK127.out)
replace HB := am (below_drew1 HB.out)
refine start_ (n := 17) (S := fun w' => w'.cell? ⟨gb127, 0, none⟩ = some (.int .i64 ((rd_T45 ((rd_T40 l0_2 x4_1).f2) x6_2).f0)) ∧ w'.cell? ⟨gb127, 1, none⟩ = some (.int .i64 ((rd_T45 ((rd_T40 l0_2 x4_1).f2) x6_2).f1.f0)) ∧ w'.cell? ⟨gb127, 2, none⟩ = some (.int .i64 ((rd_T45 ((rd_T40 l0_2 x4_1).f2) x6_2).f1.f1)) ∧ w'.cell? ⟨gb127, 3, none⟩ = some (.bool ((rd_T45 ((rd_T40 l0_2 x4_1).f2) x6_2).f1.f2)) ∧ w'.cell? ⟨gb127, 4, none⟩ = some (.bool ((rd_T45 ((rd_T40 l0_2 x4_1).f2) x6_2).f1.f3)) ∧ w'.cell? ⟨gb127, 5, none⟩ = some (.bool ((rd_T45 ((rd_T40 l0_2 x4_1).f2) x6_2).f1.f4)) ∧ w'.cell? ⟨gb127, 6, none⟩ = some (.int .i64 ((rd_T45 ((rd_T40 l0_2 x4_1).f2) x6_2).f2))) (ds := []) (bm 17 0) (by kernel_rfl) rfl rfl (bc7 BK127) (fun hHeld => ?_); refine with_tabW spec_l10Numbers.tab11 spec_l10Numbers.bits11 (fun HT_ HW_ => ?_)
generalize w27.drew = w28 at HO_3 BK114 BK119 BK127 HB hHeld ⊢
refine pu_ 0 47 (bm 17 1) HT_.out ?_
refine pu_ 1 48 (bm 17 3) HT_.out ?_
refine pu_ 3 50 (bm 17 11) HT_.out ?_
refine pu_ 4 51 (bm 17 27) HT_.out ?_
refine pu_ 6 53 (bm 17 91) HT_.out ?_
refine pu_ 7 54 (bm 17 219) HT_.out ?_
refine pu_ 9 56 (bm 17 731) HT_.out ?_
refine pu_ 12 59 (bm 17 4827) HT_.out ?_
refine take_ (i := 2) (N := some 49) (v := ?_) (a' := ?_) (bm 17 4831) rfl rfl (take_ofW HT_.out HW_.out (by kernel_rfl)) (fun _ _ _ h => h) (Or.inl ⟨by rfl, ?_⟩) hHeld ?_ ?_
rotate_left
·(
rintro w' ⟨s0, s1, s2, s3, s4, s5, s6⟩
go_simp
with_reducible rfl
)
rotate_left
·(
simp only [Act.put, List.setIfInBounds_toArray, List.set_cons_zero, List.set_cons_succ, i64_w, i32_w]
rfl
)
refine take_ (i := 5) (N := some 52) (v := ?_) (a' := ?_) (bm 17 4863) rfl rfl (take_ofW HT_.out HW_.out (by kernel_rfl)) (fun _ _ _ h => h) (Or.inl ⟨by rfl, ?_⟩) hHeld ?_ ?_
rotate_left
·(
rintro w' ⟨s0, s1, s2, s3, s4, s5, s6⟩
go_simp
with_reducible rfl
)
rotate_left
·(
simp only [Act.put, List.setIfInBounds_toArray, List.set_cons_zero, List.set_cons_succ, i64_w, i32_w]
rfl
)
refine take_ (i := 8) (N := some 55) (v := ?_) (a' := ?_) (bm 17 5119) rfl rfl (take_ofW HT_.out HW_.out (by kernel_rfl)) (fun _ _ _ h => h) (Or.inl ⟨by rfl, ?_⟩) hHeld ?_ ?_
rotate_left
·(
rintro w' ⟨s0, s1, s2, s3, s4, s5, s6⟩
go_simp
with_reducible rfl
)
rotate_left
·(
simp only [Act.put, List.setIfInBounds_toArray, List.set_cons_zero, List.set_cons_succ, i64_w, i32_w]
rfl
)
refine take_ (i := 10) (N := some 57) (v := ?_) (a' := ?_) (bm 17 6143) rfl rfl (take_ofW HT_.out HW_.out (by kernel_rfl)) (fun _ _ _ h => h) (Or.inl ⟨by rfl, ?_⟩) hHeld ?_ ?_
rotate_left
·(
rintro w' ⟨s0, s1, s2, s3, s4, s5, s6⟩
go_simp
with_reducible rfl
)
rotate_left
·(
simp only [Act.put, List.setIfInBounds_toArray, List.set_cons_zero, List.set_cons_succ, i64_w, i32_w]
rfl
)
refine take_ (i := 13) (N := some 60) (v := ?_) (a' := ?_) (bm 17 14335) rfl rfl (take_ofW HT_.out HW_.out (by kernel_rfl)) (fun _ _ _ h => h) (Or.inl ⟨by rfl, ?_⟩) hHeld ?_ ?_
rotate_left
·(
rintro w' ⟨s0, s1, s2, s3, s4, s5, s6⟩
go_simp
with_reducible rfl
)
rotate_left
·(
simp only [Act.put, List.setIfInBounds_toArray, List.set_cons_zero, List.set_cons_succ, i64_w, i32_w]
rfl
)
refine one_ (i := 11) (N := some 58) (bm 17 16383) rfl rfl (one_of HT_.out (by kernel_rfl)) (by decide) (fun K hK => ?_)
refine goes_ Tryd.func31 (by kernel_rfl) rfl #[.agg #[.int .i64 ((rd_T45 ((rd_T40 l0_2 x4_1).f2) x6_2).f1.f0), .int .i64 ((rd_T45 ((rd_T40 l0_2 x4_1).f2) x6_2).f1.f1), .bool ((rd_T45 ((rd_T40 l0_2 x4_1).f2) x6_2).f1.f2), .bool ((rd_T45 ((rd_T40 l0_2 x4_1).f2) x6_2).f1.f3), .bool ((rd_T45 ((rd_T40 l0_2 x4_1).f2) x6_2).f1.f4)]] (by rfl) rfl rfl mt ?_
with_reducible refine (spec_l10Flags.calls ((rd_T45 ((rd_T40 l0_2 x4_1).f2) x6_2).f1.f0) ((rd_T45 ((rd_T40 l0_2 x4_1).f2) x6_2).f1.f1) ((rd_T45 ((rd_T40 l0_2 x4_1).f2) x6_2).f1.f2) ((rd_T45 ((rd_T40 l0_2 x4_1).f2) x6_2).f1.f3) ((rd_T45 ((rd_T40 l0_2 x4_1).f2) x6_2).f1.f4) t128 _ A19.out).mono ?_
rintro e w29 ⟨rfl, hb⟩
refine ⟨_, rfl, ?_⟩
replace HO_3 := am (Kd.R_below (rr HO_3) hb)
replace BK114 := am (blk_below (rk BK114) hb)
replace BK119 := am (blk_below (rk BK119) hb)
replace BK127 := am (blk_below (rk BK127) hb)
replace HB := am (below_step (rb3 HB GE114 GE119 GE127) hb)
(try clear hb)
refine hK.out _ _ (bc7 BK127) (fun hHeld => ?_)
clear hK K
refine norm_ (a' := _) (show Act.put _ (some 58) _ = _ from na) ?_
refine one_ (i := 14) (N := some 61) (bm 17 32767) rfl rfl (one_of HT_.out (by kernel_rfl)) (by decide) (fun K hK => ?_)
refine Kd.R_lit_step (Kd.int .i64) _ 2 ?hg (N := 61) ?hd (xs := ([(rd_T45 ((rd_T40 l0_2 x4_1).f2) x6_2).f0, (rd_T45 ((rd_T40 l0_2 x4_1).f2) x6_2).f1.f0, (rd_T45 ((rd_T40 l0_2 x4_1).f2) x6_2).f1.f1, t128, (rd_T45 ((rd_T40 l0_2 x4_1).f2) x6_2).f2] : List Int)) (inner := [.int .i64 ((rd_T45 ((rd_T40 l0_2 x4_1).f2) x6_2).f0), .int .i64 ((rd_T45 ((rd_T40 l0_2 x4_1).f2) x6_2).f1.f0), .int .i64 ((rd_T45 ((rd_T40 l0_2 x4_1).f2) x6_2).f1.f1), .int .i64 t128, .int .i64 ((rd_T45 ((rd_T40 l0_2 x4_1).f2) x6_2).f2)]) (ok := fun _ => True) (okp := fun _ => True) ?hr ?hp (fun _ hk => hk) trivial (Below.refl _ _) (Nat.le_refl _) (by simp) ?_; (case hd => rfl); (case hg => rfl); (case hr => first | (go_simp; done) | (go_simp; rfl)); (case hp => exact (Reps.one (show Kd.M (Kd.int .i64) _ _ _ ((rd_T45 ((rd_T40 l0_2 x4_1).f2) x6_2).f0) [.int .i64 ((rd_T45 ((rd_T40 l0_2 x4_1).f2) x6_2).f0)] from rfl) (Reps.one (show Kd.M (Kd.int .i64) _ _ _ ((rd_T45 ((rd_T40 l0_2 x4_1).f2) x6_2).f1.f0) [.int .i64 ((rd_T45 ((rd_T40 l0_2 x4_1).f2) x6_2).f1.f0)] from rfl) (Reps.one (show Kd.M (Kd.int .i64) _ _ _ ((rd_T45 ((rd_T40 l0_2 x4_1).f2) x6_2).f1.f1) [.int .i64 ((rd_T45 ((rd_T40 l0_2 x4_1).f2) x6_2).f1.f1)] from rfl) (Reps.one (show Kd.M (Kd.int .i64) _ _ _ t128 [.int .i64 t128] from rfl) (Reps.one (show Kd.M (Kd.int .i64) _ _ _ ((rd_T45 ((rd_T40 l0_2 x4_1).f2) x6_2).f2) [.int .i64 ((rd_T45 ((rd_T40 l0_2 x4_1).f2) x6_2).f2)] from rfl) (Reps.none _ _)))))))
intro v130 w30 ho31 hb hg_ hnew_
clear hg_ hnew_
(first | rw [← Ny129.out] at ho31 | (simp only [Int.reduceToNat] at ho31; rw [← Ny129.out] at ho31))
have HO131 := am (Kd.R_lower (Kd.R_new' ho31 (Kd.R_lt (rr HO_3))) (below_size (rb3 HB GE114 GE119 GE127)))
replace HO_3 := am (Kd.R_elder' (rr HO_3) (Kd.R_base ho31) hb)
replace BK114 := am (blk_below (rk BK114) hb)
replace BK119 := am (blk_below (rk BK119) hb)
replace BK127 := am (blk_below (rk BK127) hb)
replace HB := am (below_step (rb3 HB GE114 GE119 GE127) hb)
clear hb ho31
obtain ⟨Ao33, co33, eo33⟩ := Kd.R_slice HO131.out
(first | subst eo33 | (injection eo33 with f1_ f2_ f3_; have f4_ := f1_.symm; have f5_ := f3_.symm; clear f1_ f2_ f3_; subst f4_; subst f5_))
refine hK.out _ _ (bc7 BK127) (fun hHeld => ?_)
clear hK K
refine norm_ (a' := _) (show Act.put _ (some 61) _ = _ from na) ?_
refine one_ (i := 15) (N := some 62) (bm 17 65535) rfl rfl (one_of HT_.out (by kernel_rfl)) (by decide) (fun K hK => ?_)
refine Kd.R_append_rows_step (Kd.int .i64) (w0 := w) w.heap.size (by rfl) (.tmp 47) (.tmp 61) 47 2 (.int .i64 0) 8 rfl Tryd.underlying47 info2 rfl (by decide) (by omega) u3 x3_2 y129 _ _ _ (fun k_ => some k_ ≠ (.slice Ao33 y129.length co33 : Value).ownBlock) (fun _ => False) rfl rfl ?aO ?aR (fun _ _ h => h) (fun _ h => h.elim) ?aF ?aB ?aS ?aL ?_
(case aR => repeat (first | exact (Kd.R_reads' HO131.out).2.2 | (with_reducible refine Kd.C_alloc ?_ _) | (with_reducible refine Kd.C_drewN ?_ _) | (with_reducible refine Kd.C_drew ?_)))
(case aB => exact (rb3 HB GE114 GE119 GE127))
(case aF => exact (fun k_ hk => Kd.fresh' (Kd.R_lt (rr HO131)) k_ hk))
(case aO => exact (rrm HO_3))
(case aS => exact (below_size (rb3 HB GE114 GE119 GE127)))
(case aL => have := LMc20.out; omega)
intro v133 w32 ho hb hg hat
rw [← Ny132.out] at ho
replace BK114 := am (blk_grown (rk BK114) hg (Kd.R_ne HO_3.out BK114.out (by decide)))
replace BK119 := am (blk_grown (rk BK119) hg (Kd.R_ne HO_3.out BK119.out (by decide)))
replace BK127 := am (blk_grown (rk BK127) hg (Kd.R_ne HO_3.out BK127.out (by decide)))
replace HO131 := am (Kd.R_after (ok := (fun _ => True)) (rr HO131) hg hat)
replace HB := am (hb)
have HO134 := am (ho)
clear HO_3
clear ho hb hg hat
refine hK.out _ _ (bc7 BK127) (fun hHeld => ?_)
clear hK K
refine norm_ (a' := _) (show Act.put _ (some 62) _ = _ from na) ?_
refine pu_ 16 3 (bm 17 131071) HT_.out ?_
refine done_ (done_of HT_.out (by kernel_rfl)) ?_
try go_wp2
go_roundg k2
case measure => have := HK1.out; have := HK2.out; omega
case rel => exact ⟨(y132), (wrap64 (x6_2 + 1)), (by first | rfl | (simp; done) | (simp [*]; done)), H', ⟨by have := HK1.out; have := HK2.out; omega⟩, ⟨Rm0 HO134⟩, ⟨rk BK114⟩, ⟨rk BK119⟩, ⟨rb3 HB GE114 GE119 GE127⟩⟩
)
)
·(
rw [if_neg c17] at H
have c17b0 : decide (x6_2 < (((rd_T40 l0_2 x4_1).f2).length : Int)) = false := decide_eq_false c17
clear c17
have H' := am H
clear H
have hnb34 := NB119_114.out
have hnc34 := NB114_119.out
have hcz35_0 : wr.cell? ⟨gb119, 0, none⟩ = some (.int .i64 ((rd_T40 l0_2 x4_1).f0)) := (blk_cell BK119.out 0).trans rfl
have hcz35_1 : wr.cell? ⟨gb119, 1, none⟩ = some (.int .i64 ((rd_T40 l0_2 x4_1).f1)) := (blk_cell BK119.out 1).trans rfl
have hcz35_2 : wr.cell? ⟨gb119, 2, none⟩ = some (.slice A118_2 ((rd_T40 l0_2 x4_1).f2).length c118_2) := (blk_cell BK119.out 2).trans rfl
have hfz35_0 := blk_frozen BK119.out 0
have hfz35_1 := blk_frozen BK119.out 1
have hfz35_2 := blk_frozen BK119.out 2
go_wp2
go_roundg k2
case measure => have := HK1.out; have := HK2.out; omega
case rel => exact ⟨(x3_2), (wrap64 (x4_1 + 1)), (by first | rfl | (simp; done) | (simp [*]; done)), H', ⟨by have := HK1.out; have := HK2.out; omega⟩, ⟨rr HO_3⟩, ⟨rk BK114⟩, ⟨rb2 HB GE114 GE119⟩⟩
)
)
)
)
)
·(
rw [if_neg c6] at H
have c6b0 : decide (x4_1 < (l0_2.length : Int)) = false := decide_eq_false c6
clear c6
obtain rfl := Option.some.inj H
have hcz36_0 : wr.cell? ⟨gb114, 0, none⟩ = some (.int .i64 a0_0) := (blk_cell BK114.out 0).trans rfl
have hcz36_1 : wr.cell? ⟨gb114, 1, none⟩ = some (.int .i64 a0_1) := (blk_cell BK114.out 1).trans rfl
have hcz36_2 : wr.cell? ⟨gb114, 2, none⟩ = some (.slice A0_2 l0_2.length c0_2) := (blk_cell BK114.out 2).trans rfl
have hfz36_0 := blk_frozen BK114.out 0
have hfz36_1 := blk_frozen BK114.out 1
have hfz36_2 := blk_frozen BK114.out 2
go_wp2
go_ret
exact ⟨_, by first | rfl | (simp [errW_none, errW_some] <;> rfl) | (simp [*, errW_none, errW_some] <;> rfl), by (with_reducible repeat (first | apply r1 | apply r2 | apply r3)); exact HO_3.out, by repeat (first | (with_reducible first | exact HB.out | apply b1 | apply b2 | apply b3 | refine below_set ?_ GE114.out) | exact HB.out)⟩
)
)
)
)

end Go.Proofs.YtalopdcephohgaaDoor.SA
