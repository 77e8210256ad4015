/- Contracts of Go functions that laws of this seat reach: each Lean function answers as its Go function does. No condition. Written by wip/tools/inj.py, over the kit's print. -/
import Derived.Test.YtalopdcephohgaaDoorSAx0
import Derived.Test.YtalopdcephohgaaDoorSAx5
import Derived.Test.YtalopdcephohgaaDoorSAx6
namespace Go.Proofs.YtalopdcephohgaaDoor.SA
open Go.RowKit Go.Proofs.YtalopdcephohgaaDoorW.PrintWords Go.Proofs.YtalopdcephohgaaDoorW.PrintLast Go.Proofs.YtalopdcephohgaaDoorW.PrintMore
attribute [local go_sem] max2_int min2_int max_two min_two max_three min_three max_four min_four   -- for this text's walks alone
set_option linter.unusedVariables false
set_option linter.unusedSimpArgs false

/-! ### impl_Patch_numbers: function 20 -/
mutual
def impl_Patch_numbers.l0 : Nat → List Int → List (S40) → Int → Int → Option (List Int × Bool)
 | 0, _, _, _, _ => none
 | k + 1, x4, x15, x16, x17 => if x17 < x16 then (if 0 ≤ x17 then (if x17 < (x15.length : Int) then ((impl_in.f (((rd_T40 x15 x17).f2).length : Int) 1 60).bind fun t225 => (if t225 = true then ((some (([(rd_T40 x15 x17).f0, (rd_T40 x15 x17).f1, (((rd_T40 x15 x17).f2).length : Int)] : List Int) : List Int)).bind fun y226 => (if x4.length + y226.length < 17592186044416 then (impl_Patch_numbers.l1 k (x4 ++ y226) x15 x16 x17 ((rd_T40 x15 x17).f2) (((rd_T40 x15 x17).f2).length : Int) 0) else (none))) else (some (([] : List Int), false)))) else (none)) else (none)) else ((slices_ContainsFunc_int64_int64_impl_Patch_numbers_lit1.f k x4).bind fun t222 => (some (x4, !t222)))
def impl_Patch_numbers.l1 : Nat → List Int → List (S40) → Int → Int → List (S45) → Int → Int → Option (List Int × Bool)
 | 0, _, _, _, _, _, _, _ => none
 | k + 1, x4, x15, x16, x17, x37, x38, x39 => if x39 < x38 then (if 0 ≤ x39 then (if x39 < (x37.length : Int) then ((impl_StyleOk.f ((rd_T45 x37 x39).f1.f0) ((rd_T45 x37 x39).f1.f1) ((rd_T45 x37 x39).f1.f2) ((rd_T45 x37 x39).f1.f3) ((rd_T45 x37 x39).f1.f4)).bind fun t234 => (if t234 = true then ((impl_Style_flags.f ((rd_T45 x37 x39).f1.f0) ((rd_T45 x37 x39).f1.f1) ((rd_T45 x37 x39).f1.f2) ((rd_T45 x37 x39).f1.f3) ((rd_T45 x37 x39).f1.f4)).bind fun t235 => ((some (([(rd_T45 x37 x39).f0, (rd_T45 x37 x39).f1.f0, (rd_T45 x37 x39).f1.f1, t235, (rd_T45 x37 x39).f2] : List Int) : List Int)).bind fun y236 => (if x4.length + y236.length < 17592186044416 then (impl_Patch_numbers.l1 k (x4 ++ y236) x15 x16 x17 x37 x38 (wrap64 (x39 + 1))) else (none)))) else (some (([] : List Int), false)))) else (none)) else (none)) else (impl_Patch_numbers.l0 k x4 x15 x16 (wrap64 (x17 + 1)))
end
def impl_Patch_numbers.f (k : Nat) (a0_0 : Int) (a0_1 : Int) (l0_2 : List (S40)) : Option (List Int × Bool) := impl_Patch_numbers.l0 k (([a0_0, a0_1] : List Int)) l0_2 (l0_2.length : Int) 0
theorem impl_Patch_numbers.mono_l : ∀ k, (∀ y0 y1 y2 y3, LeO (impl_Patch_numbers.l0 k y0 y1 y2 y3) (impl_Patch_numbers.l0 (k + 1) y0 y1 y2 y3)) ∧ (∀ y0 y1 y2 y3 y4 y5 y6, LeO (impl_Patch_numbers.l1 k y0 y1 y2 y3 y4 y5 y6) (impl_Patch_numbers.l1 (k + 1) y0 y1 y2 y3 y4 y5 y6))
 | 0 => ⟨fun _ _ _ _ r h => by simp [impl_Patch_numbers.l0] at h, fun _ _ _ _ _ _ _ r h => by simp [impl_Patch_numbers.l1] at h⟩
 | k + 1 => by
  obtain ⟨ih0, ih1⟩ := impl_Patch_numbers.mono_l k
  refine ⟨?_, ?_⟩
  ·intro y0 y1 y2 y3
   unfold impl_Patch_numbers.l0
   repeat' first
   | (with_reducible exact ih0 _ _ _ _)
   | (with_reducible exact ih1 _ _ _ _ _ _ _)
   | (with_reducible exact slices_ContainsFunc_int64_int64_impl_Patch_numbers_lit1.mono _ _)
   | (with_reducible exact LeO.refl _)
   | (with_reducible exact LeO.none _)
   | (with_reducible refine LeO.ite ?_ ?_)
   | (with_reducible refine LeO.bind ?_ (fun _ => ?_))
  ·intro y0 y1 y2 y3 y4 y5 y6
   unfold impl_Patch_numbers.l1
   repeat' first
   | (with_reducible exact ih0 _ _ _ _)
   | (with_reducible exact ih1 _ _ _ _ _ _ _)
   | (with_reducible exact slices_ContainsFunc_int64_int64_impl_Patch_numbers_lit1.mono _ _)
   | (with_reducible exact LeO.refl _)
   | (with_reducible exact LeO.none _)
   | (with_reducible refine LeO.ite ?_ ?_)
   | (with_reducible refine LeO.bind ?_ (fun _ => ?_))
theorem impl_Patch_numbers.mono : ∀ a0 a1 a2 k, LeO (impl_Patch_numbers.f k a0 a1 a2) (impl_Patch_numbers.f (k + 1) a0 a1 a2) := by
 intro a0 a1 a2 k
 obtain ⟨ih0, ih1⟩ := impl_Patch_numbers.mono_l k
 unfold impl_Patch_numbers.f
 repeat' first
   | (with_reducible exact ih0 _ _ _ _)
   | (with_reducible exact ih1 _ _ _ _ _ _ _)
   | (with_reducible exact slices_ContainsFunc_int64_int64_impl_Patch_numbers_lit1.mono _ _)
   | (with_reducible exact LeO.refl _)
   | (with_reducible exact LeO.none _)
   | (with_reducible refine LeO.ite ?_ ?_)
   | (with_reducible refine LeO.bind ?_ (fun _ => ?_))
def impl_Patch_numbers.T13 : Bool × List (List Nat × List Nat) := (true, [([], []), ([], []), ([1], [1]), ([], []), ([3], [3]), ([4], [4]), ([], []), ([6], [6]), ([7], [7]), ([], []), ([9], [9]), ([10], [10]), ([], []), ([12], [12]), ([2, 5, 8, 11, 13], [2, 5, 8, 11, 13]), ([0, 14, 11], [0, 14]), ([15, 15, 0, 1, 2, 3, 4, 5, 6, 7, 8, 9, 10, 11, 12, 13, 14, 15], [0, 15])])
def impl_Patch_numbers.B13 : List Nat := [0, 0, 2, 0, 8, 24, 0, 64, 192, 0, 512, 1536, 0, 4096, 16382, 32767, 65535]
theorem impl_Patch_numbers.tab13 : rtab .any (opsOf Tryd.f20 13) = impl_Patch_numbers.T13 := by kernel_rfl
theorem impl_Patch_numbers.bits13 : waitsOk impl_Patch_numbers.T13.2 impl_Patch_numbers.B13 = true := by kernel_rfl
set_option maxHeartbeats 8000000 in
set_option maxRecDepth 100000 in
theorem impl_Patch_numbers.calls (k : Nat) (a0_0 : Int) (a0_1 : Int) (A0_2 : Option Addr) (c0_2 : Nat) (l0_2 : List (S40)) (r1 : List Int) (r2 : Bool) (w : World) (hr0_2 : Kd.C k40 w A0_2 l0_2.length l0_2) (hc0_2 : l0_2.length ≤ c0_2) (h : impl_Patch_numbers.f k a0_0 a0_1 l0_2 = some (r1, r2)) :
  Calls Tryd.prog 20 #[.agg #[.int .i64 a0_0, .int .i64 a0_1, .slice A0_2 l0_2.length c0_2]] w fun e w' => ∃ v0_ : Value, e = .returned (.tuple #[v0_, .bool r2]) ∧ Kd.R (Kd.int .i64) 2 w' w.heap.size (fun _ => True) v0_ r1 ∧ Below w.heap.size w w' := by
 (
have hu29 := Tryd.underlying29
have hu40 := Tryd.underlying40
have hu45 := Tryd.underlying45
have hu43 := Tryd.underlying43
have HR0_2 := am hr0_2
have HC0_2 := am hc0_2
clear hr0_2 hc0_2
have HB := am (Below.refl w.heap.size w)
have H : (impl_Patch_numbers.l0 k (([a0_0, a0_1] : List Int)) l0_2 (l0_2.length : Int) 0) = some (r1, r2) := h
clear h
obtain ⟨y219, hy219⟩ : ∃ y_ : List Int, y_ = (([a0_0, a0_1] : List Int)) := ⟨_, rfl⟩
replace H : (impl_Patch_numbers.l0 k y219 l0_2 (l0_2.length : Int) 0) = some (r1, r2) := by first | (rw [hy219]; with_reducible exact H) | (rw [hy219]; exact H) | exact H
have Ny219 := am hy219
clear hy219
have H' := am H
clear H
go_enter Tryd.func20, Tryd.ntmps20
go_wp2_with (first | ((with_reducible refine gate_dst (N := 1) rfl ?_); refine box_event ?hg (N := 1) ?hd (cs := #[.int .i64 a0_0, .int .i64 a0_1, .slice A0_2 l0_2.length c0_2]) (t := 29) ?hr ?_; (case hd => rfl); (case hg => rfl); (case hr => first | (go_simp; done) | (go_simp; rfl)); intro gb218 hg w2 hbox hb; have BK218 := am (hbox); have GW218 := am (gw hg (rb HB)); have GE218 := GW218; replace HB := am (below_step (rb HB) hb); clear hb hbox hg; have hcz3_0 : w2.cell? ⟨gb218, 0, none⟩ = some (.int .i64 a0_0) := (blk_cell BK218.out 0).trans rfl; have hcz3_1 : w2.cell? ⟨gb218, 1, none⟩ = some (.int .i64 a0_1) := (blk_cell BK218.out 1).trans rfl; have hcz3_2 : w2.cell? ⟨gb218, 2, none⟩ = some (.slice A0_2 l0_2.length c0_2) := (blk_cell BK218.out 2).trans rfl; have hfz3_0 := blk_frozen BK218.out 0; have hfz3_1 := blk_frozen BK218.out 1; have hfz3_2 := blk_frozen BK218.out 2) | ((with_reducible refine gate_dst (N := 13) rfl ?_); refine Kd.R_lit (Kd.int .i64) _ 2 ?hg (N := 13) ?hd (xs := ([a0_0, a0_1] : List Int)) (inner := [.int .i64 a0_0, .int .i64 a0_1]) (ok := fun _ => True) (okp := fun _ => True) ?hr ?hp (fun _ hk => hk) trivial (Below.refl _ _) (Nat.le_refl _) (by simp) ?_; (case hd => rfl); (case hg => rfl); (case hr => first | (go_simp; done) | (go_simp; rfl)); (case hp => exact (Reps.one (show Kd.M (Kd.int .i64) _ _ _ a0_0 [.int .i64 a0_0] from rfl) (Reps.one (show Kd.M (Kd.int .i64) _ _ _ a0_1 [.int .i64 a0_1] from rfl) (Reps.none _ _)))); intro v220 w4 ho5 hb hg_ hnew_; clear hg_ hnew_; (first | rw [← Ny219.out] at ho5 | (simp only [Int.reduceToNat] at ho5; rw [← Ny219.out] at ho5)); have HO221 := am (Kd.R_lower ho5 (below_size (rb1 HB GE218))); replace BK218 := am (blk_below (rk BK218) hb); replace HB := am (below_step (rb1 HB GE218) hb); clear hb ho5; have hcz6_0 : w4.cell? ⟨gb218, 0, none⟩ = some (.int .i64 a0_0) := (blk_cell BK218.out 0).trans rfl; have hcz6_1 : w4.cell? ⟨gb218, 1, none⟩ = some (.int .i64 a0_1) := (blk_cell BK218.out 1).trans rfl; have hcz6_2 : w4.cell? ⟨gb218, 2, none⟩ = some (.slice A0_2 l0_2.length c0_2) := (blk_cell BK218.out 2).trans rfl; have hfz6_0 := blk_frozen BK218.out 0; have hfz6_1 := blk_frozen BK218.out 1; have hfz6_2 := blk_frozen BK218.out 2))
go_loopg [4, 17] k (fun kq v4 v17 w' => ∃ (x4_1 : List Int) (x17_1 : Int), v17 = .int .i64 x17_1 ∧ Aside0 (impl_Patch_numbers.l0 kq x4_1 l0_2 (l0_2.length : Int) x17_1 = some (r1, r2)) ∧ Aside0 (kq ≤ k) ∧ Aside0 (Kd.R (Kd.int .i64) 2 w' w.heap.size (fun _ => True) v4 x4_1) ∧ Aside0 (w'.heap[gb218]? = some (.cells #[.int .i64 a0_0, .int .i64 a0_1, (.slice A0_2 l0_2.length c0_2)] 29 (0, 0))) ∧ Aside0 (Below w.heap.size w w'))
case atStart => exact ⟨(y219), (0), (by first | rfl | (simp; done) | (simp [*]; done)), H', ⟨Nat.le_refl _⟩, ⟨rr HO221⟩, ⟨rk BK218⟩, ⟨by repeat (first | (with_reducible first | exact HB.out | apply b1 | apply b2 | apply b3 | refine below_set ?_ GE218.out) | exact HB.out)⟩⟩
case round => (
clear H'
try clear c2
try clear p2
try clear hcz3_0
try clear hcz3_1
try clear hcz3_2
try clear hcz6_0
try clear hcz6_1
try clear hcz6_2
try clear hfz3_0
try clear hfz3_1
try clear hfz3_2
try clear hfz6_0
try clear hfz6_1
try clear hfz6_2
obtain ⟨x4_1, x17_1, rfl, HA, HK1, HO_4, BK218, HB⟩ := hrel
cases gk with
| zero => exact absurd HA.out (by simp [impl_Patch_numbers.l0])
| succ k1 => (
have H := HA.out
clear HA
simp only [impl_Patch_numbers.l0] at H
by_cases c7 : x17_1 < (l0_2.length : Int)
·(
rw [if_pos c7] at H
have c7b0 : decide (x17_1 < (l0_2.length : Int)) = true := decide_eq_true c7
clear c7
refine em_ (p := 0 ≤ x17_1) (fun c8 => ?g3p) (fun c8 => ?g3n)
case' g3p => (
rw [if_pos c8] at H
have c8b0 : decide (0 ≤ x17_1) = true := decide_eq_true c8
clear c8
refine em_ (p := x17_1 < (l0_2.length : Int)) (fun c9 => ?g2p) (fun c9 => ?g2n)
case' g2p => (
rw [if_pos c9] at H
have c9b0 : decide (x17_1 < (l0_2.length : Int)) = true := decide_eq_true c9
clear c9
replace H := Option.bind_eq_some_iff.mp H
obtain ⟨t225, A100, H⟩ := H
(try dsimp only at H)
have A10 := am A100
clear A100
refine em_ (p := t225 = true) (fun c11 => ?g1p) (fun c11 => ?g1n)
case' g1p => (
subst c11
rw [if_pos rfl] at H
obtain ⟨y226, hy226⟩ : ∃ y_ : List Int, y_ = (([(rd_T40 l0_2 x17_1).f0, (rd_T40 l0_2 x17_1).f1, (((rd_T40 l0_2 x17_1).f2).length : Int)] : List Int)) := ⟨_, rfl⟩
replace H : (if x4_1.length + y226.length < 17592186044416 then (impl_Patch_numbers.l1 k1 (x4_1 ++ y226) l0_2 (l0_2.length : Int) x17_1 ((rd_T40 l0_2 x17_1).f2) (((rd_T40 l0_2 x17_1).f2).length : Int) 0) else (none)) = some (r1, r2) := by first | (rw [hy226]; with_reducible exact H) | (rw [hy226]; exact H) | exact H
have Ny226 := am hy226
clear hy226
refine em_ (p := x4_1.length + y226.length < 17592186044416) (fun c12 => ?g0p) (fun c12 => ?g0n)
case' g0p => (
rw [if_pos c12] at H
have LMc12 := am c12
clear c12
obtain ⟨y229, hy229⟩ : ∃ y_ : List Int, y_ = (x4_1 ++ y226) := ⟨_, rfl⟩
replace H : (impl_Patch_numbers.l1 k1 y229 l0_2 (l0_2.length : Int) x17_1 ((rd_T40 l0_2 x17_1).f2) (((rd_T40 l0_2 x17_1).f2).length : Int) 0) = some (r1, r2) := by first | (rw [hy229]; with_reducible exact H) | (rw [hy229]; exact H) | exact H
have Ny229 := am hy229
clear hy229
have H' := am H
clear H
have lf1_ := trivial
)
case g0n => (
rw [if_neg c12] at H
exact absurd H (by simp)
)
)
case' g1n => (
replace c11 := Bool.eq_false_iff.mpr c11
subst c11
rw [if_neg (show ¬ (false = true) by decide)] at H
simp only [Option.some.injEq, Prod.mk.injEq] at H
obtain ⟨rfl, rfl⟩ := H
have lf2_ := trivial
)
)
case g2n => (
rw [if_neg c9] at H
exact absurd H (by simp)
)
)
case g3n => (
rw [if_neg c8] at H
exact absurd H (by simp)
)
all_goals (
have p223 : 0 ≤ (x17_1 : Int) := dt_
have q223 : x17_1 < (l0_2.length : Int) := dt_
obtain ⟨ad223, A223_2, c223_2, e223, hx223_0, hx223_1, hx223_2, hl223_2, hi223_2⟩ := at_T40 HR0_2.out x17_1 p223 q223
cases e223
replace hx223_0 := mv HB.out hx223_0
replace hx223_1 := mv HB.out hx223_1
replace hx223_2 := mv HB.out hx223_2
have HR223_2 := am hi223_2
have HC223_2 := am hl223_2
clear hi223_2 hl223_2
replace p223 := eq_true p223
replace q223 := eq_true q223
go_wp2_with (first | ((with_reducible refine gate_dst (N := 34) rfl ?_); refine Kd.R_lit (Kd.int .i64) _ 2 ?hg (N := 34) ?hd (xs := ([(rd_T40 l0_2 x17_1).f0, (rd_T40 l0_2 x17_1).f1, (((rd_T40 l0_2 x17_1).f2).length : Int)] : List Int)) (inner := [.int .i64 ((rd_T40 l0_2 x17_1).f0), .int .i64 ((rd_T40 l0_2 x17_1).f1), .int .i64 (((rd_T40 l0_2 x17_1).f2).length : Int)]) (ok := fun _ => True) (okp := fun _ => True) ?hr ?hp (fun _ hk => hk) trivial (Below.refl _ _) (Nat.le_refl _) (by simp) ?_; (case hd => rfl); (case hg => rfl); (case hr => first | (go_simp; done) | (go_simp; rfl)); (case hp => exact (Reps.one (show Kd.M (Kd.int .i64) _ _ _ ((rd_T40 l0_2 x17_1).f0) [.int .i64 ((rd_T40 l0_2 x17_1).f0)] from rfl) (Reps.one (show Kd.M (Kd.int .i64) _ _ _ ((rd_T40 l0_2 x17_1).f1) [.int .i64 ((rd_T40 l0_2 x17_1).f1)] from rfl) (Reps.one (show Kd.M (Kd.int .i64) _ _ _ (((rd_T40 l0_2 x17_1).f2).length : Int) [.int .i64 (((rd_T40 l0_2 x17_1).f2).length : Int)] from rfl) (Reps.none _ _))))); intro v227 w16 ho17 hb hg_ hnew_; clear hg_ hnew_; (first | rw [← Ny226.out] at ho17 | (simp only [Int.reduceToNat] at ho17; rw [← Ny226.out] at ho17)); have HO228 := am (Kd.R_lower (Kd.R_new' ho17 (Kd.R_lt (Rf3 HO_4 BK224))) (below_size (rb2 HB GE218 GE224))); replace HO_4 := am (Kd.R_elder' (Rf3 HO_4 BK224) (Kd.R_base ho17) hb); replace BK218 := am (blk_below (g := gb218) (o := .cells #[.int .i64 a0_0, .int .i64 a0_1, .slice (some ad223) l0_2.length c0_2] 29 (0, 0)) (rf3 NB218_224 BK218) hb); replace BK224 := am (blk_below (g := gb224) (o := .cells #[.int .i64 ((rd_T40 l0_2 x17_1).f0), .int .i64 ((rd_T40 l0_2 x17_1).f1), .slice A223_2 ((rd_T40 l0_2 x17_1).f2).length c223_2] 40 (0, 0)) (rp_0_1_2 BK224) hb); replace HB := am (below_step (rb2 HB GE218 GE224) hb); clear hb ho17; obtain ⟨Ao19, co19, eo19⟩ := Kd.R_slice HO228.out; subst eo19) | ((with_reducible refine gate_builtin (b := .append) (xs := #[.tmp 26, .tmp 34]) rfl ?_); at_builtin; refine Kd.R_append_rows (Kd.int .i64) (w0 := w) w.heap.size rfl (.tmp 26) (.tmp 34) 47 2 (.int .i64 0) 8 rfl Tryd.underlying47 info2 rfl (by decide) (by omega) u4 x4_1 y226 _ _ _ (fun k_ => some k_ ≠ (.slice Ao19 y226.length co19 : Value).ownBlock) (fun _ => False) rfl rfl ?aO ?aR (fun _ _ h => h) (fun _ h => h.elim) ?aF ?aB ?aS ?aL ?_; (case aR => repeat (first | exact (Kd.R_reads' HO228.out).2.2 | (with_reducible refine Kd.C_alloc ?_ _) | (with_reducible refine Kd.C_drewN ?_ _) | (with_reducible refine Kd.C_drew ?_))); (case aB => exact (rb2 HB GE218 GE224)); (case aF => exact (fun k_ hk => Kd.fresh' (Kd.R_lt (rr HO228)) k_ hk)); (case aO => exact (rrm HO_4)); (case aS => exact (below_size (rb2 HB GE218 GE224))); (case aL => have := LMc12.out; omega); intro v230 w18 ho hb hg hat; rw [← Ny229.out] at ho; replace BK218 := am (blk_grown (rk BK218) hg (Kd.R_ne HO_4.out BK218.out (by decide))); replace BK224 := am (blk_grown (rk BK224) hg (Kd.R_ne HO_4.out BK224.out (by decide))); replace HO228 := am (Kd.R_after (ok := (fun _ => True)) (rr HO228) hg hat); replace HB := am (hb); have HO231 := am (ho); clear HO_4; clear ho hb hg hat; have hcz20_0 : w18.cell? ⟨gb224, 0, none⟩ = some (.int .i64 ((rd_T40 l0_2 x17_1).f0)) := (blk_cell BK224.out 0).trans rfl; have hcz20_1 : w18.cell? ⟨gb224, 1, none⟩ = some (.int .i64 ((rd_T40 l0_2 x17_1).f1)) := (blk_cell BK224.out 1).trans rfl; have hcz20_2 : w18.cell? ⟨gb224, 2, none⟩ = some (.slice A223_2 ((rd_T40 l0_2 x17_1).f2).length c223_2) := (blk_cell BK224.out 2).trans rfl; have hfz20_0 := blk_frozen BK224.out 0; have hfz20_1 := blk_frozen BK224.out 1; have hfz20_2 := blk_frozen BK224.out 2) | ((with_reducible refine gate_dst (N := 6) rfl ?_); refine box_event ?hg (N := 6) ?hd (cs := #[.int .i64 0, .int .i64 0, .slice none 0 0]) (t := 40) ?hr ?_; (case hd => rfl); (case hg => rfl); (case hr => first | (go_simp; done) | (go_simp; rfl)); intro gb224 hg w13 hbox hb; replace HO_4 := am (Kd.R_below (rr HO_4) hb); have BK224 := am (hbox); have GW224 := am (gw hg (rb1 HB GE218)); have GE224 := GW224; replace HB := am (below_step (rb1 HB GE218) hb); have NB218_224 := am (nl hg (rk BK218)); have NB224_218 := am (ng hg (rk BK218)); replace BK218 := am (blk_below (rk BK218) hb); clear hb hbox hg; have hnb14 := NB224_218.out; have hnc14 := NB218_224.out; have hcz15_0 : w13.cell? ⟨gb224, 0, none⟩ = some (.int .i64 0) := (blk_cell BK224.out 0).trans rfl; have hcz15_1 : w13.cell? ⟨gb224, 1, none⟩ = some (.int .i64 0) := (blk_cell BK224.out 1).trans rfl; have hcz15_2 : w13.cell? ⟨gb224, 2, none⟩ = some (.slice none 0 0) := (blk_cell BK224.out 2).trans rfl; have hfz15_0 := blk_frozen BK224.out 0; have hfz15_1 := blk_frozen BK224.out 1; have hfz15_2 := blk_frozen BK224.out 2) | ((with_reducible refine gate_callee (f := 26) rfl ?_); refine gl_ (some 24) Tryd.func26 #[.int .i64 (((rd_T40 l0_2 x17_1).f2).length : Int), .int .i64 1, .int .i64 60] ?_; (with_reducible refine (impl_in.calls (((rd_T40 l0_2 x17_1).f2).length : Int) 1 60 false _ A10.out).mono ?_); rintro e w' ⟨rfl, ⟨nd, rfl⟩⟩; refine ⟨_, rfl, ?_⟩) | ((with_reducible refine gate_callee (f := 26) rfl ?_); refine gl_ (some 24) Tryd.func26 #[.int .i64 (((rd_T40 l0_2 x17_1).f2).length : Int), .int .i64 1, .int .i64 60] ?_; (with_reducible refine (impl_in.calls (((rd_T40 l0_2 x17_1).f2).length : Int) 1 60 true _ A10.out).mono ?_); rintro e w' ⟨rfl, ⟨nd, rfl⟩⟩; refine ⟨_, rfl, ?_⟩))
first
| (
have q_ := lf1_
go_loopg [4, 39] k1 (fun kq v4 v39 w' => ∃ (x4_2 : List Int) (x39_2 : Int), v39 = .int .i64 x39_2 ∧ Aside0 (impl_Patch_numbers.l1 kq x4_2 l0_2 (l0_2.length : Int) x17_1 ((rd_T40 l0_2 x17_1).f2) (((rd_T40 l0_2 x17_1).f2).length : Int) x39_2 = some (r1, r2)) ∧ Aside0 (kq ≤ k1) ∧ Aside0 (Kd.R (Kd.int .i64) 2 w' w.heap.size (fun _ => True) v4 x4_2) ∧ Aside0 (w'.heap[gb218]? = some (.cells #[.int .i64 a0_0, .int .i64 a0_1, (.slice (some ad223) l0_2.length c0_2)] 29 (0, 0))) ∧ Aside0 (w'.heap[gb224]? = some (.cells #[.int .i64 ((rd_T40 l0_2 x17_1).f0), .int .i64 ((rd_T40 l0_2 x17_1).f1), (.slice A223_2 ((rd_T40 l0_2 x17_1).f2).length c223_2)] 40 (0, 0))) ∧ Aside0 (Below w.heap.size w w'))
case atStart => exact ⟨(y229), (0), (by first | rfl | (simp; done) | (simp [*]; done)), H', ⟨Nat.le_refl _⟩, ⟨Rm0 HO231⟩, ⟨rk BK218⟩, ⟨rk BK224⟩, ⟨rb2 HB GE218 GE224⟩⟩
case round => (
clear H'
try clear c1
try clear c2
try clear p2
try clear q2
try clear hx2
try clear c7
try clear c7b0
try clear c8
try clear c8b0
try clear c9
try clear c9b0
try clear c11
try clear c12
try clear c14
try clear c20
try clear hcz15_0
try clear hcz15_1
try clear hcz15_2
try clear hcz20_0
try clear hcz20_1
try clear hcz20_2
try clear hcz3_0
try clear hcz3_1
try clear hcz3_2
try clear hcz6_0
try clear hcz6_1
try clear hcz6_2
try clear hfz15_0
try clear hfz15_1
try clear hfz15_2
try clear hfz20_0
try clear hfz20_1
try clear hfz20_2
try clear hfz3_0
try clear hfz3_1
try clear hfz3_2
try clear hfz6_0
try clear hfz6_1
try clear hfz6_2
try clear hx223_0
try clear hx223_1
try clear hx223_2
try clear p2
try clear p223
try clear q223
obtain ⟨x4_2, x39_2, rfl, HA, HK2, HO_4, BK218, BK224, HB⟩ := hrel
cases gk with
| zero => exact absurd HA.out (by simp [impl_Patch_numbers.l1])
| succ k2 => (
have H := HA.out
clear HA
simp only [impl_Patch_numbers.l1] at H
refine em_ (p := x39_2 < (((rd_T40 l0_2 x17_1).f2).length : Int)) (fun c21 => ?g5p) (fun c21 => ?g5n)
case g5p => (
rw [if_pos c21] at H
have c21b0 : decide (x39_2 < (((rd_T40 l0_2 x17_1).f2).length : Int)) = true := decide_eq_true c21
clear c21
refine em_ (p := 0 ≤ x39_2) (fun c22 => ?g8p) (fun c22 => ?g8n)
case' g8p => (
rw [if_pos c22] at H
have c22b0 : decide (0 ≤ x39_2) = true := decide_eq_true c22
clear c22
refine em_ (p := x39_2 < (((rd_T40 l0_2 x17_1).f2).length : Int)) (fun c23 => ?g7p) (fun c23 => ?g7n)
case' g7p => (
rw [if_pos c23] at H
have c23b0 : decide (x39_2 < (((rd_T40 l0_2 x17_1).f2).length : Int)) = true := decide_eq_true c23
clear c23
replace H := Option.bind_eq_some_iff.mp H
obtain ⟨t234, A240, H⟩ := H
(try dsimp only at H)
have A24 := am A240
clear A240
refine em_ (p := t234 = true) (fun c25 => ?g6p) (fun c25 => ?g6n)
case g6p => (
subst c25
rw [if_pos rfl] at H
replace H := Option.bind_eq_some_iff.mp H
obtain ⟨t235, A260, H⟩ := H
(try dsimp only at H)
have A26 := am A260
clear A260
obtain ⟨y236, hy236⟩ : ∃ y_ : List Int, y_ = (([(rd_T45 ((rd_T40 l0_2 x17_1).f2) x39_2).f0, (rd_T45 ((rd_T40 l0_2 x17_1).f2) x39_2).f1.f0, (rd_T45 ((rd_T40 l0_2 x17_1).f2) x39_2).f1.f1, t235, (rd_T45 ((rd_T40 l0_2 x17_1).f2) x39_2).f2] : List Int)) := ⟨_, rfl⟩
replace H : (if x4_2.length + y236.length < 17592186044416 then (impl_Patch_numbers.l1 k2 (x4_2 ++ y236) l0_2 (l0_2.length : Int) x17_1 ((rd_T40 l0_2 x17_1).f2) (((rd_T40 l0_2 x17_1).f2).length : Int) (wrap64 (x39_2 + 1))) else (none)) = some (r1, r2) := by first | (rw [hy236]; with_reducible exact H) | (rw [hy236]; exact H) | exact H
have Ny236 := am hy236
clear hy236
refine em_ (p := x4_2.length + y236.length < 17592186044416) (fun c27 => ?g4p) (fun c27 => ?g4n)
case' g4p => (
rw [if_pos c27] at H
have LMc27 := am c27
clear c27
obtain ⟨y239, hy239⟩ : ∃ y_ : List Int, y_ = (x4_2 ++ y236) := ⟨_, rfl⟩
replace H : (impl_Patch_numbers.l1 k2 y239 l0_2 (l0_2.length : Int) x17_1 ((rd_T40 l0_2 x17_1).f2) (((rd_T40 l0_2 x17_1).f2).length : Int) (wrap64 (x39_2 + 1))) = some (r1, r2) := by first | (rw [hy239]; with_reducible exact H) | (rw [hy239]; exact H) | exact H
have Ny239 := am hy239
clear hy239
have H' := am H
clear H
have lf4_ := trivial
)
case g4n => (
rw [if_neg c27] at H
exact absurd H (by simp)
)
all_goals (
have p232 : 0 ≤ (x39_2 : Int) := dt_
have q232 : x39_2 < (((rd_T40 l0_2 x17_1).f2).length : Int) := dt_
obtain ⟨ad232, e232, hx232_0, hx232_1, hx232_2, hx232_3, hx232_4, hx232_5, hx232_6⟩ := at_T45 HR223_2.out x39_2 p232 q232
cases e232
replace hx232_0 := mv HB.out hx232_0
replace hx232_1 := mv HB.out hx232_1
replace hx232_2 := mv HB.out hx232_2
replace hx232_3 := mv HB.out hx232_3
replace hx232_4 := mv HB.out hx232_4
replace hx232_5 := mv HB.out hx232_5
replace hx232_6 := mv HB.out hx232_6
replace p232 := eq_true p232
replace q232 := eq_true q232
try go_wp2_with (first | ((with_reducible refine gate_dst (N := 8) rfl ?_); refine box_event ?hg (N := 8) ?hd (cs := #[.int .i64 0, .int .i64 0, .int .i64 0, .bool false, .bool false, .bool false, .int .i64 0]) (t := 45) ?hr ?_; (case hd => rfl); (case hg => rfl); (case hr => first | (go_simp; done) | (go_simp; rfl)); intro gb233 hg w28 hbox hb; replace HO_4 := am (Kd.R_below (rr HO_4) hb); have BK233 := am (hbox); have GW233 := am (gw hg (rb2 HB GE218 GE224)); have GE233 := GW233; replace HB := am (below_step (rb2 HB GE218 GE224) hb); have NB218_233 := am (nl hg (rk BK218)); have NB233_218 := am (ng hg (rk BK218)); replace BK218 := am (blk_below (rk BK218) hb); have NB224_233 := am (nl hg (rk BK224)); have NB233_224 := am (ng hg (rk BK224)); replace BK224 := am (blk_below (rk BK224) hb); clear hb hbox hg; have hnb29 := NB233_218.out; have hnc29 := NB218_233.out; have hnb30 := NB233_224.out; have hnc30 := NB224_233.out; have hcz31_0 : w28.cell? ⟨gb233, 0, none⟩ = some (.int .i64 0) := (blk_cell BK233.out 0).trans rfl; have hcz31_1 : w28.cell? ⟨gb233, 1, none⟩ = some (.int .i64 0) := (blk_cell BK233.out 1).trans rfl; have hcz31_2 : w28.cell? ⟨gb233, 2, none⟩ = some (.int .i64 0) := (blk_cell BK233.out 2).trans rfl; have hcz31_3 : w28.cell? ⟨gb233, 3, none⟩ = some (.bool false) := (blk_cell BK233.out 3).trans rfl; have hcz31_4 : w28.cell? ⟨gb233, 4, none⟩ = some (.bool false) := (blk_cell BK233.out 4).trans rfl; have hcz31_5 : w28.cell? ⟨gb233, 5, none⟩ = some (.bool false) := (blk_cell BK233.out 5).trans rfl; have hcz31_6 : w28.cell? ⟨gb233, 6, none⟩ = some (.int .i64 0) := (blk_cell BK233.out 6).trans rfl; have hfz31_0 := blk_frozen BK233.out 0; have hfz31_1 := blk_frozen BK233.out 1; have hfz31_2 := blk_frozen BK233.out 2; have hfz31_3 := blk_frozen BK233.out 3; have hfz31_4 := blk_frozen BK233.out 4; have hfz31_5 := blk_frozen BK233.out 5; have hfz31_6 := blk_frozen BK233.out 6) | ((with_reducible refine gate_callee (f := 33) rfl ?_); refine gl_ (some 45) Tryd.func33 #[.agg #[.int .i64 ((rd_T45 ((rd_T40 l0_2 x17_1).f2) x39_2).f1.f0), .int .i64 ((rd_T45 ((rd_T40 l0_2 x17_1).f2) x39_2).f1.f1), .bool ((rd_T45 ((rd_T40 l0_2 x17_1).f2) x39_2).f1.f2), .bool ((rd_T45 ((rd_T40 l0_2 x17_1).f2) x39_2).f1.f3), .bool ((rd_T45 ((rd_T40 l0_2 x17_1).f2) x39_2).f1.f4)]] ?_; (with_reducible refine (impl_StyleOk.calls ((rd_T45 ((rd_T40 l0_2 x17_1).f2) x39_2).f1.f0) ((rd_T45 ((rd_T40 l0_2 x17_1).f2) x39_2).f1.f1) ((rd_T45 ((rd_T40 l0_2 x17_1).f2) x39_2).f1.f2) ((rd_T45 ((rd_T40 l0_2 x17_1).f2) x39_2).f1.f3) ((rd_T45 ((rd_T40 l0_2 x17_1).f2) x39_2).f1.f4) true _ A24.out).mono ?_); rintro e w32 ⟨rfl, hb⟩; refine ⟨_, rfl, ?_⟩; replace HO_4 := am (Kd.R_below (Rf7 HO_4 BK233) hb); replace BK218 := am (blk_below (g := gb218) (o := .cells #[.int .i64 a0_0, .int .i64 a0_1, .slice (some ad223) l0_2.length c0_2] 29 (0, 0)) (rf7 NB218_233 BK218) hb); replace BK224 := am (blk_below (g := gb224) (o := .cells #[.int .i64 ((rd_T40 l0_2 x17_1).f0), .int .i64 ((rd_T40 l0_2 x17_1).f1), .slice (some ad232) ((rd_T40 l0_2 x17_1).f2).length c223_2] 40 (0, 0)) (rf7 NB224_233 BK224) hb); replace BK233 := am (blk_below (g := gb233) (o := .cells #[.int .i64 ((rd_T45 ((rd_T40 l0_2 x17_1).f2) x39_2).f0), .int .i64 ((rd_T45 ((rd_T40 l0_2 x17_1).f2) x39_2).f1.f0), .int .i64 ((rd_T45 ((rd_T40 l0_2 x17_1).f2) x39_2).f1.f1), .bool ((rd_T45 ((rd_T40 l0_2 x17_1).f2) x39_2).f1.f2), .bool ((rd_T45 ((rd_T40 l0_2 x17_1).f2) x39_2).f1.f3), .bool ((rd_T45 ((rd_T40 l0_2 x17_1).f2) x39_2).f1.f4), .int .i64 ((rd_T45 ((rd_T40 l0_2 x17_1).f2) x39_2).f2)] 45 (0, 0)) (rp_0_1_2_3_4_5_6 BK233) hb); replace HB := am (below_step (rb3 HB GE218 GE224 GE233) hb); (try clear hb); (try clear hb2); (try clear hk); (try clear hi)))
replace HO_4 := am (Kd.R_drew HO_4.out)
replace BK218 := am (blk_drew BK218.out)
replace BK224 := am (blk_drew BK224.out)
replace BK233 := am (blk_drew BK233.out)
replace HB := am (below_drew1 HB.out)
refine start_ (n := 17) (S := fun w' => w'.cell? ⟨gb233, 0, none⟩ = some (.int .i64 ((rd_T45 ((rd_T40 l0_2 x17_1).f2) x39_2).f0)) ∧ w'.cell? ⟨gb233, 1, none⟩ = some (.int .i64 ((rd_T45 ((rd_T40 l0_2 x17_1).f2) x39_2).f1.f0)) ∧ w'.cell? ⟨gb233, 2, none⟩ = some (.int .i64 ((rd_T45 ((rd_T40 l0_2 x17_1).f2) x39_2).f1.f1)) ∧ w'.cell? ⟨gb233, 3, none⟩ = some (.bool ((rd_T45 ((rd_T40 l0_2 x17_1).f2) x39_2).f1.f2)) ∧ w'.cell? ⟨gb233, 4, none⟩ = some (.bool ((rd_T45 ((rd_T40 l0_2 x17_1).f2) x39_2).f1.f3)) ∧ w'.cell? ⟨gb233, 5, none⟩ = some (.bool ((rd_T45 ((rd_T40 l0_2 x17_1).f2) x39_2).f1.f4)) ∧ w'.cell? ⟨gb233, 6, none⟩ = some (.int .i64 ((rd_T45 ((rd_T40 l0_2 x17_1).f2) x39_2).f2))) (ds := []) (bm 17 0) (by kernel_rfl) rfl rfl (bc7 BK233) (fun hHeld => ?_); refine with_tabW impl_Patch_numbers.tab13 impl_Patch_numbers.bits13 (fun HT_ HW_ => ?_)
generalize w32.drew = w33 at HO_4 BK218 BK224 BK233 HB hHeld ⊢
refine pu_ 0 47 (bm 17 1) HT_.out ?_
refine pu_ 1 48 (bm 17 3) HT_.out ?_
refine pu_ 3 50 (bm 17 11) HT_.out ?_
refine pu_ 4 51 (bm 17 27) HT_.out ?_
refine pu_ 6 53 (bm 17 91) HT_.out ?_
refine pu_ 7 54 (bm 17 219) HT_.out ?_
refine pu_ 9 56 (bm 17 731) HT_.out ?_
refine pu_ 12 59 (bm 17 4827) HT_.out ?_
refine take_ (i := 2) (N := some 49) (v := ?_) (a' := ?_) (bm 17 4831) rfl rfl (take_ofW HT_.out HW_.out (by kernel_rfl)) (fun _ _ _ h => h) (Or.inl ⟨by rfl, ?_⟩) hHeld ?_ ?_
rotate_left
·(
rintro w' ⟨s0, s1, s2, s3, s4, s5, s6⟩
go_simp
with_reducible rfl
)
rotate_left
·(
simp only [Act.put, List.setIfInBounds_toArray, List.set_cons_zero, List.set_cons_succ, i64_w, i32_w]
rfl
)
refine take_ (i := 5) (N := some 52) (v := ?_) (a' := ?_) (bm 17 4863) rfl rfl (take_ofW HT_.out HW_.out (by kernel_rfl)) (fun _ _ _ h => h) (Or.inl ⟨by rfl, ?_⟩) hHeld ?_ ?_
rotate_left
·(
rintro w' ⟨s0, s1, s2, s3, s4, s5, s6⟩
go_simp
with_reducible rfl
)
rotate_left
·(
simp only [Act.put, List.setIfInBounds_toArray, List.set_cons_zero, List.set_cons_succ, i64_w, i32_w]
rfl
)
refine take_ (i := 8) (N := some 55) (v := ?_) (a' := ?_) (bm 17 5119) rfl rfl (take_ofW HT_.out HW_.out (by kernel_rfl)) (fun _ _ _ h => h) (Or.inl ⟨by rfl, ?_⟩) hHeld ?_ ?_
rotate_left
·(
rintro w' ⟨s0, s1, s2, s3, s4, s5, s6⟩
go_simp
with_reducible rfl
)
rotate_left
·(
simp only [Act.put, List.setIfInBounds_toArray, List.set_cons_zero, List.set_cons_succ, i64_w, i32_w]
rfl
)
refine take_ (i := 10) (N := some 57) (v := ?_) (a' := ?_) (bm 17 6143) rfl rfl (take_ofW HT_.out HW_.out (by kernel_rfl)) (fun _ _ _ h => h) (Or.inl ⟨by rfl, ?_⟩) hHeld ?_ ?_
rotate_left
·(
rintro w' ⟨s0, s1, s2, s3, s4, s5, s6⟩
go_simp
with_reducible rfl
)
rotate_left
·(
simp only [Act.put, List.setIfInBounds_toArray, List.set_cons_zero, List.set_cons_succ, i64_w, i32_w]
rfl
)
refine take_ (i := 13) (N := some 60) (v := ?_) (a' := ?_) (bm 17 14335) rfl rfl (take_ofW HT_.out HW_.out (by kernel_rfl)) (fun _ _ _ h => h) (Or.inl ⟨by rfl, ?_⟩) hHeld ?_ ?_
rotate_left
·(
rintro w' ⟨s0, s1, s2, s3, s4, s5, s6⟩
go_simp
with_reducible rfl
)
rotate_left
·(
simp only [Act.put, List.setIfInBounds_toArray, List.set_cons_zero, List.set_cons_succ, i64_w, i32_w]
rfl
)
refine one_ (i := 11) (N := some 58) (bm 17 16383) rfl rfl (one_of HT_.out (by kernel_rfl)) (by decide) (fun K hK => ?_)
refine goes_ Tryd.func34 (by kernel_rfl) rfl #[.agg #[.int .i64 ((rd_T45 ((rd_T40 l0_2 x17_1).f2) x39_2).f1.f0), .int .i64 ((rd_T45 ((rd_T40 l0_2 x17_1).f2) x39_2).f1.f1), .bool ((rd_T45 ((rd_T40 l0_2 x17_1).f2) x39_2).f1.f2), .bool ((rd_T45 ((rd_T40 l0_2 x17_1).f2) x39_2).f1.f3), .bool ((rd_T45 ((rd_T40 l0_2 x17_1).f2) x39_2).f1.f4)]] (by rfl) rfl rfl mt ?_
with_reducible refine (impl_Style_flags.calls ((rd_T45 ((rd_T40 l0_2 x17_1).f2) x39_2).f1.f0) ((rd_T45 ((rd_T40 l0_2 x17_1).f2) x39_2).f1.f1) ((rd_T45 ((rd_T40 l0_2 x17_1).f2) x39_2).f1.f2) ((rd_T45 ((rd_T40 l0_2 x17_1).f2) x39_2).f1.f3) ((rd_T45 ((rd_T40 l0_2 x17_1).f2) x39_2).f1.f4) t235 _ A26.out).mono ?_
rintro e w34 ⟨rfl, hb⟩
refine ⟨_, rfl, ?_⟩
replace HO_4 := am (Kd.R_below (rr HO_4) hb)
replace BK218 := am (blk_below (rk BK218) hb)
replace BK224 := am (blk_below (rk BK224) hb)
replace BK233 := am (blk_below (rk BK233) hb)
replace HB := am (below_step (rb3 HB GE218 GE224 GE233) hb)
(try clear hb)
refine hK.out _ _ (bc7 BK233) (fun hHeld => ?_)
clear hK K
refine norm_ (a' := _) (show Act.put _ (some 58) _ = _ from na) ?_
refine one_ (i := 14) (N := some 61) (bm 17 32767) rfl rfl (one_of HT_.out (by kernel_rfl)) (by decide) (fun K hK => ?_)
refine Kd.R_lit_step (Kd.int .i64) _ 2 ?hg (N := 61) ?hd (xs := ([(rd_T45 ((rd_T40 l0_2 x17_1).f2) x39_2).f0, (rd_T45 ((rd_T40 l0_2 x17_1).f2) x39_2).f1.f0, (rd_T45 ((rd_T40 l0_2 x17_1).f2) x39_2).f1.f1, t235, (rd_T45 ((rd_T40 l0_2 x17_1).f2) x39_2).f2] : List Int)) (inner := [.int .i64 ((rd_T45 ((rd_T40 l0_2 x17_1).f2) x39_2).f0), .int .i64 ((rd_T45 ((rd_T40 l0_2 x17_1).f2) x39_2).f1.f0), .int .i64 ((rd_T45 ((rd_T40 l0_2 x17_1).f2) x39_2).f1.f1), .int .i64 t235, .int .i64 ((rd_T45 ((rd_T40 l0_2 x17_1).f2) x39_2).f2)]) (ok := fun _ => True) (okp := fun _ => True) ?hr ?hp (fun _ hk => hk) trivial (Below.refl _ _) (Nat.le_refl _) (by simp) ?_; (case hd => rfl); (case hg => rfl); (case hr => first | (go_simp; done) | (go_simp; rfl)); (case hp => exact (Reps.one (show Kd.M (Kd.int .i64) _ _ _ ((rd_T45 ((rd_T40 l0_2 x17_1).f2) x39_2).f0) [.int .i64 ((rd_T45 ((rd_T40 l0_2 x17_1).f2) x39_2).f0)] from rfl) (Reps.one (show Kd.M (Kd.int .i64) _ _ _ ((rd_T45 ((rd_T40 l0_2 x17_1).f2) x39_2).f1.f0) [.int .i64 ((rd_T45 ((rd_T40 l0_2 x17_1).f2) x39_2).f1.f0)] from rfl) (Reps.one (show Kd.M (Kd.int .i64) _ _ _ ((rd_T45 ((rd_T40 l0_2 x17_1).f2) x39_2).f1.f1) [.int .i64 ((rd_T45 ((rd_T40 l0_2 x17_1).f2) x39_2).f1.f1)] from rfl) (Reps.one (show Kd.M (Kd.int .i64) _ _ _ t235 [.int .i64 t235] from rfl) (Reps.one (show Kd.M (Kd.int .i64) _ _ _ ((rd_T45 ((rd_T40 l0_2 x17_1).f2) x39_2).f2) [.int .i64 ((rd_T45 ((rd_T40 l0_2 x17_1).f2) x39_2).f2)] from rfl) (Reps.none _ _)))))))
intro v237 w35 ho36 hb hg_ hnew_
clear hg_ hnew_
(first | rw [← Ny236.out] at ho36 | (simp only [Int.reduceToNat] at ho36; rw [← Ny236.out] at ho36))
have HO238 := am (Kd.R_lower (Kd.R_new' ho36 (Kd.R_lt (rr HO_4))) (below_size (rb3 HB GE218 GE224 GE233)))
replace HO_4 := am (Kd.R_elder' (rr HO_4) (Kd.R_base ho36) hb)
replace BK218 := am (blk_below (rk BK218) hb)
replace BK224 := am (blk_below (rk BK224) hb)
replace BK233 := am (blk_below (rk BK233) hb)
replace HB := am (below_step (rb3 HB GE218 GE224 GE233) hb)
clear hb ho36
obtain ⟨Ao38, co38, eo38⟩ := Kd.R_slice HO238.out
(first | subst eo38 | (injection eo38 with f1_ f2_ f3_; have f4_ := f1_.symm; have f5_ := f3_.symm; clear f1_ f2_ f3_; subst f4_; subst f5_))
refine hK.out _ _ (bc7 BK233) (fun hHeld => ?_)
clear hK K
refine norm_ (a' := _) (show Act.put _ (some 61) _ = _ from na) ?_
refine one_ (i := 15) (N := some 62) (bm 17 65535) rfl rfl (one_of HT_.out (by kernel_rfl)) (by decide) (fun K hK => ?_)
refine Kd.R_append_rows_step (Kd.int .i64) (w0 := w) w.heap.size (by rfl) (.tmp 47) (.tmp 61) 47 2 (.int .i64 0) 8 rfl Tryd.underlying47 info2 rfl (by decide) (by omega) u4 x4_2 y236 _ _ _ (fun k_ => some k_ ≠ (.slice Ao38 y236.length co38 : Value).ownBlock) (fun _ => False) rfl rfl ?aO ?aR (fun _ _ h => h) (fun _ h => h.elim) ?aF ?aB ?aS ?aL ?_
(case aR => repeat (first | exact (Kd.R_reads' HO238.out).2.2 | (with_reducible refine Kd.C_alloc ?_ _) | (with_reducible refine Kd.C_drewN ?_ _) | (with_reducible refine Kd.C_drew ?_)))
(case aB => exact (rb3 HB GE218 GE224 GE233))
(case aF => exact (fun k_ hk => Kd.fresh' (Kd.R_lt (rr HO238)) k_ hk))
(case aO => exact (rrm HO_4))
(case aS => exact (below_size (rb3 HB GE218 GE224 GE233)))
(case aL => have := LMc27.out; omega)
intro v240 w37 ho hb hg hat
rw [← Ny239.out] at ho
replace BK218 := am (blk_grown (rk BK218) hg (Kd.R_ne HO_4.out BK218.out (by decide)))
replace BK224 := am (blk_grown (rk BK224) hg (Kd.R_ne HO_4.out BK224.out (by decide)))
replace BK233 := am (blk_grown (rk BK233) hg (Kd.R_ne HO_4.out BK233.out (by decide)))
replace HO238 := am (Kd.R_after (ok := (fun _ => True)) (rr HO238) hg hat)
replace HB := am (hb)
have HO241 := am (ho)
clear HO_4
clear ho hb hg hat
refine hK.out _ _ (bc7 BK233) (fun hHeld => ?_)
clear hK K
refine norm_ (a' := _) (show Act.put _ (some 62) _ = _ from na) ?_
refine pu_ 16 4 (bm 17 131071) HT_.out ?_
refine done_ (done_of HT_.out (by kernel_rfl)) ?_
try go_wp2
go_roundg k2
case measure => have := HK1.out; have := HK2.out; omega
case rel => exact ⟨(y239), (wrap64 (x39_2 + 1)), (by first | rfl | (simp; done) | (simp [*]; done)), H', ⟨by have := HK1.out; have := HK2.out; omega⟩, ⟨Rm0 HO241⟩, ⟨rk BK218⟩, ⟨rk BK224⟩, ⟨rb3 HB GE218 GE224 GE233⟩⟩
)
)
case' g6n => (
replace c25 := Bool.eq_false_iff.mpr c25
subst c25
rw [if_neg (show ¬ (false = true) by decide)] at H
simp only [Option.some.injEq, Prod.mk.injEq] at H
obtain ⟨rfl, rfl⟩ := H
have lf7_ := trivial
)
)
case g7n => (
rw [if_neg c23] at H
exact absurd H (by simp)
)
)
case g8n => (
rw [if_neg c22] at H
exact absurd H (by simp)
)
all_goals (
have p232 : 0 ≤ (x39_2 : Int) := dt_
have q232 : x39_2 < (((rd_T40 l0_2 x17_1).f2).length : Int) := dt_
obtain ⟨ad232, e232, hx232_0, hx232_1, hx232_2, hx232_3, hx232_4, hx232_5, hx232_6⟩ := at_T45 HR223_2.out x39_2 p232 q232
cases e232
replace hx232_0 := mv HB.out hx232_0
replace hx232_1 := mv HB.out hx232_1
replace hx232_2 := mv HB.out hx232_2
replace hx232_3 := mv HB.out hx232_3
replace hx232_4 := mv HB.out hx232_4
replace hx232_5 := mv HB.out hx232_5
replace hx232_6 := mv HB.out hx232_6
replace p232 := eq_true p232
replace q232 := eq_true q232
go_wp2_with (first | ((with_reducible refine gate_dst (N := 8) rfl ?_); refine box_event ?hg (N := 8) ?hd (cs := #[.int .i64 0, .int .i64 0, .int .i64 0, .bool false, .bool false, .bool false, .int .i64 0]) (t := 45) ?hr ?_; (case hd => rfl); (case hg => rfl); (case hr => first | (go_simp; done) | (go_simp; rfl)); intro gb233 hg w39 hbox hb; replace HO_4 := am (Kd.R_below (rr HO_4) hb); have BK233 := am (hbox); have GW233 := am (gw hg (rb2 HB GE218 GE224)); have GE233 := GW233; replace HB := am (below_step (rb2 HB GE218 GE224) hb); have NB218_233 := am (nl hg (rk BK218)); have NB233_218 := am (ng hg (rk BK218)); replace BK218 := am (blk_below (rk BK218) hb); have NB224_233 := am (nl hg (rk BK224)); have NB233_224 := am (ng hg (rk BK224)); replace BK224 := am (blk_below (rk BK224) hb); clear hb hbox hg; have hnb40 := NB233_218.out; have hnc40 := NB218_233.out; have hnb41 := NB233_224.out; have hnc41 := NB224_233.out; have hcz42_0 : w39.cell? ⟨gb233, 0, none⟩ = some (.int .i64 0) := (blk_cell BK233.out 0).trans rfl; have hcz42_1 : w39.cell? ⟨gb233, 1, none⟩ = some (.int .i64 0) := (blk_cell BK233.out 1).trans rfl; have hcz42_2 : w39.cell? ⟨gb233, 2, none⟩ = some (.int .i64 0) := (blk_cell BK233.out 2).trans rfl; have hcz42_3 : w39.cell? ⟨gb233, 3, none⟩ = some (.bool false) := (blk_cell BK233.out 3).trans rfl; have hcz42_4 : w39.cell? ⟨gb233, 4, none⟩ = some (.bool false) := (blk_cell BK233.out 4).trans rfl; have hcz42_5 : w39.cell? ⟨gb233, 5, none⟩ = some (.bool false) := (blk_cell BK233.out 5).trans rfl; have hcz42_6 : w39.cell? ⟨gb233, 6, none⟩ = some (.int .i64 0) := (blk_cell BK233.out 6).trans rfl; have hfz42_0 := blk_frozen BK233.out 0; have hfz42_1 := blk_frozen BK233.out 1; have hfz42_2 := blk_frozen BK233.out 2; have hfz42_3 := blk_frozen BK233.out 3; have hfz42_4 := blk_frozen BK233.out 4; have hfz42_5 := blk_frozen BK233.out 5; have hfz42_6 := blk_frozen BK233.out 6) | ((with_reducible refine gate_callee (f := 33) rfl ?_); refine gl_ (some 45) Tryd.func33 #[.agg #[.int .i64 ((rd_T45 ((rd_T40 l0_2 x17_1).f2) x39_2).f1.f0), .int .i64 ((rd_T45 ((rd_T40 l0_2 x17_1).f2) x39_2).f1.f1), .bool ((rd_T45 ((rd_T40 l0_2 x17_1).f2) x39_2).f1.f2), .bool ((rd_T45 ((rd_T40 l0_2 x17_1).f2) x39_2).f1.f3), .bool ((rd_T45 ((rd_T40 l0_2 x17_1).f2) x39_2).f1.f4)]] ?_; (with_reducible refine (impl_StyleOk.calls ((rd_T45 ((rd_T40 l0_2 x17_1).f2) x39_2).f1.f0) ((rd_T45 ((rd_T40 l0_2 x17_1).f2) x39_2).f1.f1) ((rd_T45 ((rd_T40 l0_2 x17_1).f2) x39_2).f1.f2) ((rd_T45 ((rd_T40 l0_2 x17_1).f2) x39_2).f1.f3) ((rd_T45 ((rd_T40 l0_2 x17_1).f2) x39_2).f1.f4) false _ A24.out).mono ?_); rintro e w43 ⟨rfl, hb⟩; refine ⟨_, rfl, ?_⟩; replace HO_4 := am (Kd.R_below (Rf7 HO_4 BK233) hb); replace BK218 := am (blk_below (g := gb218) (o := .cells #[.int .i64 a0_0, .int .i64 a0_1, .slice (some ad223) l0_2.length c0_2] 29 (0, 0)) (rf7 NB218_233 BK218) hb); replace BK224 := am (blk_below (g := gb224) (o := .cells #[.int .i64 ((rd_T40 l0_2 x17_1).f0), .int .i64 ((rd_T40 l0_2 x17_1).f1), .slice (some ad232) ((rd_T40 l0_2 x17_1).f2).length c223_2] 40 (0, 0)) (rf7 NB224_233 BK224) hb); replace BK233 := am (blk_below (g := gb233) (o := .cells #[.int .i64 ((rd_T45 ((rd_T40 l0_2 x17_1).f2) x39_2).f0), .int .i64 ((rd_T45 ((rd_T40 l0_2 x17_1).f2) x39_2).f1.f0), .int .i64 ((rd_T45 ((rd_T40 l0_2 x17_1).f2) x39_2).f1.f1), .bool ((rd_T45 ((rd_T40 l0_2 x17_1).f2) x39_2).f1.f2), .bool ((rd_T45 ((rd_T40 l0_2 x17_1).f2) x39_2).f1.f3), .bool ((rd_T45 ((rd_T40 l0_2 x17_1).f2) x39_2).f1.f4), .int .i64 ((rd_T45 ((rd_T40 l0_2 x17_1).f2) x39_2).f2)] 45 (0, 0)) (rp_0_1_2_3_4_5_6 BK233) hb); replace HB := am (below_step (rb3 HB GE218 GE224 GE233) hb); (try clear hb); (try clear hb2); (try clear hk); (try clear hi)))
go_ret2
exact ⟨_, by first | rfl | (simp [errW_none, errW_some] <;> rfl) | (simp [*, errW_none, errW_some] <;> rfl), by first | exact Kd.R_nil _ _ _ _ _ | exact Kd.N_nil _ _ _ _ _ | exact Kd.V_nil _ _ _ _ _ | exact Kd.Q_nil _ _ _ _ _ | exact Kd.S_nil _ _ _ _ _, rb3 HB GE218 GE224 GE233⟩
)
)
case' g5n => (
rw [if_neg c21] at H
have c21b0 : decide (x39_2 < (((rd_T40 l0_2 x17_1).f2).length : Int)) = false := decide_eq_false c21
clear c21
have H' := am H
clear H
have lf6_ := trivial
)
all_goals (
go_wp2
go_roundg k2
case measure => have := HK1.out; have := HK2.out; omega
case rel => exact ⟨(x4_2), (wrap64 (x17_1 + 1)), (by first | rfl | (simp; done) | (simp [*]; done)), H', ⟨by have := HK1.out; have := HK2.out; omega⟩, ⟨rr HO_4⟩, ⟨rk BK218⟩, ⟨rb2 HB GE218 GE224⟩⟩
)
)
)
)
| (
have q_ := lf2_
go_ret2
exact ⟨_, by first | rfl | (simp [errW_none, errW_some] <;> rfl) | (simp [*, errW_none, errW_some] <;> rfl), by first | exact Kd.R_nil _ _ _ _ _ | exact Kd.N_nil _ _ _ _ _ | exact Kd.V_nil _ _ _ _ _ | exact Kd.Q_nil _ _ _ _ _ | exact Kd.S_nil _ _ _ _ _, rb2 HB GE218 GE224⟩
)
)
)
·(
rw [if_neg c7] at H
have c7b0 : decide (x17_1 < (l0_2.length : Int)) = false := decide_eq_false c7
clear c7
replace H := Option.bind_eq_some_iff.mp H
obtain ⟨t222, A470, H⟩ := H
replace H : (some (x4_1, !t222)) = some (r1, r2) := H
have A47 := am A470
clear A470
simp only [Option.some.injEq, Prod.mk.injEq] at H
obtain ⟨rfl, rfl⟩ := H
obtain ⟨Ao48, co48, eo48⟩ := Kd.R_slice HO_4.out
subst eo48
go_wp2_with (first | ((with_reducible refine gate_callee (f := 35) rfl ?_); refine gl_ (some 67) Tryd.func35 #[.slice Ao48 x4_1.length co48, .func (.func 36) #[] #[]] ?_; (with_reducible refine (slices_ContainsFunc_int64_int64_impl_Patch_numbers_lit1.calls k1 _ _ x4_1 t222 _ ?side1 ?side2 A47.out).mono ?_); (case side1 => repeat (first | exact (Kd.R_reads' HO_4.out).2.2 | (with_reducible refine Kd.C_alloc ?_ _) | (with_reducible refine Kd.C_drewN ?_ _) | (with_reducible refine Kd.C_drew ?_))); (case side2 => exact (Kd.R_reads' HO_4.out).2.1); rintro e w' ⟨rfl, ⟨nd, rfl⟩⟩; refine ⟨_, rfl, ?_⟩))
go_ret2
exact ⟨_, by first | rfl | (simp [errW_none, errW_some] <;> rfl) | (simp [*, errW_none, errW_some] <;> rfl), by (with_reducible repeat (first | apply r1 | apply r2 | apply r3)); exact HO_4.out, by repeat (first | (with_reducible first | exact HB.out | apply b1 | apply b2 | apply b3 | refine below_set ?_ GE218.out) | exact HB.out)⟩
)
)
)
)

end Go.Proofs.YtalopdcephohgaaDoor.SA
