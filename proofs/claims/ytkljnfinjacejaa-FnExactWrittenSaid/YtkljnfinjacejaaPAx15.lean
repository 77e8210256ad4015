/- Contracts of Go functions that laws of this seat reach: each Lean function answers as its Go function does. No condition. Written by wip/tools/inj.py, over the kit's print. -/
import Derived.Test.YtkljnfinjacejaaPAx0
import Derived.Test.YtkljnfinjacejaaPAx2
import Derived.Test.YtkljnfinjacejaaPAx4
import Derived.Test.YtkljnfinjacejaaPAx13
import Derived.Test.YtkljnfinjacejaaPAx14
namespace Go.Proofs.Ytkljnfinjacejaa.PA
open Go.RowKit Go.Proofs.YtkljnfinjacejaaW.PrintWords Go.Proofs.YtkljnfinjacejaaW.PrintLast Go.Proofs.YtkljnfinjacejaaW.PrintMore
attribute [local go_sem] max2_int min2_int max_two min_two max_three min_three max_four min_four   -- for this text's walks alone
set_option linter.unusedVariables false
set_option linter.unusedSimpArgs false

/-! ### spec_l4Cleared: function 62 -/
def spec_l4Cleared.l0 : Nat → Int → List (S79) → Int → Int → Int → Bool → Bool → Bool → Option ((List (S79)))
 | 0, _, _, _, _, _, _, _, _ => none
 | k + 1, x2, x9, x10, x292000, x292001, x292002, x292003, x292004 => if x10 < x2 then ((spec_l4Blank.f x292000 x292001 x292002 x292003 x292004).bind fun bt298 => (if 0 ≤ x10 then (if x10 < (x9.length : Int) then (spec_l4Cleared.l0 k x2 (x9.set (x10 : Int).toNat (⟨bt298.1, (⟨bt298.2.1, bt298.2.2.1, bt298.2.2.2.1, bt298.2.2.2.2.1, bt298.2.2.2.2.2.1⟩ : S55), bt298.2.2.2.2.2.2⟩ : S79)) (wrap64 (x10 + 1)) x292000 x292001 x292002 x292003 x292004) else (none)) else (none))) else ((spec_l4Mended.f k x9).bind fun t306 => (some t306))
def spec_l4Cleared.f (k : Nat) (l0 : List (S79)) (a1 : Int) (a2 : Int) (a3_0 : Int) (a3_1 : Int) (a3_2 : Bool) (a3_3 : Bool) (a3_4 : Bool) : Option ((List (S79))) := (some (([] : List (S79)) : List (S79))).bind fun y292 => (if y292.length + l0.length < 3518437208883 then (spec_l4Cleared.l0 k a2 (y292 ++ l0) a1 a3_0 a3_1 a3_2 a3_3 a3_4) else (none))
theorem spec_l4Cleared.mono_l : ∀ k, (∀ y0 y1 y2 y3 y4 y5 y6 y7, LeO (spec_l4Cleared.l0 k y0 y1 y2 y3 y4 y5 y6 y7) (spec_l4Cleared.l0 (k + 1) y0 y1 y2 y3 y4 y5 y6 y7))
 | 0 => fun _ _ _ _ _ _ _ _ r h => by simp [spec_l4Cleared.l0] at h
 | k + 1 => by
  have ih0 := spec_l4Cleared.mono_l k
  ·intro y0 y1 y2 y3 y4 y5 y6 y7
   unfold spec_l4Cleared.l0
   repeat' first
   | (with_reducible exact ih0 _ _ _ _ _ _ _ _)
   | (with_reducible exact spec_l4Mended.mono _ _)
   | (with_reducible exact LeO.refl _)
   | (with_reducible exact LeO.none _)
   | (with_reducible refine LeO.ite ?_ ?_)
   | (with_reducible refine LeO.bind ?_ (fun _ => ?_))
   | exact ih0 _ _ _ _ _ _ _ _
   | exact spec_l4Mended.mono _ _
   | exact LeO.none _
   | refine LeO.ite ?_ ?_
   | refine LeO.bind ?_ (fun _ => ?_)
theorem spec_l4Cleared.mono : ∀ a0 a1 a2 a3 a4 a5 a6 a7 k, LeO (spec_l4Cleared.f k a0 a1 a2 a3 a4 a5 a6 a7) (spec_l4Cleared.f (k + 1) a0 a1 a2 a3 a4 a5 a6 a7) := by
 intro a0 a1 a2 a3 a4 a5 a6 a7 k
 have ih0 := spec_l4Cleared.mono_l k
 unfold spec_l4Cleared.f
 repeat' first
   | (with_reducible exact ih0 _ _ _ _ _ _ _ _)
   | (with_reducible exact spec_l4Mended.mono _ _)
   | (with_reducible exact LeO.refl _)
   | (with_reducible exact LeO.none _)
   | (with_reducible refine LeO.ite ?_ ?_)
   | (with_reducible refine LeO.bind ?_ (fun _ => ?_))
   | exact ih0 _ _ _ _ _ _ _ _
   | exact spec_l4Mended.mono _ _
   | exact LeO.none _
   | refine LeO.ite ?_ ?_
   | refine LeO.bind ?_ (fun _ => ?_)
set_option maxHeartbeats 8000000 in
set_option maxRecDepth 100000 in
theorem spec_l4Cleared.calls (k : Nat) (A0 : Option Addr) (c0 : Nat) (l0 : List (S79)) (a1 : Int) (a2 : Int) (a3_0 : Int) (a3_1 : Int) (a3_2 : Bool) (a3_3 : Bool) (a3_4 : Bool) (r : List (S79)) (w : World) (hr0 : Kd.C k79 w A0 l0.length l0) (hc0 : l0.length ≤ c0) (h : spec_l4Cleared.f k l0 a1 a2 a3_0 a3_1 a3_2 a3_3 a3_4 = some r) :
  Calls Try.prog 62 #[.slice A0 l0.length c0, .int .i64 a1, .int .i64 a2, .agg #[.int .i64 a3_0, .int .i64 a3_1, .bool a3_2, .bool a3_3, .bool a3_4]] w fun e w' => ∃ v0_ : Value, e = .returned (v0_) ∧ Kd.R k79 79 w' w.heap.size (fun _ => True) v0_ r ∧ Below w.heap.size w w' := by
 have hu55 := Try.underlying55
 have hu79 := Try.underlying79
 have HR0 := am hr0
 have HC0 := am hc0
 clear hr0 hc0
 have HB := am (Below.refl w.heap.size w)
 have H : ((some (([] : List (S79)) : List (S79))).bind fun y292 => (if y292.length + l0.length < 3518437208883 then (spec_l4Cleared.l0 k a2 (y292 ++ l0) a1 a3_0 a3_1 a3_2 a3_3 a3_4) else (none))) = some r := h
 clear h
 obtain ⟨y292, hy292⟩ : ∃ y_ : List (S79), y_ = (([] : List (S79))) := ⟨_, rfl⟩
 replace H : (if y292.length + l0.length < 3518437208883 then (spec_l4Cleared.l0 k a2 (y292 ++ l0) a1 a3_0 a3_1 a3_2 a3_3 a3_4) else (none)) = some r := by first | (rw [hy292]; with_reducible exact H) | (rw [hy292]; exact H) | exact H
 have Ny292 := am hy292
 clear hy292
 by_cases c5 : y292.length + l0.length < 3518437208883
 ·rw [if_pos c5] at H
  have LMc5 := am c5
  clear c5
  obtain ⟨y295, hy295⟩ : ∃ y_ : List (S79), y_ = (y292 ++ l0) := ⟨_, rfl⟩
  replace H : (spec_l4Cleared.l0 k a2 y295 a1 a3_0 a3_1 a3_2 a3_3 a3_4) = some r := by first | (rw [hy295]; with_reducible exact H) | (rw [hy295]; exact H) | exact H
  have Ny295 := am hy295
  clear hy295
  have H' := am H
  clear H
  go_enter Try.func62, Try.ntmps62
  go_wp2_with (first | ((with_reducible refine gate_dst (N := 7) rfl ?_); refine box_event ?hg (N := 7) ?hd (cs := #[.int .i64 a3_0, .int .i64 a3_1, .bool a3_2, .bool a3_3, .bool a3_4]) (t := 55) ?hr ?_; (case hd => rfl); (case hg => rfl); (case hr => first | (go_simp; done) | (go_simp; rfl)); intro gb291 hg w6 hbox hb; have n0_ := am (below_step (rb HB) hb); have n1_ := am (hbox); have n2_ := am ((by rw [hg]; exact (below_size (rb HB)) : w.heap.size ≤ gb291)); have n3_ := am ((by rw [hg]; exact (below_size (rb HB)) : w.heap.size ≤ gb291)); clear HB; have HB := n0_; have BK291 := n1_; have GW291 := n2_; have GE291 := n3_; clear n0_ n1_ n2_ n3_; clear hb hbox hg) | ((with_reducible refine gate_dst (N := 11) rfl ?_); refine Kd.R_lit k79 _ 79 ?hg (N := 11) ?hd (xs := ([] : List (S79))) (inner := []) (ok := fun _ => True) (okp := fun _ => True) ?hr ?hp (fun _ hk => hk) trivial (Below.refl _ _) (Nat.le_refl _) (by simp) ?_; (case hd => rfl); (case hg => rfl); (case hr => first | (go_simp; done) | (go_simp; rfl)); (case hp => exact (Reps.none _ _)); intro v293 w7 ho8 hb hg_ hnew_; clear hg_ hnew_; (first | rw [← Ny292.out] at ho8 | (simp only [Int.reduceToNat] at ho8; rw [← Ny292.out] at ho8)); have n0_ := am (Kd.R_lower ho8 (below_size (rb1 HB GE291))); have n1_ := am (blk_below (g := gb291) (o := .cells #[.int .i64 a3_0, .int .i64 a3_1, .bool a3_2, .bool a3_3, .bool a3_4] 55 (0, 0)) (rk BK291) hb); have n2_ := am (below_step (rb1 HB GE291) hb); clear BK291; clear HB; have HO294 := n0_; have BK291 := n1_; have HB := n2_; clear n0_ n1_ n2_; clear hb ho8) | ((with_reducible refine gate_builtin (b := .append) (xs := #[.tmp 11, .tmp 12]) rfl ?_); at_builtin; refine Kd.R_append_rows k79 (w0 := w) w.heap.size rfl (.tmp 11) (.tmp 12) 52 79 (.agg #[(.int .i64 0), (.int .i64 0), (.int .i64 0), (.bool false), (.bool false), (.bool false), (.int .i64 0)]) 40 rfl Try.underlying52 info79 rfl (by decide) (by omega) v293 y292 l0 _ _ _ (fun _ => True) (fun _ => False) rfl rfl ?aO ?aR (fun _ _ h => h) (fun _ h => h.elim) ?aF ?aB ?aS ?aL ?_; (case aR => repeat (first | exact (Kd.C_below HR0.out HB.out) | (with_reducible refine Kd.C_alloc ?_ _) | (with_reducible refine Kd.C_drewN ?_ _) | (with_reducible refine Kd.C_drew ?_))); (case aB => exact (rb1 HB GE291)); (case aF => exact (fun _ _ => trivial)); (case aO => exact (rr HO294)); (case aS => exact (below_size (rb1 HB GE291))); (case aL => have := LMc5.out; omega); intro v296 w9 ho hb hg hat; rw [← Ny295.out] at ho; have n0_ := am (blk_grown (g := gb291) (o := .cells #[.int .i64 a3_0, .int .i64 a3_1, .bool a3_2, .bool a3_3, .bool a3_4] 55 (0, 0)) (rk BK291) hg (Kd.R_ne HO294.out BK291.out (by decide))); have n1_ := am (hb); have n2_ := am (ho); clear BK291; clear HB; clear HO294; have BK291 := n0_; have HB := n1_; have HO297 := n2_; clear n0_ n1_ n2_; clear ho hb hg hat))
  go_loopg [10] k (fun kq v10 w' => ∃ (x9_1 : List (S79)) (x10_1 : Int), v10 = .int .i64 x10_1 ∧ Aside0 (spec_l4Cleared.l0 kq a2 x9_1 x10_1 a3_0 a3_1 a3_2 a3_3 a3_4 = some r) ∧ Aside0 (kq ≤ k) ∧ Aside0 (Kd.R k79 79 w' w.heap.size (fun _ => True) v296 x9_1) ∧ Aside0 (w'.heap[gb291]? = some (.cells #[.int .i64 a3_0, .int .i64 a3_1, .bool a3_2, .bool a3_3, .bool a3_4] 55 (0, 0))) ∧ Aside0 (Below w.heap.size w w'))
  case atStart => exact ⟨(y295), (a1), (by first | rfl | (simp; done) | (simp [*]; done)), H', ⟨Nat.le_refl _⟩, ⟨rr HO297⟩, ⟨rk BK291⟩, ⟨by repeat (first | (with_reducible first | exact HB.out | apply b1 | apply b2 | apply b3 | refine below_set ?_ GE291.out) | exact HB.out)⟩⟩
  case round =>
   clear H'
   try clear p2
   try clear c5
   try clear c6
   obtain ⟨x9_1, x10_1, rfl, HA, HK1, HO_9, BK291, HB⟩ := hrel
   cases gk with
   | zero => exact absurd HA.out (by simp [spec_l4Cleared.l0])
   | succ k1 =>
    have H := HA.out
    clear HA
    simp only [spec_l4Cleared.l0] at H
    by_cases c10 : x10_1 < a2
    ·rw [if_pos c10] at H
     have c10b0 : decide (x10_1 < a2) = true := decide_eq_true c10
     clear c10
     replace H := Option.bind_eq_some_iff.mp H
     obtain ⟨⟨t298, t299, t300, t301, t302, t303, t304⟩, A110, H⟩ := H
     replace H : (if 0 ≤ x10_1 then (if x10_1 < (x9_1.length : Int) then (spec_l4Cleared.l0 k1 a2 (x9_1.set (x10_1 : Int).toNat (⟨t298, (⟨t299, t300, t301, t302, t303⟩ : S55), t304⟩ : S79)) (wrap64 (x10_1 + 1)) a3_0 a3_1 a3_2 a3_3 a3_4) else (none)) else (none)) = some r := H
     have A11 := am A110
     clear A110
     by_cases c12 : 0 ≤ x10_1
     ·rw [if_pos c12] at H
      have c12b0 : decide (0 ≤ x10_1) = true := decide_eq_true c12
      clear c12
      by_cases c13 : x10_1 < (x9_1.length : Int)
      ·rw [if_pos c13] at H
       have c13b0 : decide (x10_1 < (x9_1.length : Int)) = true := decide_eq_true c13
       clear c13
       obtain ⟨y305, hy305⟩ : ∃ y_ : List (S79), y_ = (x9_1.set (x10_1 : Int).toNat (⟨t298, (⟨t299, t300, t301, t302, t303⟩ : S55), t304⟩ : S79)) := ⟨_, rfl⟩
       replace H : (spec_l4Cleared.l0 k1 a2 y305 (wrap64 (x10_1 + 1)) a3_0 a3_1 a3_2 a3_3 a3_4) = some r := by first | (rw [hy305]; with_reducible exact H) | (rw [hy305]; exact H) | exact H
       have Ny305 := am hy305
       clear hy305
       have H' := am H
       clear H
       have hcz15_0 : wr.cell? ⟨gb291, 0, none⟩ = some (.int .i64 a3_0) := (blk_cell BK291.out 0).trans rfl
       have hcz15_1 : wr.cell? ⟨gb291, 1, none⟩ = some (.int .i64 a3_1) := (blk_cell BK291.out 1).trans rfl
       have hcz15_2 : wr.cell? ⟨gb291, 2, none⟩ = some (.bool a3_2) := (blk_cell BK291.out 2).trans rfl
       have hcz15_3 : wr.cell? ⟨gb291, 3, none⟩ = some (.bool a3_3) := (blk_cell BK291.out 3).trans rfl
       have hcz15_4 : wr.cell? ⟨gb291, 4, none⟩ = some (.bool a3_4) := (blk_cell BK291.out 4).trans rfl
       have hfz15_0 := blk_frozen BK291.out 0
       have hfz15_1 := blk_frozen BK291.out 1
       have hfz15_2 := blk_frozen BK291.out 2
       have hfz15_3 := blk_frozen BK291.out 3
       have hfz15_4 := blk_frozen BK291.out 4
       go_wp2_with (first | ((with_reducible refine gate_callee (f := 84) rfl ?_); refine gl_ (some 23) Try.func84 #[.agg #[.int .i64 a3_0, .int .i64 a3_1, .bool a3_2, .bool a3_3, .bool a3_4]] ?_; (with_reducible refine (spec_l4Blank.calls a3_0 a3_1 a3_2 a3_3 a3_4 t298 t299 t300 t301 t302 t303 t304 _ A11.out).mono ?_); rintro e w16 ⟨rfl, hb⟩; refine ⟨_, rfl, ?_⟩; have n0_ := am (Kd.R_below (rr HO_9) hb); have n1_ := am (blk_below (g := gb291) (o := .cells #[.int .i64 a3_0, .int .i64 a3_1, .bool a3_2, .bool a3_3, .bool a3_4] 55 (0, 0)) (rk BK291) hb); have n2_ := am (below_step (rb1 HB GE291) hb); clear HO_9; clear BK291; clear HB; have HO_9 := n0_; have BK291 := n1_; have HB := n2_; clear n0_ n1_ n2_; (try clear hb); (try clear hb2); (try clear hk); (try clear hi); have p14 : 0 ≤ (x10_1 : Int) := dt_; have q14 : (x10_1 : Int) < ((x9_1.length : Int) : Int) := dt_; obtain ⟨go14, co14, eo14, gb14, gl14, cl14, HG14⟩ := Kd.R_form HO_9.out (by omega); (first | cases eo14 | (injection eo14 with ea_ en_ ec_; (first | subst ea_ | (injection ea_ with ea_; subst ea_)); subst ec_; clear en_)); have GB14 := am gb14; have GG14 := am HG14; clear gb14 gl14 HG14; obtain ⟨ce14, hcl14, hM14, hcc14, hfr14⟩ := Kd.R_elem HO_9.out z79 (x10_1 : Int) p14 q14; obtain rfl := k79_openM hM14; have hx14_0 : w16.cell? ⟨go14, (x10_1 : Int).toNat * 7, none⟩ = some (.int .i64 ((rd_T79 x9_1 x10_1).f0)) := hcc14 0 _ rfl; have hx14_1 : w16.cell? ⟨go14, (x10_1 : Int).toNat * 7 + 1, none⟩ = some (.int .i64 ((rd_T79 x9_1 x10_1).f1.f0)) := hcc14 1 _ rfl; have hx14_2 : w16.cell? ⟨go14, (x10_1 : Int).toNat * 7 + 2, none⟩ = some (.int .i64 ((rd_T79 x9_1 x10_1).f1.f1)) := hcc14 2 _ rfl; have hx14_3 : w16.cell? ⟨go14, (x10_1 : Int).toNat * 7 + 3, none⟩ = some (.bool ((rd_T79 x9_1 x10_1).f1.f2)) := hcc14 3 _ rfl; have hx14_4 : w16.cell? ⟨go14, (x10_1 : Int).toNat * 7 + 4, none⟩ = some (.bool ((rd_T79 x9_1 x10_1).f1.f3)) := hcc14 4 _ rfl; have hx14_5 : w16.cell? ⟨go14, (x10_1 : Int).toNat * 7 + 5, none⟩ = some (.bool ((rd_T79 x9_1 x10_1).f1.f4)) := hcc14 5 _ rfl; have hx14_6 : w16.cell? ⟨go14, (x10_1 : Int).toNat * 7 + 6, none⟩ = some (.int .i64 ((rd_T79 x9_1 x10_1).f2)) := hcc14 6 _ rfl; have hf14_0 : w16.frozen? ⟨go14, (x10_1 : Int).toNat * 7, none⟩ = false := hfr14 0; have hf14_1 : w16.frozen? ⟨go14, (x10_1 : Int).toNat * 7 + 1, none⟩ = false := hfr14 1; have hf14_2 : w16.frozen? ⟨go14, (x10_1 : Int).toNat * 7 + 2, none⟩ = false := hfr14 2; have hf14_3 : w16.frozen? ⟨go14, (x10_1 : Int).toNat * 7 + 3, none⟩ = false := hfr14 3; have hf14_4 : w16.frozen? ⟨go14, (x10_1 : Int).toNat * 7 + 4, none⟩ = false := hfr14 4; have hf14_5 : w16.frozen? ⟨go14, (x10_1 : Int).toNat * 7 + 5, none⟩ = false := hfr14 5; have hf14_6 : w16.frozen? ⟨go14, (x10_1 : Int).toNat * 7 + 6, none⟩ = false := hfr14 6; clear hcl14 hcc14 hfr14 hM14; replace p14 := eq_true p14; replace q14 := eq_true q14; have HX17 := am (show Kd.R k79 79 w16 w.heap.size (fun _ => True) (.slice (some ⟨go14, 0, none⟩) x9_1.length co14) x9_1 from (rr HO_9)); obtain ⟨ce17, hcl17, hM17, hcc17, hfr17⟩ := Kd.R_elem HX17.out z79 (x10_1 : Int) dt_ (by have h_ : (x10_1 : Int) < ((x9_1.length : Int) : Int) := dt_; first | exact h_ | (have e_ := (Kd.R_reads' HO_9.out).1; omega) | simpa using h_); obtain rfl := k79_openM hM17; have HP17 := Kd.R_seg HX17.out (x10_1 : Int) dt_ (by have h_ : (x10_1 : Int) < ((x9_1.length : Int) : Int) := dt_; first | exact h_ | (have e_ := (Kd.R_reads' HO_9.out).1; omega) | simpa using h_) (seg := [.int .i64 t298, .int .i64 t299, .int .i64 t300, .bool t301, .bool t302, .bool t303, .int .i64 t304]) (j := 0) hcl17 hcc17 (show 7 ≤ 7 from by decide) (x' := (⟨t298, (⟨t299, t300, t301, t302, t303⟩ : S55), t304⟩ : S79)) (k79_mkM _ _ _ (⟨t298, (⟨t299, t300, t301, t302, t303⟩ : S55), t304⟩ : S79) ) (fun _ hk => hk); have hx17_0 := hcc17 0 _ rfl; (try simp only [show (k79).sz = 7 from rfl, Nat.mul_one, Nat.add_zero] at hx17_0); have hf17_0 := hfr17 0; (try simp only [show (k79).sz = 7 from rfl, Nat.mul_one, Nat.add_zero] at hf17_0); have hx17_1 := hcc17 1 _ rfl; (try simp only [show (k79).sz = 7 from rfl, Nat.mul_one, Nat.add_zero] at hx17_1); have hf17_1 := hfr17 1; (try simp only [show (k79).sz = 7 from rfl, Nat.mul_one, Nat.add_zero] at hf17_1); have hx17_2 := hcc17 2 _ rfl; (try simp only [show (k79).sz = 7 from rfl, Nat.mul_one, Nat.add_zero] at hx17_2); have hf17_2 := hfr17 2; (try simp only [show (k79).sz = 7 from rfl, Nat.mul_one, Nat.add_zero] at hf17_2); have hx17_3 := hcc17 3 _ rfl; (try simp only [show (k79).sz = 7 from rfl, Nat.mul_one, Nat.add_zero] at hx17_3); have hf17_3 := hfr17 3; (try simp only [show (k79).sz = 7 from rfl, Nat.mul_one, Nat.add_zero] at hf17_3); have hx17_4 := hcc17 4 _ rfl; (try simp only [show (k79).sz = 7 from rfl, Nat.mul_one, Nat.add_zero] at hx17_4); have hf17_4 := hfr17 4; (try simp only [show (k79).sz = 7 from rfl, Nat.mul_one, Nat.add_zero] at hf17_4); have hx17_5 := hcc17 5 _ rfl; (try simp only [show (k79).sz = 7 from rfl, Nat.mul_one, Nat.add_zero] at hx17_5); have hf17_5 := hfr17 5; (try simp only [show (k79).sz = 7 from rfl, Nat.mul_one, Nat.add_zero] at hf17_5); have hx17_6 := hcc17 6 _ rfl; (try simp only [show (k79).sz = 7 from rfl, Nat.mul_one, Nat.add_zero] at hx17_6); have hf17_6 := hfr17 6; (try simp only [show (k79).sz = 7 from rfl, Nat.mul_one, Nat.add_zero] at hf17_6); clear hcl17 hcc17 hfr17 hM17) | ((with_reducible refine gate_store (t := 79) (p := 24) rfl ?_); refine store_event (t := 79) (p := 24) (v := ?vo_w18) (w1 := (((((((w16.setCell ⟨go14, (x10_1 : Int).toNat * 7, none⟩ (.int .i64 t298)).setCell ⟨go14, (x10_1 : Int).toNat * 7 + 1, none⟩ (.int .i64 t299)).setCell ⟨go14, (x10_1 : Int).toNat * 7 + 2, none⟩ (.int .i64 t300)).setCell ⟨go14, (x10_1 : Int).toNat * 7 + 3, none⟩ (.bool t301)).setCell ⟨go14, (x10_1 : Int).toNat * 7 + 4, none⟩ (.bool t302)).setCell ⟨go14, (x10_1 : Int).toNat * 7 + 5, none⟩ (.bool t303)).setCell ⟨go14, (x10_1 : Int).toNat * 7 + 6, none⟩ (.int .i64 t304))) ?hg ?ho ?hn ?hr ?_; (case ho => rfl); (case hg => rfl); (case hn => rfl); (case hr => first | (go_simp; done) | (go_simp; rfl)); intro w18 hw; have hg : w16.grownBy w18 (some go14) := (by rw [hw]; exact HP17.2); have hp_ : Kd.R k79 79 w18 w.heap.size (fun _ => True) (.slice (some ⟨go14, 0, none⟩) x9_1.length co14) y305 := (by rw [hw, Ny305.out]; exact HP17.1); clear HP17; have n0_ := am (hp_); have n1_ := am (blk_grown (g := gb291) (o := .cells #[.int .i64 a3_0, .int .i64 a3_1, .bool a3_2, .bool a3_3, .bool a3_4] 55 (0, 0)) (rk BK291) hg (Kd.R_ne HO_9.out BK291.out (by decide))); have n2_ := am ((by rw [hw]; exact below_set (below_set (below_set (below_set (below_set (below_set (below_set (HB.out) GB14.out) GB14.out) GB14.out) GB14.out) GB14.out) GB14.out) GB14.out : Below w.heap.size w w18)); clear HO_9; clear BK291; clear HB; have HO_9 := n0_; have BK291 := n1_; have HB := n2_; clear n0_ n1_ n2_; clear hg hw hp_))
       go_roundg k1
       case measure => have := HK1.out; omega
       case rel => exact ⟨(y305), (wrap64 (x10_1 + 1)), (by first | rfl | (simp; done) | (simp [*]; done)), H', ⟨by have := HK1.out; omega⟩, ⟨rr HO_9⟩, ⟨rk BK291⟩, ⟨by repeat (first | (with_reducible first | exact HB.out | apply b1 | apply b2 | apply b3 | refine below_set ?_ GE291.out) | exact HB.out)⟩⟩
      ·rw [if_neg c13] at H
       exact absurd H (by simp)
     ·rw [if_neg c12] at H
      exact absurd H (by simp)
    ·rw [if_neg c10] at H
     have c10b0 : decide (x10_1 < a2) = false := decide_eq_false c10
     clear c10
     replace H := Option.bind_eq_some_iff.mp H
     obtain ⟨t306, A190, H⟩ := H
     replace H : (some t306) = some r := H
     have A19 := am A190
     clear A190
     obtain rfl := Option.some.inj H
     obtain ⟨Ao20, co20, eo20⟩ := Kd.R_slice HO_9.out
     subst eo20
     go_wp2_with (first | ((with_reducible refine gate_callee (f := 85) rfl ?_); refine gl_ (some 26) Try.func85 #[.slice Ao20 x9_1.length co20] ?_; (with_reducible refine (spec_l4Mended.calls k1 _ _ x9_1 t306 _ ?side1 ?side2 A19.out).mono ?_); (case side1 => repeat (first | exact (Kd.R_reads' HO_9.out).2.2 | (with_reducible refine Kd.C_alloc ?_ _) | (with_reducible refine Kd.C_drewN ?_ _) | (with_reducible refine Kd.C_drew ?_))); (case side2 => exact (Kd.R_reads' HO_9.out).2.1); rintro e w21 ⟨v307, rfl, ho0, hb⟩; refine ⟨_, rfl, ?_⟩; have n0_ := am (Kd.R_elder' (rr HO_9) (Kd.R_base ho0) hb); have n1_ := am (Kd.R_lower (Kd.R_new' ho0 (Kd.R_lt (rr HO_9))) (below_size (rb1 HB GE291))); have n2_ := am (blk_below (g := gb291) (o := .cells #[.int .i64 a3_0, .int .i64 a3_1, .bool a3_2, .bool a3_3, .bool a3_4] 55 (0, 0)) (rk BK291) hb); have n3_ := am (below_step (rb1 HB GE291) hb); clear HO_9; clear BK291; clear HB; have HO_9 := n0_; have HO308 := n1_; have BK291 := n2_; have HB := n3_; clear n0_ n1_ n2_ n3_; (try clear hb); (try clear hb2); (try clear hk); (try clear hi); (try clear ho0)))
     go_ret
     exact ⟨_, by first | rfl | (simp [errW_none, errW_some] <;> rfl) | (simp [*, errW_none, errW_some] <;> rfl), by (with_reducible repeat (first | apply r1 | apply r2 | apply r3)); exact Kd.R_mono HO308.out (fun _ hk => trivial), by repeat (first | (with_reducible first | exact HB.out | apply b1 | apply b2 | apply b3 | refine below_set ?_ GE291.out) | exact HB.out)⟩
 ·rw [if_neg c5] at H
  exact absurd H (by simp)

/-! ### spec_Cleared: function 26 -/
def spec_Cleared.f (k : Nat) (l0 : List (S79)) (a1 : Int) (a2 : Int) (a3_0 : Int) (a3_1 : Int) (a3_2 : Bool) (a3_3 : Bool) (a3_4 : Bool) : Option ((List (S79))) := (spec_RowOk.f k l0).bind fun t310 => (if t310 = true then ((spec_StyleOk.f a3_0 a3_1 a3_2 a3_3 a3_4).bind fun t311 => (if t311 = true then ((spec_l1In.f a1 0 a2).bind fun t312 => (if t312 = true then (if a2 > (l0.length : Int) then (some (([] : List (S79)))) else ((spec_l4Cleared.f k l0 a1 a2 a3_0 a3_1 a3_2 a3_3 a3_4).bind fun t316 => (some t316))) else (some (([] : List (S79)))))) else (some (([] : List (S79)))))) else (some (([] : List (S79)))))
theorem spec_Cleared.mono : ∀ a0 a1 a2 a3 a4 a5 a6 a7 k, LeO (spec_Cleared.f k a0 a1 a2 a3 a4 a5 a6 a7) (spec_Cleared.f (k + 1) a0 a1 a2 a3 a4 a5 a6 a7) := by
 intro a0 a1 a2 a3 a4 a5 a6 a7 k
 unfold spec_Cleared.f
 repeat' first
   | (with_reducible exact spec_RowOk.mono _ _)
   | (with_reducible exact spec_l4Cleared.mono _ _ _ _ _ _ _ _ _)
   | (with_reducible exact LeO.refl _)
   | (with_reducible exact LeO.none _)
   | (with_reducible refine LeO.ite ?_ ?_)
   | (with_reducible refine LeO.bind ?_ (fun _ => ?_))
   | exact spec_RowOk.mono _ _
   | exact spec_l4Cleared.mono _ _ _ _ _ _ _ _ _
   | exact LeO.none _
   | refine LeO.ite ?_ ?_
   | refine LeO.bind ?_ (fun _ => ?_)
set_option maxHeartbeats 8000000 in
set_option maxRecDepth 100000 in
theorem spec_Cleared.calls (k : Nat) (A0 : Option Addr) (c0 : Nat) (l0 : List (S79)) (a1 : Int) (a2 : Int) (a3_0 : Int) (a3_1 : Int) (a3_2 : Bool) (a3_3 : Bool) (a3_4 : Bool) (r : List (S79)) (w : World) (hr0 : Kd.C k79 w A0 l0.length l0) (hc0 : l0.length ≤ c0) (h : spec_Cleared.f k l0 a1 a2 a3_0 a3_1 a3_2 a3_3 a3_4 = some r) :
  Calls Try.prog 26 #[.slice A0 l0.length c0, .int .i64 a1, .int .i64 a2, .agg #[.int .i64 a3_0, .int .i64 a3_1, .bool a3_2, .bool a3_3, .bool a3_4]] w fun e w' => ∃ v0_ : Value, e = .returned (v0_) ∧ Kd.R k79 79 w' w.heap.size (fun _ => True) v0_ r ∧ Below w.heap.size w w' := by
 have hu55 := Try.underlying55
 have HR0 := am hr0
 have HC0 := am hc0
 clear hr0 hc0
 have HB := am (Below.refl w.heap.size w)
 have H : ((spec_RowOk.f k l0).bind fun t310 => (if t310 = true then ((spec_StyleOk.f a3_0 a3_1 a3_2 a3_3 a3_4).bind fun t311 => (if t311 = true then ((spec_l1In.f a1 0 a2).bind fun t312 => (if t312 = true then (if a2 > (l0.length : Int) then (some (([] : List (S79)))) else ((spec_l4Cleared.f k l0 a1 a2 a3_0 a3_1 a3_2 a3_3 a3_4).bind fun t316 => (some t316))) else (some (([] : List (S79)))))) else (some (([] : List (S79)))))) else (some (([] : List (S79)))))) = some r := h
 clear h
 replace H := Option.bind_eq_some_iff.mp H
 obtain ⟨t310, A50, H⟩ := H
 replace H : (if t310 = true then ((spec_StyleOk.f a3_0 a3_1 a3_2 a3_3 a3_4).bind fun t311 => (if t311 = true then ((spec_l1In.f a1 0 a2).bind fun t312 => (if t312 = true then (if a2 > (l0.length : Int) then (some (([] : List (S79)))) else ((spec_l4Cleared.f k l0 a1 a2 a3_0 a3_1 a3_2 a3_3 a3_4).bind fun t316 => (some t316))) else (some (([] : List (S79)))))) else (some (([] : List (S79)))))) else (some (([] : List (S79))))) = some r := H
 have A5 := am A50
 clear A50
 by_cases c6 : t310 = true
 ·subst c6
  have H1 : ((spec_StyleOk.f a3_0 a3_1 a3_2 a3_3 a3_4).bind fun t311 => (if t311 = true then ((spec_l1In.f a1 0 a2).bind fun t312 => (if t312 = true then (if a2 > (l0.length : Int) then (some (([] : List (S79)))) else ((spec_l4Cleared.f k l0 a1 a2 a3_0 a3_1 a3_2 a3_3 a3_4).bind fun t316 => (some t316))) else (some (([] : List (S79)))))) else (some (([] : List (S79)))))) = some r := by rw [if_pos rfl] at H; exact H
  clear H
  have H := H1
  clear H1
  replace H := Option.bind_eq_some_iff.mp H
  obtain ⟨t311, A70, H⟩ := H
  replace H : (if t311 = true then ((spec_l1In.f a1 0 a2).bind fun t312 => (if t312 = true then (if a2 > (l0.length : Int) then (some (([] : List (S79)))) else ((spec_l4Cleared.f k l0 a1 a2 a3_0 a3_1 a3_2 a3_3 a3_4).bind fun t316 => (some t316))) else (some (([] : List (S79)))))) else (some (([] : List (S79))))) = some r := H
  have A7 := am A70
  clear A70
  by_cases c8 : t311 = true
  ·subst c8
   have H1 : ((spec_l1In.f a1 0 a2).bind fun t312 => (if t312 = true then (if a2 > (l0.length : Int) then (some (([] : List (S79)))) else ((spec_l4Cleared.f k l0 a1 a2 a3_0 a3_1 a3_2 a3_3 a3_4).bind fun t316 => (some t316))) else (some (([] : List (S79)))))) = some r := by rw [if_pos rfl] at H; exact H
   clear H
   have H := H1
   clear H1
   replace H := Option.bind_eq_some_iff.mp H
   obtain ⟨t312, A90, H⟩ := H
   replace H : (if t312 = true then (if a2 > (l0.length : Int) then (some (([] : List (S79)))) else ((spec_l4Cleared.f k l0 a1 a2 a3_0 a3_1 a3_2 a3_3 a3_4).bind fun t316 => (some t316))) else (some (([] : List (S79))))) = some r := H
   have A9 := am A90
   clear A90
   by_cases c10 : t312 = true
   ·subst c10
    have H1 : (if a2 > (l0.length : Int) then (some (([] : List (S79)))) else ((spec_l4Cleared.f k l0 a1 a2 a3_0 a3_1 a3_2 a3_3 a3_4).bind fun t316 => (some t316))) = some r := by rw [if_pos rfl] at H; exact H
    clear H
    have H := H1
    clear H1
    by_cases c11 : a2 > (l0.length : Int)
    ·rw [if_pos c11] at H
     have c11b0 : decide ((l0.length : Int) < a2) = true := decide_eq_true c11
     clear c11
     obtain ⟨y313, hy313⟩ : ∃ y_ : List (S79), y_ = (([] : List (S79))) := ⟨_, rfl⟩
     replace H : (some y313) = some r := by first | (rw [hy313]; with_reducible exact H) | (rw [hy313]; exact H) | exact H
     have Ny313 := am hy313
     clear hy313
     obtain rfl := Option.some.inj H
     go_enter Try.func26, Try.ntmps26
     go_wp2_with (first | ((with_reducible refine gate_dst (N := 7) rfl ?_); (try (refine gate_guard (by rfl) ?_; dsimp only)); refine box_event ?hg (N := 7) ?hd (cs := #[.int .i64 a3_0, .int .i64 a3_1, .bool a3_2, .bool a3_3, .bool a3_4]) (t := 55) ?hr ?_; (case hd => rfl); (case hg => rfl); (case hr => first | (go_simp; done) | (go_simp; rfl)); intro gb309 hg w12 hbox hb; have n0_ := am (below_step (rb HB) hb); have n1_ := am (hbox); have n2_ := am ((by rw [hg]; exact (below_size (rb HB)) : w.heap.size ≤ gb309)); have n3_ := am ((by rw [hg]; exact (below_size (rb HB)) : w.heap.size ≤ gb309)); clear HB; have HB := n0_; have BK309 := n1_; have GW309 := n2_; have GE309 := n3_; clear n0_ n1_ n2_ n3_; clear hb hbox hg) | ((with_reducible refine gate_callee (f := 50) rfl ?_); refine gl_ (some 10) Try.func50 #[.slice A0 l0.length c0] ?_; (with_reducible refine (spec_RowOk.calls k _ _ l0 true _ ?side1 ?side2 A5.out).mono ?_); (case side1 => exact rc ((Kd.C_below HR0.out HB.out))); (case side2 => exact HC0.out); rintro e w13 ⟨rfl, hb⟩; refine ⟨_, rfl, ?_⟩; have n0_ := am (blk_below (g := gb309) (o := .cells #[.int .i64 a3_0, .int .i64 a3_1, .bool a3_2, .bool a3_3, .bool a3_4] 55 (0, 0)) (rk BK309) hb); have n1_ := am (below_step (rb1 HB GE309) hb); clear BK309; clear HB; have BK309 := n0_; have HB := n1_; clear n0_ n1_; (try clear hb); (try clear hb2); (try clear hk); (try clear hi); have hcz14_0 : w13.cell? ⟨gb309, 0, none⟩ = some (.int .i64 a3_0) := (blk_cell BK309.out 0).trans rfl; have hcz14_1 : w13.cell? ⟨gb309, 1, none⟩ = some (.int .i64 a3_1) := (blk_cell BK309.out 1).trans rfl; have hcz14_2 : w13.cell? ⟨gb309, 2, none⟩ = some (.bool a3_2) := (blk_cell BK309.out 2).trans rfl; have hcz14_3 : w13.cell? ⟨gb309, 3, none⟩ = some (.bool a3_3) := (blk_cell BK309.out 3).trans rfl; have hcz14_4 : w13.cell? ⟨gb309, 4, none⟩ = some (.bool a3_4) := (blk_cell BK309.out 4).trans rfl; have hfz14_0 := blk_frozen BK309.out 0; have hfz14_1 := blk_frozen BK309.out 1; have hfz14_2 := blk_frozen BK309.out 2; have hfz14_3 := blk_frozen BK309.out 3; have hfz14_4 := blk_frozen BK309.out 4) | (go_at_call 61; (with_reducible refine (spec_StyleOk.calls a3_0 a3_1 a3_2 a3_3 a3_4 true _ A7.out).mono ?_); rintro e w15 ⟨rfl, hb⟩; have n0_ := am (blk_below (g := gb309) (o := .cells #[.int .i64 a3_0, .int .i64 a3_1, .bool a3_2, .bool a3_3, .bool a3_4] 55 (0, 0)) (rk BK309) hb); have n1_ := am (below_step (rb1 HB GE309) hb); clear BK309; clear HB; have BK309 := n0_; have HB := n1_; clear n0_ n1_; (try clear hb); (try clear hb2); (try clear hk); (try clear hi)) | (go_at_call 49; (with_reducible refine (spec_l1In.calls a1 0 a2 true _ A9.out).mono ?_); rintro e w' ⟨rfl, ⟨nd, rfl⟩⟩) | ((with_reducible refine gate_dst (N := 29) rfl ?_); (try (refine gate_guard (by rfl) ?_; dsimp only)); refine Kd.R_lit k79 _ 79 ?hg (N := 29) ?hd (xs := ([] : List (S79))) (inner := []) (ok := fun _ => True) (okp := fun _ => True) ?hr ?hp (fun _ hk => hk) trivial (Below.refl _ _) (Nat.le_refl _) (by simp) ?_; (case hd => rfl); (case hg => rfl); (case hr => first | (go_simp; done) | (go_simp; rfl)); (case hp => exact (Reps.none _ _)); intro v314 w16 ho17 hb hg_ hnew_; clear hg_ hnew_; (first | rw [← Ny313.out] at ho17 | (simp only [Int.reduceToNat] at ho17; rw [← Ny313.out] at ho17)); have n0_ := am (Kd.R_lower ho17 (below_size (rb1 HB GE309))); have n1_ := am (blk_below (g := gb309) (o := .cells #[.int .i64 a3_0, .int .i64 a3_1, .bool a3_2, .bool a3_3, .bool a3_4] 55 (0, 0)) (rk BK309) hb); have n2_ := am (below_step (rb1 HB GE309) hb); clear BK309; clear HB; have HO315 := n0_; have BK309 := n1_; have HB := n2_; clear n0_ n1_ n2_; clear hb ho17))
     go_ret
     exact ⟨_, by first | rfl | (simp [errW_none, errW_some] <;> rfl) | (simp [*, errW_none, errW_some] <;> rfl), by (with_reducible repeat (first | apply r1 | apply r2 | apply r3)); exact HO315.out, by repeat (first | (with_reducible first | exact HB.out | apply b1 | apply b2 | apply b3 | refine below_set ?_ GE309.out) | exact HB.out)⟩
    ·rw [if_neg c11] at H
     have c11b0 : decide ((l0.length : Int) < a2) = false := decide_eq_false c11
     clear c11
     replace H := Option.bind_eq_some_iff.mp H
     obtain ⟨t316, A180, H⟩ := H
     replace H : (some t316) = some r := H
     have A18 := am A180
     clear A180
     obtain rfl := Option.some.inj H
     go_enter Try.func26, Try.ntmps26
     go_wp2_with (first | ((with_reducible refine gate_dst (N := 7) rfl ?_); (try (refine gate_guard (by rfl) ?_; dsimp only)); refine box_event ?hg (N := 7) ?hd (cs := #[.int .i64 a3_0, .int .i64 a3_1, .bool a3_2, .bool a3_3, .bool a3_4]) (t := 55) ?hr ?_; (case hd => rfl); (case hg => rfl); (case hr => first | (go_simp; done) | (go_simp; rfl)); intro gb309 hg w19 hbox hb; have n0_ := am (below_step (rb HB) hb); have n1_ := am (hbox); have n2_ := am ((by rw [hg]; exact (below_size (rb HB)) : w.heap.size ≤ gb309)); have n3_ := am ((by rw [hg]; exact (below_size (rb HB)) : w.heap.size ≤ gb309)); clear HB; have HB := n0_; have BK309 := n1_; have GW309 := n2_; have GE309 := n3_; clear n0_ n1_ n2_ n3_; clear hb hbox hg) | ((with_reducible refine gate_callee (f := 50) rfl ?_); refine gl_ (some 10) Try.func50 #[.slice A0 l0.length c0] ?_; (with_reducible refine (spec_RowOk.calls k _ _ l0 true _ ?side1 ?side2 A5.out).mono ?_); (case side1 => exact rc ((Kd.C_below HR0.out HB.out))); (case side2 => exact HC0.out); rintro e w20 ⟨rfl, hb⟩; refine ⟨_, rfl, ?_⟩; have n0_ := am (blk_below (g := gb309) (o := .cells #[.int .i64 a3_0, .int .i64 a3_1, .bool a3_2, .bool a3_3, .bool a3_4] 55 (0, 0)) (rk BK309) hb); have n1_ := am (below_step (rb1 HB GE309) hb); clear BK309; clear HB; have BK309 := n0_; have HB := n1_; clear n0_ n1_; (try clear hb); (try clear hb2); (try clear hk); (try clear hi); have hcz21_0 : w20.cell? ⟨gb309, 0, none⟩ = some (.int .i64 a3_0) := (blk_cell BK309.out 0).trans rfl; have hcz21_1 : w20.cell? ⟨gb309, 1, none⟩ = some (.int .i64 a3_1) := (blk_cell BK309.out 1).trans rfl; have hcz21_2 : w20.cell? ⟨gb309, 2, none⟩ = some (.bool a3_2) := (blk_cell BK309.out 2).trans rfl; have hcz21_3 : w20.cell? ⟨gb309, 3, none⟩ = some (.bool a3_3) := (blk_cell BK309.out 3).trans rfl; have hcz21_4 : w20.cell? ⟨gb309, 4, none⟩ = some (.bool a3_4) := (blk_cell BK309.out 4).trans rfl; have hfz21_0 := blk_frozen BK309.out 0; have hfz21_1 := blk_frozen BK309.out 1; have hfz21_2 := blk_frozen BK309.out 2; have hfz21_3 := blk_frozen BK309.out 3; have hfz21_4 := blk_frozen BK309.out 4) | (go_at_call 61; (with_reducible refine (spec_StyleOk.calls a3_0 a3_1 a3_2 a3_3 a3_4 true _ A7.out).mono ?_); rintro e w22 ⟨rfl, hb⟩; have n0_ := am (blk_below (g := gb309) (o := .cells #[.int .i64 a3_0, .int .i64 a3_1, .bool a3_2, .bool a3_3, .bool a3_4] 55 (0, 0)) (rk BK309) hb); have n1_ := am (below_step (rb1 HB GE309) hb); clear BK309; clear HB; have BK309 := n0_; have HB := n1_; clear n0_ n1_; (try clear hb); (try clear hb2); (try clear hk); (try clear hi)) | (go_at_call 49; (with_reducible refine (spec_l1In.calls a1 0 a2 true _ A9.out).mono ?_); rintro e w' ⟨rfl, ⟨nd, rfl⟩⟩; have hcz23_0 : w22.cell? ⟨gb309, 0, none⟩ = some (.int .i64 a3_0) := (blk_cell BK309.out 0).trans rfl; have hcz23_1 : w22.cell? ⟨gb309, 1, none⟩ = some (.int .i64 a3_1) := (blk_cell BK309.out 1).trans rfl; have hcz23_2 : w22.cell? ⟨gb309, 2, none⟩ = some (.bool a3_2) := (blk_cell BK309.out 2).trans rfl; have hcz23_3 : w22.cell? ⟨gb309, 3, none⟩ = some (.bool a3_3) := (blk_cell BK309.out 3).trans rfl; have hcz23_4 : w22.cell? ⟨gb309, 4, none⟩ = some (.bool a3_4) := (blk_cell BK309.out 4).trans rfl; have hfz23_0 := blk_frozen BK309.out 0; have hfz23_1 := blk_frozen BK309.out 1; have hfz23_2 := blk_frozen BK309.out 2; have hfz23_3 := blk_frozen BK309.out 3; have hfz23_4 := blk_frozen BK309.out 4) | ((with_reducible refine gate_callee (f := 62) rfl ?_); refine gl_ (some 34) Try.func62 #[.slice A0 l0.length c0, .int .i64 a1, .int .i64 a2, .agg #[.int .i64 a3_0, .int .i64 a3_1, .bool a3_2, .bool a3_3, .bool a3_4]] ?_; (with_reducible refine (spec_l4Cleared.calls k _ _ l0 a1 a2 a3_0 a3_1 a3_2 a3_3 a3_4 t316 _ ?side1 ?side2 A18.out).mono ?_); (case side1 => exact rc ((Kd.C_below HR0.out (rb1 HB GE309)))); (case side2 => exact HC0.out); rintro e w24 ⟨v317, rfl, ho0, hb⟩; refine ⟨_, rfl, ?_⟩; have n0_ := am (Kd.R_lower ho0 (below_size (rb1 HB GE309))); have n1_ := am (blk_below (g := gb309) (o := .cells #[.int .i64 a3_0, .int .i64 a3_1, .bool a3_2, .bool a3_3, .bool a3_4] 55 (0, 0)) (rk BK309) hb); have n2_ := am (below_step (rb1 HB GE309) hb); clear BK309; clear HB; have HO318 := n0_; have BK309 := n1_; have HB := n2_; clear n0_ n1_ n2_; (try clear hb); (try clear hb2); (try clear hk); (try clear hi); (try clear ho0)))
     go_ret
     exact ⟨_, by first | rfl | (simp [errW_none, errW_some] <;> rfl) | (simp [*, errW_none, errW_some] <;> rfl), by (with_reducible repeat (first | apply r1 | apply r2 | apply r3)); exact HO318.out, by repeat (first | (with_reducible first | exact HB.out | apply b1 | apply b2 | apply b3 | refine below_set ?_ GE309.out) | exact HB.out)⟩
   ·replace c10 := Bool.eq_false_iff.mpr c10
    subst c10
    have H1 : (some (([] : List (S79)))) = some r := by rw [if_neg (show ¬ (false = true) by decide)] at H; exact H
    clear H
    have H := H1
    clear H1
    obtain ⟨y319, hy319⟩ : ∃ y_ : List (S79), y_ = (([] : List (S79))) := ⟨_, rfl⟩
    replace H : (some y319) = some r := by first | (rw [hy319]; with_reducible exact H) | (rw [hy319]; exact H) | exact H
    have Ny319 := am hy319
    clear hy319
    obtain rfl := Option.some.inj H
    go_enter Try.func26, Try.ntmps26
    go_wp2_with (first | ((with_reducible refine gate_dst (N := 7) rfl ?_); (try (refine gate_guard (by rfl) ?_; dsimp only)); refine box_event ?hg (N := 7) ?hd (cs := #[.int .i64 a3_0, .int .i64 a3_1, .bool a3_2, .bool a3_3, .bool a3_4]) (t := 55) ?hr ?_; (case hd => rfl); (case hg => rfl); (case hr => first | (go_simp; done) | (go_simp; rfl)); intro gb309 hg w25 hbox hb; have n0_ := am (below_step (rb HB) hb); have n1_ := am (hbox); have n2_ := am ((by rw [hg]; exact (below_size (rb HB)) : w.heap.size ≤ gb309)); have n3_ := am ((by rw [hg]; exact (below_size (rb HB)) : w.heap.size ≤ gb309)); clear HB; have HB := n0_; have BK309 := n1_; have GW309 := n2_; have GE309 := n3_; clear n0_ n1_ n2_ n3_; clear hb hbox hg) | ((with_reducible refine gate_callee (f := 50) rfl ?_); refine gl_ (some 10) Try.func50 #[.slice A0 l0.length c0] ?_; (with_reducible refine (spec_RowOk.calls k _ _ l0 true _ ?side1 ?side2 A5.out).mono ?_); (case side1 => exact rc ((Kd.C_below HR0.out HB.out))); (case side2 => exact HC0.out); rintro e w26 ⟨rfl, hb⟩; refine ⟨_, rfl, ?_⟩; have n0_ := am (blk_below (g := gb309) (o := .cells #[.int .i64 a3_0, .int .i64 a3_1, .bool a3_2, .bool a3_3, .bool a3_4] 55 (0, 0)) (rk BK309) hb); have n1_ := am (below_step (rb1 HB GE309) hb); clear BK309; clear HB; have BK309 := n0_; have HB := n1_; clear n0_ n1_; (try clear hb); (try clear hb2); (try clear hk); (try clear hi); have hcz27_0 : w26.cell? ⟨gb309, 0, none⟩ = some (.int .i64 a3_0) := (blk_cell BK309.out 0).trans rfl; have hcz27_1 : w26.cell? ⟨gb309, 1, none⟩ = some (.int .i64 a3_1) := (blk_cell BK309.out 1).trans rfl; have hcz27_2 : w26.cell? ⟨gb309, 2, none⟩ = some (.bool a3_2) := (blk_cell BK309.out 2).trans rfl; have hcz27_3 : w26.cell? ⟨gb309, 3, none⟩ = some (.bool a3_3) := (blk_cell BK309.out 3).trans rfl; have hcz27_4 : w26.cell? ⟨gb309, 4, none⟩ = some (.bool a3_4) := (blk_cell BK309.out 4).trans rfl; have hfz27_0 := blk_frozen BK309.out 0; have hfz27_1 := blk_frozen BK309.out 1; have hfz27_2 := blk_frozen BK309.out 2; have hfz27_3 := blk_frozen BK309.out 3; have hfz27_4 := blk_frozen BK309.out 4) | (go_at_call 61; (with_reducible refine (spec_StyleOk.calls a3_0 a3_1 a3_2 a3_3 a3_4 true _ A7.out).mono ?_); rintro e w28 ⟨rfl, hb⟩; have n0_ := am (blk_below (g := gb309) (o := .cells #[.int .i64 a3_0, .int .i64 a3_1, .bool a3_2, .bool a3_3, .bool a3_4] 55 (0, 0)) (rk BK309) hb); have n1_ := am (below_step (rb1 HB GE309) hb); clear BK309; clear HB; have BK309 := n0_; have HB := n1_; clear n0_ n1_; (try clear hb); (try clear hb2); (try clear hk); (try clear hi)) | (go_at_call 49; (with_reducible refine (spec_l1In.calls a1 0 a2 false _ A9.out).mono ?_); rintro e w' ⟨rfl, ⟨nd, rfl⟩⟩) | ((with_reducible refine gate_dst (N := 29) rfl ?_); (try (refine gate_guard (by rfl) ?_; dsimp only)); refine Kd.R_lit k79 _ 79 ?hg (N := 29) ?hd (xs := ([] : List (S79))) (inner := []) (ok := fun _ => True) (okp := fun _ => True) ?hr ?hp (fun _ hk => hk) trivial (Below.refl _ _) (Nat.le_refl _) (by simp) ?_; (case hd => rfl); (case hg => rfl); (case hr => first | (go_simp; done) | (go_simp; rfl)); (case hp => exact (Reps.none _ _)); intro v320 w29 ho30 hb hg_ hnew_; clear hg_ hnew_; (first | rw [← Ny319.out] at ho30 | (simp only [Int.reduceToNat] at ho30; rw [← Ny319.out] at ho30)); have n0_ := am (Kd.R_lower ho30 (below_size (rb1 HB GE309))); have n1_ := am (blk_below (g := gb309) (o := .cells #[.int .i64 a3_0, .int .i64 a3_1, .bool a3_2, .bool a3_3, .bool a3_4] 55 (0, 0)) (rk BK309) hb); have n2_ := am (below_step (rb1 HB GE309) hb); clear BK309; clear HB; have HO321 := n0_; have BK309 := n1_; have HB := n2_; clear n0_ n1_ n2_; clear hb ho30))
    go_ret
    exact ⟨_, by first | rfl | (simp [errW_none, errW_some] <;> rfl) | (simp [*, errW_none, errW_some] <;> rfl), by (with_reducible repeat (first | apply r1 | apply r2 | apply r3)); exact HO321.out, by repeat (first | (with_reducible first | exact HB.out | apply b1 | apply b2 | apply b3 | refine below_set ?_ GE309.out) | exact HB.out)⟩
  ·replace c8 := Bool.eq_false_iff.mpr c8
   subst c8
   have H1 : (some (([] : List (S79)))) = some r := by rw [if_neg (show ¬ (false = true) by decide)] at H; exact H
   clear H
   have H := H1
   clear H1
   obtain ⟨y322, hy322⟩ : ∃ y_ : List (S79), y_ = (([] : List (S79))) := ⟨_, rfl⟩
   replace H : (some y322) = some r := by first | (rw [hy322]; with_reducible exact H) | (rw [hy322]; exact H) | exact H
   have Ny322 := am hy322
   clear hy322
   obtain rfl := Option.some.inj H
   go_enter Try.func26, Try.ntmps26
   go_wp2_with (first | ((with_reducible refine gate_dst (N := 7) rfl ?_); (try (refine gate_guard (by rfl) ?_; dsimp only)); refine box_event ?hg (N := 7) ?hd (cs := #[.int .i64 a3_0, .int .i64 a3_1, .bool a3_2, .bool a3_3, .bool a3_4]) (t := 55) ?hr ?_; (case hd => rfl); (case hg => rfl); (case hr => first | (go_simp; done) | (go_simp; rfl)); intro gb309 hg w31 hbox hb; have n0_ := am (below_step (rb HB) hb); have n1_ := am (hbox); have n2_ := am ((by rw [hg]; exact (below_size (rb HB)) : w.heap.size ≤ gb309)); have n3_ := am ((by rw [hg]; exact (below_size (rb HB)) : w.heap.size ≤ gb309)); clear HB; have HB := n0_; have BK309 := n1_; have GW309 := n2_; have GE309 := n3_; clear n0_ n1_ n2_ n3_; clear hb hbox hg) | ((with_reducible refine gate_callee (f := 50) rfl ?_); refine gl_ (some 10) Try.func50 #[.slice A0 l0.length c0] ?_; (with_reducible refine (spec_RowOk.calls k _ _ l0 true _ ?side1 ?side2 A5.out).mono ?_); (case side1 => exact rc ((Kd.C_below HR0.out HB.out))); (case side2 => exact HC0.out); rintro e w32 ⟨rfl, hb⟩; refine ⟨_, rfl, ?_⟩; have n0_ := am (blk_below (g := gb309) (o := .cells #[.int .i64 a3_0, .int .i64 a3_1, .bool a3_2, .bool a3_3, .bool a3_4] 55 (0, 0)) (rk BK309) hb); have n1_ := am (below_step (rb1 HB GE309) hb); clear BK309; clear HB; have BK309 := n0_; have HB := n1_; clear n0_ n1_; (try clear hb); (try clear hb2); (try clear hk); (try clear hi); have hcz33_0 : w32.cell? ⟨gb309, 0, none⟩ = some (.int .i64 a3_0) := (blk_cell BK309.out 0).trans rfl; have hcz33_1 : w32.cell? ⟨gb309, 1, none⟩ = some (.int .i64 a3_1) := (blk_cell BK309.out 1).trans rfl; have hcz33_2 : w32.cell? ⟨gb309, 2, none⟩ = some (.bool a3_2) := (blk_cell BK309.out 2).trans rfl; have hcz33_3 : w32.cell? ⟨gb309, 3, none⟩ = some (.bool a3_3) := (blk_cell BK309.out 3).trans rfl; have hcz33_4 : w32.cell? ⟨gb309, 4, none⟩ = some (.bool a3_4) := (blk_cell BK309.out 4).trans rfl; have hfz33_0 := blk_frozen BK309.out 0; have hfz33_1 := blk_frozen BK309.out 1; have hfz33_2 := blk_frozen BK309.out 2; have hfz33_3 := blk_frozen BK309.out 3; have hfz33_4 := blk_frozen BK309.out 4) | (go_at_call 61; (with_reducible refine (spec_StyleOk.calls a3_0 a3_1 a3_2 a3_3 a3_4 false _ A7.out).mono ?_); rintro e w34 ⟨rfl, hb⟩; have n0_ := am (blk_below (g := gb309) (o := .cells #[.int .i64 a3_0, .int .i64 a3_1, .bool a3_2, .bool a3_3, .bool a3_4] 55 (0, 0)) (rk BK309) hb); have n1_ := am (below_step (rb1 HB GE309) hb); clear BK309; clear HB; have BK309 := n0_; have HB := n1_; clear n0_ n1_; (try clear hb); (try clear hb2); (try clear hk); (try clear hi)) | ((with_reducible refine gate_dst (N := 29) rfl ?_); (try (refine gate_guard (by rfl) ?_; dsimp only)); refine Kd.R_lit k79 _ 79 ?hg (N := 29) ?hd (xs := ([] : List (S79))) (inner := []) (ok := fun _ => True) (okp := fun _ => True) ?hr ?hp (fun _ hk => hk) trivial (Below.refl _ _) (Nat.le_refl _) (by simp) ?_; (case hd => rfl); (case hg => rfl); (case hr => first | (go_simp; done) | (go_simp; rfl)); (case hp => exact (Reps.none _ _)); intro v323 w35 ho36 hb hg_ hnew_; clear hg_ hnew_; (first | rw [← Ny322.out] at ho36 | (simp only [Int.reduceToNat] at ho36; rw [← Ny322.out] at ho36)); have n0_ := am (Kd.R_lower ho36 (below_size (rb1 HB GE309))); have n1_ := am (blk_below (g := gb309) (o := .cells #[.int .i64 a3_0, .int .i64 a3_1, .bool a3_2, .bool a3_3, .bool a3_4] 55 (0, 0)) (rk BK309) hb); have n2_ := am (below_step (rb1 HB GE309) hb); clear BK309; clear HB; have HO324 := n0_; have BK309 := n1_; have HB := n2_; clear n0_ n1_ n2_; clear hb ho36))
   go_ret
   exact ⟨_, by first | rfl | (simp [errW_none, errW_some] <;> rfl) | (simp [*, errW_none, errW_some] <;> rfl), by (with_reducible repeat (first | apply r1 | apply r2 | apply r3)); exact HO324.out, by repeat (first | (with_reducible first | exact HB.out | apply b1 | apply b2 | apply b3 | refine below_set ?_ GE309.out) | exact HB.out)⟩
 ·replace c6 := Bool.eq_false_iff.mpr c6
  subst c6
  have H1 : (some (([] : List (S79)))) = some r := by rw [if_neg (show ¬ (false = true) by decide)] at H; exact H
  clear H
  have H := H1
  clear H1
  obtain ⟨y325, hy325⟩ : ∃ y_ : List (S79), y_ = (([] : List (S79))) := ⟨_, rfl⟩
  replace H : (some y325) = some r := by first | (rw [hy325]; with_reducible exact H) | (rw [hy325]; exact H) | exact H
  have Ny325 := am hy325
  clear hy325
  obtain rfl := Option.some.inj H
  go_enter Try.func26, Try.ntmps26
  go_wp2_with (first | ((with_reducible refine gate_dst (N := 7) rfl ?_); (try (refine gate_guard (by rfl) ?_; dsimp only)); refine box_event ?hg (N := 7) ?hd (cs := #[.int .i64 a3_0, .int .i64 a3_1, .bool a3_2, .bool a3_3, .bool a3_4]) (t := 55) ?hr ?_; (case hd => rfl); (case hg => rfl); (case hr => first | (go_simp; done) | (go_simp; rfl)); intro gb309 hg w37 hbox hb; have n0_ := am (below_step (rb HB) hb); have n1_ := am (hbox); have n2_ := am ((by rw [hg]; exact (below_size (rb HB)) : w.heap.size ≤ gb309)); have n3_ := am ((by rw [hg]; exact (below_size (rb HB)) : w.heap.size ≤ gb309)); clear HB; have HB := n0_; have BK309 := n1_; have GW309 := n2_; have GE309 := n3_; clear n0_ n1_ n2_ n3_; clear hb hbox hg) | ((with_reducible refine gate_callee (f := 50) rfl ?_); refine gl_ (some 10) Try.func50 #[.slice A0 l0.length c0] ?_; (with_reducible refine (spec_RowOk.calls k _ _ l0 false _ ?side1 ?side2 A5.out).mono ?_); (case side1 => exact rc ((Kd.C_below HR0.out HB.out))); (case side2 => exact HC0.out); rintro e w38 ⟨rfl, hb⟩; refine ⟨_, rfl, ?_⟩; have n0_ := am (blk_below (g := gb309) (o := .cells #[.int .i64 a3_0, .int .i64 a3_1, .bool a3_2, .bool a3_3, .bool a3_4] 55 (0, 0)) (rk BK309) hb); have n1_ := am (below_step (rb1 HB GE309) hb); clear BK309; clear HB; have BK309 := n0_; have HB := n1_; clear n0_ n1_; (try clear hb); (try clear hb2); (try clear hk); (try clear hi)) | ((with_reducible refine gate_dst (N := 29) rfl ?_); (try (refine gate_guard (by rfl) ?_; dsimp only)); refine Kd.R_lit k79 _ 79 ?hg (N := 29) ?hd (xs := ([] : List (S79))) (inner := []) (ok := fun _ => True) (okp := fun _ => True) ?hr ?hp (fun _ hk => hk) trivial (Below.refl _ _) (Nat.le_refl _) (by simp) ?_; (case hd => rfl); (case hg => rfl); (case hr => first | (go_simp; done) | (go_simp; rfl)); (case hp => exact (Reps.none _ _)); intro v326 w39 ho40 hb hg_ hnew_; clear hg_ hnew_; (first | rw [← Ny325.out] at ho40 | (simp only [Int.reduceToNat] at ho40; rw [← Ny325.out] at ho40)); have n0_ := am (Kd.R_lower ho40 (below_size (rb1 HB GE309))); have n1_ := am (blk_below (g := gb309) (o := .cells #[.int .i64 a3_0, .int .i64 a3_1, .bool a3_2, .bool a3_3, .bool a3_4] 55 (0, 0)) (rk BK309) hb); have n2_ := am (below_step (rb1 HB GE309) hb); clear BK309; clear HB; have HO327 := n0_; have BK309 := n1_; have HB := n2_; clear n0_ n1_ n2_; clear hb ho40))
  go_ret
  exact ⟨_, by first | rfl | (simp [errW_none, errW_some] <;> rfl) | (simp [*, errW_none, errW_some] <;> rfl), by (with_reducible repeat (first | apply r1 | apply r2 | apply r3)); exact HO327.out, by repeat (first | (with_reducible first | exact HB.out | apply b1 | apply b2 | apply b3 | refine below_set ?_ GE309.out) | exact HB.out)⟩

/-! ### impl_isSpan: function 65 -/
def impl_isSpan.f (l0 : List (S79)) (a1 : Int) (a2 : Int) : Option (Bool) := if 0 ≤ a1 then (if a1 ≤ a2 then (some (decide (a2 ≤ (l0.length : Int)))) else (some false)) else (some false)
set_option maxHeartbeats 8000000 in
set_option maxRecDepth 100000 in
theorem impl_isSpan.calls (A0 : Option Addr) (c0 : Nat) (l0 : List (S79)) (a1 : Int) (a2 : Int) (r : Bool) (w : World) (hr0 : Kd.C k79 w A0 l0.length l0) (hc0 : l0.length ≤ c0) (h : impl_isSpan.f l0 a1 a2 = some r) :
  Calls Try.prog 65 #[.slice A0 l0.length c0, .int .i64 a1, .int .i64 a2] w fun e w' => e = .returned (.bool r) ∧ Drawn0 w w' := by
 have HR0 := am hr0
 have HC0 := am hc0
 clear hr0 hc0
 have H : (if 0 ≤ a1 then (if a1 ≤ a2 then (some (decide (a2 ≤ (l0.length : Int)))) else (some false)) else (some false)) = some r := h
 clear h
 by_cases c4 : 0 ≤ a1
 ·rw [if_pos c4] at H
  have c4b0 : decide (0 ≤ a1) = true := decide_eq_true c4
  clear c4
  by_cases c5 : a1 ≤ a2
  ·rw [if_pos c5] at H
   have c5b0 : decide (a1 ≤ a2) = true := decide_eq_true c5
   clear c5
   obtain rfl := Option.some.inj H
   go_enter Try.func65, Try.ntmps65
   go_wp2
   go_ret
   exact ⟨by first | rfl | (simp; done) | (simp [*]; done), by repeat (first | exact Drawn0.refl _ | apply Drawn0.step)⟩
  ·rw [if_neg c5] at H
   have c5b0 : decide (a1 ≤ a2) = false := decide_eq_false c5
   clear c5
   obtain rfl := Option.some.inj H
   go_enter Try.func65, Try.ntmps65
   go_wp2
   go_ret
   exact ⟨by first | rfl | (simp; done) | (simp [*]; done), by repeat (first | exact Drawn0.refl _ | apply Drawn0.step)⟩
 ·rw [if_neg c4] at H
  have c4b0 : decide (0 ≤ a1) = false := decide_eq_false c4
  clear c4
  obtain rfl := Option.some.inj H
  go_enter Try.func65, Try.ntmps65
  go_wp2
  go_ret
  exact ⟨by first | rfl | (simp; done) | (simp [*]; done), by repeat (first | exact Drawn0.refl _ | apply Drawn0.step)⟩

/-! ### impl_Cell_66: function 66 -/
def impl_Cell_66.f (l0 : List (S79)) : Option ((List (S79))) := (some (([] : List (S79)) : List (S79))).bind fun y328 => (if y328.length + l0.length < 3518437208883 then (some (y328 ++ l0)) else (none))
theorem impl_Cell_66.eqnilIn {P : Program} (w : World) (d : Nat) (t e : TypeId) (a : Option Addr) (n c n' c' : Nat) (h : P.underlying t = some (.slice e)) :
  (Op.equalIn (d + 1) t (.slice a n c) (.slice none n' c')).run P w = .ok a.isNone w := by
 cases a <;> simp [Op.equalIn, run_underlying h]
theorem impl_Cell_66.eqnil (W : World) (A : Option Addr) (n c : Nat) : (binOp .eql 52 (.slice A n c) (.slice none 0 0)).run Try.prog W = .ok (.bool A.isNone) W := by
 have hu : Try.prog.underlying 52 = some (.slice 79) := by kernel_rfl
 simp only [binOp]
 simp [Op.equal, Op.maxDepth, impl_Cell_66.eqnilIn W 9999 52 79 A n c 0 0 hu]
set_option maxHeartbeats 8000000 in
set_option maxRecDepth 100000 in
theorem impl_Cell_66.calls (A0 : Option Addr) (c0 : Nat) (l0 : List (S79)) (r : List (S79)) (w : World) (hr0 : Kd.C k79 w A0 l0.length l0) (hc0 : l0.length ≤ c0) (h : impl_Cell_66.f l0 = some r) :
  Calls Try.prog 66 #[.slice A0 l0.length c0] w fun e w' => ∃ v0_ : Value, e = .returned (v0_) ∧ Kd.R k79 79 w' w.heap.size (fun _ => True) v0_ r ∧ Below w.heap.size w w' := by
 cases A0 with
 | none =>
  have hl : l0 = [] := List.eq_nil_of_length_eq_zero (Nat.eq_zero_of_not_pos fun hp => by obtain ⟨ad, e, _⟩ := hr0.2.2 hp; cases e)
  subst hl
  have hn : ([] : List _) = r := Option.some.inj ((show impl_Cell_66.f [] = some [] from rfl).symm.trans h)
  subst hn
  clear h hr0
  have heq := impl_Cell_66.eqnil
  go_enter Try.func66, Try.ntmps66
  go_wp2
  go_ret
  exact ⟨_, rfl, Kd.R_nil _ _ _ _ _, Below.refl _ _⟩
 | some a0_ =>
  have HR0 := am hr0
  have HC0 := am hc0
  clear hr0 hc0
  have HB := am (Below.refl w.heap.size w)
  have H : ((some (([] : List (S79)) : List (S79))).bind fun y328 => (if y328.length + l0.length < 3518437208883 then (some (y328 ++ l0)) else (none))) = some r := h
  clear h
  obtain ⟨y328, hy328⟩ : ∃ y_ : List (S79), y_ = (([] : List (S79))) := ⟨_, rfl⟩
  replace H : (if y328.length + l0.length < 3518437208883 then (some (y328 ++ l0)) else (none)) = some r := by first | (rw [hy328]; with_reducible exact H) | (rw [hy328]; exact H) | exact H
  have Ny328 := am hy328
  clear hy328
  by_cases c2 : y328.length + l0.length < 3518437208883
  ·rw [if_pos c2] at H
   have LMc2 := am c2
   clear c2
   obtain ⟨y331, hy331⟩ : ∃ y_ : List (S79), y_ = (y328 ++ l0) := ⟨_, rfl⟩
   replace H : (some y331) = some r := by first | (rw [hy331]; with_reducible exact H) | (rw [hy331]; exact H) | exact H
   have Ny331 := am hy331
   clear hy331
   obtain rfl := Option.some.inj H
   have heq := impl_Cell_66.eqnil
   go_enter Try.func66, Try.ntmps66
   go_wp2_with (first | ((with_reducible refine gate_dst (N := 5) rfl ?_); refine Kd.R_lit k79 _ 79 ?hg (N := 5) ?hd (xs := ([] : List (S79))) (inner := []) (ok := fun _ => True) (okp := fun _ => True) ?hr ?hp (fun _ hk => hk) trivial (Below.refl _ _) (Nat.le_refl _) (by simp) ?_; (case hd => rfl); (case hg => rfl); (case hr => first | (go_simp; done) | (go_simp; rfl)); (case hp => exact (Reps.none _ _)); intro v329 w3 ho4 hb hg_ hnew_; clear hg_ hnew_; (first | rw [← Ny328.out] at ho4 | (simp only [Int.reduceToNat] at ho4; rw [← Ny328.out] at ho4)); have n0_ := am (Kd.R_lower ho4 (below_size (rb HB))); have n1_ := am (below_step (rb HB) hb); clear HB; have HO330 := n0_; have HB := n1_; clear n0_ n1_; clear hb ho4) | ((with_reducible refine gate_builtin (b := .append) (xs := #[.tmp 5, .tmp 6]) rfl ?_); at_builtin; refine Kd.R_append_rows k79 (w0 := w) w.heap.size rfl (.tmp 5) (.tmp 6) 52 79 (.agg #[(.int .i64 0), (.int .i64 0), (.int .i64 0), (.bool false), (.bool false), (.bool false), (.int .i64 0)]) 40 rfl Try.underlying52 info79 rfl (by decide) (by omega) v329 y328 l0 _ _ _ (fun _ => True) (fun _ => False) rfl rfl ?aO ?aR (fun _ _ h => h) (fun _ h => h.elim) ?aF ?aB ?aS ?aL ?_; (case aR => repeat (first | exact (Kd.C_below HR0.out HB.out) | (with_reducible refine Kd.C_alloc ?_ _) | (with_reducible refine Kd.C_drewN ?_ _) | (with_reducible refine Kd.C_drew ?_))); (case aB => exact (rb HB)); (case aF => exact (fun _ _ => trivial)); (case aO => exact (rr HO330)); (case aS => exact (below_size (rb HB))); (case aL => have := LMc2.out; omega); intro v332 w5 ho hb hg hat; rw [← Ny331.out] at ho; have n0_ := am (hb); have n1_ := am (ho); clear HB; clear HO330; have HB := n0_; have HO333 := n1_; clear n0_ n1_; clear ho hb hg hat))
   go_ret
   exact ⟨_, by first | rfl | (simp [errW_none, errW_some] <;> rfl) | (simp [*, errW_none, errW_some] <;> rfl), by (with_reducible repeat (first | apply r1 | apply r2 | apply r3)); exact HO333.out, by repeat (first | (with_reducible first | exact HB.out | apply b1 | apply b2 | apply b3) | exact HB.out)⟩
  ·rw [if_neg c2] at H
   exact absurd H (by simp)

/-! ### impl_blank: function 83 -/
def impl_blank.f (a0_0 : Int) (a0_1 : Int) (a0_2 : Bool) (a0_3 : Bool) (a0_4 : Bool) : Option (Int × Int × Int × Bool × Bool × Bool × Int) := some (32, a0_0, a0_1, a0_2, a0_3, a0_4, 0)
set_option maxHeartbeats 8000000 in
set_option maxRecDepth 100000 in
theorem impl_blank.calls (a0_0 : Int) (a0_1 : Int) (a0_2 : Bool) (a0_3 : Bool) (a0_4 : Bool) (r1 : Int) (r2 : Int) (r3 : Int) (r4 : Bool) (r5 : Bool) (r6 : Bool) (r7 : Int) (w : World) (h : impl_blank.f a0_0 a0_1 a0_2 a0_3 a0_4 = some (r1, r2, r3, r4, r5, r6, r7)) :
  Calls Try.prog 83 #[.agg #[.int .i64 a0_0, .int .i64 a0_1, .bool a0_2, .bool a0_3, .bool a0_4]] w fun e w' => e = .returned (.agg #[.int .i64 r1, .int .i64 r2, .int .i64 r3, .bool r4, .bool r5, .bool r6, .int .i64 r7]) ∧ Below w.heap.size w w' := by
 have hu55 := Try.underlying55
 have hu79 := Try.underlying79
 have HB := am (Below.refl w.heap.size w)
 have H : (some (32, a0_0, a0_1, a0_2, a0_3, a0_4, 0)) = some (r1, r2, r3, r4, r5, r6, r7) := h
 clear h
 simp only [Option.some.injEq, Prod.mk.injEq] at H
 obtain ⟨rfl, rfl, rfl, rfl, rfl, rfl, rfl⟩ := H
 go_enter Try.func83, Try.ntmps83
 go_wp2_with (first | ((with_reducible refine gate_dst (N := 1) rfl ?_); refine box_event ?hg (N := 1) ?hd (cs := #[.int .i64 a0_0, .int .i64 a0_1, .bool a0_2, .bool a0_3, .bool a0_4]) (t := 55) ?hr ?_; (case hd => rfl); (case hg => rfl); (case hr => first | (go_simp; done) | (go_simp; rfl)); intro gb334 hg w2 hbox hb; have n0_ := am (below_step (rb HB) hb); have n1_ := am (hbox); have n2_ := am ((by rw [hg]; exact (below_size (rb HB)) : w.heap.size ≤ gb334)); have n3_ := am ((by rw [hg]; exact (below_size (rb HB)) : w.heap.size ≤ gb334)); clear HB; have HB := n0_; have BK334 := n1_; have GW334 := n2_; have GE334 := n3_; clear n0_ n1_ n2_ n3_; clear hb hbox hg) | ((with_reducible refine gate_dst (N := 2) rfl ?_); refine box_event ?hg (N := 2) ?hd (cs := #[.int .i64 0, .int .i64 0, .int .i64 0, .bool false, .bool false, .bool false, .int .i64 0]) (t := 79) ?hr ?_; (case hd => rfl); (case hg => rfl); (case hr => first | (go_simp; done) | (go_simp; rfl)); intro gb335 hg w3 hbox hb; have n0_ := am (blk_below (g := gb334) (o := .cells #[.int .i64 a0_0, .int .i64 a0_1, .bool a0_2, .bool a0_3, .bool a0_4] 55 (0, 0)) (rk BK334) hb); have n1_ := am (below_step (rb1 HB GE334) hb); have n2_ := am (hbox); have n3_ := am ((by rw [hg]; exact (below_size (rb1 HB GE334)) : w.heap.size ≤ gb335)); have n4_ := am ((by rw [hg]; exact (below_size (rb1 HB GE334)) : w.heap.size ≤ gb335)); have n5_ := am ((by rw [hg]; exact Nat.ne_of_lt (blk_lt (g := gb334) (o := .cells #[.int .i64 a0_0, .int .i64 a0_1, .bool a0_2, .bool a0_3, .bool a0_4] 55 (0, 0)) (rk BK334)) : gb334 ≠ gb335)); have n6_ := am ((by rw [hg]; exact Nat.ne_of_gt (blk_lt (g := gb334) (o := .cells #[.int .i64 a0_0, .int .i64 a0_1, .bool a0_2, .bool a0_3, .bool a0_4] 55 (0, 0)) (rk BK334)) : gb335 ≠ gb334)); clear BK334; clear HB; have BK334 := n0_; have HB := n1_; have BK335 := n2_; have GW335 := n3_; have GE335 := n4_; have NB334_335 := n5_; have NB335_334 := n6_; clear n0_ n1_ n2_ n3_ n4_ n5_ n6_; clear hb hbox hg; have hnb4 := NB334_335.out; have hnc4 := NB335_334.out; have hcz5_0 : w3.cell? ⟨gb334, 0, none⟩ = some (.int .i64 a0_0) := (blk_cell BK334.out 0).trans rfl; have hcz5_1 : w3.cell? ⟨gb334, 1, none⟩ = some (.int .i64 a0_1) := (blk_cell BK334.out 1).trans rfl; have hcz5_2 : w3.cell? ⟨gb334, 2, none⟩ = some (.bool a0_2) := (blk_cell BK334.out 2).trans rfl; have hcz5_3 : w3.cell? ⟨gb334, 3, none⟩ = some (.bool a0_3) := (blk_cell BK334.out 3).trans rfl; have hcz5_4 : w3.cell? ⟨gb334, 4, none⟩ = some (.bool a0_4) := (blk_cell BK334.out 4).trans rfl; have hfz5_0 := blk_frozen BK334.out 0; have hfz5_1 := blk_frozen BK334.out 1; have hfz5_2 := blk_frozen BK334.out 2; have hfz5_3 := blk_frozen BK334.out 3; have hfz5_4 := blk_frozen BK334.out 4; have hcz6_0 : w3.cell? ⟨gb335, 0, none⟩ = some (.int .i64 0) := (blk_cell BK335.out 0).trans rfl; have hcz6_1 : w3.cell? ⟨gb335, 1, none⟩ = some (.int .i64 0) := (blk_cell BK335.out 1).trans rfl; have hcz6_2 : w3.cell? ⟨gb335, 2, none⟩ = some (.int .i64 0) := (blk_cell BK335.out 2).trans rfl; have hcz6_3 : w3.cell? ⟨gb335, 3, none⟩ = some (.bool false) := (blk_cell BK335.out 3).trans rfl; have hcz6_4 : w3.cell? ⟨gb335, 4, none⟩ = some (.bool false) := (blk_cell BK335.out 4).trans rfl; have hcz6_5 : w3.cell? ⟨gb335, 5, none⟩ = some (.bool false) := (blk_cell BK335.out 5).trans rfl; have hcz6_6 : w3.cell? ⟨gb335, 6, none⟩ = some (.int .i64 0) := (blk_cell BK335.out 6).trans rfl; have hfz6_0 := blk_frozen BK335.out 0; have hfz6_1 := blk_frozen BK335.out 1; have hfz6_2 := blk_frozen BK335.out 2; have hfz6_3 := blk_frozen BK335.out 3; have hfz6_4 := blk_frozen BK335.out 4; have hfz6_5 := blk_frozen BK335.out 5; have hfz6_6 := blk_frozen BK335.out 6))
 refine bodyPost_ret (results_cell_row rfl _ _ gb335 79 #[.int .i64 32, .int .i64 a0_0, .int .i64 a0_1, .bool a0_2, .bool a0_3, .bool a0_4, .int .i64 0] (0, 0) _ rfl (by (with_reducible repeat (first | apply k1 | apply k2 | apply k3)); refine blk_put (cs := #[.int .i64 32, .int .i64 a0_0, .int .i64 a0_1, .bool a0_2, .bool a0_3, .bool a0_4, .int .i64 0]) ?_ 6 _ rfl; (with_reducible repeat (first | apply k1 | apply k2 | apply k3)); refine blk_put (cs := #[.int .i64 32, .int .i64 a0_0, .int .i64 a0_1, .bool a0_2, .bool a0_3, .bool false, .int .i64 0]) ?_ 5 _ rfl; (with_reducible repeat (first | apply k1 | apply k2 | apply k3)); refine blk_put (cs := #[.int .i64 32, .int .i64 a0_0, .int .i64 a0_1, .bool a0_2, .bool false, .bool false, .int .i64 0]) ?_ 4 _ rfl; (with_reducible repeat (first | apply k1 | apply k2 | apply k3)); refine blk_put (cs := #[.int .i64 32, .int .i64 a0_0, .int .i64 a0_1, .bool false, .bool false, .bool false, .int .i64 0]) ?_ 3 _ rfl; (with_reducible repeat (first | apply k1 | apply k2 | apply k3)); refine blk_put (cs := #[.int .i64 32, .int .i64 a0_0, .int .i64 0, .bool false, .bool false, .bool false, .int .i64 0]) ?_ 2 _ rfl; (with_reducible repeat (first | apply k1 | apply k2 | apply k3)); refine blk_put (cs := #[.int .i64 32, .int .i64 0, .int .i64 0, .bool false, .bool false, .bool false, .int .i64 0]) ?_ 1 _ rfl; (with_reducible repeat (first | apply k1 | apply k2 | apply k3)); refine blk_put (cs := #[.int .i64 0, .int .i64 0, .int .i64 0, .bool false, .bool false, .bool false, .int .i64 0]) ?_ 0 _ rfl; (with_reducible repeat (first | apply k1 | apply k2 | apply k3)); exact BK335.out) Try.underlying79 rfl (by kernel_rfl)) rfl ?_
 exact ⟨by first | rfl | (simp [errW_none, errW_some] <;> rfl) | (simp [*, errW_none, errW_some] <;> rfl), by repeat (first | (with_reducible first | exact HB.out | apply b1 | apply b2 | apply b3 | refine below_set ?_ GE334.out | refine below_set ?_ GE335.out) | exact HB.out)⟩

end Go.Proofs.Ytkljnfinjacejaa.PA
