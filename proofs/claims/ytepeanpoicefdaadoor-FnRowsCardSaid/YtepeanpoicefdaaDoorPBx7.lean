/- Contracts of Go functions that laws of this seat reach: each Lean function answers as its Go function does. No condition. Written by wip/tools/inj.py, over the kit's print. -/
import Derived.Test.YtepeanpoicefdaaDoorPBx0
import Derived.Test.YtepeanpoicefdaaDoorPBx3
import Derived.Test.YtepeanpoicefdaaDoorPBx4
import Derived.Test.YtepeanpoicefdaaDoorPBx5
import Derived.Test.YtepeanpoicefdaaDoorPBx6
namespace Go.Proofs.YtepeanpoicefdaaDoor.PB
open Go.RowKit Go.Proofs.YtepeanpoicefdaaDoorW.PrintWords Go.Proofs.YtepeanpoicefdaaDoorW.PrintLast Go.Proofs.YtepeanpoicefdaaDoorW.PrintMore
attribute [local go_sem] max2_int min2_int max_two min_two max_three min_three max_four min_four   -- for this text's walks alone
set_option linter.unusedVariables false
set_option linter.unusedSimpArgs false

/-! ### spec_l4Cleared: function 54 -/
def spec_l4Cleared.l0 : Nat → Int → List (S48) → Int → Int → Int → Bool → Bool → Bool → Option ((List (S48)))
 | 0, _, _, _, _, _, _, _, _ => none
 | k + 1, x2, x9, x10, x258000, x258001, x258002, x258003, x258004 => if x10 < x2 then ((spec_l4Blank.f x258000 x258001 x258002 x258003 x258004).bind fun bt264 => (if 0 ≤ x10 then (if x10 < (x9.length : Int) then (spec_l4Cleared.l0 k x2 (x9.set (x10 : Int).toNat (⟨bt264.1, (⟨bt264.2.1, bt264.2.2.1, bt264.2.2.2.1, bt264.2.2.2.2.1, bt264.2.2.2.2.2.1⟩ : S37), bt264.2.2.2.2.2.2⟩ : S48)) (wrap64 (x10 + 1)) x258000 x258001 x258002 x258003 x258004) else (none)) else (none))) else ((spec_l4Mended.f k x9).bind fun t272 => (some t272))
def spec_l4Cleared.f (k : Nat) (l0 : List (S48)) (a1 : Int) (a2 : Int) (a3_0 : Int) (a3_1 : Int) (a3_2 : Bool) (a3_3 : Bool) (a3_4 : Bool) : Option ((List (S48))) := (some (([] : List (S48)) : List (S48))).bind fun y258 => (if y258.length + l0.length < 3518437208883 then (spec_l4Cleared.l0 k a2 (y258 ++ l0) a1 a3_0 a3_1 a3_2 a3_3 a3_4) else (none))
theorem spec_l4Cleared.mono_l : ∀ k, (∀ y0 y1 y2 y3 y4 y5 y6 y7, LeO (spec_l4Cleared.l0 k y0 y1 y2 y3 y4 y5 y6 y7) (spec_l4Cleared.l0 (k + 1) y0 y1 y2 y3 y4 y5 y6 y7))
 | 0 => fun _ _ _ _ _ _ _ _ r h => by simp [spec_l4Cleared.l0] at h
 | k + 1 => by
  have ih0 := spec_l4Cleared.mono_l k
  ·intro y0 y1 y2 y3 y4 y5 y6 y7
   unfold spec_l4Cleared.l0
   repeat' first
   | (with_reducible exact ih0 _ _ _ _ _ _ _ _)
   | (with_reducible exact spec_l4Mended.mono _ _)
   | (with_reducible exact LeO.refl _)
   | (with_reducible exact LeO.none _)
   | (with_reducible refine LeO.ite ?_ ?_)
   | (with_reducible refine LeO.bind ?_ (fun _ => ?_))
theorem spec_l4Cleared.mono : ∀ a0 a1 a2 a3 a4 a5 a6 a7 k, LeO (spec_l4Cleared.f k a0 a1 a2 a3 a4 a5 a6 a7) (spec_l4Cleared.f (k + 1) a0 a1 a2 a3 a4 a5 a6 a7) := by
 intro a0 a1 a2 a3 a4 a5 a6 a7 k
 have ih0 := spec_l4Cleared.mono_l k
 unfold spec_l4Cleared.f
 repeat' first
   | (with_reducible exact ih0 _ _ _ _ _ _ _ _)
   | (with_reducible exact spec_l4Mended.mono _ _)
   | (with_reducible exact LeO.refl _)
   | (with_reducible exact LeO.none _)
   | (with_reducible refine LeO.ite ?_ ?_)
   | (with_reducible refine LeO.bind ?_ (fun _ => ?_))
set_option maxHeartbeats 8000000 in
set_option maxRecDepth 100000 in
theorem spec_l4Cleared.calls (k : Nat) (A0 : Option Addr) (c0 : Nat) (l0 : List (S48)) (a1 : Int) (a2 : Int) (a3_0 : Int) (a3_1 : Int) (a3_2 : Bool) (a3_3 : Bool) (a3_4 : Bool) (r : List (S48)) (w : World) (hr0 : Kd.C k48 w A0 l0.length l0) (hc0 : l0.length ≤ c0) (h : spec_l4Cleared.f k l0 a1 a2 a3_0 a3_1 a3_2 a3_3 a3_4 = some r) :
  Calls Tryd.prog 54 #[.slice A0 l0.length c0, .int .i64 a1, .int .i64 a2, .agg #[.int .i64 a3_0, .int .i64 a3_1, .bool a3_2, .bool a3_3, .bool a3_4]] w fun e w' => ∃ v0_ : Value, e = .returned (v0_) ∧ Kd.R k48 48 w' w.heap.size (fun _ => True) v0_ r ∧ Below w.heap.size w w' := by
 have hu37 := Tryd.underlying37
 have hu48 := Tryd.underlying48
 have HR0 := am hr0
 have HC0 := am hc0
 clear hr0 hc0
 have HB := am (Below.refl w.heap.size w)
 have H := h
 unfold spec_l4Cleared.f at H
 clear h
 obtain ⟨y258, hy258⟩ : ∃ y_ : List (S48), y_ = (([] : List (S48))) := ⟨_, rfl⟩
 replace H : (if y258.length + l0.length < 3518437208883 then (spec_l4Cleared.l0 k a2 (y258 ++ l0) a1 a3_0 a3_1 a3_2 a3_3 a3_4) else (none)) = some r := by first | (rw [hy258]; with_reducible exact H) | (rw [hy258]; exact H) | exact H
 have Ny258 := am hy258
 clear hy258
 refine em_ (p := y258.length + l0.length < 3518437208883) (fun c5 => ?g0p) (fun c5 => ?g0n)
 case' g0p =>
  rw [if_pos c5] at H
  have LMc5 := am c5
  clear c5
  obtain ⟨y261, hy261⟩ : ∃ y_ : List (S48), y_ = (y258 ++ l0) := ⟨_, rfl⟩
  replace H : (spec_l4Cleared.l0 k a2 y261 a1 a3_0 a3_1 a3_2 a3_3 a3_4) = some r := by first | (rw [hy261]; with_reducible exact H) | (rw [hy261]; exact H) | exact H
  have Ny261 := am hy261
  clear hy261
  have H' := am H
  clear H
  have lf1_ := trivial
 case g0n =>
  rw [if_neg c5] at H
  exact absurd H (by simp)
 all_goals
  go_enter Tryd.func54, Tryd.ntmps54
  go_wp2_with (first | ((with_reducible refine gate_dst (N := 7) rfl ?_); refine box_event ?hg (N := 7) ?hd (cs := #[.int .i64 a3_0, .int .i64 a3_1, .bool a3_2, .bool a3_3, .bool a3_4]) (t := 37) ?hr ?_; (case hd => rfl); (case hg => rfl); (case hr => first | (go_simp; done) | (go_simp; rfl)); intro gb257 hg w6 hbox hb; have n0_ := am (below_step (rb HB) hb); have n1_ := am (hbox); have n2_ := am ((by rw [hg]; exact (below_size (rb HB)) : w.heap.size ≤ gb257)); have n3_ := am ((by rw [hg]; exact (below_size (rb HB)) : w.heap.size ≤ gb257)); clear HB; have HB := n0_; have BK257 := n1_; have GW257 := n2_; have GE257 := n3_; clear n0_ n1_ n2_ n3_; clear hb hbox hg) | ((with_reducible refine gate_dst (N := 11) rfl ?_); refine Kd.R_lit k48 _ 48 ?hg (N := 11) ?hd (xs := ([] : List (S48))) (inner := []) (ok := fun _ => True) (okp := fun _ => True) ?hr ?hp (fun _ hk => hk) trivial (Below.refl _ _) (Nat.le_refl _) (by simp) ?_; (case hd => rfl); (case hg => rfl); (case hr => first | (go_simp; done) | (go_simp; rfl)); (case hp => exact (Reps.none _ _)); intro v259 w7 ho8 hb hg_ hnew_; clear hg_ hnew_; (first | rw [← Ny258.out] at ho8 | (simp only [Int.reduceToNat] at ho8; rw [← Ny258.out] at ho8)); have n0_ := am (Kd.R_lower ho8 (below_size (rb1 HB GE257))); have n1_ := am (blk_below (g := gb257) (o := .cells #[.int .i64 a3_0, .int .i64 a3_1, .bool a3_2, .bool a3_3, .bool a3_4] 37 (0, 0)) (rk BK257) hb); have n2_ := am (below_step (rb1 HB GE257) hb); clear BK257; clear HB; have HO260 := n0_; have BK257 := n1_; have HB := n2_; clear n0_ n1_ n2_; clear hb ho8) | ((with_reducible refine gate_builtin (b := .append) (xs := #[.tmp 11, .tmp 12]) rfl ?_); at_builtin; refine Kd.R_append_rows k48 (w0 := w) w.heap.size rfl (.tmp 11) (.tmp 12) 35 48 (.agg #[(.int .i64 0), (.int .i64 0), (.int .i64 0), (.bool false), (.bool false), (.bool false), (.int .i64 0)]) 40 rfl Tryd.underlying35 info48 rfl (by decide) (by omega) v259 y258 l0 _ _ _ (fun _ => True) (fun _ => False) rfl rfl ?aO ?aR (fun _ _ h => h) (fun _ h => h.elim) ?aF ?aB ?aS ?aL ?_; (case aR => repeat (first | exact (Kd.C_below HR0.out HB.out) | (with_reducible refine Kd.C_alloc ?_ _) | (with_reducible refine Kd.C_drewN ?_ _) | (with_reducible refine Kd.C_drew ?_))); (case aB => exact (rb1 HB GE257)); (case aF => exact (fun _ _ => trivial)); (case aO => exact (rr HO260)); (case aS => exact (below_size (rb1 HB GE257))); (case aL => have := LMc5.out; omega); intro v262 w9 ho hb hg hat; rw [← Ny261.out] at ho; have n0_ := am (blk_grown (g := gb257) (o := .cells #[.int .i64 a3_0, .int .i64 a3_1, .bool a3_2, .bool a3_3, .bool a3_4] 37 (0, 0)) (rk BK257) hg (Kd.R_ne HO260.out BK257.out (by decide))); have n1_ := am (hb); have n2_ := am (ho); clear BK257; clear HB; clear HO260; have BK257 := n0_; have HB := n1_; have HO263 := n2_; clear n0_ n1_ n2_; clear ho hb hg hat))
  go_loopg [10] k (fun kq v10 w' => ∃ (x9_1 : List (S48)) (x10_1 : Int), v10 = .int .i64 x10_1 ∧ Aside0 (spec_l4Cleared.l0 kq a2 x9_1 x10_1 a3_0 a3_1 a3_2 a3_3 a3_4 = some r) ∧ Aside0 (kq ≤ k) ∧ Aside0 (Kd.R k48 48 w' w.heap.size (fun _ => True) v262 x9_1) ∧ Aside0 (w'.heap[gb257]? = some (.cells #[.int .i64 a3_0, .int .i64 a3_1, .bool a3_2, .bool a3_3, .bool a3_4] 37 (0, 0))) ∧ Aside0 (Below w.heap.size w w'))
  case atStart => exact ⟨(y261), (a1), (by first | rfl | (simp; done) | (simp [*]; done)), H', ⟨Nat.le_refl _⟩, ⟨rr HO263⟩, ⟨rk BK257⟩, ⟨by repeat (first | (with_reducible first | exact HB.out | apply b1 | apply b2 | apply b3 | refine below_set ?_ GE257.out) | exact HB.out)⟩⟩
  case round =>
   clear H'
   try clear p2
   try clear c5
   obtain ⟨x9_1, x10_1, rfl, HA, HK1, HO_9, BK257, HB⟩ := hrel
   cases gk with
   | zero => exact absurd HA.out (by simp [spec_l4Cleared.l0])
   | succ k1 =>
    have H := HA.out
    clear HA
    simp only [spec_l4Cleared.l0] at H
    by_cases c10 : x10_1 < a2
    ·rw [if_pos c10] at H
     have c10b0 : decide (x10_1 < a2) = true := decide_eq_true c10
     clear c10
     replace H := Option.bind_eq_some_iff.mp H
     obtain ⟨⟨t264, t265, t266, t267, t268, t269, t270⟩, A110, H⟩ := H
     (try dsimp only at H)
     have A11 := am A110
     clear A110
     refine em_ (p := 0 ≤ x10_1) (fun c12 => ?g2p) (fun c12 => ?g2n)
     case' g2p =>
      rw [if_pos c12] at H
      have c12b0 : decide (0 ≤ x10_1) = true := decide_eq_true c12
      clear c12
      refine em_ (p := x10_1 < (x9_1.length : Int)) (fun c13 => ?g1p) (fun c13 => ?g1n)
      case' g1p =>
       rw [if_pos c13] at H
       have c13b0 : decide (x10_1 < (x9_1.length : Int)) = true := decide_eq_true c13
       clear c13
       obtain ⟨y271, hy271⟩ : ∃ y_ : List (S48), y_ = (x9_1.set (x10_1 : Int).toNat (⟨t264, (⟨t265, t266, t267, t268, t269⟩ : S37), t270⟩ : S48)) := ⟨_, rfl⟩
       replace H : (spec_l4Cleared.l0 k1 a2 y271 (wrap64 (x10_1 + 1)) a3_0 a3_1 a3_2 a3_3 a3_4) = some r := by first | (rw [hy271]; with_reducible exact H) | (rw [hy271]; exact H) | exact H
       have Ny271 := am hy271
       clear hy271
       have H' := am H
       clear H
       have lf2_ := trivial
      case g1n =>
       rw [if_neg c13] at H
       exact absurd H (by simp)
     case g2n =>
      rw [if_neg c12] at H
      exact absurd H (by simp)
     all_goals
      have hcz15_0 : wr.cell? ⟨gb257, 0, none⟩ = some (.int .i64 a3_0) := (blk_cell BK257.out 0).trans rfl
      have hcz15_1 : wr.cell? ⟨gb257, 1, none⟩ = some (.int .i64 a3_1) := (blk_cell BK257.out 1).trans rfl
      have hcz15_2 : wr.cell? ⟨gb257, 2, none⟩ = some (.bool a3_2) := (blk_cell BK257.out 2).trans rfl
      have hcz15_3 : wr.cell? ⟨gb257, 3, none⟩ = some (.bool a3_3) := (blk_cell BK257.out 3).trans rfl
      have hcz15_4 : wr.cell? ⟨gb257, 4, none⟩ = some (.bool a3_4) := (blk_cell BK257.out 4).trans rfl
      have hfz15_0 := blk_frozen BK257.out 0
      have hfz15_1 := blk_frozen BK257.out 1
      have hfz15_2 := blk_frozen BK257.out 2
      have hfz15_3 := blk_frozen BK257.out 3
      have hfz15_4 := blk_frozen BK257.out 4
      go_wp2_with (first | ((with_reducible refine gate_callee (f := 75) rfl ?_); refine gl_ (some 23) Tryd.func75 #[.agg #[.int .i64 a3_0, .int .i64 a3_1, .bool a3_2, .bool a3_3, .bool a3_4]] ?_; (with_reducible refine (spec_l4Blank.calls a3_0 a3_1 a3_2 a3_3 a3_4 t264 t265 t266 t267 t268 t269 t270 _ A11.out).mono ?_); rintro e w16 ⟨rfl, hb⟩; refine ⟨_, rfl, ?_⟩; have n0_ := am (Kd.R_below (rr HO_9) hb); have n1_ := am (blk_below (g := gb257) (o := .cells #[.int .i64 a3_0, .int .i64 a3_1, .bool a3_2, .bool a3_3, .bool a3_4] 37 (0, 0)) (rk BK257) hb); have n2_ := am (below_step (rb1 HB GE257) hb); clear HO_9; clear BK257; clear HB; have HO_9 := n0_; have BK257 := n1_; have HB := n2_; clear n0_ n1_ n2_; (try clear hb); (try clear hb2); (try clear hk); (try clear hi); have p14 : 0 ≤ (x10_1 : Int) := dt_; have q14 : (x10_1 : Int) < ((x9_1.length : Int) : Int) := dt_; obtain ⟨go14, co14, eo14, gb14, gl14, cl14, HG14⟩ := Kd.R_form HO_9.out (by omega); (first | cases eo14 | (injection eo14 with ea_ en_ ec_; (first | subst ea_ | (injection ea_ with ea_; subst ea_)); subst ec_; clear en_)); have GB14 := am gb14; have GG14 := am HG14; clear gb14 gl14 HG14; obtain ⟨ce14, hcl14, hM14, hcc14, hfr14⟩ := Kd.R_elem HO_9.out z48 (x10_1 : Int) p14 q14; obtain rfl := k48_openM hM14; have hx14_0 : w16.cell? ⟨go14, (x10_1 : Int).toNat * 7, none⟩ = some (.int .i64 ((rd_T48 x9_1 x10_1).f0)) := hcc14 0 _ rfl; have hx14_1 : w16.cell? ⟨go14, (x10_1 : Int).toNat * 7 + 1, none⟩ = some (.int .i64 ((rd_T48 x9_1 x10_1).f1.f0)) := hcc14 1 _ rfl; have hx14_2 : w16.cell? ⟨go14, (x10_1 : Int).toNat * 7 + 2, none⟩ = some (.int .i64 ((rd_T48 x9_1 x10_1).f1.f1)) := hcc14 2 _ rfl; have hx14_3 : w16.cell? ⟨go14, (x10_1 : Int).toNat * 7 + 3, none⟩ = some (.bool ((rd_T48 x9_1 x10_1).f1.f2)) := hcc14 3 _ rfl; have hx14_4 : w16.cell? ⟨go14, (x10_1 : Int).toNat * 7 + 4, none⟩ = some (.bool ((rd_T48 x9_1 x10_1).f1.f3)) := hcc14 4 _ rfl; have hx14_5 : w16.cell? ⟨go14, (x10_1 : Int).toNat * 7 + 5, none⟩ = some (.bool ((rd_T48 x9_1 x10_1).f1.f4)) := hcc14 5 _ rfl; have hx14_6 : w16.cell? ⟨go14, (x10_1 : Int).toNat * 7 + 6, none⟩ = some (.int .i64 ((rd_T48 x9_1 x10_1).f2)) := hcc14 6 _ rfl; have hf14_0 : w16.frozen? ⟨go14, (x10_1 : Int).toNat * 7, none⟩ = false := hfr14 0; have hf14_1 : w16.frozen? ⟨go14, (x10_1 : Int).toNat * 7 + 1, none⟩ = false := hfr14 1; have hf14_2 : w16.frozen? ⟨go14, (x10_1 : Int).toNat * 7 + 2, none⟩ = false := hfr14 2; have hf14_3 : w16.frozen? ⟨go14, (x10_1 : Int).toNat * 7 + 3, none⟩ = false := hfr14 3; have hf14_4 : w16.frozen? ⟨go14, (x10_1 : Int).toNat * 7 + 4, none⟩ = false := hfr14 4; have hf14_5 : w16.frozen? ⟨go14, (x10_1 : Int).toNat * 7 + 5, none⟩ = false := hfr14 5; have hf14_6 : w16.frozen? ⟨go14, (x10_1 : Int).toNat * 7 + 6, none⟩ = false := hfr14 6; clear hcl14 hcc14 hfr14 hM14; replace p14 := eq_true p14; replace q14 := eq_true q14; have HX17 := am (show Kd.R k48 48 w16 w.heap.size (fun _ => True) (.slice (some ⟨go14, 0, none⟩) x9_1.length co14) x9_1 from (rr HO_9)); obtain ⟨ce17, hcl17, hM17, hcc17, hfr17⟩ := Kd.R_elem HX17.out z48 (x10_1 : Int) dt_ (by have h_ : (x10_1 : Int) < ((x9_1.length : Int) : Int) := dt_; first | exact h_ | (have e_ := (Kd.R_reads' HO_9.out).1; omega) | simpa using h_); obtain rfl := k48_openM hM17; have HP17 := Kd.R_seg HX17.out (x10_1 : Int) dt_ (by have h_ : (x10_1 : Int) < ((x9_1.length : Int) : Int) := dt_; first | exact h_ | (have e_ := (Kd.R_reads' HO_9.out).1; omega) | simpa using h_) (seg := [.int .i64 t264, .int .i64 t265, .int .i64 t266, .bool t267, .bool t268, .bool t269, .int .i64 t270]) (j := 0) hcl17 hcc17 (show 7 ≤ 7 from by decide) (x' := (⟨t264, (⟨t265, t266, t267, t268, t269⟩ : S37), t270⟩ : S48)) (k48_mkM _ _ _ (⟨t264, (⟨t265, t266, t267, t268, t269⟩ : S37), t270⟩ : S48) ) (fun _ hk => hk); have hx17_0 := hcc17 0 _ rfl; (try simp only [show (k48).sz = 7 from rfl, Nat.mul_one, Nat.add_zero] at hx17_0); have hf17_0 := hfr17 0; (try simp only [show (k48).sz = 7 from rfl, Nat.mul_one, Nat.add_zero] at hf17_0); have hx17_1 := hcc17 1 _ rfl; (try simp only [show (k48).sz = 7 from rfl, Nat.mul_one, Nat.add_zero] at hx17_1); have hf17_1 := hfr17 1; (try simp only [show (k48).sz = 7 from rfl, Nat.mul_one, Nat.add_zero] at hf17_1); have hx17_2 := hcc17 2 _ rfl; (try simp only [show (k48).sz = 7 from rfl, Nat.mul_one, Nat.add_zero] at hx17_2); have hf17_2 := hfr17 2; (try simp only [show (k48).sz = 7 from rfl, Nat.mul_one, Nat.add_zero] at hf17_2); have hx17_3 := hcc17 3 _ rfl; (try simp only [show (k48).sz = 7 from rfl, Nat.mul_one, Nat.add_zero] at hx17_3); have hf17_3 := hfr17 3; (try simp only [show (k48).sz = 7 from rfl, Nat.mul_one, Nat.add_zero] at hf17_3); have hx17_4 := hcc17 4 _ rfl; (try simp only [show (k48).sz = 7 from rfl, Nat.mul_one, Nat.add_zero] at hx17_4); have hf17_4 := hfr17 4; (try simp only [show (k48).sz = 7 from rfl, Nat.mul_one, Nat.add_zero] at hf17_4); have hx17_5 := hcc17 5 _ rfl; (try simp only [show (k48).sz = 7 from rfl, Nat.mul_one, Nat.add_zero] at hx17_5); have hf17_5 := hfr17 5; (try simp only [show (k48).sz = 7 from rfl, Nat.mul_one, Nat.add_zero] at hf17_5); have hx17_6 := hcc17 6 _ rfl; (try simp only [show (k48).sz = 7 from rfl, Nat.mul_one, Nat.add_zero] at hx17_6); have hf17_6 := hfr17 6; (try simp only [show (k48).sz = 7 from rfl, Nat.mul_one, Nat.add_zero] at hf17_6); clear hcl17 hcc17 hfr17 hM17) | ((with_reducible refine gate_store (t := 48) (p := 24) rfl ?_); refine store_event (t := 48) (p := 24) (v := ?vo_w18) (w1 := (((((((w16.setCell ⟨go14, (x10_1 : Int).toNat * 7, none⟩ (.int .i64 t264)).setCell ⟨go14, (x10_1 : Int).toNat * 7 + 1, none⟩ (.int .i64 t265)).setCell ⟨go14, (x10_1 : Int).toNat * 7 + 2, none⟩ (.int .i64 t266)).setCell ⟨go14, (x10_1 : Int).toNat * 7 + 3, none⟩ (.bool t267)).setCell ⟨go14, (x10_1 : Int).toNat * 7 + 4, none⟩ (.bool t268)).setCell ⟨go14, (x10_1 : Int).toNat * 7 + 5, none⟩ (.bool t269)).setCell ⟨go14, (x10_1 : Int).toNat * 7 + 6, none⟩ (.int .i64 t270))) ?hg ?ho ?hn ?hr ?_; (case ho => rfl); (case hg => rfl); (case hn => rfl); (case hr => first | (go_simp; done) | (go_simp; rfl)); intro w18 hw; have hg : w16.grownBy w18 (some go14) := (by rw [hw]; exact HP17.2); have hp_ : Kd.R k48 48 w18 w.heap.size (fun _ => True) (.slice (some ⟨go14, 0, none⟩) x9_1.length co14) y271 := (by rw [hw, Ny271.out]; exact HP17.1); clear HP17; have n0_ := am (hp_); have n1_ := am (blk_grown (g := gb257) (o := .cells #[.int .i64 a3_0, .int .i64 a3_1, .bool a3_2, .bool a3_3, .bool a3_4] 37 (0, 0)) (rk BK257) hg (Kd.R_ne HO_9.out BK257.out (by decide))); have n2_ := am ((by rw [hw]; exact below_set (below_set (below_set (below_set (below_set (below_set (below_set (HB.out) GB14.out) GB14.out) GB14.out) GB14.out) GB14.out) GB14.out) GB14.out : Below w.heap.size w w18)); clear HO_9; clear BK257; clear HB; have HO_9 := n0_; have BK257 := n1_; have HB := n2_; clear n0_ n1_ n2_; clear hg hw hp_))
      go_roundg k1
      case measure => have := HK1.out; omega
      case rel => exact ⟨(y271), (wrap64 (x10_1 + 1)), (by first | rfl | (simp; done) | (simp [*]; done)), H', ⟨by have := HK1.out; omega⟩, ⟨rr HO_9⟩, ⟨rk BK257⟩, ⟨by repeat (first | (with_reducible first | exact HB.out | apply b1 | apply b2 | apply b3 | refine below_set ?_ GE257.out) | exact HB.out)⟩⟩
    ·rw [if_neg c10] at H
     have c10b0 : decide (x10_1 < a2) = false := decide_eq_false c10
     clear c10
     replace H := Option.bind_eq_some_iff.mp H
     obtain ⟨t272, A190, H⟩ := H
     replace H : (some t272) = some r := H
     have A19 := am A190
     clear A190
     obtain rfl := Option.some.inj H
     obtain ⟨Ao20, co20, eo20⟩ := Kd.R_slice HO_9.out
     subst eo20
     go_wp2_with (first | ((with_reducible refine gate_callee (f := 76) rfl ?_); refine gl_ (some 26) Tryd.func76 #[.slice Ao20 x9_1.length co20] ?_; (with_reducible refine (spec_l4Mended.calls k1 _ _ x9_1 t272 _ ?side1 ?side2 A19.out).mono ?_); (case side1 => repeat (first | exact (Kd.R_reads' HO_9.out).2.2 | (with_reducible refine Kd.C_alloc ?_ _) | (with_reducible refine Kd.C_drewN ?_ _) | (with_reducible refine Kd.C_drew ?_))); (case side2 => exact (Kd.R_reads' HO_9.out).2.1); rintro e w21 ⟨v273, rfl, ho0, hb⟩; refine ⟨_, rfl, ?_⟩; have n0_ := am (Kd.R_elder' (rr HO_9) (Kd.R_base ho0) hb); have n1_ := am (Kd.R_lower (Kd.R_new' ho0 (Kd.R_lt (rr HO_9))) (below_size (rb1 HB GE257))); have n2_ := am (blk_below (g := gb257) (o := .cells #[.int .i64 a3_0, .int .i64 a3_1, .bool a3_2, .bool a3_3, .bool a3_4] 37 (0, 0)) (rk BK257) hb); have n3_ := am (below_step (rb1 HB GE257) hb); clear HO_9; clear BK257; clear HB; have HO_9 := n0_; have HO274 := n1_; have BK257 := n2_; have HB := n3_; clear n0_ n1_ n2_ n3_; (try clear hb); (try clear hb2); (try clear hk); (try clear hi); (try clear ho0)))
     go_ret
     exact ⟨_, by first | rfl | (simp [errW_none, errW_some] <;> rfl) | (simp [*, errW_none, errW_some] <;> rfl), by (with_reducible repeat (first | apply r1 | apply r2 | apply r3)); exact Kd.R_mono HO274.out (fun _ hk => trivial), by repeat (first | (with_reducible first | exact HB.out | apply b1 | apply b2 | apply b3 | refine below_set ?_ GE257.out) | exact HB.out)⟩

/-! ### spec_l4Written: function 53 -/
def spec_l4Written.f (k : Nat) (l0 : List (S48)) (a1 : Int) (a2 : Int) (a3_0 : Int) (a3_1 : Int) (a3_2 : Bool) (a3_3 : Bool) (a3_4 : Bool) : Option ((List (S48))) := (spec_Width.f k a2).bind fun t276 => ((spec_l4Cleared.f k l0 a1 (wrap64 (a1 + t276)) a3_0 a3_1 a3_2 a3_3 a3_4).bind fun t277 => (if 0 ≤ a1 then (if a1 < (t277.length : Int) then ((some (t277.set (a1 : Int).toNat (⟨a2, (⟨a3_0, a3_1, a3_2, a3_3, a3_4⟩ : S37), wrap64 (t276 - 1)⟩ : S48) : List (S48))).bind fun y280 => (if t276 = 2 then (if 0 ≤ (wrap64 (a1 + 1)) then (if (wrap64 (a1 + 1)) < (t277.length : Int) then (some (y280.set ((wrap64 (a1 + 1)) : Int).toNat (⟨0, (⟨a3_0, a3_1, a3_2, a3_3, a3_4⟩ : S37), 2⟩ : S48))) else (none)) else (none)) else (some y280))) else (none)) else (none)))
theorem spec_l4Written.mono : ∀ a0 a1 a2 a3 a4 a5 a6 a7 k, LeO (spec_l4Written.f k a0 a1 a2 a3 a4 a5 a6 a7) (spec_l4Written.f (k + 1) a0 a1 a2 a3 a4 a5 a6 a7) := by
 intro a0 a1 a2 a3 a4 a5 a6 a7 k
 unfold spec_l4Written.f
 repeat' first
   | (with_reducible exact spec_Width.mono _ _)
   | (with_reducible exact spec_l4Cleared.mono _ _ _ _ _ _ _ _ _)
   | (with_reducible exact LeO.refl _)
   | (with_reducible exact LeO.none _)
   | (with_reducible refine LeO.ite ?_ ?_)
   | (with_reducible refine LeO.bind ?_ (fun _ => ?_))
set_option maxHeartbeats 8000000 in
set_option maxRecDepth 100000 in
theorem spec_l4Written.calls (k : Nat) (A0 : Option Addr) (c0 : Nat) (l0 : List (S48)) (a1 : Int) (a2 : Int) (a3_0 : Int) (a3_1 : Int) (a3_2 : Bool) (a3_3 : Bool) (a3_4 : Bool) (r : List (S48)) (w : World) (hr0 : Kd.C k48 w A0 l0.length l0) (hc0 : l0.length ≤ c0) (h : spec_l4Written.f k l0 a1 a2 a3_0 a3_1 a3_2 a3_3 a3_4 = some r) :
  Calls Tryd.prog 53 #[.slice A0 l0.length c0, .int .i64 a1, .int .i64 a2, .agg #[.int .i64 a3_0, .int .i64 a3_1, .bool a3_2, .bool a3_3, .bool a3_4]] w fun e w' => ∃ v0_ : Value, e = .returned (v0_) ∧ Kd.R k48 48 w' w.heap.size (fun _ => True) v0_ r ∧ Below w.heap.size w w' := by
 have hu37 := Tryd.underlying37
 have hu48 := Tryd.underlying48
 have HR0 := am hr0
 have HC0 := am hc0
 clear hr0 hc0
 have HB := am (Below.refl w.heap.size w)
 have H := h
 unfold spec_l4Written.f at H
 clear h
 replace H := Option.bind_eq_some_iff.mp H
 obtain ⟨t276, A50, H⟩ := H
 (try dsimp only at H)
 have A5 := am A50
 clear A50
 replace H := Option.bind_eq_some_iff.mp H
 obtain ⟨t277, A60, H⟩ := H
 (try dsimp only at H)
 have A6 := am A60
 clear A60
 refine em_ (p := 0 ≤ a1) (fun c7 => ?g7p) (fun c7 => ?g7n)
 case' g7p =>
  rw [if_pos c7] at H
  have c7b0 : decide (0 ≤ a1) = true := decide_eq_true c7
  clear c7
  refine em_ (p := a1 < (t277.length : Int)) (fun c8 => ?g6p) (fun c8 => ?g6n)
  case' g6p =>
   rw [if_pos c8] at H
   have c8b0 : decide (a1 < (t277.length : Int)) = true := decide_eq_true c8
   clear c8
   obtain ⟨y280, hy280⟩ : ∃ y_ : List (S48), y_ = (t277.set (a1 : Int).toNat (⟨a2, (⟨a3_0, a3_1, a3_2, a3_3, a3_4⟩ : S37), wrap64 (t276 - 1)⟩ : S48)) := ⟨_, rfl⟩
   replace H : (if t276 = 2 then (if 0 ≤ (wrap64 (a1 + 1)) then (if (wrap64 (a1 + 1)) < (t277.length : Int) then (some (y280.set ((wrap64 (a1 + 1)) : Int).toNat (⟨0, (⟨a3_0, a3_1, a3_2, a3_3, a3_4⟩ : S37), 2⟩ : S48))) else (none)) else (none)) else (some y280)) = some r := by first | (rw [hy280]; with_reducible exact H) | (rw [hy280]; exact H) | exact H
   have Ny280 := am hy280
   clear hy280
   refine em_ (p := t276 = 2) (fun c10 => ?g5p) (fun c10 => ?g5n)
   case' g5p =>
    rw [if_pos c10] at H
    have c10b0 : (t276 == 2) = true := beq_iff_eq.mpr c10
    have c10b1 : (t276 != 2) = false := bne_eq_false_iff_eq.mpr c10
    clear c10
    obtain ⟨ji11, hji11⟩ : ∃ j_ : Int, (wrap64 (a1 + 1)) = j_ := ⟨_, rfl⟩
    replace H : (if 0 ≤ (ji11) then (if (ji11) < (t277.length : Int) then (some (y280.set ((ji11) : Int).toNat (⟨0, (⟨a3_0, a3_1, a3_2, a3_3, a3_4⟩ : S37), 2⟩ : S48))) else (none)) else (none)) = some r := by first | (rw [hji11] at H; exact H) | (simp only [hji11] at H ⊢; exact H)
    (try rw [hji11] at A5)
    (try rw [hji11] at A6)
    have hji11w : (IntKind.i64.wrap (a1 + 1)) = ji11 := (i64_w _).trans hji11
    refine em_ (p := 0 ≤ (ji11)) (fun c12 => ?g4p) (fun c12 => ?g4n)
    case' g4p =>
     rw [if_pos c12] at H
     have c12b0 : decide (0 ≤ (ji11)) = true := decide_eq_true c12
     clear c12
     refine em_ (p := (ji11) < (t277.length : Int)) (fun c13 => ?g3p) (fun c13 => ?g3n)
     case' g3p =>
      rw [if_pos c13] at H
      have c13b0 : decide ((ji11) < (t277.length : Int)) = true := decide_eq_true c13
      clear c13
      obtain ⟨y281, hy281⟩ : ∃ y_ : List (S48), y_ = (y280.set ((ji11) : Int).toNat (⟨0, (⟨a3_0, a3_1, a3_2, a3_3, a3_4⟩ : S37), 2⟩ : S48)) := ⟨_, rfl⟩
      replace H : (some y281) = some r := by first | (rw [hy281]; with_reducible exact H) | (rw [hy281]; exact H) | exact H
      have Ny281 := am hy281
      clear hy281
      obtain rfl := Option.some.inj H
      have lf4_ := trivial
     case g3n =>
      rw [if_neg c13] at H
      exact absurd H (by simp)
    case g4n =>
     rw [if_neg c12] at H
     exact absurd H (by simp)
   case' g5n =>
    rw [if_neg c10] at H
    have c10b0 : (t276 == 2) = false := beq_eq_false_iff_ne.mpr c10
    have c10b1 : (t276 != 2) = true := bne_iff_ne.mpr c10
    obtain rfl := Option.some.inj H
    have lf5_ := trivial
  case g6n =>
   rw [if_neg c8] at H
   exact absurd H (by simp)
 case g7n =>
  rw [if_neg c7] at H
  exact absurd H (by simp)
 all_goals
  go_enter Tryd.func53, Tryd.ntmps53
  go_wp2_with (first | ((with_reducible refine gate_store (t := 48) (p := 27) rfl ?_); refine store_event (t := 48) (p := 27) (v := ?vo_w20) (w1 := (((((((w17.setCell ⟨go9, (a1 : Int).toNat * 7, none⟩ (.int .i64 a2)).setCell ⟨go9, (a1 : Int).toNat * 7 + 1, none⟩ (.int .i64 a3_0)).setCell ⟨go9, (a1 : Int).toNat * 7 + 2, none⟩ (.int .i64 a3_1)).setCell ⟨go9, (a1 : Int).toNat * 7 + 3, none⟩ (.bool a3_2)).setCell ⟨go9, (a1 : Int).toNat * 7 + 4, none⟩ (.bool a3_3)).setCell ⟨go9, (a1 : Int).toNat * 7 + 5, none⟩ (.bool a3_4)).setCell ⟨go9, (a1 : Int).toNat * 7 + 6, none⟩ (.int .i64 (wrap64 (t276 - 1))))) ?hg ?ho ?hn ?hr ?_; (case ho => rfl); (case hg => rfl); (case hn => rfl); (case hr => first | (go_simp; done) | (go_simp; rfl)); intro w20 hw; have hg : w17.grownBy w20 (some go9) := (by rw [hw]; exact HP19.2); have hp_ : Kd.R k48 48 w20 w.heap.size (fun _ => True) (.slice (some ⟨go9, 0, none⟩) t277.length co9) y280 := (by rw [hw, Ny280.out]; exact HP19.1); clear HP19; have n0_ := am (blk_grown (g := gb275) (o := .cells #[.int .i64 a3_0, .int .i64 a3_1, .bool a3_2, .bool a3_3, .bool a3_4] 37 (0, 0)) (rk BK275) hg (Kd.R_ne HO279.out BK275.out (by decide))); have n1_ := am (hp_); have n2_ := am ((by rw [hw]; exact below_set (below_set (below_set (below_set (below_set (below_set (below_set (HB.out) GB9.out) GB9.out) GB9.out) GB9.out) GB9.out) GB9.out) GB9.out : Below w.heap.size w w20)); clear BK275; clear HO279; clear HB; have BK275 := n0_; have HO279 := n1_; have HB := n2_; clear n0_ n1_ n2_; clear hg hw hp_; have hcz21_0 : w20.cell? ⟨gb275, 0, none⟩ = some (.int .i64 a3_0) := (blk_cell BK275.out 0).trans rfl; have hcz21_1 : w20.cell? ⟨gb275, 1, none⟩ = some (.int .i64 a3_1) := (blk_cell BK275.out 1).trans rfl; have hcz21_2 : w20.cell? ⟨gb275, 2, none⟩ = some (.bool a3_2) := (blk_cell BK275.out 2).trans rfl; have hcz21_3 : w20.cell? ⟨gb275, 3, none⟩ = some (.bool a3_3) := (blk_cell BK275.out 3).trans rfl; have hcz21_4 : w20.cell? ⟨gb275, 4, none⟩ = some (.bool a3_4) := (blk_cell BK275.out 4).trans rfl; have hfz21_0 := blk_frozen BK275.out 0; have hfz21_1 := blk_frozen BK275.out 1; have hfz21_2 := blk_frozen BK275.out 2; have hfz21_3 := blk_frozen BK275.out 3; have hfz21_4 := blk_frozen BK275.out 4; have p14 : 0 ≤ ((ji11) : Int) := dt_; have q14 : ((ji11) : Int) < ((t277.length : Int) : Int) := dt_; obtain ⟨ce14, hcl14, hM14, hcc14, hfr14⟩ := Kd.R_elem HO279.out z48 ((ji11) : Int) p14 q14; obtain rfl := k48_openM hM14; have hx14_0 : w20.cell? ⟨go9, ((ji11) : Int).toNat * 7, none⟩ = some (.int .i64 ((rd_T48 y280 (ji11)).f0)) := hcc14 0 _ rfl; have hx14_1 : w20.cell? ⟨go9, ((ji11) : Int).toNat * 7 + 1, none⟩ = some (.int .i64 ((rd_T48 y280 (ji11)).f1.f0)) := hcc14 1 _ rfl; have hx14_2 : w20.cell? ⟨go9, ((ji11) : Int).toNat * 7 + 2, none⟩ = some (.int .i64 ((rd_T48 y280 (ji11)).f1.f1)) := hcc14 2 _ rfl; have hx14_3 : w20.cell? ⟨go9, ((ji11) : Int).toNat * 7 + 3, none⟩ = some (.bool ((rd_T48 y280 (ji11)).f1.f2)) := hcc14 3 _ rfl; have hx14_4 : w20.cell? ⟨go9, ((ji11) : Int).toNat * 7 + 4, none⟩ = some (.bool ((rd_T48 y280 (ji11)).f1.f3)) := hcc14 4 _ rfl; have hx14_5 : w20.cell? ⟨go9, ((ji11) : Int).toNat * 7 + 5, none⟩ = some (.bool ((rd_T48 y280 (ji11)).f1.f4)) := hcc14 5 _ rfl; have hx14_6 : w20.cell? ⟨go9, ((ji11) : Int).toNat * 7 + 6, none⟩ = some (.int .i64 ((rd_T48 y280 (ji11)).f2)) := hcc14 6 _ rfl; have hf14_0 : w20.frozen? ⟨go9, ((ji11) : Int).toNat * 7, none⟩ = false := hfr14 0; have hf14_1 : w20.frozen? ⟨go9, ((ji11) : Int).toNat * 7 + 1, none⟩ = false := hfr14 1; have hf14_2 : w20.frozen? ⟨go9, ((ji11) : Int).toNat * 7 + 2, none⟩ = false := hfr14 2; have hf14_3 : w20.frozen? ⟨go9, ((ji11) : Int).toNat * 7 + 3, none⟩ = false := hfr14 3; have hf14_4 : w20.frozen? ⟨go9, ((ji11) : Int).toNat * 7 + 4, none⟩ = false := hfr14 4; have hf14_5 : w20.frozen? ⟨go9, ((ji11) : Int).toNat * 7 + 5, none⟩ = false := hfr14 5; have hf14_6 : w20.frozen? ⟨go9, ((ji11) : Int).toNat * 7 + 6, none⟩ = false := hfr14 6; clear hcl14 hcc14 hfr14 hM14; replace p14 := eq_true p14; replace q14 := eq_true q14; have HX22 := am (show Kd.R k48 48 w20 w.heap.size (fun _ => True) (.slice (some ⟨go9, 0, none⟩) t277.length co9) y280 from (rr HO279)); obtain ⟨ce22, hcl22, hM22, hcc22, hfr22⟩ := Kd.R_elem HX22.out z48 ((ji11) : Int) dt_ (by have h_ : ((ji11) : Int) < ((t277.length : Int) : Int) := dt_; first | exact h_ | (have e_ := (Kd.R_reads' HO279.out).1; omega) | simpa using h_); obtain rfl := k48_openM hM22; have HP22 := Kd.R_seg HX22.out ((ji11) : Int) dt_ (by have h_ : ((ji11) : Int) < ((t277.length : Int) : Int) := dt_; first | exact h_ | (have e_ := (Kd.R_reads' HO279.out).1; omega) | simpa using h_) (seg := [.int .i64 0, .int .i64 a3_0, .int .i64 a3_1, .bool a3_2, .bool a3_3, .bool a3_4, .int .i64 2]) (j := 0) hcl22 hcc22 (show 7 ≤ 7 from by decide) (x' := (⟨0, (⟨a3_0, a3_1, a3_2, a3_3, a3_4⟩ : S37), 2⟩ : S48)) (k48_mkM _ _ _ (⟨0, (⟨a3_0, a3_1, a3_2, a3_3, a3_4⟩ : S37), 2⟩ : S48) ) (fun _ hk => hk); have hx22_0 := hcc22 0 _ rfl; (try simp only [show (k48).sz = 7 from rfl, Nat.mul_one, Nat.add_zero] at hx22_0); have hf22_0 := hfr22 0; (try simp only [show (k48).sz = 7 from rfl, Nat.mul_one, Nat.add_zero] at hf22_0); have hx22_1 := hcc22 1 _ rfl; (try simp only [show (k48).sz = 7 from rfl, Nat.mul_one, Nat.add_zero] at hx22_1); have hf22_1 := hfr22 1; (try simp only [show (k48).sz = 7 from rfl, Nat.mul_one, Nat.add_zero] at hf22_1); have hx22_2 := hcc22 2 _ rfl; (try simp only [show (k48).sz = 7 from rfl, Nat.mul_one, Nat.add_zero] at hx22_2); have hf22_2 := hfr22 2; (try simp only [show (k48).sz = 7 from rfl, Nat.mul_one, Nat.add_zero] at hf22_2); have hx22_3 := hcc22 3 _ rfl; (try simp only [show (k48).sz = 7 from rfl, Nat.mul_one, Nat.add_zero] at hx22_3); have hf22_3 := hfr22 3; (try simp only [show (k48).sz = 7 from rfl, Nat.mul_one, Nat.add_zero] at hf22_3); have hx22_4 := hcc22 4 _ rfl; (try simp only [show (k48).sz = 7 from rfl, Nat.mul_one, Nat.add_zero] at hx22_4); have hf22_4 := hfr22 4; (try simp only [show (k48).sz = 7 from rfl, Nat.mul_one, Nat.add_zero] at hf22_4); have hx22_5 := hcc22 5 _ rfl; (try simp only [show (k48).sz = 7 from rfl, Nat.mul_one, Nat.add_zero] at hx22_5); have hf22_5 := hfr22 5; (try simp only [show (k48).sz = 7 from rfl, Nat.mul_one, Nat.add_zero] at hf22_5); have hx22_6 := hcc22 6 _ rfl; (try simp only [show (k48).sz = 7 from rfl, Nat.mul_one, Nat.add_zero] at hx22_6); have hf22_6 := hfr22 6; (try simp only [show (k48).sz = 7 from rfl, Nat.mul_one, Nat.add_zero] at hf22_6); clear hcl22 hcc22 hfr22 hM22) | ((with_reducible refine gate_callee (f := 54) rfl ?_); refine gl_ (some 19) Tryd.func54 #[.slice A0 l0.length c0, .int .i64 a1, .int .i64 (wrap64 (a1 + t276)), .agg #[.int .i64 a3_0, .int .i64 a3_1, .bool a3_2, .bool a3_3, .bool a3_4]] ?_; (with_reducible refine (spec_l4Cleared.calls k _ _ l0 a1 (wrap64 (a1 + t276)) a3_0 a3_1 a3_2 a3_3 a3_4 t277 _ ?side1 ?side2 A6.out).mono ?_); (case side1 => exact rc ((Kd.C_below HR0.out HB.out))); (case side2 => exact HC0.out); rintro e w17 ⟨v278, rfl, ho0, hb⟩; refine ⟨_, rfl, ?_⟩; have n0_ := am (Kd.R_lower ho0 (below_size (rb1 HB GE275))); have n1_ := am (blk_below (g := gb275) (o := .cells #[.int .i64 a3_0, .int .i64 a3_1, .bool a3_2, .bool a3_3, .bool a3_4] 37 (0, 0)) (rk BK275) hb); have n2_ := am (below_step (rb1 HB GE275) hb); clear BK275; clear HB; have HO279 := n0_; have BK275 := n1_; have HB := n2_; clear n0_ n1_ n2_; (try clear hb); (try clear hb2); (try clear hk); (try clear hi); (try clear ho0); have hcz18_0 : w17.cell? ⟨gb275, 0, none⟩ = some (.int .i64 a3_0) := (blk_cell BK275.out 0).trans rfl; have hcz18_1 : w17.cell? ⟨gb275, 1, none⟩ = some (.int .i64 a3_1) := (blk_cell BK275.out 1).trans rfl; have hcz18_2 : w17.cell? ⟨gb275, 2, none⟩ = some (.bool a3_2) := (blk_cell BK275.out 2).trans rfl; have hcz18_3 : w17.cell? ⟨gb275, 3, none⟩ = some (.bool a3_3) := (blk_cell BK275.out 3).trans rfl; have hcz18_4 : w17.cell? ⟨gb275, 4, none⟩ = some (.bool a3_4) := (blk_cell BK275.out 4).trans rfl; have hfz18_0 := blk_frozen BK275.out 0; have hfz18_1 := blk_frozen BK275.out 1; have hfz18_2 := blk_frozen BK275.out 2; have hfz18_3 := blk_frozen BK275.out 3; have hfz18_4 := blk_frozen BK275.out 4; have p9 : 0 ≤ (a1 : Int) := dt_; have q9 : (a1 : Int) < ((t277.length : Int) : Int) := dt_; obtain ⟨go9, co9, eo9, gb9, gl9, cl9, HG9⟩ := Kd.R_form HO279.out (by omega); (first | cases eo9 | (injection eo9 with ea_ en_ ec_; (first | subst ea_ | (injection ea_ with ea_; subst ea_)); subst ec_; clear en_)); have GB9 := am gb9; have GG9 := am HG9; clear gb9 gl9 HG9; obtain ⟨ce9, hcl9, hM9, hcc9, hfr9⟩ := Kd.R_elem HO279.out z48 (a1 : Int) p9 q9; obtain rfl := k48_openM hM9; have hx9_0 : w17.cell? ⟨go9, (a1 : Int).toNat * 7, none⟩ = some (.int .i64 ((rd_T48 t277 a1).f0)) := hcc9 0 _ rfl; have hx9_1 : w17.cell? ⟨go9, (a1 : Int).toNat * 7 + 1, none⟩ = some (.int .i64 ((rd_T48 t277 a1).f1.f0)) := hcc9 1 _ rfl; have hx9_2 : w17.cell? ⟨go9, (a1 : Int).toNat * 7 + 2, none⟩ = some (.int .i64 ((rd_T48 t277 a1).f1.f1)) := hcc9 2 _ rfl; have hx9_3 : w17.cell? ⟨go9, (a1 : Int).toNat * 7 + 3, none⟩ = some (.bool ((rd_T48 t277 a1).f1.f2)) := hcc9 3 _ rfl; have hx9_4 : w17.cell? ⟨go9, (a1 : Int).toNat * 7 + 4, none⟩ = some (.bool ((rd_T48 t277 a1).f1.f3)) := hcc9 4 _ rfl; have hx9_5 : w17.cell? ⟨go9, (a1 : Int).toNat * 7 + 5, none⟩ = some (.bool ((rd_T48 t277 a1).f1.f4)) := hcc9 5 _ rfl; have hx9_6 : w17.cell? ⟨go9, (a1 : Int).toNat * 7 + 6, none⟩ = some (.int .i64 ((rd_T48 t277 a1).f2)) := hcc9 6 _ rfl; have hf9_0 : w17.frozen? ⟨go9, (a1 : Int).toNat * 7, none⟩ = false := hfr9 0; have hf9_1 : w17.frozen? ⟨go9, (a1 : Int).toNat * 7 + 1, none⟩ = false := hfr9 1; have hf9_2 : w17.frozen? ⟨go9, (a1 : Int).toNat * 7 + 2, none⟩ = false := hfr9 2; have hf9_3 : w17.frozen? ⟨go9, (a1 : Int).toNat * 7 + 3, none⟩ = false := hfr9 3; have hf9_4 : w17.frozen? ⟨go9, (a1 : Int).toNat * 7 + 4, none⟩ = false := hfr9 4; have hf9_5 : w17.frozen? ⟨go9, (a1 : Int).toNat * 7 + 5, none⟩ = false := hfr9 5; have hf9_6 : w17.frozen? ⟨go9, (a1 : Int).toNat * 7 + 6, none⟩ = false := hfr9 6; clear hcl9 hcc9 hfr9 hM9; replace p9 := eq_true p9; replace q9 := eq_true q9; have HX19 := am (show Kd.R k48 48 w17 w.heap.size (fun _ => True) (.slice (some ⟨go9, 0, none⟩) t277.length co9) t277 from (rr HO279)); obtain ⟨ce19, hcl19, hM19, hcc19, hfr19⟩ := Kd.R_elem HX19.out z48 (a1 : Int) dt_ (by have h_ : (a1 : Int) < ((t277.length : Int) : Int) := dt_; first | exact h_ | (have e_ := (Kd.R_reads' HO279.out).1; omega) | simpa using h_); obtain rfl := k48_openM hM19; have HP19 := Kd.R_seg HX19.out (a1 : Int) dt_ (by have h_ : (a1 : Int) < ((t277.length : Int) : Int) := dt_; first | exact h_ | (have e_ := (Kd.R_reads' HO279.out).1; omega) | simpa using h_) (seg := [.int .i64 a2, .int .i64 a3_0, .int .i64 a3_1, .bool a3_2, .bool a3_3, .bool a3_4, .int .i64 (wrap64 (t276 - 1))]) (j := 0) hcl19 hcc19 (show 7 ≤ 7 from by decide) (x' := (⟨a2, (⟨a3_0, a3_1, a3_2, a3_3, a3_4⟩ : S37), wrap64 (t276 - 1)⟩ : S48)) (k48_mkM _ _ _ (⟨a2, (⟨a3_0, a3_1, a3_2, a3_3, a3_4⟩ : S37), wrap64 (t276 - 1)⟩ : S48) ) (fun _ hk => hk); have hx19_0 := hcc19 0 _ rfl; (try simp only [show (k48).sz = 7 from rfl, Nat.mul_one, Nat.add_zero] at hx19_0); have hf19_0 := hfr19 0; (try simp only [show (k48).sz = 7 from rfl, Nat.mul_one, Nat.add_zero] at hf19_0); have hx19_1 := hcc19 1 _ rfl; (try simp only [show (k48).sz = 7 from rfl, Nat.mul_one, Nat.add_zero] at hx19_1); have hf19_1 := hfr19 1; (try simp only [show (k48).sz = 7 from rfl, Nat.mul_one, Nat.add_zero] at hf19_1); have hx19_2 := hcc19 2 _ rfl; (try simp only [show (k48).sz = 7 from rfl, Nat.mul_one, Nat.add_zero] at hx19_2); have hf19_2 := hfr19 2; (try simp only [show (k48).sz = 7 from rfl, Nat.mul_one, Nat.add_zero] at hf19_2); have hx19_3 := hcc19 3 _ rfl; (try simp only [show (k48).sz = 7 from rfl, Nat.mul_one, Nat.add_zero] at hx19_3); have hf19_3 := hfr19 3; (try simp only [show (k48).sz = 7 from rfl, Nat.mul_one, Nat.add_zero] at hf19_3); have hx19_4 := hcc19 4 _ rfl; (try simp only [show (k48).sz = 7 from rfl, Nat.mul_one, Nat.add_zero] at hx19_4); have hf19_4 := hfr19 4; (try simp only [show (k48).sz = 7 from rfl, Nat.mul_one, Nat.add_zero] at hf19_4); have hx19_5 := hcc19 5 _ rfl; (try simp only [show (k48).sz = 7 from rfl, Nat.mul_one, Nat.add_zero] at hx19_5); have hf19_5 := hfr19 5; (try simp only [show (k48).sz = 7 from rfl, Nat.mul_one, Nat.add_zero] at hf19_5); have hx19_6 := hcc19 6 _ rfl; (try simp only [show (k48).sz = 7 from rfl, Nat.mul_one, Nat.add_zero] at hx19_6); have hf19_6 := hfr19 6; (try simp only [show (k48).sz = 7 from rfl, Nat.mul_one, Nat.add_zero] at hf19_6); clear hcl19 hcc19 hfr19 hM19) | ((with_reducible refine gate_store (t := 48) (p := 35) rfl ?_); refine store_event (t := 48) (p := 35) (v := ?vo_w23) (w1 := (((((((w20.setCell ⟨go9, ((ji11) : Int).toNat * 7, none⟩ (.int .i64 0)).setCell ⟨go9, ((ji11) : Int).toNat * 7 + 1, none⟩ (.int .i64 a3_0)).setCell ⟨go9, ((ji11) : Int).toNat * 7 + 2, none⟩ (.int .i64 a3_1)).setCell ⟨go9, ((ji11) : Int).toNat * 7 + 3, none⟩ (.bool a3_2)).setCell ⟨go9, ((ji11) : Int).toNat * 7 + 4, none⟩ (.bool a3_3)).setCell ⟨go9, ((ji11) : Int).toNat * 7 + 5, none⟩ (.bool a3_4)).setCell ⟨go9, ((ji11) : Int).toNat * 7 + 6, none⟩ (.int .i64 2))) ?hg ?ho ?hn ?hr ?_; (case ho => rfl); (case hg => rfl); (case hn => rfl); (case hr => first | (go_simp; done) | (go_simp; rfl)); intro w23 hw; have hg : w20.grownBy w23 (some go9) := (by rw [hw]; exact HP22.2); have hp_ : Kd.R k48 48 w23 w.heap.size (fun _ => True) (.slice (some ⟨go9, 0, none⟩) t277.length co9) y281 := (by rw [hw, Ny281.out]; exact HP22.1); clear HP22; have n0_ := am (blk_grown (g := gb275) (o := .cells #[.int .i64 a3_0, .int .i64 a3_1, .bool a3_2, .bool a3_3, .bool a3_4] 37 (0, 0)) (rk BK275) hg (Kd.R_ne HO279.out BK275.out (by decide))); have n1_ := am (hp_); have n2_ := am ((by rw [hw]; exact below_set (below_set (below_set (below_set (below_set (below_set (below_set (HB.out) GB9.out) GB9.out) GB9.out) GB9.out) GB9.out) GB9.out) GB9.out : Below w.heap.size w w23)); clear BK275; clear HO279; clear HB; have BK275 := n0_; have HO279 := n1_; have HB := n2_; clear n0_ n1_ n2_; clear hg hw hp_) | ((with_reducible refine gate_store (t := 48) (p := 27) rfl ?_); refine store_event (t := 48) (p := 27) (v := ?vo_w29) (w1 := (((((((w17.setCell ⟨go9, (a1 : Int).toNat * 7, none⟩ (.int .i64 a2)).setCell ⟨go9, (a1 : Int).toNat * 7 + 1, none⟩ (.int .i64 a3_0)).setCell ⟨go9, (a1 : Int).toNat * 7 + 2, none⟩ (.int .i64 a3_1)).setCell ⟨go9, (a1 : Int).toNat * 7 + 3, none⟩ (.bool a3_2)).setCell ⟨go9, (a1 : Int).toNat * 7 + 4, none⟩ (.bool a3_3)).setCell ⟨go9, (a1 : Int).toNat * 7 + 5, none⟩ (.bool a3_4)).setCell ⟨go9, (a1 : Int).toNat * 7 + 6, none⟩ (.int .i64 (wrap64 (t276 - 1))))) ?hg ?ho ?hn ?hr ?_; (case ho => rfl); (case hg => rfl); (case hn => rfl); (case hr => first | (go_simp; done) | (go_simp; rfl)); intro w29 hw; have hg : w17.grownBy w29 (some go9) := (by rw [hw]; exact HP19.2); have hp_ : Kd.R k48 48 w29 w.heap.size (fun _ => True) (.slice (some ⟨go9, 0, none⟩) t277.length co9) y280 := (by rw [hw, Ny280.out]; exact HP19.1); clear HP19; have n0_ := am (blk_grown (g := gb275) (o := .cells #[.int .i64 a3_0, .int .i64 a3_1, .bool a3_2, .bool a3_3, .bool a3_4] 37 (0, 0)) (rk BK275) hg (Kd.R_ne HO279.out BK275.out (by decide))); have n1_ := am (hp_); have n2_ := am ((by rw [hw]; exact below_set (below_set (below_set (below_set (below_set (below_set (below_set (HB.out) GB9.out) GB9.out) GB9.out) GB9.out) GB9.out) GB9.out) GB9.out : Below w.heap.size w w29)); clear BK275; clear HO279; clear HB; have BK275 := n0_; have HO279 := n1_; have HB := n2_; clear n0_ n1_ n2_; clear hg hw hp_) | ((with_reducible refine gate_callee (f := 25) rfl ?_); refine gl_ (some 12) Tryd.func25 #[.int .i64 a2] ?_; (with_reducible refine (spec_Width.calls k a2 t276 _ A5.out).mono ?_); rintro e w' ⟨rfl, ⟨nd, rfl⟩⟩; refine ⟨_, rfl, ?_⟩; (try (rw [drewN_self w15]; generalize hq_ : World.drewN w15 _ = w15; have n0_ : Aside0 (w15.heap[gb275]? = some (.cells #[.int .i64 a3_0, .int .i64 a3_1, .bool a3_2, .bool a3_3, .bool a3_4] 37 (0, 0))) := ⟨by rw [← hq_]; exact (rk BK275)⟩; have n1_ : Aside0 (Below w.heap.size w w15) := ⟨by rw [← hq_]; exact (rb1 HB GE275)⟩; clear BK275 HB hq_; have BK275 := n0_; have HB := n1_; clear n0_ n1_)); have hcz16_0 : w15.cell? ⟨gb275, 0, none⟩ = some (.int .i64 a3_0) := (blk_cell BK275.out 0).trans rfl; have hcz16_1 : w15.cell? ⟨gb275, 1, none⟩ = some (.int .i64 a3_1) := (blk_cell BK275.out 1).trans rfl; have hcz16_2 : w15.cell? ⟨gb275, 2, none⟩ = some (.bool a3_2) := (blk_cell BK275.out 2).trans rfl; have hcz16_3 : w15.cell? ⟨gb275, 3, none⟩ = some (.bool a3_3) := (blk_cell BK275.out 3).trans rfl; have hcz16_4 : w15.cell? ⟨gb275, 4, none⟩ = some (.bool a3_4) := (blk_cell BK275.out 4).trans rfl; have hfz16_0 := blk_frozen BK275.out 0; have hfz16_1 := blk_frozen BK275.out 1; have hfz16_2 := blk_frozen BK275.out 2; have hfz16_3 := blk_frozen BK275.out 3; have hfz16_4 := blk_frozen BK275.out 4) | ((with_reducible refine gate_dst (N := 7) rfl ?_); refine box_event ?hg (N := 7) ?hd (cs := #[.int .i64 a3_0, .int .i64 a3_1, .bool a3_2, .bool a3_3, .bool a3_4]) (t := 37) ?hr ?_; (case hd => rfl); (case hg => rfl); (case hr => first | (go_simp; done) | (go_simp; rfl)); intro gb275 hg w15 hbox hb; have n0_ := am (below_step (rb HB) hb); have n1_ := am (hbox); have n2_ := am ((by rw [hg]; exact (below_size (rb HB)) : w.heap.size ≤ gb275)); have n3_ := am ((by rw [hg]; exact (below_size (rb HB)) : w.heap.size ≤ gb275)); clear HB; have HB := n0_; have BK275 := n1_; have GW275 := n2_; have GE275 := n3_; clear n0_ n1_ n2_ n3_; clear hb hbox hg))
  go_ret
  first
  | (
    have q_ := lf4_
    exact ⟨_, by first | rfl | (simp [errW_none, errW_some] <;> rfl) | (simp only [← hji11]; first | rfl | (simp [errW_none, errW_some] <;> rfl)) | (simp [*, errW_none, errW_some] <;> rfl), by (with_reducible repeat (first | apply r1 | apply r2 | apply r3)); exact HO279.out, by repeat (first | (with_reducible first | exact HB.out | apply b1 | apply b2 | apply b3 | refine below_set ?_ GE275.out) | exact HB.out)⟩
    )
  | (
    have q_ := lf5_
    exact ⟨_, by first | rfl | (simp [errW_none, errW_some] <;> rfl) | (simp [*, errW_none, errW_some] <;> rfl), by (with_reducible repeat (first | apply r1 | apply r2 | apply r3)); exact HO279.out, by repeat (first | (with_reducible first | exact HB.out | apply b1 | apply b2 | apply b3 | refine below_set ?_ GE275.out) | exact HB.out)⟩
    )

/-! ### spec_l4Draw: function 67 -/
def spec_l4Draw.l0 : Nat → Int → List (S48) → Int → List Int → Int → Int → Option ((List (S48)) × Int × Int)
 | 0, _, _, _, _, _, _ => none
 | k + 1, x1, x5, x6, x1000, x1001, x1002 => if x6 > 0 then ((spec_l4DrawRune.f x1000 x1001 x1002).bind fun bt288 => ((spec_l1Below.f x1000 bt288.2.1 bt288.2.2 x1).bind fun bt291 => ((spec_Width.f k bt288.1).bind fun t294 => (if (wrap64 (bt291.1 + t294)) ≤ x1 then ((spec_l3Draw.f x1000 bt291.2.1 bt291.2.2).bind fun bt295 => ((spec_l4Written.f k x5 bt291.1 bt288.1 bt295.1 bt295.2.1 bt295.2.2.1 bt295.2.2.2.1 bt295.2.2.2.2.1).bind fun t302 => (spec_l4Draw.l0 k x1 t302 (wrap64 (x6 - 1)) x1000 bt295.2.2.2.2.2.1 bt295.2.2.2.2.2.2))) else (spec_l4Draw.l0 k x1 x5 (wrap64 (x6 - 1)) x1000 bt291.2.1 bt291.2.2))))) else (some (x5, x1001, x1002))
def spec_l4Draw.f (k : Nat) (s0_0 : List Int) (s0_1 : Int) (s0_2 : Int) (a1 : Int) : Option ((List (S48)) × Int × Int) := (spec_l4Row.f k a1 0 0 false false false).bind fun t282 => ((spec_l1Below.f s0_0 s0_1 s0_2 7).bind fun bt285 => (spec_l4Draw.l0 k a1 t282 bt285.1 s0_0 bt285.2.1 bt285.2.2))
theorem spec_l4Draw.mono_l : ∀ k, (∀ y0 y1 y2 y3 y4 y5, LeO (spec_l4Draw.l0 k y0 y1 y2 y3 y4 y5) (spec_l4Draw.l0 (k + 1) y0 y1 y2 y3 y4 y5))
 | 0 => fun _ _ _ _ _ _ r h => by simp [spec_l4Draw.l0] at h
 | k + 1 => by
  have ih0 := spec_l4Draw.mono_l k
  ·intro y0 y1 y2 y3 y4 y5
   unfold spec_l4Draw.l0
   repeat' first
   | (with_reducible exact ih0 _ _ _ _ _ _)
   | (with_reducible exact spec_Width.mono _ _)
   | (with_reducible exact spec_l4Row.mono _ _ _ _ _ _ _)
   | (with_reducible exact spec_l4Written.mono _ _ _ _ _ _ _ _ _)
   | (with_reducible exact LeO.refl _)
   | (with_reducible exact LeO.none _)
   | (with_reducible refine LeO.ite ?_ ?_)
   | (with_reducible refine LeO.bind ?_ (fun _ => ?_))
theorem spec_l4Draw.mono : ∀ a0 a1 a2 a3 k, LeO (spec_l4Draw.f k a0 a1 a2 a3) (spec_l4Draw.f (k + 1) a0 a1 a2 a3) := by
 intro a0 a1 a2 a3 k
 have ih0 := spec_l4Draw.mono_l k
 unfold spec_l4Draw.f
 repeat' first
   | (with_reducible exact ih0 _ _ _ _ _ _)
   | (with_reducible exact spec_Width.mono _ _)
   | (with_reducible exact spec_l4Row.mono _ _ _ _ _ _ _)
   | (with_reducible exact spec_l4Written.mono _ _ _ _ _ _ _ _ _)
   | (with_reducible exact LeO.refl _)
   | (with_reducible exact LeO.none _)
   | (with_reducible refine LeO.ite ?_ ?_)
   | (with_reducible refine LeO.bind ?_ (fun _ => ?_))
set_option maxHeartbeats 8000000 in
set_option maxRecDepth 100000 in
theorem spec_l4Draw.calls (k : Nat) (g : Nat) (s0_0 : List Int) (s0_1 : Int) (s0_2 : Int) (a1 : Int) (r1 : List (S48)) (r2 : Int) (r3 : Int) (w0 w : World) (hI : IsS87 w0 w g s0_0 s0_1 s0_2) (hB : Below w0.heap.size w0 w) (h : spec_l4Draw.f k s0_0 s0_1 s0_2 a1 = some (r1, r2, r3)) :
  Calls Tryd.prog 67 #[.pointer (some ⟨g, 0, none⟩), .int .i64 a1] w fun e w' => ∃ v0_ : Value, e = .returned (v0_) ∧ Kd.R k48 48 w' w.heap.size (fun _ => True) v0_ r1 ∧ IsS87 w0 w' g s0_0 r2 r3 ∧ Below w0.heap.size w0 w' ∧ KeepBut w w' g none := by
 have hu37 := Tryd.underlying37
 have HI0 := am hI
 have HK := am (KeepBut.refl w g none)
 have HL := am hB.size
 clear hI
 have HW0 := am hB.size
 have HB := am hB
 clear hB
 have H := h
 unfold spec_l4Draw.f at H
 clear h
 replace H := Option.bind_eq_some_iff.mp H
 obtain ⟨t282, A30, H⟩ := H
 (try dsimp only at H)
 have A3 := am A30
 clear A30
 replace H := Option.bind_eq_some_iff.mp H
 obtain ⟨⟨t285, t286, t287⟩, A40, H⟩ := H
 (try dsimp only at H)
 have A4 := am A40
 clear A40
 have H' := am H
 clear H
 go_enter Tryd.func67, Tryd.ntmps67
 go_wp2_with (first | ((with_reducible refine gate_callee (f := 55) rfl ?_); refine gl_ (some 11) Tryd.func55 #[.int .i64 a1, .agg #[.int .i64 0, .int .i64 0, .bool false, .bool false, .bool false]] ?_; (with_reducible refine (spec_l4Row.calls k a1 0 0 false false false t282 _ A3.out).mono ?_); rintro e w5 ⟨v283, rfl, ho0, hb⟩; refine ⟨_, rfl, ?_⟩; have n0_ := am (Kd.R_lower ho0 (keep_size (w := w) (g := g) (row := none) (rkk HK))); have n1_ := am (IsS87.below (ri87 HI0) hb); have n2_ := am (KeepBut.trans (rkk HK) (KeepBut.of_below hb g none) (.inl rfl)); have n3_ := am (below_step (rbi87 HB HI0 IsS87.ge) hb); clear HI0; clear HK; clear HB; have HO284 := n0_; have HI0 := n1_; have HK := n2_; have HB := n3_; clear n0_ n1_ n2_ n3_; (try clear hb); (try clear hb2); (try clear hk); (try clear hi); (try clear ho0)) | ((with_reducible refine gate_callee (f := 46) rfl ?_); refine gl_ (some 13) Tryd.func46 #[.pointer (some ⟨g, 0, none⟩), .int .i64 7] ?_; (with_reducible refine (spec_l1Below.calls g s0_0 s0_1 s0_2 7 t285 t286 t287 w0 _ ?side1 ?side2 A4.out).mono ?_); (case side1 => exact ri87 HI0); (case side2 => exact rbi87 HB HI0 IsS87.ge); rintro e w6 ⟨rfl, hi, hb, hk⟩; refine ⟨_, rfl, ?_⟩; have n0_ := am (Kd.R_mono (Kd.R_keep (IsS87.apart (show IsS87 w0 _ g s0_0 s0_1 s0_2 from ri87 HI0) (rr HO284) (by decide)) hk (fun _ h => h.2)) (fun _ h => h.1)); have n1_ := am (KeepBut.trans (rkk HK) hk (.inl rfl)); have n2_ := am (hb); have n3_ := am (hi); clear HO284; clear HK; clear HB; clear HI0; have HO284 := n0_; have HK := n1_; have HB := n2_; have HI0 := n3_; clear n0_ n1_ n2_ n3_; (try clear hb); (try clear hb2); (try clear hk); (try clear hi)))
 go_loopg [5, 6] k (fun kq v5 v6 w' => ∃ (x5_1 : List (S48)) (x6_1 : Int) (x1001_1 : Int) (x1002_1 : Int), v6 = .int .i64 x6_1 ∧ Aside0 (spec_l4Draw.l0 kq a1 x5_1 x6_1 s0_0 x1001_1 x1002_1 = some (r1, r2, r3)) ∧ Aside0 (kq ≤ k) ∧ Aside0 (Kd.R k48 48 w' w.heap.size (fun _ => True) v5 x5_1) ∧ Aside0 (IsS87 w0 w' g s0_0 x1001_1 x1002_1) ∧ Aside0 (KeepBut w w' g none) ∧ Aside0 (Below w0.heap.size w0 w'))
 case atStart => exact ⟨(t282), (t285), (t286), (t287), (by first | rfl | (simp; done) | (simp [*]; done)), H', ⟨Nat.le_refl _⟩, ⟨rr HO284⟩, ⟨ri87 HI0⟩, ⟨rkk HK⟩, ⟨rbi87 HB HI0 IsS87.ge⟩⟩
 case round =>
  clear H'
  try clear p2
  try clear c4
  try clear c5
  try clear c6
  obtain ⟨x5_1, x6_1, x1001_1, x1002_1, rfl, HA, HK1, HO_5, HI0, HK, HB⟩ := hrel
  cases gk with
  | zero => exact absurd HA.out (by simp [spec_l4Draw.l0])
  | succ k1 =>
   have H := HA.out
   clear HA
   simp only [spec_l4Draw.l0] at H
   by_cases c7 : x6_1 > 0
   ·rw [if_pos c7] at H
    have c7b0 : decide (0 < x6_1) = true := decide_eq_true c7
    clear c7
    replace H := Option.bind_eq_some_iff.mp H
    obtain ⟨⟨t288, t289, t290⟩, A80, H⟩ := H
    (try dsimp only at H)
    have A8 := am A80
    clear A80
    replace H := Option.bind_eq_some_iff.mp H
    obtain ⟨⟨t291, t292, t293⟩, A90, H⟩ := H
    (try dsimp only at H)
    have A9 := am A90
    clear A90
    replace H := Option.bind_eq_some_iff.mp H
    obtain ⟨t294, A100, H⟩ := H
    (try dsimp only at H)
    have A10 := am A100
    clear A100
    refine em_ (p := (wrap64 (t291 + t294)) ≤ a1) (fun c11 => ?g8p) (fun c11 => ?g8n)
    case' g8p =>
     rw [if_pos c11] at H
     have c11b0 : decide ((wrap64 (t291 + t294)) ≤ a1) = true := decide_eq_true c11
     clear c11
     replace H := Option.bind_eq_some_iff.mp H
     obtain ⟨⟨t295, t296, t297, t298, t299, t300, t301⟩, A120, H⟩ := H
     (try dsimp only at H)
     have A12 := am A120
     clear A120
     replace H := Option.bind_eq_some_iff.mp H
     obtain ⟨t302, A130, H⟩ := H
     (try dsimp only at H)
     have A13 := am A130
     clear A130
     have H' := am H
     clear H
     have lf6_ := trivial
    case' g8n =>
     rw [if_neg c11] at H
     have c11b0 : decide ((wrap64 (t291 + t294)) ≤ a1) = false := decide_eq_false c11
     clear c11
     have H' := am H
     clear H
     have lf7_ := trivial
    all_goals
     go_wp2_with (first | ((with_reducible refine gate_callee (f := 53) rfl ?_); refine gl_ (some 34) Tryd.func53 #[.slice Ao17 x5_1.length co17, .int .i64 t291, .int .i64 t288, .agg #[.int .i64 t295, .int .i64 t296, .bool t297, .bool t298, .bool t299]] ?_; (with_reducible refine (spec_l4Written.calls k1 _ _ x5_1 t291 t288 t295 t296 t297 t298 t299 t302 _ ?side1 ?side2 A13.out).mono ?_); (case side1 => repeat (first | exact (Kd.R_reads' HO_5.out).2.2 | (with_reducible refine Kd.C_alloc ?_ _) | (with_reducible refine Kd.C_drewN ?_ _) | (with_reducible refine Kd.C_drew ?_))); (case side2 => exact (Kd.R_reads' HO_5.out).2.1); rintro e w18 ⟨v303, rfl, ho0, hb⟩; refine ⟨_, rfl, ?_⟩; have n0_ := am (Kd.R_elder' (rr HO_5) (Kd.R_base ho0) hb); have n1_ := am (Kd.R_lower (Kd.R_new' ho0 (Kd.R_lt (rr HO_5))) (keep_size (w := w) (g := g) (row := none) (rkk HK))); have n2_ := am (IsS87.below (ri87 HI0) hb); have n3_ := am (KeepBut.trans (rkk HK) (KeepBut.of_below hb g none) (.inl rfl)); have n4_ := am (below_step (rbi87 HB HI0 IsS87.ge) hb); clear HO_5; clear HI0; clear HK; clear HB; have HO_5 := n0_; have HO304 := n1_; have HI0 := n2_; have HK := n3_; have HB := n4_; clear n0_ n1_ n2_ n3_ n4_; (try clear hb); (try clear hb2); (try clear hk); (try clear hi); (try clear ho0)) | ((with_reducible refine gate_callee (f := 70) rfl ?_); refine gl_ (some 33) Tryd.func70 #[.pointer (some ⟨g, 0, none⟩)] ?_; (with_reducible refine (spec_l3Draw.calls g s0_0 t292 t293 t295 t296 t297 t298 t299 t300 t301 w0 _ ?side1 ?side2 A12.out).mono ?_); (case side1 => exact ri87 HI0); (case side2 => exact rbi87 HB HI0 IsS87.ge); rintro e w16 ⟨rfl, hi, hb, hk⟩; refine ⟨_, rfl, ?_⟩; have n0_ := am (Kd.R_mono (Kd.R_keep (IsS87.apart (show IsS87 w0 _ g s0_0 t292 t293 from ri87 HI0) (rr HO_5) (by decide)) hk (fun _ h => h.2)) (fun _ h => h.1)); have n1_ := am (KeepBut.trans (rkk HK) hk (.inl rfl)); have n2_ := am (hb); have n3_ := am (hi); clear HO_5; clear HK; clear HB; clear HI0; have HO_5 := n0_; have HK := n1_; have HB := n2_; have HI0 := n3_; clear n0_ n1_ n2_ n3_; (try clear hb); (try clear hb2); (try clear hk); (try clear hi); obtain ⟨Ao17, co17, eo17⟩ := Kd.R_slice HO_5.out; subst eo17) | ((with_reducible refine gate_callee (f := 46) rfl ?_); refine gl_ (some 22) Tryd.func46 #[.pointer (some ⟨g, 0, none⟩), .int .i64 a1] ?_; (with_reducible refine (spec_l1Below.calls g s0_0 t289 t290 a1 t291 t292 t293 w0 _ ?side1 ?side2 A9.out).mono ?_); (case side1 => exact ri87 HI0); (case side2 => exact rbi87 HB HI0 IsS87.ge); rintro e w15 ⟨rfl, hi, hb, hk⟩; refine ⟨_, rfl, ?_⟩; have n0_ := am (Kd.R_mono (Kd.R_keep (IsS87.apart (show IsS87 w0 _ g s0_0 t289 t290 from ri87 HI0) (rr HO_5) (by decide)) hk (fun _ h => h.2)) (fun _ h => h.1)); have n1_ := am (KeepBut.trans (rkk HK) hk (.inl rfl)); have n2_ := am (hb); have n3_ := am (hi); clear HO_5; clear HK; clear HB; clear HI0; have HO_5 := n0_; have HK := n1_; have HB := n2_; have HI0 := n3_; clear n0_ n1_ n2_ n3_; (try clear hb); (try clear hb2); (try clear hk); (try clear hi)) | ((with_reducible refine gate_callee (f := 36) rfl ?_); refine gl_ (some 19) Tryd.func36 #[.pointer (some ⟨g, 0, none⟩)] ?_; (with_reducible refine (spec_l4DrawRune.calls g s0_0 x1001_1 x1002_1 t288 t289 t290 w0 _ ?side1 ?side2 A8.out).mono ?_); (case side1 => exact ri87 HI0); (case side2 => exact rbi87 HB HI0 IsS87.ge); rintro e w14 ⟨rfl, hi, hb, hk⟩; refine ⟨_, rfl, ?_⟩; have n0_ := am (Kd.R_mono (Kd.R_keep (IsS87.apart (show IsS87 w0 _ g s0_0 x1001_1 x1002_1 from ri87 HI0) (rr HO_5) (by decide)) hk (fun _ h => h.2)) (fun _ h => h.1)); have n1_ := am (KeepBut.trans (rkk HK) hk (.inl rfl)); have n2_ := am (hb); have n3_ := am (hi); clear HO_5; clear HK; clear HB; clear HI0; have HO_5 := n0_; have HK := n1_; have HB := n2_; have HI0 := n3_; clear n0_ n1_ n2_ n3_; (try clear hb); (try clear hb2); (try clear hk); (try clear hi)) | ((with_reducible refine gate_callee (f := 25) rfl ?_); refine gl_ (some 25) Tryd.func25 #[.int .i64 t288] ?_; (with_reducible refine (spec_Width.calls k1 t288 t294 _ A10.out).mono ?_); rintro e w' ⟨rfl, ⟨nd, rfl⟩⟩; refine ⟨_, rfl, ?_⟩))
     go_roundg k1
     case measure => have := HK1.out; omega
     first
     | (
       have q_ := lf6_
       case rel => exact ⟨(t302), (wrap64 (x6_1 - 1)), (t300), (t301), (by first | rfl | (simp; done) | (simp [*]; done)), H', ⟨by have := HK1.out; omega⟩, ⟨by (with_reducible repeat (first | apply r1 | apply r2 | apply r3)); exact Kd.R_mono HO304.out (fun _ hk => trivial)⟩, ⟨ri87 HI0⟩, ⟨rkk HK⟩, ⟨rbi87 HB HI0 IsS87.ge⟩⟩
       )
     | (
       have q_ := lf7_
       case rel => exact ⟨(x5_1), (wrap64 (x6_1 - 1)), (t292), (t293), (by first | rfl | (simp; done) | (simp [*]; done)), H', ⟨by have := HK1.out; omega⟩, ⟨rr HO_5⟩, ⟨ri87 HI0⟩, ⟨rkk HK⟩, ⟨rbi87 HB HI0 IsS87.ge⟩⟩
       )
   ·rw [if_neg c7] at H
    have c7b0 : decide (0 < x6_1) = false := decide_eq_false c7
    clear c7
    simp only [Option.some.injEq, Prod.mk.injEq] at H
    obtain ⟨rfl, rfl, rfl⟩ := H
    go_wp2
    go_ret
    exact ⟨_, by first | rfl | (simp [errW_none, errW_some] <;> rfl) | (simp [*, errW_none, errW_some] <;> rfl), by (with_reducible repeat (first | apply r1 | apply r2 | apply r3)); exact HO_5.out, ri87 HI0, rbi87 HB HI0 IsS87.ge, rkk HK⟩

/-! ### spec_l1From: function 68 -/
def spec_l1From.f (s0_0 : List Int) (s0_1 : Int) (s0_2 : Int) (a1 : Int) (a2 : Int) : Option (Int × Int × Int) := (spec_l1Below.f s0_0 s0_1 s0_2 (wrap64 ((wrap64 (a2 - a1)) + 1))).bind fun bt305 => (some (wrap64 (a1 + bt305.1), bt305.2.1, bt305.2.2))
set_option maxHeartbeats 8000000 in
set_option maxRecDepth 100000 in
theorem spec_l1From.calls (g : Nat) (s0_0 : List Int) (s0_1 : Int) (s0_2 : Int) (a1 : Int) (a2 : Int) (r1 : Int) (r2 : Int) (r3 : Int) (w0 w : World) (hI : IsS87 w0 w g s0_0 s0_1 s0_2) (hB : Below w0.heap.size w0 w) (h : spec_l1From.f s0_0 s0_1 s0_2 a1 a2 = some (r1, r2, r3)) :
  Calls Tryd.prog 68 #[.pointer (some ⟨g, 0, none⟩), .int .i64 a1, .int .i64 a2] w fun e w' => e = .returned (.int .i64 r1) ∧ IsS87 w0 w' g s0_0 r2 r3 ∧ Below w0.heap.size w0 w' ∧ KeepBut w w' g none := by
 have HI0 := am hI
 have HK := am (KeepBut.refl w g none)
 have HL := am hB.size
 clear hI
 have HW0 := am hB.size
 have HB := am hB
 clear hB
 have H := h
 unfold spec_l1From.f at H
 clear h
 replace H := Option.bind_eq_some_iff.mp H
 obtain ⟨⟨t305, t306, t307⟩, A40, H⟩ := H
 (try dsimp only at H)
 have A4 := am A40
 clear A40
 simp only [Option.some.injEq, Prod.mk.injEq] at H
 obtain ⟨rfl, rfl, rfl⟩ := H
 go_enter Tryd.func68, Tryd.ntmps68
 go_wp2_with (first | ((with_reducible refine gate_callee (f := 46) rfl ?_); refine gl_ (some 13) Tryd.func46 #[.pointer (some ⟨g, 0, none⟩), .int .i64 (wrap64 ((wrap64 (a2 - a1)) + 1))] ?_; (with_reducible refine (spec_l1Below.calls g s0_0 s0_1 s0_2 (wrap64 ((wrap64 (a2 - a1)) + 1)) t305 t306 t307 w0 _ ?side1 ?side2 A4.out).mono ?_); (case side1 => exact ri87 HI0); (case side2 => exact rbi87 HB HI0 IsS87.ge); rintro e w5 ⟨rfl, hi, hb, hk⟩; refine ⟨_, rfl, ?_⟩; have n0_ := am (KeepBut.trans (rkk HK) hk (.inl rfl)); have n1_ := am (hb); have n2_ := am (hi); clear HK; clear HB; clear HI0; have HK := n0_; have HB := n1_; have HI0 := n2_; clear n0_ n1_ n2_; (try clear hb); (try clear hb2); (try clear hk); (try clear hi)))
 go_ret
 exact ⟨by first | rfl | (simp [errW_none, errW_some] <;> rfl) | (simp [*, errW_none, errW_some] <;> rfl), ri87 HI0, rbi87 HB HI0 IsS87.ge, rkk HK⟩

end Go.Proofs.YtepeanpoicefdaaDoor.PB
