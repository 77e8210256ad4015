/- Contracts of Go functions that laws of this seat reach: each Lean function answers as its Go function does. No condition. Written by wip/tools/inj.py, over the kit's print. -/
import Derived.Test.YtfhkpneffmcdbaaDoorQCx0
import Derived.Test.YtfhkpneffmcdbaaDoorQCx1
import Derived.Test.YtfhkpneffmcdbaaDoorQCx16
namespace Go.Proofs.YtfhkpneffmcdbaaDoor.QC
open Go.RowKit Go.Proofs.YtfhkpneffmcdbaaDoorW.PrintWords Go.Proofs.YtfhkpneffmcdbaaDoorW.PrintLast Go.Proofs.YtfhkpneffmcdbaaDoorW.PrintMore
attribute [local go_sem] max2_int min2_int max_two min_two max_three min_three max_four min_four   -- for this text's walks alone
set_option linter.unusedVariables false
set_option linter.unusedSimpArgs false

attribute [local go_sem high] eqA50
/-! ### spec_Pressed: function 43 -/
def spec_Pressed.l0 : Nat → ByteArray → List (S50) → Option ((List (S50)) × ByteArray)
 | 0, _, _ => none
 | k + 1, x0, x4 => (spec_l13Key.f k x0).bind fun bt374 => (if bt374.2.2.2 = 0 then (some (x4, x0)) else (if x4.length < 5864062014805 then (if 0 ≤ bt374.2.2.2 then (if bt374.2.2.2 ≤ (x0.size : Int) then (spec_Pressed.l0 k (x0.extract (bt374.2.2.2 : Int).toNat x0.size) (x4 ++ [(⟨bt374.1, bt374.2.1, bt374.2.2.1⟩ : S50)])) else (none)) else (none)) else (none)))
def spec_Pressed.f (k : Nat) (a0 : ByteArray) : Option ((List (S50)) × ByteArray) := spec_Pressed.l0 k a0 (([] : List (S50)))
theorem spec_Pressed.mono_l : ∀ k, (∀ y0 y1, LeO (spec_Pressed.l0 k y0 y1) (spec_Pressed.l0 (k + 1) y0 y1))
 | 0 => fun _ _ r h => by simp [spec_Pressed.l0] at h
 | k + 1 => by
  have ih0 := spec_Pressed.mono_l k
  ·intro y0 y1
   unfold spec_Pressed.l0
   repeat' first
   | (with_reducible exact ih0 _ _)
   | (with_reducible exact spec_l13Key.mono _ _)
   | (with_reducible exact LeO.refl _)
   | (with_reducible exact LeO.none _)
   | (with_reducible refine LeO.ite ?_ ?_)
   | (with_reducible refine LeO.bind ?_ (fun _ => ?_))
theorem spec_Pressed.mono : ∀ a0 k, LeO (spec_Pressed.f k a0) (spec_Pressed.f (k + 1) a0) := by
 intro a0 k
 have ih0 := spec_Pressed.mono_l k
 unfold spec_Pressed.f
 repeat' first
   | (with_reducible exact ih0 _ _)
   | (with_reducible exact spec_l13Key.mono _ _)
   | (with_reducible exact LeO.refl _)
   | (with_reducible exact LeO.none _)
   | (with_reducible refine LeO.ite ?_ ?_)
   | (with_reducible refine LeO.bind ?_ (fun _ => ?_))
set_option maxHeartbeats 8000000 in
set_option maxRecDepth 100000 in
theorem spec_Pressed.calls (k : Nat) (a0 : ByteArray) (r1 : List (S50)) (r2 : ByteArray) (w : World) (h : spec_Pressed.f k a0 = some (r1, r2)) :
  Calls Tryd.prog 43 #[.string a0] w fun e w' => ∃ v0_ : Value, e = .returned (.tuple #[v0_, .string r2]) ∧ Kd.R k50 50 w' w.heap.size (fun _ => True) v0_ r1 ∧ Below w.heap.size w w' := by
 have hu50 := Tryd.underlying50
 have HB := am (Below.refl w.heap.size w)
 have H : (spec_Pressed.l0 k a0 (([] : List (S50)))) = some (r1, r2) := h
 clear h
 obtain ⟨y371, hy371⟩ : ∃ y_ : List (S50), y_ = (([] : List (S50))) := ⟨_, rfl⟩
 replace H : (spec_Pressed.l0 k a0 y371) = some (r1, r2) := by first | (rw [hy371]; with_reducible exact H) | (rw [hy371]; exact H) | exact H
 have Ny371 := am hy371
 clear hy371
 have H' := am H
 clear H
 go_enter Tryd.func43, Tryd.ntmps43
 go_wp2_with (first | ((with_reducible refine gate_dst (N := 7) rfl ?_); refine Kd.R_lit k50 _ 50 ?hg (N := 7) ?hd (xs := ([] : List (S50))) (inner := []) (ok := fun _ => True) (okp := fun _ => True) ?hr ?hp (fun _ hk => hk) trivial (Below.refl _ _) (Nat.le_refl _) (by simp) ?_; (case hd => rfl); (case hg => rfl); (case hr => first | (go_simp; done) | (go_simp; rfl)); (case hp => exact (Reps.none _ _)); intro v372 w2 ho3 hb hg_ hnew_; clear hg_ hnew_; (first | rw [← Ny371.out] at ho3 | (simp only [Int.reduceToNat] at ho3; rw [← Ny371.out] at ho3)); have n0_ := am (Kd.R_lower ho3 (below_size (rb HB))); have n1_ := am (below_step (rb HB) hb); clear HB; have HO373 := n0_; have HB := n1_; clear n0_ n1_; clear hb ho3))
 go_loopg [0, 4] k (fun kq v0 v4 w' => ∃ (x0_1 : ByteArray) (x4_1 : List (S50)), v0 = .string x0_1 ∧ Aside0 (spec_Pressed.l0 kq x0_1 x4_1 = some (r1, r2)) ∧ Aside0 (kq ≤ k) ∧ Aside0 (Kd.R k50 50 w' w.heap.size (fun _ => True) v4 x4_1) ∧ Aside0 (Below w.heap.size w w'))
 case atStart => exact ⟨(a0), (y371), (by first | rfl | (simp; done) | (simp [*]; done)), H', ⟨Nat.le_refl _⟩, ⟨rr HO373⟩, ⟨rb HB⟩⟩
 case round =>
  clear H'
  try clear p2
  obtain ⟨x0_1, x4_1, rfl, HA, HK1, HO_4, HB⟩ := hrel
  cases gk with
  | zero => exact absurd HA.out (by simp [spec_Pressed.l0])
  | succ k1 =>
   have H := HA.out
   clear HA
   simp only [spec_Pressed.l0] at H
   replace H := Option.bind_eq_some_iff.mp H
   obtain ⟨⟨t374, t375, t376, t377⟩, A40, H⟩ := H
   (try dsimp only at H)
   have A4 := am A40
   clear A40
   refine em_ (p := t377 = 0) (fun c5 => ?g3p) (fun c5 => ?g3n)
   case' g3p =>
    rw [if_pos c5] at H
    have c5b0 : (t377 == 0) = true := beq_iff_eq.mpr c5
    have c5b1 : (t377 != 0) = false := bne_eq_false_iff_eq.mpr c5
    clear c5
    simp only [Option.some.injEq, Prod.mk.injEq] at H
    obtain ⟨rfl, rfl⟩ := H
    have lf1_ := trivial
   case' g3n =>
    rw [if_neg c5] at H
    have c5b0 : (t377 == 0) = false := beq_eq_false_iff_ne.mpr c5
    have c5b1 : (t377 != 0) = true := bne_iff_ne.mpr c5
    refine em_ (p := x4_1.length < 5864062014805) (fun c9 => ?g2p) (fun c9 => ?g2n)
    case' g2p =>
     rw [if_pos c9] at H
     have LMc9 := am c9
     clear c9
     obtain ⟨y379, hy379⟩ : ∃ y_ : List (S50), y_ = (x4_1 ++ [(⟨t374, t375, t376⟩ : S50)]) := ⟨_, rfl⟩
     replace H : (if 0 ≤ t377 then (if t377 ≤ (x0_1.size : Int) then (spec_Pressed.l0 k1 (x0_1.extract (t377 : Int).toNat x0_1.size) y379) else (none)) else (none)) = some (r1, r2) := by first | (rw [hy379]; with_reducible exact H) | (rw [hy379]; exact H) | exact H
     have Ny379 := am hy379
     clear hy379
     refine em_ (p := 0 ≤ t377) (fun c10 => ?g1p) (fun c10 => ?g1n)
     case' g1p =>
      rw [if_pos c10] at H
      have c10b0 := eq_true c10
      have c10b1 : decide (0 ≤ t377) = true := decide_eq_true c10
      clear c10
      refine em_ (p := t377 ≤ (x0_1.size : Int)) (fun c11 => ?g0p) (fun c11 => ?g0n)
      case' g0p =>
       rw [if_pos c11] at H
       have c11b0 := eq_true c11
       have c11b1 : decide (t377 ≤ (x0_1.size : Int)) = true := decide_eq_true c11
       clear c11
       have H' := am H
       clear H
       have lf2_ := trivial
      case g0n =>
       rw [if_neg c11] at H
       exact absurd H (by simp)
     case g1n =>
      rw [if_neg c10] at H
      exact absurd H (by simp)
    case g2n =>
     rw [if_neg c9] at H
     exact absurd H (by simp)
   all_goals
    go_wp2_with (first | ((with_reducible refine gate_builtin (b := .append) (xs := #[.tmp 17, .tmp 19]) rfl ?_); at_builtin; refine Kd.R_append k50 (w0 := w) w.heap.size rfl (.tmp 17) (.tmp 19) 53 50 (.agg #[(.int .i64 0), (.int .i64 0), (.bool false)]) 24 rfl Tryd.underlying53 info50 rfl (by decide) (by omega) u4 x4_1 (⟨t374, t375, t376⟩ : S50) [.int .i64 t374, .int .i64 t375, .bool t376] (fun k_ => k_ ≠ gb378) (fun _ => False) rfl (by first | (go_simp; done) | (go_simp; rfl)) ?aP (fun _ hk => hk.elim) ?aF ?aO ?aB ?aS ?aL ?_; (case aP => exact k50_mkM _ _ _ (⟨t374, t375, t376⟩ : S50)); (case aB => exact (rb1 HB GE378)); (case aF => exact (fun k_ hk => Kd.freshB (g := gb378) (o := .cells #[.int .i64 t374, .int .i64 t375, .bool t376] 50 (0, 0)) (by (with_reducible repeat (first | apply k1 | apply k2 | apply k3)); refine blk_put (cs := #[.int .i64 t374, .int .i64 t375, .bool false]) ?_ 2 _ rfl; (with_reducible repeat (first | apply k1 | apply k2 | apply k3)); refine blk_put (cs := #[.int .i64 t374, .int .i64 0, .bool false]) ?_ 1 _ rfl; (with_reducible repeat (first | apply k1 | apply k2 | apply k3)); refine blk_put (cs := #[.int .i64 0, .int .i64 0, .bool false]) ?_ 0 _ rfl; (with_reducible repeat (first | apply k1 | apply k2 | apply k3)); exact BK378.out) k_ hk)); (case aO => exact (by (with_reducible repeat (first | apply r1 | apply r2 | apply r3)); exact Kd.R_mono (Kd.R_far (p := ⟨gb378, 2, none⟩) (Kd.R_far (p := ⟨gb378, 1, none⟩) (Kd.R_far (p := ⟨gb378, 0, none⟩) (Kd.R_mono HO_4.out (fun k_ hk => (⟨hk, hk.2⟩ : _ ∧ k_ ≠ gb378))) (fun _ hk => hk.2) (.int .i64 t374)) (fun _ hk => hk.2) (.int .i64 t375)) (fun _ hk => hk.2) (.bool t376)) (fun _ hk => hk.1.2))); (case aS => exact (below_size (rb1 HB GE378))); (case aL => have := LMc9.out; omega); intro v380 w15 ho hb hg hat; rw [← Ny379.out] at ho; have n0_ := am (blk_grown (g := gb378) (o := .cells #[.int .i64 t374, .int .i64 t375, .bool t376] 50 (0, 0)) (by (with_reducible repeat (first | apply k1 | apply k2 | apply k3)); refine blk_put (cs := #[.int .i64 t374, .int .i64 t375, .bool false]) ?_ 2 _ rfl; (with_reducible repeat (first | apply k1 | apply k2 | apply k3)); refine blk_put (cs := #[.int .i64 t374, .int .i64 0, .bool false]) ?_ 1 _ rfl; (with_reducible repeat (first | apply k1 | apply k2 | apply k3)); refine blk_put (cs := #[.int .i64 0, .int .i64 0, .bool false]) ?_ 0 _ rfl; (with_reducible repeat (first | apply k1 | apply k2 | apply k3)); exact BK378.out) hg (Kd.R_away HO_4.out (fun _ hk => hk.2))); have n1_ := am (hb); have n2_ := am (ho); clear BK378; clear HB; clear HO_4; have BK378 := n0_; have HB := n1_; have HO381 := n2_; clear n0_ n1_ n2_; clear ho hb hg hat) | ((with_reducible refine gate_dst (N := 5) rfl ?_); refine box_event ?hg (N := 5) ?hd (cs := #[.int .i64 0, .int .i64 0, .bool false]) (t := 50) ?hr ?_; (case hd => rfl); (case hg => rfl); (case hr => first | (go_simp; done) | (go_simp; rfl)); intro gb378 hg w7 hbox hb; have n0_ := am (Kd.R_below (Kd.R_elderB (rr HO_4) gb378 (Nat.le_of_eq hg.symm)) hb); have n1_ := am (below_step (rb HB) hb); have n2_ := am (hbox); have n3_ := am ((by rw [hg]; exact (below_size (rb HB)) : w.heap.size ≤ gb378)); have n4_ := am ((by rw [hg]; exact (below_size (rb HB)) : w.heap.size ≤ gb378)); clear HO_4; clear HB; have HO_4 := n0_; have HB := n1_; have BK378 := n2_; have GW378 := n3_; have GE378 := n4_; clear n0_ n1_ n2_ n3_ n4_; clear hb hbox hg; have hcz8_0 : w7.cell? ⟨gb378, 0, none⟩ = some (.int .i64 0) := (blk_cell BK378.out 0).trans rfl; have hcz8_1 : w7.cell? ⟨gb378, 1, none⟩ = some (.int .i64 0) := (blk_cell BK378.out 1).trans rfl; have hcz8_2 : w7.cell? ⟨gb378, 2, none⟩ = some (.bool false) := (blk_cell BK378.out 2).trans rfl; have hfz8_0 := blk_frozen BK378.out 0; have hfz8_1 := blk_frozen BK378.out 1; have hfz8_2 := blk_frozen BK378.out 2) | ((with_reducible refine gate_callee (f := 70) rfl ?_); refine gl_ (some 10) Tryd.func70 #[.string x0_1] ?_; (with_reducible refine (spec_l13Key.calls k1 x0_1 t374 t375 t376 t377 _ A4.out).mono ?_); rintro e w6 ⟨rfl, hb⟩; refine ⟨_, rfl, ?_⟩; have n0_ := am (Kd.R_below (rr HO_4) hb); have n1_ := am (below_step (rb HB) hb); clear HO_4; clear HB; have HO_4 := n0_; have HB := n1_; clear n0_ n1_; (try clear hb); (try clear hb2); (try clear hk); (try clear hi)))
    first
    | (
      have q_ := lf1_
      go_ret2
      exact ⟨_, by first | rfl | (simp [errW_none, errW_some] <;> rfl) | (simp [*, errW_none, errW_some] <;> rfl), by (with_reducible repeat (first | apply r1 | apply r2 | apply r3)); exact Kd.R_mono (Kd.R_far (p := ⟨gb378, 2, none⟩) (Kd.R_far (p := ⟨gb378, 1, none⟩) (Kd.R_far (p := ⟨gb378, 0, none⟩) (Kd.R_mono HO_4.out (fun k_ hk => (⟨hk, hk.2⟩ : _ ∧ k_ ≠ gb378))) (fun _ hk => hk.2) (.int .i64 t374)) (fun _ hk => hk.2) (.int .i64 t375)) (fun _ hk => hk.2) (.bool t376)) (fun _ hk => trivial), by repeat (first | (with_reducible first | exact HB.out | apply b1 | apply b2 | apply b3 | refine below_set ?_ GE378.out) | exact HB.out)⟩
      )
    | (
      have q_ := lf2_
      go_roundg k1
      case measure => have := HK1.out; omega
      case rel => exact ⟨(x0_1.extract (t377 : Int).toNat x0_1.size), (y379), (by first | rfl | (simp; done) | (simp [*]; done)), H', ⟨by have := HK1.out; omega⟩, ⟨by (with_reducible repeat (first | apply r1 | apply r2 | apply r3)); exact Kd.R_mono HO381.out (fun _ hk => trivial)⟩, ⟨by repeat (first | (with_reducible first | exact HB.out | apply b1 | apply b2 | apply b3 | refine below_set ?_ GE378.out) | exact HB.out)⟩⟩
      )

/-! ### laws_likeKeys: function 44 -/
def laws_likeKeys.l0 : Nat → List (S50) → List (S50) → Int → Option (Bool)
 | 0, _, _, _ => none
 | k + 1, x0, x1, x5 => if x5 < (x0.length : Int) then (if 0 ≤ x5 then (if x5 < (x1.length : Int) then (if (!(((rd_T50 x0 x5).f0) == ((rd_T50 x1 x5).f0)) || (!(((rd_T50 x0 x5).f1) == ((rd_T50 x1 x5).f1)) || (!(((rd_T50 x0 x5).f2) == ((rd_T50 x1 x5).f2))))) = true then (some false) else (laws_likeKeys.l0 k x0 x1 (wrap64 (x5 + 1)))) else (none)) else (none)) else (some true)
def laws_likeKeys.f (k : Nat) (l0 : List (S50)) (l1 : List (S50)) : Option (Bool) := if (l0.length : Int) = (l1.length : Int) then (laws_likeKeys.l0 k l0 l1 0) else (some false)
theorem laws_likeKeys.mono_l : ∀ k, (∀ y0 y1 y2, LeO (laws_likeKeys.l0 k y0 y1 y2) (laws_likeKeys.l0 (k + 1) y0 y1 y2))
 | 0 => fun _ _ _ r h => by simp [laws_likeKeys.l0] at h
 | k + 1 => by
  have ih0 := laws_likeKeys.mono_l k
  ·intro y0 y1 y2
   unfold laws_likeKeys.l0
   repeat' first
   | (with_reducible exact ih0 _ _ _)
   | (with_reducible exact LeO.refl _)
   | (with_reducible exact LeO.none _)
   | (with_reducible refine LeO.ite ?_ ?_)
   | (with_reducible refine LeO.bind ?_ (fun _ => ?_))
theorem laws_likeKeys.mono : ∀ a0 a1 k, LeO (laws_likeKeys.f k a0 a1) (laws_likeKeys.f (k + 1) a0 a1) := by
 intro a0 a1 k
 have ih0 := laws_likeKeys.mono_l k
 unfold laws_likeKeys.f
 repeat' first
   | (with_reducible exact ih0 _ _ _)
   | (with_reducible exact LeO.refl _)
   | (with_reducible exact LeO.none _)
   | (with_reducible refine LeO.ite ?_ ?_)
   | (with_reducible refine LeO.bind ?_ (fun _ => ?_))
set_option maxHeartbeats 8000000 in
set_option maxRecDepth 100000 in
theorem laws_likeKeys.calls (k : Nat) (A0 : Option Addr) (c0 : Nat) (l0 : List (S50)) (A1 : Option Addr) (c1 : Nat) (l1 : List (S50)) (r : Bool) (w : World) (hr0 : Kd.C k50 w A0 l0.length l0) (hc0 : l0.length ≤ c0) (hr1 : Kd.C k50 w A1 l1.length l1) (hc1 : l1.length ≤ c1) (h : laws_likeKeys.f k l0 l1 = some r) :
  Calls Tryd.prog 44 #[.slice A0 l0.length c0, .slice A1 l1.length c1] w fun e w' => e = .returned (.bool r) ∧ Drawn0 w w' := by
 have hu50 := Tryd.underlying50
 have HR0 := am hr0
 have HC0 := am hc0
 clear hr0 hc0
 have HR1 := am hr1
 have HC1 := am hc1
 clear hr1 hc1
 have H : (if (l0.length : Int) = (l1.length : Int) then (laws_likeKeys.l0 k l0 l1 0) else (some false)) = some r := h
 clear h
 by_cases c3 : (l0.length : Int) = (l1.length : Int)
 ·rw [if_pos c3] at H
  have c3b0 : ((l0.length : Int) == (l1.length : Int)) = true := beq_iff_eq.mpr c3
  have c3b1 : ((l0.length : Int) != (l1.length : Int)) = false := bne_eq_false_iff_eq.mpr c3
  have c3b2 : (l0.length == l1.length) = true := by first | simpa using c3 | (simp at c3 ⊢; omega)
  clear c3
  have H' := am H
  clear H
  go_enter Tryd.func44, Tryd.ntmps44
  go_wp2
  repeat (go_quiet (fail); try go_wp2)
  go_loopg [5] k (fun kq v5 w' => ∃ (x5_1 : Int), v5 = .int .i64 x5_1 ∧ Aside0 (laws_likeKeys.l0 kq l0 l1 x5_1 = some r) ∧ Aside0 (kq ≤ k) ∧ Drawn0 w w')
  case atStart => exact ⟨(0), (by first | rfl | (simp; done) | (simp [*]; done)), H', ⟨Nat.le_refl _⟩, by repeat (first | exact Drawn0.refl _ | apply Drawn0.step)⟩
  case round =>
   clear H'
   try clear c1
   try clear p2
   try clear c3
   try clear c3b0
   try clear c3b1
   try clear c3b2
   obtain ⟨x5_1, rfl, HA, HK1, ⟨m1, rfl⟩⟩ := hrel
   cases gk with
   | zero => exact absurd HA.out (by simp [laws_likeKeys.l0])
   | succ k1 =>
    have H := HA.out
    clear HA
    simp only [laws_likeKeys.l0] at H
    by_cases c4 : x5_1 < (l0.length : Int)
    ·rw [if_pos c4] at H
     have c4b0 : decide (x5_1 < (l0.length : Int)) = true := decide_eq_true c4
     clear c4
     by_cases c5 : 0 ≤ x5_1
     ·rw [if_pos c5] at H
      have c5b0 : decide (0 ≤ x5_1) = true := decide_eq_true c5
      clear c5
      by_cases c6 : x5_1 < (l1.length : Int)
      ·rw [if_pos c6] at H
       have c6b0 : decide (x5_1 < (l1.length : Int)) = true := decide_eq_true c6
       clear c6
       by_cases c7 : (!(((rd_T50 l0 x5_1).f0) == ((rd_T50 l1 x5_1).f0)) || (!(((rd_T50 l0 x5_1).f1) == ((rd_T50 l1 x5_1).f1)) || (!(((rd_T50 l0 x5_1).f2) == ((rd_T50 l1 x5_1).f2))))) = true
       ·rw [if_pos c7] at H
        have c7b0 : (!(((rd_T50 l0 x5_1).f0) == ((rd_T50 l1 x5_1).f0)) || (!(((rd_T50 l0 x5_1).f1) == ((rd_T50 l1 x5_1).f1)) || (!(((rd_T50 l0 x5_1).f2) == ((rd_T50 l1 x5_1).f2))))) = true := c7
        clear c7
        obtain rfl := Option.some.inj H
        have p382 : 0 ≤ (x5_1 : Int) := dt_
        have q382 : x5_1 < (l0.length : Int) := dt_
        obtain ⟨ad382, e382, hx382_0, hx382_1, hx382_2⟩ := at_T50 HR0.out x5_1 p382 q382
        cases e382
        replace p382 := eq_true p382
        replace q382 := eq_true q382
        have p383 : 0 ≤ (x5_1 : Int) := dt_
        have q383 : x5_1 < (l1.length : Int) := dt_
        obtain ⟨ad383, e383, hx383_0, hx383_1, hx383_2⟩ := at_T50 HR1.out x5_1 p383 q383
        cases e383
        replace p383 := eq_true p383
        replace q383 := eq_true q383
        go_wp2
        repeat (go_quiet (fail); try go_wp2)
        go_ret
        exact ⟨by first | rfl | (simp; done) | (simp [*]; done), by repeat (first | exact Drawn0.refl _ | apply Drawn0.step)⟩
       ·rw [if_neg c7] at H
        have c7b0 : (!(((rd_T50 l0 x5_1).f0) == ((rd_T50 l1 x5_1).f0)) || (!(((rd_T50 l0 x5_1).f1) == ((rd_T50 l1 x5_1).f1)) || (!(((rd_T50 l0 x5_1).f2) == ((rd_T50 l1 x5_1).f2))))) = false := by simpa using c7
        clear c7
        have H' := am H
        clear H
        have p382 : 0 ≤ (x5_1 : Int) := dt_
        have q382 : x5_1 < (l0.length : Int) := dt_
        obtain ⟨ad382, e382, hx382_0, hx382_1, hx382_2⟩ := at_T50 HR0.out x5_1 p382 q382
        cases e382
        replace p382 := eq_true p382
        replace q382 := eq_true q382
        have p383 : 0 ≤ (x5_1 : Int) := dt_
        have q383 : x5_1 < (l1.length : Int) := dt_
        obtain ⟨ad383, e383, hx383_0, hx383_1, hx383_2⟩ := at_T50 HR1.out x5_1 p383 q383
        cases e383
        replace p383 := eq_true p383
        replace q383 := eq_true q383
        go_wp2
        repeat (go_quiet (fail); try go_wp2)
        go_roundg k1
        case measure => have := HK1.out; omega
        case rel => exact ⟨(wrap64 (x5_1 + 1)), (by first | rfl | (simp; done) | (simp [*]; done)), H', ⟨by have := HK1.out; omega⟩, by repeat (first | exact Drawn0.refl _ | apply Drawn0.step)⟩
      ·rw [if_neg c6] at H
       exact absurd H (by simp)
     ·rw [if_neg c5] at H
      exact absurd H (by simp)
    ·rw [if_neg c4] at H
     have c4b0 : decide (x5_1 < (l0.length : Int)) = false := decide_eq_false c4
     clear c4
     obtain rfl := Option.some.inj H
     go_wp2
     repeat (go_quiet (fail); try go_wp2)
     go_ret
     exact ⟨by first | rfl | (simp; done) | (simp [*]; done), by repeat (first | exact Drawn0.refl _ | apply Drawn0.step)⟩
 ·rw [if_neg c3] at H
  have c3b0 : ((l0.length : Int) == (l1.length : Int)) = false := beq_eq_false_iff_ne.mpr c3
  have c3b1 : ((l0.length : Int) != (l1.length : Int)) = true := bne_iff_ne.mpr c3
  have c3b2 : (l0.length == l1.length) = false := by first | simpa using c3 | (simp at c3 ⊢; omega)
  obtain rfl := Option.some.inj H
  go_enter Tryd.func44, Tryd.ntmps44
  go_wp2
  repeat (go_quiet (fail); try go_wp2)
  go_ret
  exact ⟨by first | rfl | (simp; done) | (simp [*]; done), by repeat (first | exact Drawn0.refl _ | apply Drawn0.step)⟩

end Go.Proofs.YtfhkpneffmcdbaaDoor.QC
