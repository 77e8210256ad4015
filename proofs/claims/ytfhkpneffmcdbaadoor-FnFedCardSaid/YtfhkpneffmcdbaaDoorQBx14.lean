/- Contracts of Go functions that laws of this seat reach: each Lean function answers as its Go function does. No condition. Written by wip/tools/inj.py, over the kit's print. -/
import Derived.Test.YtfhkpneffmcdbaaDoorQBx0
import Derived.Test.YtfhkpneffmcdbaaDoorQBx2
import Derived.Test.YtfhkpneffmcdbaaDoorQBx10
import Derived.Test.YtfhkpneffmcdbaaDoorQBx13
namespace Go.Proofs.YtfhkpneffmcdbaaDoor.QB
open Go.RowKit Go.Proofs.YtfhkpneffmcdbaaDoorW.PrintWords Go.Proofs.YtfhkpneffmcdbaaDoorW.PrintLast Go.Proofs.YtfhkpneffmcdbaaDoorW.PrintMore
attribute [local go_sem] max2_int min2_int max_two min_two max_three min_three max_four min_four   -- for this text's walks alone
set_option linter.unusedVariables false
set_option linter.unusedSimpArgs false

/-! ### spec_Feed: function 27 -/
def spec_Feed.l0 : Nat → List Int → ByteArray → Option (ByteArray × List Int)
 | 0, _, _ => none
 | k + 1, x6, x7 => if x7.toList = ([] : List UInt8) then (some (x7, x6)) else ((spec_l1Part.f k x7).bind fun t426 => (if t426 = true then (some (x7, x6)) else ((spec_Get.f k x7).bind fun bt427 => (if x6.length < 17592186044416 then (if 0 ≤ bt427.2 then (if bt427.2 ≤ (x7.size : Int) then (spec_Feed.l0 k (x6 ++ [bt427.1]) (x7.extract (bt427.2 : Int).toNat x7.size)) else (none)) else (none)) else (none)))))
def spec_Feed.f (k : Nat) (a0_0 : ByteArray) (a1 : Int) : Option (ByteArray × List Int) := (some (([] : List Int) : List Int)).bind fun y419 => ((spec_FeederOk.f k a0_0).bind fun t422 => (if t422 = true then ((some (([a1] : List Int) : List Int)).bind fun y423 => (if a0_0.size + (strOfNums y423).size ≤ 9223372036854775807 then (spec_Feed.l0 k y419 (a0_0 ++ (strOfNums y423))) else (none))) else (some ((⟨#[]⟩ : ByteArray), y419))))
theorem spec_Feed.mono_l : ∀ k, (∀ y0 y1, LeO (spec_Feed.l0 k y0 y1) (spec_Feed.l0 (k + 1) y0 y1))
 | 0 => fun _ _ r h => by simp [spec_Feed.l0] at h
 | k + 1 => by
  have ih0 := spec_Feed.mono_l k
  ·intro y0 y1
   unfold spec_Feed.l0
   repeat' first
   | (with_reducible exact ih0 _ _)
   | (with_reducible exact spec_FeederOk.mono _ _)
   | (with_reducible exact spec_Get.mono _ _)
   | (with_reducible exact spec_l1Part.mono _ _)
   | (with_reducible exact LeO.refl _)
   | (with_reducible exact LeO.none _)
   | (with_reducible refine LeO.ite ?_ ?_)
   | (with_reducible refine LeO.bind ?_ (fun _ => ?_))
theorem spec_Feed.mono : ∀ a0 a1 k, LeO (spec_Feed.f k a0 a1) (spec_Feed.f (k + 1) a0 a1) := by
 intro a0 a1 k
 have ih0 := spec_Feed.mono_l k
 unfold spec_Feed.f
 repeat' first
   | (with_reducible exact ih0 _ _)
   | (with_reducible exact spec_FeederOk.mono _ _)
   | (with_reducible exact spec_Get.mono _ _)
   | (with_reducible exact spec_l1Part.mono _ _)
   | (with_reducible exact LeO.refl _)
   | (with_reducible exact LeO.none _)
   | (with_reducible refine LeO.ite ?_ ?_)
   | (with_reducible refine LeO.bind ?_ (fun _ => ?_))
set_option maxHeartbeats 8000000 in
set_option maxRecDepth 100000 in
theorem spec_Feed.calls (k : Nat) (a0_0 : ByteArray) (a1 : Int) (r1 : ByteArray) (r2 : List Int) (w : World) (h : spec_Feed.f k a0_0 a1 = some (r1, r2)) :
  Calls Tryd.prog 27 #[.agg #[.string a0_0], .int .u8 a1] w fun e w' => ∃ v1_ : Value, e = .returned (.tuple #[.agg #[.string r1], v1_]) ∧ Kd.R (Kd.int .i64) 2 w' w.heap.size (fun _ => True) v1_ r2 ∧ Below w.heap.size w w' := by
 have hu38 := Tryd.underlying38
 have HB := am (Below.refl w.heap.size w)
 have H := h
 unfold spec_Feed.f at H
 clear h
 obtain ⟨y419, hy419⟩ : ∃ y_ : List Int, y_ = (([] : List Int)) := ⟨_, rfl⟩
 replace H : ((spec_FeederOk.f k a0_0).bind fun t422 => (if t422 = true then ((some (([a1] : List Int) : List Int)).bind fun y423 => (if a0_0.size + (strOfNums y423).size ≤ 9223372036854775807 then (spec_Feed.l0 k y419 (a0_0 ++ (strOfNums y423))) else (none))) else (some ((⟨#[]⟩ : ByteArray), y419)))) = some (r1, r2) := by first | (rw [hy419]; with_reducible exact H) | (rw [hy419]; exact H) | exact H
 have Ny419 := am hy419
 clear hy419
 replace H := Option.bind_eq_some_iff.mp H
 obtain ⟨t422, A30, H⟩ := H
 (try dsimp only at H)
 have A3 := am A30
 clear A30
 refine em_ (p := t422 = true) (fun c4 => ?g1p) (fun c4 => ?g1n)
 case' g1p =>
  subst c4
  rw [if_pos rfl] at H
  obtain ⟨y423, hy423⟩ : ∃ y_ : List Int, y_ = (([a1] : List Int)) := ⟨_, rfl⟩
  replace H : (if a0_0.size + (strOfNums y423).size ≤ 9223372036854775807 then (spec_Feed.l0 k y419 (a0_0 ++ (strOfNums y423))) else (none)) = some (r1, r2) := by first | (rw [hy423]; with_reducible exact H) | (rw [hy423]; exact H) | exact H
  have Ny423 := am hy423
  clear hy423
  refine em_ (p := a0_0.size + (strOfNums y423).size ≤ 9223372036854775807) (fun c5 => ?g0p) (fun c5 => ?g0n)
  case' g0p =>
   rw [if_pos c5] at H
   have c5b0 := eq_true c5
   have c5b1 : decide (a0_0.size + (strOfNums y423).size ≤ 9223372036854775807) = true := decide_eq_true c5
   try have c5b2 : (9223372036854775807 < a0_0.size + (strOfNums y423).size) = False := eq_false (Nat.not_lt.2 c5)
   have H' := am H
   clear H
   have lf1_ := trivial
  case g0n =>
   rw [if_neg c5] at H
   exact absurd H (by simp)
 case' g1n =>
  replace c4 := Bool.eq_false_iff.mpr c4
  subst c4
  rw [if_neg (show ¬ (false = true) by decide)] at H
  simp only [Option.some.injEq, Prod.mk.injEq] at H
  obtain ⟨rfl, rfl⟩ := H
  have lf2_ := trivial
 all_goals
  go_enter Tryd.func27, Tryd.ntmps27
  go_wp2_with (first | ((with_reducible refine gate_dst (N := 19) rfl ?_); refine Kd.R_lit (Kd.int .u8) _ 5 ?hg (N := 19) ?hd (xs := ([a1] : List Int)) (inner := [.int .u8 a1]) (ok := fun _ => True) (okp := fun _ => True) ?hr ?hp (fun _ hk => hk) trivial (Below.refl _ _) (Nat.le_refl _) (by simp) ?_; (case hd => rfl); (case hg => rfl); (case hr => first | (go_simp; done) | (go_simp; rfl)); (case hp => exact (Reps.one (show Kd.M (Kd.int .u8) _ _ _ a1 [.int .u8 a1] from rfl) (Reps.none _ _))); intro v424 w14 ho15 hb hg_ hnew_; clear hg_ hnew_; (first | rw [← Ny423.out] at ho15 | (simp only [Int.reduceToNat] at ho15; rw [← Ny423.out] at ho15)); have n0_ := am (Kd.R_below (rr HO421) hb); have n1_ := am (Kd.R_lower ho15 (below_size (rb2 HB GE417 GE418))); have n2_ := am (blk_below (g := gb417) (o := .cells #[.string a0_0] 38 (0, 0)) (rk BK417) hb); have n3_ := am (blk_below (g := gb418) (o := .cells #[.string (⟨#[]⟩ : ByteArray)] 38 (0, 0)) (rk BK418) hb); have n4_ := am (below_step (rb2 HB GE417 GE418) hb); clear HO421; clear BK417; clear BK418; clear HB; have HO421 := n0_; have HO425 := n1_; have BK417 := n2_; have BK418 := n3_; have HB := n4_; clear n0_ n1_ n2_ n3_ n4_; clear hb ho15; have hcv16 := own_string (P := Tryd.prog) Tryd.underlying22 Tryd.underlying5 Tryd.underlying9 (Kd.own_of_R HO425.out)) | ((with_reducible refine gate_dst (N := 10) rfl ?_); refine Kd.R_lit (Kd.int .i64) _ 2 ?hg (N := 10) ?hd (xs := ([] : List Int)) (inner := []) (ok := fun _ => True) (okp := fun _ => True) ?hr ?hp (fun _ hk => hk) trivial (Below.refl _ _) (Nat.le_refl _) (by simp) ?_; (case hd => rfl); (case hg => rfl); (case hr => first | (go_simp; done) | (go_simp; rfl)); (case hp => exact (Reps.none _ _)); intro v420 w8 ho9 hb hg_ hnew_; clear hg_ hnew_; (first | rw [← Ny419.out] at ho9 | (simp only [Int.reduceToNat] at ho9; rw [← Ny419.out] at ho9)); have n0_ := am (Kd.R_lower ho9 (below_size (rb2 HB GE417 GE418))); have n1_ := am (blk_below (g := gb417) (o := .cells #[.string a0_0] 38 (0, 0)) (rk BK417) hb); have n2_ := am (blk_below (g := gb418) (o := .cells #[.string (⟨#[]⟩ : ByteArray)] 38 (0, 0)) (rk BK418) hb); have n3_ := am (below_step (rb2 HB GE417 GE418) hb); clear BK417; clear BK418; clear HB; have HO421 := n0_; have BK417 := n1_; have BK418 := n2_; have HB := n3_; clear n0_ n1_ n2_ n3_; clear hb ho9; have hnb10 := NB417_418.out; have hnc10 := NB418_417.out; have hcz11_0 : w8.cell? ⟨gb417, 0, none⟩ = some (.string a0_0) := (blk_cell BK417.out 0).trans rfl; have hfz11_0 := blk_frozen BK417.out 0) | ((with_reducible refine gate_dst (N := 4) rfl ?_); refine box_event ?hg (N := 4) ?hd (cs := #[.string (⟨#[]⟩ : ByteArray)]) (t := 38) ?hr ?_; (case hd => rfl); (case hg => rfl); (case hr => first | (go_simp; done) | (go_simp; rfl)); intro gb418 hg w7 hbox hb; have n0_ := am (blk_below (g := gb417) (o := .cells #[.string a0_0] 38 (0, 0)) (rk BK417) hb); have n1_ := am (below_step (rb1 HB GE417) hb); have n2_ := am (hbox); have n3_ := am ((by rw [hg]; exact (below_size (rb1 HB GE417)) : w.heap.size ≤ gb418)); have n4_ := am ((by rw [hg]; exact (below_size (rb1 HB GE417)) : w.heap.size ≤ gb418)); have n5_ := am ((by rw [hg]; exact Nat.ne_of_lt (blk_lt (g := gb417) (o := .cells #[.string a0_0] 38 (0, 0)) (rk BK417)) : gb417 ≠ gb418)); have n6_ := am ((by rw [hg]; exact Nat.ne_of_gt (blk_lt (g := gb417) (o := .cells #[.string a0_0] 38 (0, 0)) (rk BK417)) : gb418 ≠ gb417)); clear BK417; clear HB; have BK417 := n0_; have HB := n1_; have BK418 := n2_; have GW418 := n3_; have GE418 := n4_; have NB417_418 := n5_; have NB418_417 := n6_; clear n0_ n1_ n2_ n3_ n4_ n5_ n6_; clear hb hbox hg) | ((with_reducible refine gate_callee (f := 29) rfl ?_); refine gl_ (some 12) Tryd.func29 #[.agg #[.string a0_0]] ?_; (with_reducible refine (spec_FeederOk.calls k a0_0 false _ A3.out).mono ?_); rintro e w38 ⟨rfl, hb⟩; refine ⟨_, rfl, ?_⟩; have n0_ := am (Kd.R_below (rr HO421) hb); have n1_ := am (blk_below (g := gb417) (o := .cells #[.string a0_0] 38 (0, 0)) (rk BK417) hb); have n2_ := am (blk_below (g := gb418) (o := .cells #[.string (⟨#[]⟩ : ByteArray)] 38 (0, 0)) (rk BK418) hb); have n3_ := am (below_step (rb2 HB GE417 GE418) hb); clear HO421; clear BK417; clear BK418; clear HB; have HO421 := n0_; have BK417 := n1_; have BK418 := n2_; have HB := n3_; clear n0_ n1_ n2_ n3_; (try clear hb); (try clear hb2); (try clear hk); (try clear hi); have hcz39_0 : w38.cell? ⟨gb418, 0, none⟩ = some (.string (⟨#[]⟩ : ByteArray)) := (blk_cell BK418.out 0).trans rfl; have hfz39_0 := blk_frozen BK418.out 0) | ((with_reducible refine gate_callee (f := 29) rfl ?_); refine gl_ (some 12) Tryd.func29 #[.agg #[.string a0_0]] ?_; (with_reducible refine (spec_FeederOk.calls k a0_0 true _ A3.out).mono ?_); rintro e w12 ⟨rfl, hb⟩; refine ⟨_, rfl, ?_⟩; have n0_ := am (Kd.R_below (rr HO421) hb); have n1_ := am (blk_below (g := gb417) (o := .cells #[.string a0_0] 38 (0, 0)) (rk BK417) hb); have n2_ := am (blk_below (g := gb418) (o := .cells #[.string (⟨#[]⟩ : ByteArray)] 38 (0, 0)) (rk BK418) hb); have n3_ := am (below_step (rb2 HB GE417 GE418) hb); clear HO421; clear BK417; clear BK418; clear HB; have HO421 := n0_; have BK417 := n1_; have BK418 := n2_; have HB := n3_; clear n0_ n1_ n2_ n3_; (try clear hb); (try clear hb2); (try clear hk); (try clear hi); have hcz13_0 : w12.cell? ⟨gb417, 0, none⟩ = some (.string a0_0) := (blk_cell BK417.out 0).trans rfl; have hfz13_0 := blk_frozen BK417.out 0) | ((with_reducible refine gate_dst (N := 2) rfl ?_); refine box_event ?hg (N := 2) ?hd (cs := #[.string a0_0]) (t := 38) ?hr ?_; (case hd => rfl); (case hg => rfl); (case hr => first | (go_simp; done) | (go_simp; rfl)); intro gb417 hg w6 hbox hb; have n0_ := am (below_step (rb HB) hb); have n1_ := am (hbox); have n2_ := am ((by rw [hg]; exact (below_size (rb HB)) : w.heap.size ≤ gb417)); have n3_ := am ((by rw [hg]; exact (below_size (rb HB)) : w.heap.size ≤ gb417)); clear HB; have HB := n0_; have BK417 := n1_; have GW417 := n2_; have GE417 := n3_; clear n0_ n1_ n2_ n3_; clear hb hbox hg))
  first
  | (
    have q_ := lf1_
    go_loopg [6, 7] k (fun kq v6 v7 w' => ∃ (x6_1 : List Int) (x7_1 : ByteArray), v7 = .string x7_1 ∧ Aside0 (spec_Feed.l0 kq x6_1 x7_1 = some (r1, r2)) ∧ Aside0 (kq ≤ k) ∧ Aside0 (Kd.R (Kd.int .i64) 2 w' w.heap.size (fun _ => True) v6 x6_1) ∧ Aside0 (w'.heap[gb417]? = some (.cells #[.string a0_0] 38 (0, 0))) ∧ Aside0 (w'.heap[gb418]? = some (.cells #[.string (⟨#[]⟩ : ByteArray)] 38 (0, 0))) ∧ Aside0 (Below w.heap.size w w'))
    case atStart => exact ⟨(y419), (a0_0 ++ (strOfNums y423)), (by first | rfl | (simp; done) | (simp [*]; done)), H', ⟨Nat.le_refl _⟩, ⟨rr HO421⟩, ⟨rk BK417⟩, ⟨rk BK418⟩, ⟨rb2 HB GE417 GE418⟩⟩
    case round =>
     clear H'
     try clear c1
     try clear hcv1
     try clear c2
     try clear p2
     try clear c4
     try clear c5
     try clear c5b0
     try clear c5b1
     try clear c5b2
     try clear c10
     try clear hcv16
     try clear hcz11_0
     try clear hcz13_0
     try clear hfz11_0
     try clear hfz13_0
     obtain ⟨x6_1, x7_1, rfl, HA, HK1, HO_6, BK417, BK418, HB⟩ := hrel
     cases gk with
     | zero => exact absurd HA.out (by simp [spec_Feed.l0])
     | succ k1 =>
      have H := HA.out
      clear HA
      simp only [spec_Feed.l0] at H
      refine em_ (p := x7_1.toList = ([] : List UInt8)) (fun c17 => ?g5p) (fun c17 => ?g5n)
      case' g5p =>
       rw [if_pos c17] at H
       have c17b0 : (x7_1.toList == ([] : List UInt8)) = true := beq_iff_eq.mpr c17
       have c17b1 : (x7_1.toList != ([] : List UInt8)) = false := bne_eq_false_iff_eq.mpr c17
       clear c17
       simp only [Option.some.injEq, Prod.mk.injEq] at H
       obtain ⟨rfl, rfl⟩ := H
       have lf3_ := trivial
      case g5n =>
       rw [if_neg c17] at H
       have c17b0 : (x7_1.toList == ([] : List UInt8)) = false := beq_eq_false_iff_ne.mpr c17
       have c17b1 : (x7_1.toList != ([] : List UInt8)) = true := bne_iff_ne.mpr c17
       replace H := Option.bind_eq_some_iff.mp H
       obtain ⟨t426, A200, H⟩ := H
       (try dsimp only at H)
       have A20 := am A200
       clear A200
       refine em_ (p := t426 = true) (fun c21 => ?g6p) (fun c21 => ?g6n)
       case' g6p =>
        subst c21
        have H1 : (some (x7_1, x6_1)) = some (r1, r2) := by rw [if_pos rfl] at H; exact H
        clear H
        have H := H1
        clear H1
        simp only [Option.some.injEq, Prod.mk.injEq] at H
        obtain ⟨rfl, rfl⟩ := H
        have lf6_ := trivial
       case g6n =>
        replace c21 := Bool.eq_false_iff.mpr c21
        subst c21
        rw [if_neg (show ¬ (false = true) by decide)] at H
        replace H := Option.bind_eq_some_iff.mp H
        obtain ⟨⟨t427, t428⟩, A250, H⟩ := H
        (try dsimp only at H)
        have A25 := am A250
        clear A250
        refine em_ (p := x6_1.length < 17592186044416) (fun c26 => ?g4p) (fun c26 => ?g4n)
        case' g4p =>
         rw [if_pos c26] at H
         have LMc26 := am c26
         clear c26
         obtain ⟨y429, hy429⟩ : ∃ y_ : List Int, y_ = (x6_1 ++ [t427]) := ⟨_, rfl⟩
         replace H : (if 0 ≤ t428 then (if t428 ≤ (x7_1.size : Int) then (spec_Feed.l0 k1 y429 (x7_1.extract (t428 : Int).toNat x7_1.size)) else (none)) else (none)) = some (r1, r2) := by first | (rw [hy429]; with_reducible exact H) | (rw [hy429]; exact H) | exact H
         have Ny429 := am hy429
         clear hy429
         refine em_ (p := 0 ≤ t428) (fun c27 => ?g3p) (fun c27 => ?g3n)
         case' g3p =>
          rw [if_pos c27] at H
          have c27b0 := eq_true c27
          have c27b1 : decide (0 ≤ t428) = true := decide_eq_true c27
          clear c27
          refine em_ (p := t428 ≤ (x7_1.size : Int)) (fun c28 => ?g2p) (fun c28 => ?g2n)
          case' g2p =>
           rw [if_pos c28] at H
           have c28b0 := eq_true c28
           have c28b1 : decide (t428 ≤ (x7_1.size : Int)) = true := decide_eq_true c28
           clear c28
           have H' := am H
           clear H
           have lf5_ := trivial
          case g2n =>
           rw [if_neg c28] at H
           exact absurd H (by simp)
         case g3n =>
          rw [if_neg c27] at H
          exact absurd H (by simp)
        case g4n =>
         rw [if_neg c26] at H
         exact absurd H (by simp)
        all_goals
         go_wp2_with (first | (go_at_call 62; (with_reducible refine (spec_l1Part.calls k1 x7_1 false _ A20.out).mono ?_); rintro e w29 ⟨rfl, hb⟩; have n0_ := am (Kd.R_below (rr HO_6) hb); have n1_ := am (blk_below (g := gb417) (o := .cells #[.string a0_0] 38 (0, 0)) (rk BK417) hb); have n2_ := am (blk_below (g := gb418) (o := .cells #[.string (⟨#[]⟩ : ByteArray)] 38 (0, 0)) (rk BK418) hb); have n3_ := am (below_step (rb2 HB GE417 GE418) hb); clear HO_6; clear BK417; clear BK418; clear HB; have HO_6 := n0_; have BK417 := n1_; have BK418 := n2_; have HB := n3_; clear n0_ n1_ n2_ n3_; (try clear hb); (try clear hb2); (try clear hk); (try clear hi)) | ((with_reducible refine gate_callee (f := 16) rfl ?_); refine gl_ (some 31) Tryd.func16 #[.string x7_1] ?_; (with_reducible refine (spec_Get.calls k1 x7_1 t427 t428 _ A25.out).mono ?_); rintro e w30 ⟨rfl, hb⟩; refine ⟨_, rfl, ?_⟩; have n0_ := am (Kd.R_below (rr HO_6) hb); have n1_ := am (blk_below (g := gb417) (o := .cells #[.string a0_0] 38 (0, 0)) (rk BK417) hb); have n2_ := am (blk_below (g := gb418) (o := .cells #[.string (⟨#[]⟩ : ByteArray)] 38 (0, 0)) (rk BK418) hb); have n3_ := am (below_step (rb2 HB GE417 GE418) hb); clear HO_6; clear BK417; clear BK418; clear HB; have HO_6 := n0_; have BK417 := n1_; have BK418 := n2_; have HB := n3_; clear n0_ n1_ n2_ n3_; (try clear hb); (try clear hb2); (try clear hk); (try clear hi)) | ((with_reducible refine gate_builtin (b := .append) (xs := #[.tmp 34, .tmp 36]) rfl ?_); at_builtin; refine Kd.R_append (Kd.int .i64) (w0 := w) w.heap.size rfl (.tmp 34) (.tmp 36) 26 2 (.int .i64 0) 8 rfl Tryd.underlying26 info2 rfl (by decide) (by omega) u6 x6_1 t427 [.int .i64 t427] (fun _ => True) (fun _ => False) rfl rfl ?aP (fun _ hk => hk.elim) ?aF ?aO ?aB ?aS ?aL ?_; (case aP => exact rfl); (case aB => exact (rb2 HB GE417 GE418)); (case aF => exact (fun _ _ => trivial)); (case aO => exact (rr HO_6)); (case aS => exact (below_size (rb2 HB GE417 GE418))); (case aL => have := LMc26.out; omega); intro v430 w31 ho hb hg hat; rw [← Ny429.out] at ho; have n0_ := am (blk_grown (g := gb417) (o := .cells #[.string a0_0] 38 (0, 0)) (rk BK417) hg (Kd.R_ne HO_6.out BK417.out (by decide))); have n1_ := am (blk_grown (g := gb418) (o := .cells #[.string (⟨#[]⟩ : ByteArray)] 38 (0, 0)) (rk BK418) hg (Kd.R_ne HO_6.out BK418.out (by decide))); have n2_ := am (hb); have n3_ := am (ho); clear BK417; clear BK418; clear HB; clear HO_6; have BK417 := n0_; have BK418 := n1_; have HB := n2_; have HO431 := n3_; clear n0_ n1_ n2_ n3_; clear ho hb hg hat))
         go_roundg k1
         case measure => have := HK1.out; omega
         case rel => exact ⟨(y429), (x7_1.extract (t428 : Int).toNat x7_1.size), (by first | rfl | (simp; done) | (simp [*]; done)), H', ⟨by have := HK1.out; omega⟩, ⟨rr HO431⟩, ⟨rk BK417⟩, ⟨rk BK418⟩, ⟨rb2 HB GE417 GE418⟩⟩
       all_goals
        go_wp2_with (first | (go_at_call 62; (with_reducible refine (spec_l1Part.calls k1 x7_1 true _ A20.out).mono ?_); rintro e w22 ⟨rfl, hb⟩; have n0_ := am (Kd.R_below (rr HO_6) hb); have n1_ := am (blk_below (g := gb417) (o := .cells #[.string a0_0] 38 (0, 0)) (rk BK417) hb); have n2_ := am (blk_below (g := gb418) (o := .cells #[.string (⟨#[]⟩ : ByteArray)] 38 (0, 0)) (rk BK418) hb); have n3_ := am (below_step (rb2 HB GE417 GE418) hb); clear HO_6; clear BK417; clear BK418; clear HB; have HO_6 := n0_; have BK417 := n1_; have BK418 := n2_; have HB := n3_; clear n0_ n1_ n2_ n3_; (try clear hb); (try clear hb2); (try clear hk); (try clear hi); have hnb23 := NB418_417.out; have hnc23 := NB417_418.out; have hcz24_0 : w22.cell? ⟨gb418, 0, none⟩ = some (.string (⟨#[]⟩ : ByteArray)) := (blk_cell BK418.out 0).trans rfl; have hfz24_0 := blk_frozen BK418.out 0))
        refine bodyPost_ret (results_ct rfl _ _ gb418 38 #[.string x7_1] (0, 0) _ rfl (by (with_reducible repeat (first | apply k1 | apply k2 | apply k3)); refine blk_put (cs := #[.string (⟨#[]⟩ : ByteArray)]) ?_ 0 _ rfl; (with_reducible repeat (first | apply k1 | apply k2 | apply k3)); exact BK418.out) Tryd.underlying38 rfl (by kernel_rfl)) rfl ?_
        exact ⟨_, by first | rfl | (simp [errW_none, errW_some] <;> rfl) | (simp [*, errW_none, errW_some] <;> rfl), by (with_reducible repeat (first | apply r1 | apply r2 | apply r3)); exact Kd.R_mono (Kd.R_far (p := ⟨gb418, 0, none⟩) (Kd.R_types HO_6.out BK418.out (by decide)) (fun _ hk => hk.2) (.string x7_1)) (fun _ hk => trivial), rb2 HB GE417 GE418⟩
      all_goals
       have hnb18 := NB418_417.out
       have hnc18 := NB417_418.out
       have hcz19_0 : wr.cell? ⟨gb418, 0, none⟩ = some (.string (⟨#[]⟩ : ByteArray)) := (blk_cell BK418.out 0).trans rfl
       have hfz19_0 := blk_frozen BK418.out 0
       go_wp2
       refine bodyPost_ret (results_ct rfl _ _ gb418 38 #[.string x7_1] (0, 0) _ rfl (by (with_reducible repeat (first | apply k1 | apply k2 | apply k3)); refine blk_put (cs := #[.string (⟨#[]⟩ : ByteArray)]) ?_ 0 _ rfl; (with_reducible repeat (first | apply k1 | apply k2 | apply k3)); exact BK418.out) Tryd.underlying38 rfl (by kernel_rfl)) rfl ?_
       exact ⟨_, by first | rfl | (simp [errW_none, errW_some] <;> rfl) | (simp [*, errW_none, errW_some] <;> rfl), by (with_reducible repeat (first | apply r1 | apply r2 | apply r3)); exact Kd.R_mono (Kd.R_far (p := ⟨gb418, 0, none⟩) (Kd.R_types HO_6.out BK418.out (by decide)) (fun _ hk => hk.2) (.string x7_1)) (fun _ hk => trivial), rb2 HB GE417 GE418⟩
    )
  | (
    have q_ := lf2_
    refine bodyPost_ret (results_ct rfl _ _ gb418 38 #[.string (⟨#[]⟩ : ByteArray)] (0, 0) _ rfl (by (with_reducible repeat (first | apply k1 | apply k2 | apply k3)); refine blk_put (cs := #[.string (⟨#[]⟩ : ByteArray)]) ?_ 0 _ rfl; (with_reducible repeat (first | apply k1 | apply k2 | apply k3)); exact BK418.out) Tryd.underlying38 rfl (by kernel_rfl)) rfl ?_
    exact ⟨_, by first | rfl | (simp [errW_none, errW_some] <;> rfl) | (simp [*, errW_none, errW_some] <;> rfl), by (with_reducible repeat (first | apply r1 | apply r2 | apply r3)); exact Kd.R_mono (Kd.R_far (p := ⟨gb418, 0, none⟩) (Kd.R_types HO421.out BK418.out (by decide)) (fun _ hk => hk.2) (.string (⟨#[]⟩ : ByteArray))) (fun _ hk => trivial), rb2 HB GE417 GE418⟩
    )

end Go.Proofs.YtfhkpneffmcdbaaDoor.QB
