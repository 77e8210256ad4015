/- Contracts of Go functions that laws of this seat reach: each Lean function answers as its Go function does. No condition. Written by wip/tools/inj.py, over the kit's print. -/
import Derived.Test.YtfhkpneffmcdbaaDoorQCx0
import Derived.Test.YtfhkpneffmcdbaaDoorQCx8
import Derived.Test.YtfhkpneffmcdbaaDoorQCx9
import Derived.Test.YtfhkpneffmcdbaaDoorQCx15
namespace Go.Proofs.YtfhkpneffmcdbaaDoor.QC
open Go.RowKit Go.Proofs.YtfhkpneffmcdbaaDoorW.PrintWords Go.Proofs.YtfhkpneffmcdbaaDoorW.PrintLast Go.Proofs.YtfhkpneffmcdbaaDoorW.PrintMore
attribute [local go_sem] max2_int min2_int max_two min_two max_three min_three max_four min_four   -- for this text's walks alone
set_option linter.unusedVariables false
set_option linter.unusedSimpArgs false

/-! ### spec_l13Key: function 70 -/
mutual
def spec_l13Key.l0 : Nat → ByteArray → Int → Option (Int × Int × Bool × Int)
 | 0, _, _ => none
 | k + 1, x0, x4 => if x4 ≤ 12 then ((spec_l13Sent.f k x4 0 false).bind fun t364 => (if (x0.size : Int) ≥ (t364.size : Int) then (if 0 ≤ (t364.size : Int) then (if (t364.size : Int) ≤ (x0.size : Int) then (if (x0.extract 0 ((t364.size : Int) : Int).toNat).toList = t364.toList then (some (x4, 0, false, (t364.size : Int))) else (spec_l13Key.l0 k x0 (wrap64 (x4 + 1)))) else (none)) else (none)) else (spec_l13Key.l0 k x0 (wrap64 (x4 + 1))))) else (if 0 < (x0.size : Int) then (if (bt x0 0) < 27 then ((spec_KeyOk.f 2 (wrap64 (bt x0 0)) false).bind fun t366 => (if t366 = true then (some (2, wrap64 (bt x0 0), false, 1)) else (spec_l13Key.j1 k x0))) else (spec_l13Key.j1 k x0)) else (none))
def spec_l13Key.j1 : Nat → ByteArray → Option (Int × Int × Bool × Int)
 | 0, _ => none
 | k + 1, x0 => if 0 < (x0.size : Int) then (if (bt x0 0) = 27 then (spec_l13Key.j2 k x0 1 1 0 true) else (spec_l13Key.j2 k x0 0 1 0 false)) else (none)
def spec_l13Key.j2 : Nat → ByteArray → Int → Int → Int → Bool → Option (Int × Int × Bool × Int)
 | 0, _, _, _, _, _ => none
 | k + 1, x0, x8, x368000, x368001, x368002 => if 0 ≤ x8 then (if x8 ≤ (x0.size : Int) then ((spec_Get.f k (x0.extract (x8 : Int).toNat x0.size)).bind fun bt368 => ((spec_Sent.f k x368000 bt368.1 x368002).bind fun t370 => (if t370.toList = ([] : List UInt8) then (some (0, 0, false, 0)) else (if (wrap64 (x8 + bt368.2)) > (x0.size : Int) then (some (0, 0, false, 0)) else (if 0 ≤ (wrap64 (x8 + bt368.2)) then (if (wrap64 (x8 + bt368.2)) ≤ (x0.size : Int) then (if (x0.extract 0 ((wrap64 (x8 + bt368.2)) : Int).toNat).toList = t370.toList then (some (x368000, bt368.1, x368002, wrap64 (x8 + bt368.2))) else (some (0, 0, false, 0))) else (none)) else (none)))))) else (none)) else (none)
end
def spec_l13Key.f (k : Nat) (a0 : ByteArray) : Option (Int × Int × Bool × Int) := if a0.toList = ([] : List UInt8) then (some (0, 0, false, 0)) else (spec_l13Key.l0 k a0 3)
theorem spec_l13Key.mono_l : ∀ k, (∀ y0 y1, LeO (spec_l13Key.l0 k y0 y1) (spec_l13Key.l0 (k + 1) y0 y1)) ∧ (∀ y0, LeO (spec_l13Key.j1 k y0) (spec_l13Key.j1 (k + 1) y0)) ∧ (∀ y0 y1 y2 y3 y4, LeO (spec_l13Key.j2 k y0 y1 y2 y3 y4) (spec_l13Key.j2 (k + 1) y0 y1 y2 y3 y4))
 | 0 => ⟨fun _ _ r h => by simp [spec_l13Key.l0] at h, fun _ r h => by simp [spec_l13Key.j1] at h, fun _ _ _ _ _ r h => by simp [spec_l13Key.j2] at h⟩
 | k + 1 => by
  obtain ⟨ih0, ih1, ih2⟩ := spec_l13Key.mono_l k
  refine ⟨?_, ?_, ?_⟩
  ·intro y0 y1
   unfold spec_l13Key.l0
   repeat' first
   | (with_reducible exact ih0 _ _)
   | (with_reducible exact ih1 _)
   | (with_reducible exact ih2 _ _ _ _ _)
   | (with_reducible exact spec_Get.mono _ _)
   | (with_reducible exact spec_Sent.mono _ _ _ _)
   | (with_reducible exact spec_l13Sent.mono _ _ _ _)
   | (with_reducible exact LeO.refl _)
   | (with_reducible exact LeO.none _)
   | (with_reducible refine LeO.ite ?_ ?_)
   | (with_reducible refine LeO.bind ?_ (fun _ => ?_))
  ·intro y0
   unfold spec_l13Key.j1
   repeat' first
   | (with_reducible exact ih0 _ _)
   | (with_reducible exact ih1 _)
   | (with_reducible exact ih2 _ _ _ _ _)
   | (with_reducible exact spec_Get.mono _ _)
   | (with_reducible exact spec_Sent.mono _ _ _ _)
   | (with_reducible exact spec_l13Sent.mono _ _ _ _)
   | (with_reducible exact LeO.refl _)
   | (with_reducible exact LeO.none _)
   | (with_reducible refine LeO.ite ?_ ?_)
   | (with_reducible refine LeO.bind ?_ (fun _ => ?_))
  ·intro y0 y1 y2 y3 y4
   unfold spec_l13Key.j2
   repeat' first
   | (with_reducible exact ih0 _ _)
   | (with_reducible exact ih1 _)
   | (with_reducible exact ih2 _ _ _ _ _)
   | (with_reducible exact spec_Get.mono _ _)
   | (with_reducible exact spec_Sent.mono _ _ _ _)
   | (with_reducible exact spec_l13Sent.mono _ _ _ _)
   | (with_reducible exact LeO.refl _)
   | (with_reducible exact LeO.none _)
   | (with_reducible refine LeO.ite ?_ ?_)
   | (with_reducible refine LeO.bind ?_ (fun _ => ?_))
theorem spec_l13Key.mono : ∀ a0 k, LeO (spec_l13Key.f k a0) (spec_l13Key.f (k + 1) a0) := by
 intro a0 k
 obtain ⟨ih0, ih1, ih2⟩ := spec_l13Key.mono_l k
 unfold spec_l13Key.f
 repeat' first
   | (with_reducible exact ih0 _ _)
   | (with_reducible exact ih1 _)
   | (with_reducible exact ih2 _ _ _ _ _)
   | (with_reducible exact spec_Get.mono _ _)
   | (with_reducible exact spec_Sent.mono _ _ _ _)
   | (with_reducible exact spec_l13Sent.mono _ _ _ _)
   | (with_reducible exact LeO.refl _)
   | (with_reducible exact LeO.none _)
   | (with_reducible refine LeO.ite ?_ ?_)
   | (with_reducible refine LeO.bind ?_ (fun _ => ?_))
set_option maxHeartbeats 8000000 in
set_option maxRecDepth 100000 in
theorem spec_l13Key.calls (k : Nat) (a0 : ByteArray) (r1 : Int) (r2 : Int) (r3 : Bool) (r4 : Int) (w : World) (h : spec_l13Key.f k a0 = some (r1, r2, r3, r4)) :
  Calls Tryd.prog 70 #[.string a0] w fun e w' => e = .returned (.tuple #[.agg #[.int .i64 r1, .int .i64 r2, .bool r3], .int .i64 r4]) ∧ Below w.heap.size w w' := by
 have hu50 := Tryd.underlying50
 have HB := am (Below.refl w.heap.size w)
 have H := h
 unfold spec_l13Key.f at H
 clear h
 by_cases c2 : a0.toList = ([] : List UInt8)
 ·rw [if_pos c2] at H
  have c2b0 : (a0.toList == ([] : List UInt8)) = true := beq_iff_eq.mpr c2
  have c2b1 : (a0.toList != ([] : List UInt8)) = false := bne_eq_false_iff_eq.mpr c2
  clear c2
  simp only [Option.some.injEq, Prod.mk.injEq] at H
  obtain ⟨rfl, rfl, rfl, rfl⟩ := H
  go_enter Tryd.func70, Tryd.ntmps70
  go_wp2_with (first | ((with_reducible refine gate_dst (N := 2) rfl ?_); (try (refine gate_guard (by rfl) ?_; dsimp only)); refine box_event ?hg (N := 2) ?hd (cs := #[.int .i64 0, .int .i64 0, .bool false]) (t := 50) ?hr ?_; (case hd => rfl); (case hg => rfl); (case hr => first | (go_simp; done) | (go_simp; rfl)); intro gb363 hg w3 hbox hb; have n0_ := am (below_step (rb HB) hb); have n1_ := am (hbox); have n2_ := am ((by rw [hg]; exact (below_size (rb HB)) : w.heap.size ≤ gb363)); have n3_ := am ((by rw [hg]; exact (below_size (rb HB)) : w.heap.size ≤ gb363)); clear HB; have HB := n0_; have BK363 := n1_; have GW363 := n2_; have GE363 := n3_; clear n0_ n1_ n2_ n3_; clear hb hbox hg; have hcz4_0 : w3.cell? ⟨gb363, 0, none⟩ = some (.int .i64 0) := (blk_cell BK363.out 0).trans rfl; have hcz4_1 : w3.cell? ⟨gb363, 1, none⟩ = some (.int .i64 0) := (blk_cell BK363.out 1).trans rfl; have hcz4_2 : w3.cell? ⟨gb363, 2, none⟩ = some (.bool false) := (blk_cell BK363.out 2).trans rfl; have hfz4_0 := blk_frozen BK363.out 0; have hfz4_1 := blk_frozen BK363.out 1; have hfz4_2 := blk_frozen BK363.out 2))
  refine bodyPost_ret (results_ct rfl _ _ gb363 50 #[.int .i64 0, .int .i64 0, .bool false] (0, 0) _ rfl (by (with_reducible repeat (first | apply k1 | apply k2 | apply k3)); refine blk_put (cs := #[.int .i64 0, .int .i64 0, .bool false]) ?_ 2 _ rfl; (with_reducible repeat (first | apply k1 | apply k2 | apply k3)); refine blk_put (cs := #[.int .i64 0, .int .i64 0, .bool false]) ?_ 1 _ rfl; (with_reducible repeat (first | apply k1 | apply k2 | apply k3)); refine blk_put (cs := #[.int .i64 0, .int .i64 0, .bool false]) ?_ 0 _ rfl; (with_reducible repeat (first | apply k1 | apply k2 | apply k3)); exact BK363.out) Tryd.underlying50 rfl (by kernel_rfl)) rfl ?_
  exact ⟨by first | rfl | (simp [errW_none, errW_some] <;> rfl) | (simp [*, errW_none, errW_some] <;> rfl), by repeat (first | (with_reducible first | exact HB.out | apply b1 | apply b2 | apply b3 | refine below_set ?_ GE363.out) | exact HB.out)⟩
 ·rw [if_neg c2] at H
  have c2b0 : (a0.toList == ([] : List UInt8)) = false := beq_eq_false_iff_ne.mpr c2
  have c2b1 : (a0.toList != ([] : List UInt8)) = true := bne_iff_ne.mpr c2
  have H' := am H
  clear H
  go_enter Tryd.func70, Tryd.ntmps70
  go_wp2_with (first | ((with_reducible refine gate_dst (N := 2) rfl ?_); (try (refine gate_guard (by rfl) ?_; dsimp only)); refine box_event ?hg (N := 2) ?hd (cs := #[.int .i64 0, .int .i64 0, .bool false]) (t := 50) ?hr ?_; (case hd => rfl); (case hg => rfl); (case hr => first | (go_simp; done) | (go_simp; rfl)); intro gb363 hg w5 hbox hb; have n0_ := am (below_step (rb HB) hb); have n1_ := am (hbox); have n2_ := am ((by rw [hg]; exact (below_size (rb HB)) : w.heap.size ≤ gb363)); have n3_ := am ((by rw [hg]; exact (below_size (rb HB)) : w.heap.size ≤ gb363)); clear HB; have HB := n0_; have BK363 := n1_; have GW363 := n2_; have GE363 := n3_; clear n0_ n1_ n2_ n3_; clear hb hbox hg))
  go_loopg [4] k (fun kq v4 w' => ∃ (x4_1 : Int) (x364000_1 : Int) (x364001_1 : Int) (x364002_1 : Bool), v4 = .int .i64 x4_1 ∧ Aside0 (spec_l13Key.l0 kq a0 x4_1 = some (r1, r2, r3, r4)) ∧ Aside0 (kq ≤ k) ∧ Aside0 (w'.heap[gb363]? = some (.cells #[.int .i64 x364000_1, .int .i64 x364001_1, .bool x364002_1] 50 (0, 0))) ∧ Aside0 (Below w.heap.size w w'))
  case atStart => exact ⟨(3), (0), (0), (false), (by first | rfl | (simp; done) | (simp [*]; done)), H', ⟨Nat.le_refl _⟩, ⟨rk BK363⟩, ⟨by repeat (first | (with_reducible first | exact HB.out | apply b1 | apply b2 | apply b3 | refine below_set ?_ GE363.out) | exact HB.out)⟩⟩
  case round =>
   clear H'
   try clear c2
   try clear c2b0
   try clear c2b1
   try clear p2
   try clear hcz4_0
   try clear hcz4_1
   try clear hcz4_2
   try clear hfz4_0
   try clear hfz4_1
   try clear hfz4_2
   obtain ⟨x4_1, x364000_1, x364001_1, x364002_1, rfl, HA, HK1, BK363, HB⟩ := hrel
   cases gk with
   | zero => exact absurd HA.out (by simp [spec_l13Key.l0])
   | succ k1 =>
    have H := HA.out
    clear HA
    simp only [spec_l13Key.l0] at H
    by_cases c6 : x4_1 ≤ 12
    ·rw [if_pos c6] at H
     have c6b0 : decide (x4_1 ≤ 12) = true := decide_eq_true c6
     clear c6
     replace H := Option.bind_eq_some_iff.mp H
     obtain ⟨t364, A70, H⟩ := H
     (try dsimp only at H)
     have A7 := am A70
     clear A70
     refine em_ (p := (a0.size : Int) ≥ (t364.size : Int)) (fun c8 => ?g0p) (fun c8 => ?g0n)
     case g0p =>
      rw [if_pos c8] at H
      have c8b0 : decide ((t364.size : Int) ≤ (a0.size : Int)) = true := decide_eq_true c8
      have c8b1 : decide (t364.size ≤ a0.size) = true := decide_eq_true (Int.ofNat_le.mp c8)
      clear c8
      by_cases c9 : 0 ≤ (t364.size : Int)
      ·rw [if_pos c9] at H
       have c9b0 := eq_true c9
       have c9b1 : decide (0 ≤ (t364.size : Int)) = true := decide_eq_true c9
       clear c9
       by_cases c10 : (t364.size : Int) ≤ (a0.size : Int)
       ·rw [if_pos c10] at H
        have c10b0 := eq_true c10
        have c10b1 : decide ((t364.size : Int) ≤ (a0.size : Int)) = true := decide_eq_true c10
        clear c10
        by_cases c11 : (a0.extract 0 ((t364.size : Int) : Int).toNat).toList = t364.toList
        ·rw [if_pos c11] at H
         have c11b0 : ((a0.extract 0 ((t364.size : Int) : Int).toNat).toList == t364.toList) = true := beq_iff_eq.mpr c11
         have c11b1 : ((a0.extract 0 ((t364.size : Int) : Int).toNat).toList != t364.toList) = false := bne_eq_false_iff_eq.mpr c11
         simp only [Int.toNat_natCast] at c11b0 c11b1
         clear c11
         simp only [Option.some.injEq, Prod.mk.injEq] at H
         obtain ⟨rfl, rfl, rfl, rfl⟩ := H
         go_wp2_with (first | ((with_reducible refine gate_callee (f := 71) rfl ?_); refine gl_ (some 21) Tryd.func71 #[.agg #[.int .i64 x4_1, .int .i64 0, .bool false]] ?_; (with_reducible refine (spec_l13Sent.calls k1 x4_1 0 false t364 _ A7.out).mono ?_); rintro e w12 ⟨rfl, hb⟩; refine ⟨_, rfl, ?_⟩; have n0_ := am (blk_below (g := gb363) (o := .cells #[.int .i64 x364000_1, .int .i64 x364001_1, .bool x364002_1] 50 (0, 0)) (rk BK363) hb); have n1_ := am (below_step (rb1 HB GE363) hb); clear BK363; clear HB; have BK363 := n0_; have HB := n1_; clear n0_ n1_; (try clear hb); (try clear hb2); (try clear hk); (try clear hi); have hcz13_0 : w12.cell? ⟨gb363, 0, none⟩ = some (.int .i64 x364000_1) := (blk_cell BK363.out 0).trans rfl; have hcz13_1 : w12.cell? ⟨gb363, 1, none⟩ = some (.int .i64 x364001_1) := (blk_cell BK363.out 1).trans rfl; have hcz13_2 : w12.cell? ⟨gb363, 2, none⟩ = some (.bool x364002_1) := (blk_cell BK363.out 2).trans rfl; have hfz13_0 := blk_frozen BK363.out 0; have hfz13_1 := blk_frozen BK363.out 1; have hfz13_2 := blk_frozen BK363.out 2))
         refine bodyPost_ret (results_ct rfl _ _ gb363 50 #[.int .i64 x4_1, .int .i64 0, .bool false] (0, 0) _ rfl (by (with_reducible repeat (first | apply k1 | apply k2 | apply k3)); refine blk_put (cs := #[.int .i64 x4_1, .int .i64 0, .bool x364002_1]) ?_ 2 _ rfl; (with_reducible repeat (first | apply k1 | apply k2 | apply k3)); refine blk_put (cs := #[.int .i64 x4_1, .int .i64 x364001_1, .bool x364002_1]) ?_ 1 _ rfl; (with_reducible repeat (first | apply k1 | apply k2 | apply k3)); refine blk_put (cs := #[.int .i64 x364000_1, .int .i64 x364001_1, .bool x364002_1]) ?_ 0 _ rfl; (with_reducible repeat (first | apply k1 | apply k2 | apply k3)); exact BK363.out) Tryd.underlying50 rfl (by kernel_rfl)) rfl ?_
         exact ⟨by first | rfl | (simp [errW_none, errW_some] <;> rfl) | (simp [*, errW_none, errW_some] <;> rfl), by repeat (first | (with_reducible first | exact HB.out | apply b1 | apply b2 | apply b3 | refine below_set ?_ GE363.out) | exact HB.out)⟩
        ·rw [if_neg c11] at H
         have c11b0 : ((a0.extract 0 ((t364.size : Int) : Int).toNat).toList == t364.toList) = false := beq_eq_false_iff_ne.mpr c11
         have c11b1 : ((a0.extract 0 ((t364.size : Int) : Int).toNat).toList != t364.toList) = true := bne_iff_ne.mpr c11
         simp only [Int.toNat_natCast] at c11b0 c11b1
         have H' := am H
         clear H
         go_wp2_with (first | ((with_reducible refine gate_callee (f := 71) rfl ?_); refine gl_ (some 21) Tryd.func71 #[.agg #[.int .i64 x4_1, .int .i64 0, .bool false]] ?_; (with_reducible refine (spec_l13Sent.calls k1 x4_1 0 false t364 _ A7.out).mono ?_); rintro e w14 ⟨rfl, hb⟩; refine ⟨_, rfl, ?_⟩; have n0_ := am (blk_below (g := gb363) (o := .cells #[.int .i64 x364000_1, .int .i64 x364001_1, .bool x364002_1] 50 (0, 0)) (rk BK363) hb); have n1_ := am (below_step (rb1 HB GE363) hb); clear BK363; clear HB; have BK363 := n0_; have HB := n1_; clear n0_ n1_; (try clear hb); (try clear hb2); (try clear hk); (try clear hi)))
         go_roundg k1
         case measure => have := HK1.out; omega
         case rel => exact ⟨(wrap64 (x4_1 + 1)), (x364000_1), (x364001_1), (x364002_1), (by first | rfl | (simp; done) | (simp [*]; done)), H', ⟨by have := HK1.out; omega⟩, ⟨rk BK363⟩, ⟨by repeat (first | (with_reducible first | exact HB.out | apply b1 | apply b2 | apply b3 | refine below_set ?_ GE363.out) | exact HB.out)⟩⟩
       ·rw [if_neg c10] at H
        exact absurd H (by simp)
      ·rw [if_neg c9] at H
       exact absurd H (by simp)
     case' g0n =>
      rw [if_neg c8] at H
      have c8b0 : decide ((t364.size : Int) ≤ (a0.size : Int)) = false := decide_eq_false c8
      have c8b1 : decide (t364.size ≤ a0.size) = false := decide_eq_false (fun h => c8 (Int.ofNat_le.mpr h))
      clear c8
      have H' := am H
      clear H
      have lf5_ := trivial
     all_goals
      go_wp2_with (first | ((with_reducible refine gate_callee (f := 71) rfl ?_); refine gl_ (some 21) Tryd.func71 #[.agg #[.int .i64 x4_1, .int .i64 0, .bool false]] ?_; (with_reducible refine (spec_l13Sent.calls k1 x4_1 0 false t364 _ A7.out).mono ?_); rintro e w15 ⟨rfl, hb⟩; refine ⟨_, rfl, ?_⟩; have n0_ := am (blk_below (g := gb363) (o := .cells #[.int .i64 x364000_1, .int .i64 x364001_1, .bool x364002_1] 50 (0, 0)) (rk BK363) hb); have n1_ := am (below_step (rb1 HB GE363) hb); clear BK363; clear HB; have BK363 := n0_; have HB := n1_; clear n0_ n1_; (try clear hb); (try clear hb2); (try clear hk); (try clear hi)))
      go_roundg k1
      case measure => have := HK1.out; omega
      case rel => exact ⟨(wrap64 (x4_1 + 1)), (x364000_1), (x364001_1), (x364002_1), (by first | rfl | (simp; done) | (simp [*]; done)), H', ⟨by have := HK1.out; omega⟩, ⟨rk BK363⟩, ⟨by repeat (first | (with_reducible first | exact HB.out | apply b1 | apply b2 | apply b3 | refine below_set ?_ GE363.out) | exact HB.out)⟩⟩
    ·rw [if_neg c6] at H
     have c6b0 : decide (x4_1 ≤ 12) = false := decide_eq_false c6
     clear c6
     refine em_ (p := 0 < (a0.size : Int)) (fun c16 => ?g1p) (fun c16 => ?g1n)
     case' g1p =>
      rw [if_pos c16] at H
      have c16b0 : decide (0 < (a0.size : Int)) = true := decide_eq_true c16
      have c16b1 : decide (0 < a0.size) = true := decide_eq_true (by omega)
      clear c16
      have HC18 := am H
      clear H
      have lf6_ := trivial
     case g1n =>
      rw [if_neg c16] at H
      exact absurd H (by simp)
     all_goals
      have p17 : 0 ≤ (0 : Int) := (by omega)
      have q17 : 0 < a0.size := (by have : (0 : Int) < (a0.size : Int) := dt_; omega)
      have hx17 : ∀ h : 0 < a0.size, ((a0[0]'h).toNat : Int) = bt a0 0 := bt_at a0 0
      clear p17
      have qi17 : (0 < (a0.size : Int)) = True := eq_true dt_
      replace q17 := eq_true q17
      go_upto_if 41 with (fail)
      go_cut [] (fun wc => ∃ (kq : Nat) (x364000_17 : Int) (x364001_17 : Int) (x364002_17 : Bool), Aside0 (spec_l13Key.j1 kq a0 = some (r1, r2, r3, r4)) ∧ Aside0 (kq ≤ k1) ∧ Aside0 (wc.heap[gb363]? = some (.cells #[.int .i64 x364000_17, .int .i64 x364001_17, .bool x364002_17] 50 (0, 0))) ∧ Aside0 (Below w.heap.size w wc))
      case first =>
       have H := HC18.out
       clear HC18
       by_cases c19 : (bt a0 0) < 27
       ·rw [if_pos c19] at H
        have c19b0 : decide ((bt a0 0) < 27) = true := decide_eq_true c19
        clear c19
        (first | rw [c19b0] | (simp only [i64_w, i32_w]; rw [c19b0]) | skip)
        replace H := Option.bind_eq_some_iff.mp H
        obtain ⟨t366, A210, H⟩ := H
        (try dsimp only at H)
        have A21 := am A210
        clear A210
        refine em_ (p := t366 = true) (fun c22 => ?g2p) (fun c22 => ?g2n)
        case' g2p =>
         subst c22
         have H1 : (some (2, wrap64 (bt a0 0), false, 1)) = some (r1, r2, r3, r4) := by rw [if_pos rfl] at H; exact H
         clear H
         have H := H1
         clear H1
         simp only [Option.some.injEq, Prod.mk.injEq] at H
         obtain ⟨rfl, rfl, rfl, rfl⟩ := H
         have lf9_ := trivial
        case' g2n =>
         replace c22 := Bool.eq_false_iff.mpr c22
         subst c22
         rw [if_neg (show ¬ (false = true) by decide)] at H
         have H' := am H
         clear H
         have lf10_ := trivial
        all_goals
         have p20 : 0 ≤ (0 : Int) := (by omega)
         have q20 : 0 < a0.size := (by have : (0 : Int) < (a0.size : Int) := dt_; omega)
         have hx20 : ∀ h : 0 < a0.size, ((a0[0]'h).toNat : Int) = bt a0 0 := bt_at a0 0
         clear p20
         have qi20 : (0 < (a0.size : Int)) = True := eq_true dt_
         replace q20 := eq_true q20
         go_wp2_with (first | ((with_reducible refine gate_callee (f := 47) rfl ?_); refine gl_ (some 47) Tryd.func47 #[.agg #[.int .i64 2, .int .i64 (wrap64 (bt a0 0)), .bool false]] ?_; (with_reducible refine (spec_KeyOk.calls 2 (wrap64 (bt a0 0)) false true _ A21.out).mono ?_); rintro e w26 ⟨rfl, hb⟩; refine ⟨_, rfl, ?_⟩; have n0_ := am (blk_below (g := gb363) (o := .cells #[.int .i64 x364000_1, .int .i64 x364001_1, .bool x364002_1] 50 (0, 0)) (by (with_reducible repeat (first | apply k1 | apply k2 | apply k3)); refine blk_far ?_ NB363_365.out _; (with_reducible repeat (first | apply k1 | apply k2 | apply k3)); refine blk_far ?_ NB363_365.out _; (with_reducible repeat (first | apply k1 | apply k2 | apply k3)); refine blk_far ?_ NB363_365.out _; (with_reducible repeat (first | apply k1 | apply k2 | apply k3)); exact BK363.out) hb); have n1_ := am (blk_below (g := gb365) (o := .cells #[.int .i64 2, .int .i64 (wrap64 (bt a0 0)), .bool false] 50 (0, 0)) (by (with_reducible repeat (first | apply k1 | apply k2 | apply k3)); refine blk_put (cs := #[.int .i64 2, .int .i64 (wrap64 (bt a0 0)), .bool false]) ?_ 2 _ rfl; (with_reducible repeat (first | apply k1 | apply k2 | apply k3)); refine blk_put (cs := #[.int .i64 2, .int .i64 0, .bool false]) ?_ 1 _ rfl; (with_reducible repeat (first | apply k1 | apply k2 | apply k3)); refine blk_put (cs := #[.int .i64 0, .int .i64 0, .bool false]) ?_ 0 _ rfl; (with_reducible repeat (first | apply k1 | apply k2 | apply k3)); exact BK365.out) hb); have n2_ := am (below_step (rb2 HB GE363 GE365) hb); clear BK363; clear BK365; clear HB; have BK363 := n0_; have BK365 := n1_; have HB := n2_; clear n0_ n1_ n2_; (try clear hb); (try clear hb2); (try clear hk); (try clear hi); have hcz27_0 : w26.cell? ⟨gb365, 0, none⟩ = some (.int .i64 2) := (blk_cell BK365.out 0).trans rfl; have hcz27_1 : w26.cell? ⟨gb365, 1, none⟩ = some (.int .i64 (wrap64 (bt a0 0))) := (blk_cell BK365.out 1).trans rfl; have hcz27_2 : w26.cell? ⟨gb365, 2, none⟩ = some (.bool false) := (blk_cell BK365.out 2).trans rfl; have hfz27_0 := blk_frozen BK365.out 0; have hfz27_1 := blk_frozen BK365.out 1; have hfz27_2 := blk_frozen BK365.out 2; have hcz28_0 : w26.cell? ⟨gb363, 0, none⟩ = some (.int .i64 x364000_1) := (blk_cell BK363.out 0).trans rfl; have hcz28_1 : w26.cell? ⟨gb363, 1, none⟩ = some (.int .i64 x364001_1) := (blk_cell BK363.out 1).trans rfl; have hcz28_2 : w26.cell? ⟨gb363, 2, none⟩ = some (.bool x364002_1) := (blk_cell BK363.out 2).trans rfl; have hfz28_0 := blk_frozen BK363.out 0; have hfz28_1 := blk_frozen BK363.out 1; have hfz28_2 := blk_frozen BK363.out 2) | ((with_reducible refine gate_callee (f := 47) rfl ?_); refine gl_ (some 47) Tryd.func47 #[.agg #[.int .i64 2, .int .i64 (wrap64 (bt a0 0)), .bool false]] ?_; (with_reducible refine (spec_KeyOk.calls 2 (wrap64 (bt a0 0)) false false _ A21.out).mono ?_); rintro e w32 ⟨rfl, hb⟩; refine ⟨_, rfl, ?_⟩; have n0_ := am (blk_below (g := gb363) (o := .cells #[.int .i64 x364000_1, .int .i64 x364001_1, .bool x364002_1] 50 (0, 0)) (by (with_reducible repeat (first | apply k1 | apply k2 | apply k3)); refine blk_far ?_ NB363_365.out _; (with_reducible repeat (first | apply k1 | apply k2 | apply k3)); refine blk_far ?_ NB363_365.out _; (with_reducible repeat (first | apply k1 | apply k2 | apply k3)); refine blk_far ?_ NB363_365.out _; (with_reducible repeat (first | apply k1 | apply k2 | apply k3)); exact BK363.out) hb); have n1_ := am (blk_below (g := gb365) (o := .cells #[.int .i64 2, .int .i64 (wrap64 (bt a0 0)), .bool false] 50 (0, 0)) (by (with_reducible repeat (first | apply k1 | apply k2 | apply k3)); refine blk_put (cs := #[.int .i64 2, .int .i64 (wrap64 (bt a0 0)), .bool false]) ?_ 2 _ rfl; (with_reducible repeat (first | apply k1 | apply k2 | apply k3)); refine blk_put (cs := #[.int .i64 2, .int .i64 0, .bool false]) ?_ 1 _ rfl; (with_reducible repeat (first | apply k1 | apply k2 | apply k3)); refine blk_put (cs := #[.int .i64 0, .int .i64 0, .bool false]) ?_ 0 _ rfl; (with_reducible repeat (first | apply k1 | apply k2 | apply k3)); exact BK365.out) hb); have n2_ := am (below_step (rb2 HB GE363 GE365) hb); clear BK363; clear BK365; clear HB; have BK363 := n0_; have BK365 := n1_; have HB := n2_; clear n0_ n1_ n2_; (try clear hb); (try clear hb2); (try clear hk); (try clear hi)) | ((with_reducible refine gate_dst (N := 6) rfl ?_); (try (refine gate_guard (by rfl) ?_; dsimp only)); refine box_event ?hg (N := 6) ?hd (cs := #[.int .i64 0, .int .i64 0, .bool false]) (t := 50) ?hr ?_; (case hd => rfl); (case hg => rfl); (case hr => first | (go_simp; done) | (go_simp; rfl)); intro gb365 hg w23 hbox hb; have n0_ := am (blk_below (g := gb363) (o := .cells #[.int .i64 x364000_1, .int .i64 x364001_1, .bool x364002_1] 50 (0, 0)) (rk BK363) hb); have n1_ := am (below_step (rb1 HB GE363) hb); have n2_ := am (hbox); have n3_ := am ((by rw [hg]; exact (below_size (rb1 HB GE363)) : w.heap.size ≤ gb365)); have n4_ := am ((by rw [hg]; exact (below_size (rb1 HB GE363)) : w.heap.size ≤ gb365)); have n5_ := am ((by rw [hg]; exact Nat.ne_of_lt (blk_lt (g := gb363) (o := .cells #[.int .i64 x364000_1, .int .i64 x364001_1, .bool x364002_1] 50 (0, 0)) (rk BK363)) : gb363 ≠ gb365)); have n6_ := am ((by rw [hg]; exact Nat.ne_of_gt (blk_lt (g := gb363) (o := .cells #[.int .i64 x364000_1, .int .i64 x364001_1, .bool x364002_1] 50 (0, 0)) (rk BK363)) : gb365 ≠ gb363)); clear BK363; clear HB; have BK363 := n0_; have HB := n1_; have BK365 := n2_; have GW365 := n3_; have GE365 := n4_; have NB363_365 := n5_; have NB365_363 := n6_; clear n0_ n1_ n2_ n3_ n4_ n5_ n6_; clear hb hbox hg; have hnb24 := NB365_363.out; have hnc24 := NB363_365.out; have hcz25_0 : w23.cell? ⟨gb365, 0, none⟩ = some (.int .i64 0) := (blk_cell BK365.out 0).trans rfl; have hcz25_1 : w23.cell? ⟨gb365, 1, none⟩ = some (.int .i64 0) := (blk_cell BK365.out 1).trans rfl; have hcz25_2 : w23.cell? ⟨gb365, 2, none⟩ = some (.bool false) := (blk_cell BK365.out 2).trans rfl; have hfz25_0 := blk_frozen BK365.out 0; have hfz25_1 := blk_frozen BK365.out 1; have hfz25_2 := blk_frozen BK365.out 2))
         first
         | (
           have q_ := lf9_
           refine bodyPost_ret (results_ct rfl _ _ gb363 50 #[.int .i64 2, .int .i64 (wrap64 (bt a0 0)), .bool false] (0, 0) _ rfl (by (with_reducible repeat (first | apply k1 | apply k2 | apply k3)); refine blk_put (cs := #[.int .i64 2, .int .i64 (wrap64 (bt a0 0)), .bool x364002_1]) ?_ 2 _ rfl; (with_reducible repeat (first | apply k1 | apply k2 | apply k3)); refine blk_put (cs := #[.int .i64 2, .int .i64 x364001_1, .bool x364002_1]) ?_ 1 _ rfl; (with_reducible repeat (first | apply k1 | apply k2 | apply k3)); refine blk_put (cs := #[.int .i64 x364000_1, .int .i64 x364001_1, .bool x364002_1]) ?_ 0 _ rfl; (with_reducible repeat (first | apply k1 | apply k2 | apply k3)); exact BK363.out) Tryd.underlying50 rfl (by kernel_rfl)) rfl ?_
           exact ⟨by first | rfl | (simp [errW_none, errW_some] <;> rfl) | (simp [*, errW_none, errW_some] <;> rfl), rb2 HB GE363 GE365⟩
           )
         | (
           have q_ := lf10_
           go_meet
           case rel => exact ⟨_, (x364000_1), (x364001_1), (x364002_1), H', ⟨by have := HK1.out; first | omega | exact Nat.le_refl _⟩, ⟨rk BK363⟩, ⟨rb2 HB GE363 GE365⟩⟩
           )
       ·rw [if_neg c19] at H
        have c19b0 : decide ((bt a0 0) < 27) = false := decide_eq_false c19
        clear c19
        (first | rw [c19b0] | (simp only [i64_w, i32_w]; rw [c19b0]) | skip)
        have H' := am H
        clear H
        go_wp2
        go_meet
        case rel => exact ⟨_, (x364000_1), (x364001_1), (x364002_1), H', ⟨by have := HK1.out; first | omega | exact Nat.le_refl _⟩, ⟨rk BK363⟩, ⟨by repeat (first | (with_reducible first | exact HB.out | apply b1 | apply b2 | apply b3 | refine below_set ?_ GE363.out) | exact HB.out)⟩⟩
      case rest =>
       clear HC18
       try clear c1
       try clear p1
       try clear q1
       try clear hx1
       try clear qi1
       try clear c2
       try clear c2b0
       try clear c2b1
       try clear p2
       try clear q2
       try clear hx2
       try clear qi2
       try clear c3
       try clear c4
       try clear c6
       try clear c6b0
       try clear p6
       try clear c7
       try clear c8
       try clear c8b0
       try clear c8b1
       try clear c9
       try clear c9b0
       try clear c9b1
       try clear c10
       try clear c10b0
       try clear c10b1
       try clear c11
       try clear c11b0
       try clear c11b1
       try clear c16
       try clear c16b0
       try clear c16b1
       try clear p17
       try clear q17
       try clear hx17
       try clear qi17
       try clear c19
       try clear c19b0
       try clear p20
       try clear q20
       try clear hx20
       try clear qi20
       try clear c22
       try clear c24
       try clear c30
       try clear hcz13_0
       try clear hcz13_1
       try clear hcz13_2
       try clear hcz25_0
       try clear hcz25_1
       try clear hcz25_2
       try clear hcz27_0
       try clear hcz27_1
       try clear hcz27_2
       try clear hcz28_0
       try clear hcz28_1
       try clear hcz28_2
       try clear hcz31_0
       try clear hcz31_1
       try clear hcz31_2
       try clear hcz4_0
       try clear hcz4_1
       try clear hcz4_2
       try clear hfz13_0
       try clear hfz13_1
       try clear hfz13_2
       try clear hfz25_0
       try clear hfz25_1
       try clear hfz25_2
       try clear hfz27_0
       try clear hfz27_1
       try clear hfz27_2
       try clear hfz28_0
       try clear hfz28_1
       try clear hfz28_2
       try clear hfz31_0
       try clear hfz31_1
       try clear hfz31_2
       try clear hfz4_0
       try clear hfz4_1
       try clear hfz4_2
       try clear p17
       try clear p2
       try clear p20
       try clear q17
       try clear q20
       obtain ⟨kq, x364000_17, x364001_17, x364002_17, HA, HJ17, BK363, HB⟩ := hcut
       cases kq with
       | zero => exact absurd HA.out (by simp [spec_l13Key.j1])
       | succ kj17 =>
        have H := HA.out
        clear HA
        simp only [spec_l13Key.j1] at H
        refine em_ (p := 0 < (a0.size : Int)) (fun c33 => ?g3p) (fun c33 => ?g3n)
        case' g3p =>
         rw [if_pos c33] at H
         have c33b0 : decide (0 < (a0.size : Int)) = true := decide_eq_true c33
         have c33b1 : decide (0 < a0.size) = true := decide_eq_true (by omega)
         clear c33
         have HC35 := am H
         clear H
         have lf12_ := trivial
        case g3n =>
         rw [if_neg c33] at H
         exact absurd H (by simp)
        all_goals
         go_upto_if 52 with (first | ((with_reducible refine gate_dst (N := 7) rfl ?_); (try (refine gate_guard (by rfl) ?_; dsimp only)); refine box_event ?hg (N := 7) ?hd (cs := #[.int .i64 0, .int .i64 0, .bool false]) (t := 50) ?hr ?_; (case hd => rfl); (case hg => rfl); (case hr => first | (go_simp; done) | (go_simp; rfl)); intro gb367 hg w36 hbox hb; have n0_ := am (blk_below (g := gb363) (o := .cells #[.int .i64 x364000_17, .int .i64 x364001_17, .bool x364002_17] 50 (0, 0)) (rk BK363) hb); have n1_ := am (below_step (rb1 HB GE363) hb); have n2_ := am (hbox); have n3_ := am ((by rw [hg]; exact (below_size (rb1 HB GE363)) : w.heap.size ≤ gb367)); have n4_ := am ((by rw [hg]; exact (below_size (rb1 HB GE363)) : w.heap.size ≤ gb367)); have n5_ := am ((by rw [hg]; exact Nat.ne_of_lt (blk_lt (g := gb363) (o := .cells #[.int .i64 x364000_17, .int .i64 x364001_17, .bool x364002_17] 50 (0, 0)) (rk BK363)) : gb363 ≠ gb367)); have n6_ := am ((by rw [hg]; exact Nat.ne_of_gt (blk_lt (g := gb363) (o := .cells #[.int .i64 x364000_17, .int .i64 x364001_17, .bool x364002_17] 50 (0, 0)) (rk BK363)) : gb367 ≠ gb363)); clear BK363; clear HB; have BK363 := n0_; have HB := n1_; have BK367 := n2_; have GW367 := n3_; have GE367 := n4_; have NB363_367 := n5_; have NB367_363 := n6_; clear n0_ n1_ n2_ n3_ n4_ n5_ n6_; clear hb hbox hg; have hnb37 := NB367_363.out; have hnc37 := NB363_367.out; have hcz38_0 : w36.cell? ⟨gb367, 0, none⟩ = some (.int .i64 0) := (blk_cell BK367.out 0).trans rfl; have hcz38_1 : w36.cell? ⟨gb367, 1, none⟩ = some (.int .i64 0) := (blk_cell BK367.out 1).trans rfl; have hcz38_2 : w36.cell? ⟨gb367, 2, none⟩ = some (.bool false) := (blk_cell BK367.out 2).trans rfl; have hfz38_0 := blk_frozen BK367.out 0; have hfz38_1 := blk_frozen BK367.out 1; have hfz38_2 := blk_frozen BK367.out 2; have p34 : 0 ≤ (0 : Int) := (by omega); have q34 : 0 < a0.size := (by have : (0 : Int) < (a0.size : Int) := dt_; omega); have hx34 : ∀ h : 0 < a0.size, ((a0[0]'h).toNat : Int) = bt a0 0 := bt_at a0 0; clear p34; have qi34 : (0 < (a0.size : Int)) = True := eq_true dt_; replace q34 := eq_true q34))
         (try simp only [Act.put, List.setIfInBounds_toArray, List.set_cons_zero, List.set_cons_succ])
         go_cut [8] (fun v8 wc => ∃ (kq : Nat) (x8_34 : Int) (x368002_34 : Bool), v8 = .int .i64 x8_34 ∧ Aside0 (spec_l13Key.j2 kq a0 x8_34 1 0 x368002_34 = some (r1, r2, r3, r4)) ∧ Aside0 (kq ≤ kj17) ∧ Aside0 (wc.heap[gb363]? = some (.cells #[.int .i64 x364000_17, .int .i64 x364001_17, .bool x364002_17] 50 (0, 0))) ∧ Aside0 (wc.heap[gb367]? = some (.cells #[.int .i64 1, .int .i64 0, .bool x368002_34] 50 (0, 0))) ∧ Aside0 (Below w.heap.size w wc))
         case first =>
          have H := HC35.out
          clear HC35
          by_cases c39 : (bt a0 0) = 27
          ·rw [if_pos c39] at H
           have c39b0 : ((bt a0 0) == 27) = true := beq_iff_eq.mpr c39
           have c39b1 : ((bt a0 0) != 27) = false := bne_eq_false_iff_eq.mpr c39
           clear c39
           (first | rw [c39b0] | rw [c39b1] | (simp only [i64_w, i32_w]; rw [c39b0]) | skip)
           have H' := am H
           clear H
           have hnb40 := NB367_363.out
           have hnc40 := NB363_367.out
           have hcz41_0 : w36.cell? ⟨gb367, 0, none⟩ = some (.int .i64 0) := (blk_cell BK367.out 0).trans rfl
           have hcz41_1 : w36.cell? ⟨gb367, 1, none⟩ = some (.int .i64 0) := (blk_cell BK367.out 1).trans rfl
           have hcz41_2 : w36.cell? ⟨gb367, 2, none⟩ = some (.bool false) := (blk_cell BK367.out 2).trans rfl
           have hfz41_0 := blk_frozen BK367.out 0
           have hfz41_1 := blk_frozen BK367.out 1
           have hfz41_2 := blk_frozen BK367.out 2
           go_wp2
           go_meet
           case rel => exact ⟨_, (1), (true), (by first | rfl | (simp; done) | (simp [*]; done)), H', ⟨by have := HK1.out; have := HJ17.out; first | omega | exact Nat.le_refl _⟩, ⟨by (with_reducible repeat (first | apply k1 | apply k2 | apply k3)); refine blk_far ?_ NB363_367.out _; (with_reducible repeat (first | apply k1 | apply k2 | apply k3)); refine blk_far ?_ NB363_367.out _; (with_reducible repeat (first | apply k1 | apply k2 | apply k3)); refine blk_far ?_ NB363_367.out _; (with_reducible repeat (first | apply k1 | apply k2 | apply k3)); refine blk_far ?_ NB363_367.out _; (with_reducible repeat (first | apply k1 | apply k2 | apply k3)); exact BK363.out⟩, ⟨by (with_reducible repeat (first | apply k1 | apply k2 | apply k3)); refine blk_put (cs := #[.int .i64 1, .int .i64 0, .bool false]) ?_ 2 _ rfl; (with_reducible repeat (first | apply k1 | apply k2 | apply k3)); refine blk_put (cs := #[.int .i64 1, .int .i64 0, .bool false]) ?_ 2 _ rfl; (with_reducible repeat (first | apply k1 | apply k2 | apply k3)); refine blk_put (cs := #[.int .i64 1, .int .i64 0, .bool false]) ?_ 1 _ rfl; (with_reducible repeat (first | apply k1 | apply k2 | apply k3)); refine blk_put (cs := #[.int .i64 0, .int .i64 0, .bool false]) ?_ 0 _ rfl; (with_reducible repeat (first | apply k1 | apply k2 | apply k3)); exact BK367.out⟩, ⟨rb2 HB GE363 GE367⟩⟩
          ·rw [if_neg c39] at H
           have c39b0 : ((bt a0 0) == 27) = false := beq_eq_false_iff_ne.mpr c39
           have c39b1 : ((bt a0 0) != 27) = true := bne_iff_ne.mpr c39
           (first | rw [c39b0] | rw [c39b1] | (simp only [i64_w, i32_w]; rw [c39b0]) | skip)
           have H' := am H
           clear H
           go_wp2
           go_meet
           case rel => exact ⟨_, (0), (false), (by first | rfl | (simp; done) | (simp [*]; done)), H', ⟨by have := HK1.out; have := HJ17.out; first | omega | exact Nat.le_refl _⟩, ⟨by (with_reducible repeat (first | apply k1 | apply k2 | apply k3)); refine blk_far ?_ NB363_367.out _; (with_reducible repeat (first | apply k1 | apply k2 | apply k3)); refine blk_far ?_ NB363_367.out _; (with_reducible repeat (first | apply k1 | apply k2 | apply k3)); refine blk_far ?_ NB363_367.out _; (with_reducible repeat (first | apply k1 | apply k2 | apply k3)); exact BK363.out⟩, ⟨by (with_reducible repeat (first | apply k1 | apply k2 | apply k3)); refine blk_put (cs := #[.int .i64 1, .int .i64 0, .bool false]) ?_ 2 _ rfl; (with_reducible repeat (first | apply k1 | apply k2 | apply k3)); refine blk_put (cs := #[.int .i64 1, .int .i64 0, .bool false]) ?_ 1 _ rfl; (with_reducible repeat (first | apply k1 | apply k2 | apply k3)); refine blk_put (cs := #[.int .i64 0, .int .i64 0, .bool false]) ?_ 0 _ rfl; (with_reducible repeat (first | apply k1 | apply k2 | apply k3)); exact BK367.out⟩, ⟨rb2 HB GE363 GE367⟩⟩
         case rest =>
          clear HC35
          try clear c1
          try clear p1
          try clear q1
          try clear hx1
          try clear qi1
          try clear c2
          try clear c2b0
          try clear c2b1
          try clear p2
          try clear q2
          try clear hx2
          try clear qi2
          try clear c3
          try clear p3
          try clear q3
          try clear hx3
          try clear qi3
          try clear c4
          try clear c6
          try clear c6b0
          try clear p6
          try clear c7
          try clear c8
          try clear c8b0
          try clear c8b1
          try clear c9
          try clear c9b0
          try clear c9b1
          try clear c10
          try clear c10b0
          try clear c10b1
          try clear c11
          try clear c11b0
          try clear c11b1
          try clear c16
          try clear c16b0
          try clear c16b1
          try clear p17
          try clear q17
          try clear hx17
          try clear qi17
          try clear c19
          try clear c19b0
          try clear p20
          try clear q20
          try clear hx20
          try clear qi20
          try clear c22
          try clear c24
          try clear c30
          try clear c33
          try clear c33b0
          try clear c33b1
          try clear p34
          try clear q34
          try clear hx34
          try clear qi34
          try clear c37
          try clear c39
          try clear c39b0
          try clear c39b1
          try clear c40
          try clear hcz13_0
          try clear hcz13_1
          try clear hcz13_2
          try clear hcz25_0
          try clear hcz25_1
          try clear hcz25_2
          try clear hcz27_0
          try clear hcz27_1
          try clear hcz27_2
          try clear hcz28_0
          try clear hcz28_1
          try clear hcz28_2
          try clear hcz31_0
          try clear hcz31_1
          try clear hcz31_2
          try clear hcz38_0
          try clear hcz38_1
          try clear hcz38_2
          try clear hcz41_0
          try clear hcz41_1
          try clear hcz41_2
          try clear hcz4_0
          try clear hcz4_1
          try clear hcz4_2
          try clear hfz13_0
          try clear hfz13_1
          try clear hfz13_2
          try clear hfz25_0
          try clear hfz25_1
          try clear hfz25_2
          try clear hfz27_0
          try clear hfz27_1
          try clear hfz27_2
          try clear hfz28_0
          try clear hfz28_1
          try clear hfz28_2
          try clear hfz31_0
          try clear hfz31_1
          try clear hfz31_2
          try clear hfz38_0
          try clear hfz38_1
          try clear hfz38_2
          try clear hfz41_0
          try clear hfz41_1
          try clear hfz41_2
          try clear hfz4_0
          try clear hfz4_1
          try clear hfz4_2
          try clear p1
          try clear p17
          try clear p2
          try clear p20
          try clear p34
          try clear p6
          try clear q1
          try clear q17
          try clear q2
          try clear q20
          try clear q34
          obtain ⟨kq, x8_34, x368002_34, rfl, HA, HJ34, BK363, BK367, HB⟩ := hcut
          cases kq with
          | zero => exact absurd HA.out (by simp [spec_l13Key.j2])
          | succ kj34 =>
           have H := HA.out
           clear HA
           simp only [spec_l13Key.j2] at H
           refine em_ (p := 0 ≤ x8_34) (fun c42 => ?g10p) (fun c42 => ?g10n)
           case' g10p =>
            rw [if_pos c42] at H
            have c42b0 := eq_true c42
            have c42b1 : decide (0 ≤ x8_34) = true := decide_eq_true c42
            clear c42
            refine em_ (p := x8_34 ≤ (a0.size : Int)) (fun c43 => ?g9p) (fun c43 => ?g9n)
            case' g9p =>
             rw [if_pos c43] at H
             have c43b0 := eq_true c43
             have c43b1 : decide (x8_34 ≤ (a0.size : Int)) = true := decide_eq_true c43
             clear c43
             replace H := Option.bind_eq_some_iff.mp H
             obtain ⟨⟨t368, t369⟩, A440, H⟩ := H
             (try dsimp only at H)
             have A44 := am A440
             clear A440
             replace H := Option.bind_eq_some_iff.mp H
             obtain ⟨t370, A450, H⟩ := H
             (try dsimp only at H)
             have A45 := am A450
             clear A450
             refine em_ (p := t370.toList = ([] : List UInt8)) (fun c46 => ?g8p) (fun c46 => ?g8n)
             case' g8p =>
              rw [if_pos c46] at H
              have c46b0 : (t370.toList == ([] : List UInt8)) = true := beq_iff_eq.mpr c46
              have c46b1 : (t370.toList != ([] : List UInt8)) = false := bne_eq_false_iff_eq.mpr c46
              clear c46
              simp only [Option.some.injEq, Prod.mk.injEq] at H
              obtain ⟨rfl, rfl, rfl, rfl⟩ := H
              have lf15_ := trivial
             case' g8n =>
              rw [if_neg c46] at H
              have c46b0 : (t370.toList == ([] : List UInt8)) = false := beq_eq_false_iff_ne.mpr c46
              have c46b1 : (t370.toList != ([] : List UInt8)) = true := bne_iff_ne.mpr c46
              refine em_ (p := (wrap64 (x8_34 + t369)) > (a0.size : Int)) (fun c52 => ?g7p) (fun c52 => ?g7n)
              case' g7p =>
               rw [if_pos c52] at H
               have c52b0 : decide ((a0.size : Int) < (wrap64 (x8_34 + t369))) = true := decide_eq_true c52
               clear c52
               simp only [Option.some.injEq, Prod.mk.injEq] at H
               obtain ⟨rfl, rfl, rfl, rfl⟩ := H
               have lf16_ := trivial
              case' g7n =>
               rw [if_neg c52] at H
               have c52b0 : decide ((a0.size : Int) < (wrap64 (x8_34 + t369))) = false := decide_eq_false c52
               clear c52
               obtain ⟨ji58, hji58⟩ : ∃ j_ : Int, (wrap64 (x8_34 + t369)) = j_ := ⟨_, rfl⟩
               replace H : (if 0 ≤ (ji58) then (if (ji58) ≤ (a0.size : Int) then (if (a0.extract 0 ((ji58) : Int).toNat).toList = t370.toList then (some (1, t368, x368002_34, ji58)) else (some (0, 0, false, 0))) else (none)) else (none)) = some (r1, r2, r3, r4) := by first | (rw [hji58] at H; exact H) | (simp only [hji58] at H ⊢; exact H)
               (try rw [hji58] at c52b0)
               (try rw [hji58] at A44)
               (try rw [hji58] at A45)
               have hji58w : (IntKind.i64.wrap (x8_34 + t369)) = ji58 := (i64_w _).trans hji58
               refine em_ (p := 0 ≤ (ji58)) (fun c59 => ?g6p) (fun c59 => ?g6n)
               case' g6p =>
                rw [if_pos c59] at H
                have c59b0 := eq_true c59
                have c59b1 : decide (0 ≤ (ji58)) = true := decide_eq_true c59
                clear c59
                refine em_ (p := (ji58) ≤ (a0.size : Int)) (fun c60 => ?g5p) (fun c60 => ?g5n)
                case' g5p =>
                 rw [if_pos c60] at H
                 have c60b0 := eq_true c60
                 have c60b1 : decide ((ji58) ≤ (a0.size : Int)) = true := decide_eq_true c60
                 clear c60
                 refine em_ (p := (a0.extract 0 ((ji58) : Int).toNat).toList = t370.toList) (fun c61 => ?g4p) (fun c61 => ?g4n)
                 case' g4p =>
                  rw [if_pos c61] at H
                  have c61b0 : ((a0.extract 0 ((ji58) : Int).toNat).toList == t370.toList) = true := beq_iff_eq.mpr c61
                  have c61b1 : ((a0.extract 0 ((ji58) : Int).toNat).toList != t370.toList) = false := bne_eq_false_iff_eq.mpr c61
                  clear c61
                  simp only [Option.some.injEq, Prod.mk.injEq] at H
                  obtain ⟨rfl, rfl, rfl, rfl⟩ := H
                  have lf17_ := trivial
                 case' g4n =>
                  rw [if_neg c61] at H
                  have c61b0 : ((a0.extract 0 ((ji58) : Int).toNat).toList == t370.toList) = false := beq_eq_false_iff_ne.mpr c61
                  have c61b1 : ((a0.extract 0 ((ji58) : Int).toNat).toList != t370.toList) = true := bne_iff_ne.mpr c61
                  simp only [Option.some.injEq, Prod.mk.injEq] at H
                  obtain ⟨rfl, rfl, rfl, rfl⟩ := H
                  have lf18_ := trivial
                case g5n =>
                 rw [if_neg c60] at H
                 exact absurd H (by simp)
               case g6n =>
                rw [if_neg c59] at H
                exact absurd H (by simp)
            case g9n =>
             rw [if_neg c43] at H
             exact absurd H (by simp)
           case g10n =>
            rw [if_neg c42] at H
            exact absurd H (by simp)
           all_goals
            go_wp2_with (first | ((with_reducible refine gate_callee (f := 45) rfl ?_); refine gl_ (some 64) Tryd.func45 #[.agg #[.int .i64 1, .int .i64 t368, .bool x368002_34]] ?_; (with_reducible refine (spec_Sent.calls kj34 1 t368 x368002_34 t370 _ A45.out).mono ?_); rintro e w65 ⟨rfl, hb⟩; refine ⟨_, rfl, ?_⟩; have n0_ := am (blk_below (g := gb363) (o := .cells #[.int .i64 x364000_17, .int .i64 x364001_17, .bool x364002_17] 50 (0, 0)) (by (with_reducible repeat (first | apply k1 | apply k2 | apply k3)); refine blk_far ?_ NB363_367.out _; (with_reducible repeat (first | apply k1 | apply k2 | apply k3)); exact BK363.out) hb); have n1_ := am (blk_below (g := gb367) (o := .cells #[.int .i64 1, .int .i64 t368, .bool x368002_34] 50 (0, 0)) (by (with_reducible repeat (first | apply k1 | apply k2 | apply k3)); refine blk_put (cs := #[.int .i64 1, .int .i64 0, .bool x368002_34]) ?_ 1 _ rfl; (with_reducible repeat (first | apply k1 | apply k2 | apply k3)); exact BK367.out) hb); have n2_ := am (below_step (rb2 HB GE363 GE367) hb); clear BK363; clear BK367; clear HB; have BK363 := n0_; have BK367 := n1_; have HB := n2_; clear n0_ n1_ n2_; (try clear hb); (try clear hb2); (try clear hk); (try clear hi); have hcz66_0 : w65.cell? ⟨gb367, 0, none⟩ = some (.int .i64 1) := (blk_cell BK367.out 0).trans rfl; have hcz66_1 : w65.cell? ⟨gb367, 1, none⟩ = some (.int .i64 t368) := (blk_cell BK367.out 1).trans rfl; have hcz66_2 : w65.cell? ⟨gb367, 2, none⟩ = some (.bool x368002_34) := (blk_cell BK367.out 2).trans rfl; have hfz66_0 := blk_frozen BK367.out 0; have hfz66_1 := blk_frozen BK367.out 1; have hfz66_2 := blk_frozen BK367.out 2; have hcz67_0 : w65.cell? ⟨gb363, 0, none⟩ = some (.int .i64 x364000_17) := (blk_cell BK363.out 0).trans rfl; have hcz67_1 : w65.cell? ⟨gb363, 1, none⟩ = some (.int .i64 x364001_17) := (blk_cell BK363.out 1).trans rfl; have hcz67_2 : w65.cell? ⟨gb363, 2, none⟩ = some (.bool x364002_17) := (blk_cell BK363.out 2).trans rfl; have hfz67_0 := blk_frozen BK363.out 0; have hfz67_1 := blk_frozen BK363.out 1; have hfz67_2 := blk_frozen BK363.out 2) | ((with_reducible refine gate_callee (f := 45) rfl ?_); refine gl_ (some 64) Tryd.func45 #[.agg #[.int .i64 1, .int .i64 t368, .bool x368002_34]] ?_; (with_reducible refine (spec_Sent.calls kj34 1 t368 x368002_34 t370 _ A45.out).mono ?_); rintro e w50 ⟨rfl, hb⟩; refine ⟨_, rfl, ?_⟩; have n0_ := am (blk_below (g := gb363) (o := .cells #[.int .i64 x364000_17, .int .i64 x364001_17, .bool x364002_17] 50 (0, 0)) (by (with_reducible repeat (first | apply k1 | apply k2 | apply k3)); refine blk_far ?_ NB363_367.out _; (with_reducible repeat (first | apply k1 | apply k2 | apply k3)); exact BK363.out) hb); have n1_ := am (blk_below (g := gb367) (o := .cells #[.int .i64 1, .int .i64 t368, .bool x368002_34] 50 (0, 0)) (by (with_reducible repeat (first | apply k1 | apply k2 | apply k3)); refine blk_put (cs := #[.int .i64 1, .int .i64 0, .bool x368002_34]) ?_ 1 _ rfl; (with_reducible repeat (first | apply k1 | apply k2 | apply k3)); exact BK367.out) hb); have n2_ := am (below_step (rb2 HB GE363 GE367) hb); clear BK363; clear BK367; clear HB; have BK363 := n0_; have BK367 := n1_; have HB := n2_; clear n0_ n1_ n2_; (try clear hb); (try clear hb2); (try clear hk); (try clear hi); have hcz51_0 : w50.cell? ⟨gb363, 0, none⟩ = some (.int .i64 x364000_17) := (blk_cell BK363.out 0).trans rfl; have hcz51_1 : w50.cell? ⟨gb363, 1, none⟩ = some (.int .i64 x364001_17) := (blk_cell BK363.out 1).trans rfl; have hcz51_2 : w50.cell? ⟨gb363, 2, none⟩ = some (.bool x364002_17) := (blk_cell BK363.out 2).trans rfl; have hfz51_0 := blk_frozen BK363.out 0; have hfz51_1 := blk_frozen BK363.out 1; have hfz51_2 := blk_frozen BK363.out 2) | ((with_reducible refine gate_callee (f := 16) rfl ?_); refine gl_ (some 58) Tryd.func16 #[.string (a0.extract (x8_34 : Int).toNat a0.size)] ?_; (with_reducible refine (spec_Get.calls kj34 (a0.extract (x8_34 : Int).toNat a0.size) t368 t369 _ A44.out).mono ?_); rintro e w47 ⟨rfl, hb⟩; refine ⟨_, rfl, ?_⟩; have n0_ := am (blk_below (g := gb363) (o := .cells #[.int .i64 x364000_17, .int .i64 x364001_17, .bool x364002_17] 50 (0, 0)) (rk BK363) hb); have n1_ := am (blk_below (g := gb367) (o := .cells #[.int .i64 1, .int .i64 0, .bool x368002_34] 50 (0, 0)) (rk BK367) hb); have n2_ := am (below_step (rb2 HB GE363 GE367) hb); clear BK363; clear BK367; clear HB; have BK363 := n0_; have BK367 := n1_; have HB := n2_; clear n0_ n1_ n2_; (try clear hb); (try clear hb2); (try clear hk); (try clear hi); have hnb48 := NB367_363.out; have hnc48 := NB363_367.out; have hcz49_0 : w47.cell? ⟨gb367, 0, none⟩ = some (.int .i64 1) := (blk_cell BK367.out 0).trans rfl; have hcz49_1 : w47.cell? ⟨gb367, 1, none⟩ = some (.int .i64 0) := (blk_cell BK367.out 1).trans rfl; have hcz49_2 : w47.cell? ⟨gb367, 2, none⟩ = some (.bool x368002_34) := (blk_cell BK367.out 2).trans rfl; have hfz49_0 := blk_frozen BK367.out 0; have hfz49_1 := blk_frozen BK367.out 1; have hfz49_2 := blk_frozen BK367.out 2))
            first
            | (
              have q_ := lf17_
              refine bodyPost_ret (results_ct rfl _ _ gb363 50 #[.int .i64 1, .int .i64 t368, .bool x368002_34] (0, 0) _ rfl (by (with_reducible repeat (first | apply k1 | apply k2 | apply k3)); refine blk_put (cs := #[.int .i64 1, .int .i64 t368, .bool x364002_17]) ?_ 2 _ rfl; (with_reducible repeat (first | apply k1 | apply k2 | apply k3)); refine blk_put (cs := #[.int .i64 1, .int .i64 x364001_17, .bool x364002_17]) ?_ 1 _ rfl; (with_reducible repeat (first | apply k1 | apply k2 | apply k3)); refine blk_put (cs := #[.int .i64 x364000_17, .int .i64 x364001_17, .bool x364002_17]) ?_ 0 _ rfl; (with_reducible repeat (first | apply k1 | apply k2 | apply k3)); exact BK363.out) Tryd.underlying50 rfl (by kernel_rfl)) rfl ?_
              exact ⟨by first | rfl | (simp [errW_none, errW_some] <;> rfl) | (simp only [← hji58]; first | rfl | (simp [errW_none, errW_some] <;> rfl)) | (simp [*, errW_none, errW_some] <;> rfl), rb2 HB GE363 GE367⟩
              )
            | (
              have q_ := lf18_
              refine bodyPost_ret (results_ct rfl _ _ gb363 50 #[.int .i64 0, .int .i64 0, .bool false] (0, 0) _ rfl (by (with_reducible repeat (first | apply k1 | apply k2 | apply k3)); refine blk_put (cs := #[.int .i64 0, .int .i64 0, .bool x364002_17]) ?_ 2 _ rfl; (with_reducible repeat (first | apply k1 | apply k2 | apply k3)); refine blk_put (cs := #[.int .i64 0, .int .i64 x364001_17, .bool x364002_17]) ?_ 1 _ rfl; (with_reducible repeat (first | apply k1 | apply k2 | apply k3)); refine blk_put (cs := #[.int .i64 x364000_17, .int .i64 x364001_17, .bool x364002_17]) ?_ 0 _ rfl; (with_reducible repeat (first | apply k1 | apply k2 | apply k3)); exact BK363.out) Tryd.underlying50 rfl (by kernel_rfl)) rfl ?_
              exact ⟨by first | rfl | (simp [errW_none, errW_some] <;> rfl) | (simp only [← hji58]; first | rfl | (simp [errW_none, errW_some] <;> rfl)) | (simp [*, errW_none, errW_some] <;> rfl), rb2 HB GE363 GE367⟩
              )
            | (
              first | have q_ := lf15_ | have q_ := lf16_
              refine bodyPost_ret (results_ct rfl _ _ gb363 50 #[.int .i64 0, .int .i64 0, .bool false] (0, 0) _ rfl (by (with_reducible repeat (first | apply k1 | apply k2 | apply k3)); refine blk_put (cs := #[.int .i64 0, .int .i64 0, .bool x364002_17]) ?_ 2 _ rfl; (with_reducible repeat (first | apply k1 | apply k2 | apply k3)); refine blk_put (cs := #[.int .i64 0, .int .i64 x364001_17, .bool x364002_17]) ?_ 1 _ rfl; (with_reducible repeat (first | apply k1 | apply k2 | apply k3)); refine blk_put (cs := #[.int .i64 x364000_17, .int .i64 x364001_17, .bool x364002_17]) ?_ 0 _ rfl; (with_reducible repeat (first | apply k1 | apply k2 | apply k3)); exact BK363.out) Tryd.underlying50 rfl (by kernel_rfl)) rfl ?_
              exact ⟨by first | rfl | (simp [errW_none, errW_some] <;> rfl) | (simp [*, errW_none, errW_some] <;> rfl), rb2 HB GE363 GE367⟩
              )

end Go.Proofs.YtfhkpneffmcdbaaDoor.QC
