/- Contracts of Go functions that laws of this seat reach: each Lean function answers as its Go function does. No condition. Written by wip/tools/inj.py, over the kit's print. -/
import Derived.Test.YtfhkpneffmcdbaaDoorQCx0
import Derived.Test.YtfhkpneffmcdbaaDoorQCx8
import Derived.Test.YtfhkpneffmcdbaaDoorQCx14
namespace Go.Proofs.YtfhkpneffmcdbaaDoor.QC
open Go.RowKit Go.Proofs.YtfhkpneffmcdbaaDoorW.PrintWords Go.Proofs.YtfhkpneffmcdbaaDoorW.PrintLast Go.Proofs.YtfhkpneffmcdbaaDoorW.PrintMore
attribute [local go_sem] max2_int min2_int max_two min_two max_three min_three max_four min_four   -- for this text's walks alone
set_option linter.unusedVariables false
set_option linter.unusedSimpArgs false

/-! ### spec_Get: function 16 -/
mutual
def spec_Get.j0 : Nat → ByteArray → Int → Bool → Option (Int × Int)
 | 0, _, _, _ => none
 | k + 1, x0, x4, x19 => if x19 = true then (some (65533, 1)) else (if 0 < (x0.size : Int) then (if x4 > 1 then (if 0 ≤ (IntKind.u64.wrap (wrap64 (7 - x4))) then (if (shl .i64 1 (IntKind.u64.wrap (wrap64 (7 - x4)))) = 0 then (none) else (spec_Get.j1 k x0 x4 (Int.tmod (wrap64 (bt x0 0)) (shl .i64 1 (IntKind.u64.wrap (wrap64 (7 - x4))))))) else (none)) else (spec_Get.j1 k x0 x4 (wrap64 (bt x0 0)))) else (none))
def spec_Get.j1 : Nat → ByteArray → Int → Int → Option (Int × Int)
 | 0, _, _, _ => none
 | k + 1, x0, x4, x5 => spec_Get.l0 k x0 x4 x5 1
def spec_Get.l0 : Nat → ByteArray → Int → Int → Int → Option (Int × Int)
 | 0, _, _, _, _ => none
 | k + 1, x0, x4, x5, x6 => if x6 < x4 then (if 0 ≤ x6 then (if x6 < (x0.size : Int) then (spec_Get.l0 k x0 x4 (wrap64 ((wrap64 (x5 * 64)) + (wrap64 (Int.tmod (bt x0 x6) 64)))) (wrap64 (x6 + 1))) else (none)) else (none)) else ((spec_Put.f x5).bind fun t362 => (if 0 ≤ x4 then (if x4 ≤ (x0.size : Int) then (if t362.toList = (x0.extract 0 (x4 : Int).toNat).toList then (some (x5, x4)) else (some (65533, 1))) else (none)) else (none)))
end
def spec_Get.f (k : Nat) (a0 : ByteArray) : Option (Int × Int) := if a0.toList = ([] : List UInt8) then (some (0, 0)) else (if 0 < (a0.size : Int) then ((spec_l1Long.f k (bt a0 0)).bind fun t361 => (if t361 = 0 then (spec_Get.j0 k a0 t361 true) else (spec_Get.j0 k a0 t361 (decide (t361 > (a0.size : Int)))))) else (none))
theorem spec_Get.mono_l : ∀ k, (∀ y0 y1 y2, LeO (spec_Get.j0 k y0 y1 y2) (spec_Get.j0 (k + 1) y0 y1 y2)) ∧ (∀ y0 y1 y2, LeO (spec_Get.j1 k y0 y1 y2) (spec_Get.j1 (k + 1) y0 y1 y2)) ∧ (∀ y0 y1 y2 y3, LeO (spec_Get.l0 k y0 y1 y2 y3) (spec_Get.l0 (k + 1) y0 y1 y2 y3))
 | 0 => ⟨fun _ _ _ r h => by simp [spec_Get.j0] at h, fun _ _ _ r h => by simp [spec_Get.j1] at h, fun _ _ _ _ r h => by simp [spec_Get.l0] at h⟩
 | k + 1 => by
  obtain ⟨ih0, ih1, ih2⟩ := spec_Get.mono_l k
  refine ⟨?_, ?_, ?_⟩
  ·intro y0 y1 y2
   unfold spec_Get.j0
   repeat' first
   | (with_reducible exact ih0 _ _ _)
   | (with_reducible exact ih1 _ _ _)
   | (with_reducible exact ih2 _ _ _ _)
   | (with_reducible exact spec_l1Long.mono _ _)
   | (with_reducible exact LeO.refl _)
   | (with_reducible exact LeO.none _)
   | (with_reducible refine LeO.ite ?_ ?_)
   | (with_reducible refine LeO.bind ?_ (fun _ => ?_))
  ·intro y0 y1 y2
   unfold spec_Get.j1
   repeat' first
   | (with_reducible exact ih0 _ _ _)
   | (with_reducible exact ih1 _ _ _)
   | (with_reducible exact ih2 _ _ _ _)
   | (with_reducible exact spec_l1Long.mono _ _)
   | (with_reducible exact LeO.refl _)
   | (with_reducible exact LeO.none _)
   | (with_reducible refine LeO.ite ?_ ?_)
   | (with_reducible refine LeO.bind ?_ (fun _ => ?_))
  ·intro y0 y1 y2 y3
   unfold spec_Get.l0
   repeat' first
   | (with_reducible exact ih0 _ _ _)
   | (with_reducible exact ih1 _ _ _)
   | (with_reducible exact ih2 _ _ _ _)
   | (with_reducible exact spec_l1Long.mono _ _)
   | (with_reducible exact LeO.refl _)
   | (with_reducible exact LeO.none _)
   | (with_reducible refine LeO.ite ?_ ?_)
   | (with_reducible refine LeO.bind ?_ (fun _ => ?_))
theorem spec_Get.mono : ∀ a0 k, LeO (spec_Get.f k a0) (spec_Get.f (k + 1) a0) := by
 intro a0 k
 obtain ⟨ih0, ih1, ih2⟩ := spec_Get.mono_l k
 unfold spec_Get.f
 repeat' first
   | (with_reducible exact ih0 _ _ _)
   | (with_reducible exact ih1 _ _ _)
   | (with_reducible exact ih2 _ _ _ _)
   | (with_reducible exact spec_l1Long.mono _ _)
   | (with_reducible exact LeO.refl _)
   | (with_reducible exact LeO.none _)
   | (with_reducible refine LeO.ite ?_ ?_)
   | (with_reducible refine LeO.bind ?_ (fun _ => ?_))
set_option maxHeartbeats 8000000 in
set_option maxRecDepth 100000 in
theorem spec_Get.calls (k : Nat) (a0 : ByteArray) (r1 : Int) (r2 : Int) (w : World) (h : spec_Get.f k a0 = some (r1, r2)) :
  Calls Tryd.prog 16 #[.string a0] w fun e w' => e = .returned (.tuple #[.int .i64 r1, .int .i64 r2]) ∧ Below w.heap.size w w' := by
 have HB := am (Below.refl w.heap.size w)
 have H := h
 unfold spec_Get.f at H
 clear h
 by_cases c2 : a0.toList = ([] : List UInt8)
 ·rw [if_pos c2] at H
  have c2b0 : (a0.toList == ([] : List UInt8)) = true := beq_iff_eq.mpr c2
  have c2b1 : (a0.toList != ([] : List UInt8)) = false := bne_eq_false_iff_eq.mpr c2
  clear c2
  simp only [Option.some.injEq, Prod.mk.injEq] at H
  obtain ⟨rfl, rfl⟩ := H
  go_enter Tryd.func16, Tryd.ntmps16
  go_wp2
  go_ret2
  exact ⟨by first | rfl | (simp [errW_none, errW_some] <;> rfl) | (simp [*, errW_none, errW_some] <;> rfl), by repeat (first | (with_reducible first | exact HB.out | apply b1 | apply b2 | apply b3) | exact HB.out)⟩
 ·rw [if_neg c2] at H
  have c2b0 : (a0.toList == ([] : List UInt8)) = false := beq_eq_false_iff_ne.mpr c2
  have c2b1 : (a0.toList != ([] : List UInt8)) = true := bne_iff_ne.mpr c2
  refine em_ (p := 0 < (a0.size : Int)) (fun c3 => ?g0p) (fun c3 => ?g0n)
  case' g0p =>
   rw [if_pos c3] at H
   have c3b0 : decide (0 < (a0.size : Int)) = true := decide_eq_true c3
   have c3b1 : decide (0 < a0.size) = true := decide_eq_true (by omega)
   clear c3
   replace H := Option.bind_eq_some_iff.mp H
   obtain ⟨t361, A50, H⟩ := H
   (try dsimp only at H)
   have A5 := am A50
   clear A50
   have HC6 := am H
   clear H
   have lf2_ := trivial
  case g0n =>
   rw [if_neg c3] at H
   exact absurd H (by simp)
  all_goals
   have p4 : 0 ≤ (0 : Int) := (by omega)
   have q4 : 0 < a0.size := (by have : (0 : Int) < (a0.size : Int) := dt_; omega)
   have hx4 : ∀ h : 0 < a0.size, ((a0[0]'h).toNat : Int) = bt a0 0 := bt_at a0 0
   clear p4
   have qi4 : (0 < (a0.size : Int)) = True := eq_true dt_
   replace q4 := eq_true q4
   go_enter Tryd.func16, Tryd.ntmps16
   go_upto_region 4 with (first | ((with_reducible refine gate_callee (f := 56) rfl ?_); refine gl_ (some 11) Tryd.func56 #[.int .u8 (bt a0 0)] ?_; (with_reducible refine (spec_l1Long.calls k (bt a0 0) t361 _ A5.out).mono ?_); rintro e w' ⟨rfl, ⟨nd, rfl⟩⟩; refine ⟨_, rfl, ?_⟩))
   (try simp only [Act.put, List.setIfInBounds_toArray, List.set_cons_zero, List.set_cons_succ])
   go_cut [19] (fun v19 wc => ∃ (kq : Nat) (x19_5 : Bool), v19 = .bool x19_5 ∧ Aside0 (spec_Get.j0 kq a0 t361 x19_5 = some (r1, r2)) ∧ Aside0 (kq ≤ k) ∧ Aside0 (Below w.heap.size w wc))
   case first =>
    have H := HC6.out
    clear HC6
    by_cases c7 : t361 = 0
    ·rw [if_pos c7] at H
     have c7b0 : (t361 == 0) = true := beq_iff_eq.mpr c7
     have c7b1 : (t361 != 0) = false := bne_eq_false_iff_eq.mpr c7
     clear c7
     (first | rw [c7b0] | rw [c7b1] | (simp only [i64_w, i32_w]; rw [c7b0]) | skip)
     have H' := am H
     clear H
     go_wp2
     go_meet
     case rel => exact ⟨_, (true), (by first | rfl | (simp; done) | (simp [*]; done)), H', ⟨by first | omega | exact Nat.le_refl _⟩, ⟨rb HB⟩⟩
    ·rw [if_neg c7] at H
     have c7b0 : (t361 == 0) = false := beq_eq_false_iff_ne.mpr c7
     have c7b1 : (t361 != 0) = true := bne_iff_ne.mpr c7
     (first | rw [c7b0] | rw [c7b1] | (simp only [i64_w, i32_w]; rw [c7b0]) | skip)
     have H' := am H
     clear H
     go_wp2
     go_meet
     case rel => exact ⟨_, (decide (t361 > (a0.size : Int))), (by first | rfl | (simp; done) | (simp [*]; done)), H', ⟨by first | omega | exact Nat.le_refl _⟩, ⟨rb HB⟩⟩
   case rest =>
    clear HC6
    try clear c1
    try clear c2
    try clear c2b0
    try clear c2b1
    try clear p2
    try clear c3
    try clear c3b0
    try clear c3b1
    try clear p4
    try clear q4
    try clear hx4
    try clear qi4
    try clear c5
    try clear c7
    try clear c7b0
    try clear c7b1
    try clear p4
    try clear q4
    obtain ⟨kq, x19_5, rfl, HA, HJ5, HB⟩ := hcut
    cases kq with
    | zero => exact absurd HA.out (by simp [spec_Get.j0])
    | succ kj5 =>
     have H := HA.out
     clear HA
     simp only [spec_Get.j0] at H
     by_cases c8 : x19_5 = true
     ·subst c8
      have H1 : (some (65533, 1)) = some (r1, r2) := by rw [if_pos rfl] at H; exact H
      clear H
      have H := H1
      clear H1
      simp only [Option.some.injEq, Prod.mk.injEq] at H
      obtain ⟨rfl, rfl⟩ := H
      go_wp2
      go_ret2
      exact ⟨by first | rfl | (simp [errW_none, errW_some] <;> rfl) | (simp [*, errW_none, errW_some] <;> rfl), by repeat (first | (with_reducible first | exact HB.out | apply b1 | apply b2 | apply b3) | exact HB.out)⟩
     ·replace c8 := Bool.eq_false_iff.mpr c8
      subst c8
      rw [if_neg (show ¬ (false = true) by decide)] at H
      refine em_ (p := 0 < (a0.size : Int)) (fun c9 => ?g1p) (fun c9 => ?g1n)
      case' g1p =>
       rw [if_pos c9] at H
       have c9b0 : decide (0 < (a0.size : Int)) = true := decide_eq_true c9
       have c9b1 : decide (0 < a0.size) = true := decide_eq_true (by omega)
       clear c9
       have HC11 := am H
       clear H
       have lf6_ := trivial
      case g1n =>
       rw [if_neg c9] at H
       exact absurd H (by simp)
      all_goals
       have p10 : 0 ≤ (0 : Int) := (by omega)
       have q10 : 0 < a0.size := (by have : (0 : Int) < (a0.size : Int) := dt_; omega)
       have hx10 : ∀ h : 0 < a0.size, ((a0[0]'h).toNat : Int) = bt a0 0 := bt_at a0 0
       clear p10
       have qi10 : (0 < (a0.size : Int)) = True := eq_true dt_
       replace q10 := eq_true q10
       go_upto_if 24 with (fail)
       go_cut [5] (fun v5 wc => ∃ (kq : Nat) (x5_10 : Int), v5 = .int .i64 x5_10 ∧ Aside0 (spec_Get.j1 kq a0 t361 x5_10 = some (r1, r2)) ∧ Aside0 (kq ≤ kj5) ∧ Aside0 (Below w.heap.size w wc))
       case first =>
        have H := HC11.out
        clear HC11
        by_cases c12 : t361 > 1
        ·rw [if_pos c12] at H
         have c12b0 : decide (1 < t361) = true := decide_eq_true c12
         clear c12
         (first | rw [c12b0] | (simp only [i64_w, i32_w]; rw [c12b0]) | skip)
         obtain ⟨ji13, hji13⟩ : ∃ j_ : Int, (IntKind.u64.wrap (wrap64 (7 - t361))) = j_ := ⟨_, rfl⟩
         replace H : (if 0 ≤ (ji13) then (if (shl .i64 1 (ji13)) = 0 then (none) else (spec_Get.j1 kj5 a0 t361 (Int.tmod (wrap64 (bt a0 0)) (shl .i64 1 (ji13))))) else (none)) = some (r1, r2) := by first | (rw [hji13] at H; exact H) | (simp only [hji13] at H ⊢; exact H)
         refine em_ (p := 0 ≤ (ji13)) (fun c14 => ?g3p) (fun c14 => ?g3n)
         case' g3p =>
          rw [if_pos c14] at H
          have c14b0 := eq_true c14
          have c14b1 : decide (0 ≤ (ji13)) = true := decide_eq_true c14
          clear c14
          obtain ⟨ji15, hji15⟩ : ∃ j_ : Int, (shl .i64 1 (ji13)) = j_ := ⟨_, rfl⟩
          replace H : (if (ji15) = 0 then (none) else (spec_Get.j1 kj5 a0 t361 (Int.tmod (wrap64 (bt a0 0)) (ji15)))) = some (r1, r2) := by first | (rw [hji15] at H; exact H) | (simp only [hji15] at H ⊢; exact H)
          have hji15_ : (IntKind.i64.wrap (1 * 2 ^ min (ji13).toNat 64)) = ji15 := hji15
          have hji15z : (ji13) ≤ 64 → (IntKind.i64.wrap (1 * 2 ^ (ji13).toNat)) = ji15 := shl_small hji15
          have hji15u : (IntKind.i64.wrap (2 ^ min (ji13).toNat 64)) = ji15 := by have h_ := hji15_; rw [Int.one_mul] at h_; exact h_
          have hji15v : (ji13) ≤ 64 → (IntKind.i64.wrap (2 ^ (ji13).toNat)) = ji15 := fun hle_ => by have h_ := hji15z hle_; rw [Int.one_mul] at h_; exact h_
          have hji15y : (wrap64 (1 * 2 ^ min (ji13).toNat 64)) = ji15 := (i64_w _).symm.trans hji15_
          have hji15x : (ji13) ≤ 64 → (wrap64 (1 * 2 ^ (ji13).toNat)) = ji15 := fun h_ => (i64_w _).symm.trans (hji15z h_)
          refine em_ (p := (ji15) = 0) (fun c16 => ?g2p) (fun c16 => ?g2n)
          case g2p =>
           rw [if_pos c16] at H
           exact absurd H (by simp)
          case' g2n =>
           rw [if_neg c16] at H
           have c16b0 : ((ji15) == 0) = false := beq_eq_false_iff_ne.mpr c16
           have c16b1 : ((ji15) != 0) = true := bne_iff_ne.mpr c16
           have H' := am H
           clear H
           have lf7_ := trivial
         case g3n =>
          rw [if_neg c14] at H
          exact absurd H (by simp)
         all_goals
          go_wp2
          go_meet
          case rel => exact ⟨_, (Int.tmod (wrap64 (bt a0 0)) (ji15)), (by first | rfl | (simp; done) | (simp only [← hji15] <;> (first | rfl | simp)) | (simp [*]; done)), H', ⟨by have := HJ5.out; first | omega | exact Nat.le_refl _⟩, ⟨rb HB⟩⟩
        ·rw [if_neg c12] at H
         have c12b0 : decide (1 < t361) = false := decide_eq_false c12
         clear c12
         (first | rw [c12b0] | (simp only [i64_w, i32_w]; rw [c12b0]) | skip)
         have H' := am H
         clear H
         go_wp2
         go_meet
         case rel => exact ⟨_, (wrap64 (bt a0 0)), (by first | rfl | (simp; done) | (simp [*]; done)), H', ⟨by have := HJ5.out; first | omega | exact Nat.le_refl _⟩, ⟨rb HB⟩⟩
       case rest =>
        clear HC11
        try clear c1
        try clear p1
        try clear q1
        try clear hx1
        try clear qi1
        try clear c2
        try clear c2b0
        try clear c2b1
        try clear p2
        try clear c3
        try clear c3b0
        try clear c3b1
        try clear p4
        try clear q4
        try clear hx4
        try clear qi4
        try clear c5
        try clear p6
        try clear c7
        try clear c7b0
        try clear c7b1
        try clear c8
        try clear c9
        try clear c9b0
        try clear c9b1
        try clear p10
        try clear q10
        try clear hx10
        try clear qi10
        try clear c12
        try clear c12b0
        try clear c14
        try clear c14b0
        try clear c14b1
        try clear c16
        try clear c16b0
        try clear c16b1
        try clear p10
        try clear p2
        try clear p4
        try clear q10
        try clear q4
        obtain ⟨kq, x5_10, rfl, HA, HJ10, HB⟩ := hcut
        cases kq with
        | zero => exact absurd HA.out (by simp [spec_Get.j1])
        | succ kj10 =>
         have H := HA.out
         clear HA
         simp only [spec_Get.j1] at H
         have H' := am H
         clear H
         go_wp2
         go_loopg [5, 6] kj10 (fun kq v5 v6 w' => ∃ (x5_3 : Int) (x6_3 : Int), v5 = .int .i64 x5_3 ∧ v6 = .int .i64 x6_3 ∧ Aside0 (spec_Get.l0 kq a0 t361 x5_3 x6_3 = some (r1, r2)) ∧ Aside0 (kq ≤ kj10) ∧ Aside0 (Below w.heap.size w w'))
         case atStart => exact ⟨(x5_10), (1), (by first | rfl | (simp; done) | (simp [*]; done)), (by first | rfl | (simp; done) | (simp [*]; done)), H', ⟨Nat.le_refl _⟩, ⟨rb HB⟩⟩
         case round =>
          clear H'
          try clear c1
          try clear p1
          try clear q1
          try clear hx1
          try clear qi1
          try clear c2
          try clear c2b0
          try clear c2b1
          try clear p2
          try clear c3
          try clear c3b0
          try clear c3b1
          try clear p4
          try clear q4
          try clear hx4
          try clear qi4
          try clear c5
          try clear p6
          try clear c7
          try clear c7b0
          try clear c7b1
          try clear c8
          try clear c9
          try clear c9b0
          try clear c9b1
          try clear p10
          try clear q10
          try clear hx10
          try clear qi10
          try clear c12
          try clear c12b0
          try clear c14
          try clear c14b0
          try clear c14b1
          try clear c16
          try clear c16b0
          try clear c16b1
          try clear p1
          try clear p10
          try clear p2
          try clear p4
          try clear p6
          try clear q1
          try clear q10
          try clear q4
          obtain ⟨x5_3, x6_3, rfl, rfl, HA, HK3, HB⟩ := hrel
          cases gk with
          | zero => exact absurd HA.out (by simp [spec_Get.l0])
          | succ k3 =>
           have H := HA.out
           clear HA
           simp only [spec_Get.l0] at H
           by_cases c17 : x6_3 < t361
           ·rw [if_pos c17] at H
            have c17b0 : decide (x6_3 < t361) = true := decide_eq_true c17
            clear c17
            refine em_ (p := 0 ≤ x6_3) (fun c18 => ?g5p) (fun c18 => ?g5n)
            case' g5p =>
             rw [if_pos c18] at H
             have c18b0 : decide (0 ≤ x6_3) = true := decide_eq_true c18
             clear c18
             refine em_ (p := x6_3 < (a0.size : Int)) (fun c19 => ?g4p) (fun c19 => ?g4n)
             case' g4p =>
              rw [if_pos c19] at H
              have c19b0 : decide (x6_3 < (a0.size : Int)) = true := decide_eq_true c19
              clear c19
              have H' := am H
              clear H
              have lf9_ := trivial
             case g4n =>
              rw [if_neg c19] at H
              exact absurd H (by simp)
            case g5n =>
             rw [if_neg c18] at H
             exact absurd H (by simp)
            all_goals
             have p20 : 0 ≤ (x6_3 : Int) := dt_
             have q20 : x6_3 < (a0.size : Int) := dt_
             have hx20 := bt_at a0 x6_3
             replace p20 := eq_true p20
             replace q20 := eq_true q20
             go_wp2
             go_roundg k3
             case measure => have := HJ5.out; have := HJ10.out; have := HK3.out; omega
             case rel => exact ⟨(wrap64 ((wrap64 (x5_3 * 64)) + (wrap64 (Int.tmod (bt a0 x6_3) 64)))), (wrap64 (x6_3 + 1)), (by first | rfl | (simp; done) | (simp [*]; done)), (by first | rfl | (simp; done) | (simp [*]; done)), H', ⟨by have := HJ5.out; have := HJ10.out; have := HK3.out; omega⟩, ⟨rb HB⟩⟩
           ·rw [if_neg c17] at H
            have c17b0 : decide (x6_3 < t361) = false := decide_eq_false c17
            clear c17
            replace H := Option.bind_eq_some_iff.mp H
            obtain ⟨t362, A210, H⟩ := H
            (try dsimp only at H)
            have A21 := am A210
            clear A210
            refine em_ (p := 0 ≤ t361) (fun c22 => ?g8p) (fun c22 => ?g8n)
            case' g8p =>
             rw [if_pos c22] at H
             have c22b0 := eq_true c22
             have c22b1 : decide (0 ≤ t361) = true := decide_eq_true c22
             clear c22
             refine em_ (p := t361 ≤ (a0.size : Int)) (fun c23 => ?g7p) (fun c23 => ?g7n)
             case' g7p =>
              rw [if_pos c23] at H
              have c23b0 := eq_true c23
              have c23b1 : decide (t361 ≤ (a0.size : Int)) = true := decide_eq_true c23
              clear c23
              refine em_ (p := t362.toList = (a0.extract 0 (t361 : Int).toNat).toList) (fun c24 => ?g6p) (fun c24 => ?g6n)
              case' g6p =>
               rw [if_pos c24] at H
               have c24b0 : (t362.toList == (a0.extract 0 (t361 : Int).toNat).toList) = true := beq_iff_eq.mpr c24
               have c24b1 : (t362.toList != (a0.extract 0 (t361 : Int).toNat).toList) = false := bne_eq_false_iff_eq.mpr c24
               clear c24
               simp only [Option.some.injEq, Prod.mk.injEq] at H
               obtain ⟨rfl, rfl⟩ := H
               have lf10_ := trivial
              case' g6n =>
               rw [if_neg c24] at H
               have c24b0 : (t362.toList == (a0.extract 0 (t361 : Int).toNat).toList) = false := beq_eq_false_iff_ne.mpr c24
               have c24b1 : (t362.toList != (a0.extract 0 (t361 : Int).toNat).toList) = true := bne_iff_ne.mpr c24
               simp only [Option.some.injEq, Prod.mk.injEq] at H
               obtain ⟨rfl, rfl⟩ := H
               have lf11_ := trivial
             case g7n =>
              rw [if_neg c23] at H
              exact absurd H (by simp)
            case g8n =>
             rw [if_neg c22] at H
             exact absurd H (by simp)
            all_goals
             try go_wp2
             have n0_ := am (below_drew1 HB.out)
             clear HB
             have HB := n0_
             clear n0_
             refine start_ (n := 6) (S := fun w' => True) (ds := []) (bm 6 0) (by kernel_rfl) rfl rfl trivial (fun hHeld => ?_)
             generalize wr.drew = w25 at HB hHeld ⊢
             refine pure_ (i := 0) (N := some 44) (v := ?_) (a' := ?_) (bm 6 1) rfl rfl (by kernel_rfl) (fun _ _ _ h => h) (Or.inl ⟨by rfl, ?_⟩) ?_ ?_
             rotate_left
             ·intro w'
              go_simp
              with_reducible rfl
             rotate_left
             ·simp only [Act.put, List.setIfInBounds_toArray, List.set_cons_zero, List.set_cons_succ, i64_w, i32_w]
              rfl
             refine pure_ (i := 2) (N := some 46) (v := ?_) (a' := ?_) (bm 6 5) rfl rfl (by kernel_rfl) (fun _ _ _ h => h) (Or.inl ⟨by rfl, ?_⟩) ?_ ?_
             rotate_left
             ·intro w'
              go_simp
              with_reducible rfl
             rotate_left
             ·simp only [Act.put, List.setIfInBounds_toArray, List.set_cons_zero, List.set_cons_succ, i64_w, i32_w]
              rfl
             refine pure_ (i := 3) (N := some 47) (v := ?_) (a' := ?_) (bm 6 13) rfl rfl (by kernel_rfl) (fun _ _ _ h => h) (Or.inl ⟨by rfl, ?_⟩) ?_ ?_
             rotate_left
             ·intro w'
              go_simp
              with_reducible rfl
             rotate_left
             ·simp only [Act.put, List.setIfInBounds_toArray, List.set_cons_zero, List.set_cons_succ, i64_w, i32_w]
              rfl
             refine pure_ (i := 4) (N := some 48) (v := ?_) (a' := ?_) (bm 6 29) rfl rfl (by kernel_rfl) (fun _ _ _ h => h) (Or.inl ⟨by rfl, ?_⟩) ?_ ?_
             rotate_left
             ·intro w'
              go_simp
              with_reducible rfl
             rotate_left
             ·simp only [Act.put, List.setIfInBounds_toArray, List.set_cons_zero, List.set_cons_succ, i64_w, i32_w]
              rfl
             refine one_ (i := 1) (N := some 45) (bm 6 31) rfl rfl (by kernel_rfl) (by decide) (fun K hK => ?_)
             refine goes_ Tryd.func17 (by kernel_rfl) rfl #[.int .i64 x5_3] (by rfl) rfl rfl (by (try simp only [List.map_toArray, List.map_cons, List.map_nil]); first | done | rfl | (simp only [List.length_drop, List.length_take]; rfl)) ?_
             with_reducible refine (spec_Put.calls x5_3 t362 _ A21.out).mono ?_
             rintro e w26 ⟨rfl, hb⟩
             refine ⟨_, rfl, ?_⟩
             have n0_ := am (below_step (rb HB) hb)
             clear HB
             have HB := n0_
             clear n0_
             (try clear hb)
             (try clear hb2)
             (try clear hk)
             (try clear hi)
             refine hK.out _ _ trivial (fun hHeld => ?_)
             clear hK K
             refine norm_ (a' := ?_) ?_ ?_
             rotate_left
             ·show Act.put _ (some 45) _ = _
              simp only [Act.put, List.setIfInBounds_toArray, List.set_cons_zero, List.set_cons_succ, i64_w, i32_w]
              rfl
             refine pure_ (i := 5) (N := some 49) (v := ?_) (a' := ?_) (bm 6 63) rfl rfl (by kernel_rfl) (fun _ _ _ h => h) (Or.inl ⟨by rfl, ?_⟩) ?_ ?_
             rotate_left
             ·intro w'
              go_simp
              with_reducible rfl
             rotate_left
             ·simp only [Act.put, List.setIfInBounds_toArray, List.set_cons_zero, List.set_cons_succ, i64_w, i32_w]
              rfl
             refine done_ (by kernel_rfl) ?_
             try go_wp2
             go_ret2
             exact ⟨by first | rfl | (simp [errW_none, errW_some] <;> rfl) | (simp [*, errW_none, errW_some] <;> rfl), by repeat (first | (with_reducible first | exact HB.out | apply b1 | apply b2 | apply b3) | exact HB.out)⟩

end Go.Proofs.YtfhkpneffmcdbaaDoor.QC
