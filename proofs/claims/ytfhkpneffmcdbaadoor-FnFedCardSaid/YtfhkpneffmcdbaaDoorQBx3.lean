/- Contracts of Go functions that laws of this seat reach: each Lean function answers as its Go function does. No condition. Written by wip/tools/inj.py, over the kit's print. -/
import Derived.Test.YtfhkpneffmcdbaaDoorQBx0
import Derived.Test.YtfhkpneffmcdbaaDoorQBx2
namespace Go.Proofs.YtfhkpneffmcdbaaDoor.QB
open Go.RowKit Go.Proofs.YtfhkpneffmcdbaaDoorW.PrintWords Go.Proofs.YtfhkpneffmcdbaaDoorW.PrintLast Go.Proofs.YtfhkpneffmcdbaaDoorW.PrintMore
attribute [local go_sem] max2_int min2_int max_two min_two max_three min_three max_four min_four   -- for this text's walks alone
set_option linter.unusedVariables false
set_option linter.unusedSimpArgs false

/-! ### spec_l1Byte: function 74 -/
def spec_l1Byte.f (s0_0 : List Int) (s0_1 : Int) (s0_2 : Int) : Option (Int × Int × Int) := if s0_1 < (s0_0.length : Int) then (if 0 ≤ s0_1 then (some (Go.bits .and .i64 (wrap64 ((Go.bits .and .i64 (Go.bits .xor .i64 ((wrap64 ((wrap64 (s0_2 * 6364136223846793005)) + 1442695040888963407)) / 8589934592) ((wrap64 ((wrap64 (s0_2 * 6364136223846793005)) + 1442695040888963407)) / 35184372088832)) 255) + (wrap64 (rd s0_0 s0_1)))) 255, wrap64 (s0_1 + 1), wrap64 ((wrap64 (s0_2 * 6364136223846793005)) + 1442695040888963407))) else (none)) else (some (Go.bits .and .i64 (Go.bits .xor .i64 ((wrap64 ((wrap64 (s0_2 * 6364136223846793005)) + 1442695040888963407)) / 8589934592) ((wrap64 ((wrap64 (s0_2 * 6364136223846793005)) + 1442695040888963407)) / 35184372088832)) 255, s0_1, wrap64 ((wrap64 (s0_2 * 6364136223846793005)) + 1442695040888963407)))
set_option maxHeartbeats 8000000 in
set_option maxRecDepth 100000 in
theorem spec_l1Byte.calls (g : Nat) (s0_0 : List Int) (s0_1 : Int) (s0_2 : Int) (r1 : Int) (r2 : Int) (r3 : Int) (w0 w : World) (hI : IsS83 w0 w g s0_0 s0_1 s0_2) (hB : Below w0.heap.size w0 w) (h : spec_l1Byte.f s0_0 s0_1 s0_2 = some (r1, r2, r3)) :
  Calls Tryd.prog 74 #[.pointer (some ⟨g, 0, none⟩)] w fun e w' => e = .returned (.int .i64 r1) ∧ IsS83 w0 w' g s0_0 r2 r3 ∧ Below w0.heap.size w0 w' ∧ KeepBut w w' g none := by
 have HI0 := am hI
 have HK := am (KeepBut.refl w g none)
 have HL := am hB.size
 clear hI
 have HW0 := am hB.size
 have HB := am hB
 clear hB
 have H := h
 unfold spec_l1Byte.f at H
 clear h
 by_cases c2 : s0_1 < (s0_0.length : Int)
 ·rw [if_pos c2] at H
  have c2b0 : decide (s0_1 < (s0_0.length : Int)) = true := decide_eq_true c2
  clear c2
  by_cases c3 : 0 ≤ s0_1
  ·rw [if_pos c3] at H
   have c3b0 : decide (0 ≤ s0_1) = true := decide_eq_true c3
   clear c3
   simp only [Option.some.injEq, Prod.mk.injEq] at H
   obtain ⟨rfl, rfl, rfl⟩ := H
   obtain ⟨ASz4_0, cSz4_0, HGz4, hgz4, HSz4_0⟩ := HI0.out
   have hcz4_0 := cellS83_0 HGz4
   have hcz4_1 := cellS83_1 HGz4
   have hcz4_2 := cellS83_2 HGz4
   have hfz4_1 := blk_frozen HGz4 1
   have hfz4_2 := blk_frozen HGz4 2
   clear HGz4 hgz4
   have p103 : 0 ≤ (s0_1 : Int) := dt_
   have q103 : s0_1 < (s0_0.length : Int) := dt_
   obtain ⟨ad103, e103, hx103_0⟩ := Kd.at_int HSz4_0 s0_1 p103 q103
   cases e103
   have hn103_0 : ad103.block ≠ g := Nat.ne_of_lt (Nat.lt_of_lt_of_le (by have := World.block_lt_of_cell? _ _ hx103_0; first | rwa [add_block] at this | exact this) (IsS83.ge HI0.out))
   replace hx103_0 := pw_cell_below HB.out hx103_0
   replace hx103_0 := (cell_far (p := ⟨g, 2, none⟩) (by first | (rw [add_block]; exact hn103_0) | (show (Addr.add _ _).block ≠ _; rw [add_block]; exact hn103_0) | exact hn103_0) (.int .i64 (wrap64 ((wrap64 (s0_2 * 6364136223846793005)) + 1442695040888963407)))).trans hx103_0
   (try have hy103_0 := fun (n_ : Nat) => (show (((w.drewN n_).setCell ⟨g, 2, none⟩ (.int .i64 (wrap64 ((wrap64 (s0_2 * 6364136223846793005)) + 1442695040888963407))))).cell? _ = some _ from hx103_0))
   clear hn103_0
   replace p103 := eq_true p103
   replace q103 := eq_true q103
   go_enter Tryd.func74, Tryd.ntmps74
   go_wp2
   repeat (go_quiet (fail); try go_wp2)
   go_ret
   exact ⟨by first | rfl | (simp [errW_none, errW_some] <;> rfl) | (simp [*, errW_none, errW_some] <;> rfl), ri83 HI0, rbi83 HB HI0 IsS83.ge, rkk HK⟩
  ·rw [if_neg c3] at H
   exact absurd H (by simp)
 ·rw [if_neg c2] at H
  have c2b0 : decide (s0_1 < (s0_0.length : Int)) = false := decide_eq_false c2
  clear c2
  simp only [Option.some.injEq, Prod.mk.injEq] at H
  obtain ⟨rfl, rfl, rfl⟩ := H
  obtain ⟨ASz5_0, cSz5_0, HGz5, hgz5, HSz5_0⟩ := HI0.out
  have hcz5_0 := cellS83_0 HGz5
  have hcz5_1 := cellS83_1 HGz5
  have hcz5_2 := cellS83_2 HGz5
  have hfz5_1 := blk_frozen HGz5 1
  have hfz5_2 := blk_frozen HGz5 2
  clear HGz5 hgz5
  go_enter Tryd.func74, Tryd.ntmps74
  go_wp2
  repeat (go_quiet (fail); try go_wp2)
  go_ret
  exact ⟨by first | rfl | (simp [errW_none, errW_some] <;> rfl) | (simp [*, errW_none, errW_some] <;> rfl), ri83 HI0, rbi83 HB HI0 IsS83.ge, rkk HK⟩

/-! ### spec_l1Below: function 53 -/
def spec_l1Below.f (s0_0 : List Int) (s0_1 : Int) (s0_2 : Int) (a1 : Int) : Option (Int × Int × Int) := if a1 ≤ 0 then (some (0, s0_1, s0_2)) else (if a1 ≤ 256 then ((spec_l1Byte.f s0_0 s0_1 s0_2).bind fun bt104 => (if a1 = 0 then (none) else (some (Int.tmod bt104.1 a1, bt104.2.1, bt104.2.2)))) else ((spec_l1Byte.f s0_0 s0_1 s0_2).bind fun bt107 => ((spec_l1Byte.f s0_0 bt107.2.1 bt107.2.2).bind fun bt110 => ((spec_l1Byte.f s0_0 bt110.2.1 bt110.2.2).bind fun bt113 => ((spec_l1Byte.f s0_0 bt113.2.1 bt113.2.2).bind fun bt116 => (if a1 = 0 then (none) else (some (Int.tmod (wrap64 ((wrap64 ((wrap64 ((wrap64 (bt107.1 * 16777216)) + (wrap64 (bt110.1 * 65536)))) + (wrap64 (bt113.1 * 256)))) + bt116.1)) a1, bt116.2.1, bt116.2.2))))))))
set_option maxHeartbeats 8000000 in
set_option maxRecDepth 100000 in
theorem spec_l1Below.calls (g : Nat) (s0_0 : List Int) (s0_1 : Int) (s0_2 : Int) (a1 : Int) (r1 : Int) (r2 : Int) (r3 : Int) (w0 w : World) (hI : IsS83 w0 w g s0_0 s0_1 s0_2) (hB : Below w0.heap.size w0 w) (h : spec_l1Below.f s0_0 s0_1 s0_2 a1 = some (r1, r2, r3)) :
  Calls Tryd.prog 53 #[.pointer (some ⟨g, 0, none⟩), .int .i64 a1] w fun e w' => e = .returned (.int .i64 r1) ∧ IsS83 w0 w' g s0_0 r2 r3 ∧ Below w0.heap.size w0 w' ∧ KeepBut w w' g none := by
 have HI0 := am hI
 have HK := am (KeepBut.refl w g none)
 have HL := am hB.size
 clear hI
 have HW0 := am hB.size
 have HB := am hB
 clear hB
 have H := h
 unfold spec_l1Below.f at H
 clear h
 by_cases c3 : a1 ≤ 0
 ·rw [if_pos c3] at H
  have c3b0 : decide (a1 ≤ 0) = true := decide_eq_true c3
  clear c3
  simp only [Option.some.injEq, Prod.mk.injEq] at H
  obtain ⟨rfl, rfl, rfl⟩ := H
  go_enter Tryd.func53, Tryd.ntmps53
  go_wp2
  go_ret
  exact ⟨by first | rfl | (simp [errW_none, errW_some] <;> rfl) | (simp [*, errW_none, errW_some] <;> rfl), ri83 HI0, rbi83 HB HI0 IsS83.ge, rkk HK⟩
 ·rw [if_neg c3] at H
  have c3b0 : decide (a1 ≤ 0) = false := decide_eq_false c3
  clear c3
  refine em_ (p := a1 ≤ 256) (fun c4 => ?g2p) (fun c4 => ?g2n)
  case' g2p =>
   rw [if_pos c4] at H
   have c4b0 : decide (a1 ≤ 256) = true := decide_eq_true c4
   clear c4
   replace H := Option.bind_eq_some_iff.mp H
   obtain ⟨⟨t104, t105, t106⟩, A50, H⟩ := H
   (try dsimp only at H)
   have A5 := am A50
   clear A50
   refine em_ (p := a1 = 0) (fun c6 => ?g0p) (fun c6 => ?g0n)
   case g0p =>
    rw [if_pos c6] at H
    exact absurd H (by simp)
   case' g0n =>
    rw [if_neg c6] at H
    have c6b0 : (a1 == 0) = false := beq_eq_false_iff_ne.mpr c6
    have c6b1 : (a1 != 0) = true := bne_iff_ne.mpr c6
    simp only [Option.some.injEq, Prod.mk.injEq] at H
    obtain ⟨rfl, rfl, rfl⟩ := H
    have lf2_ := trivial
  case' g2n =>
   rw [if_neg c4] at H
   have c4b0 : decide (a1 ≤ 256) = false := decide_eq_false c4
   clear c4
   replace H := Option.bind_eq_some_iff.mp H
   obtain ⟨⟨t107, t108, t109⟩, A80, H⟩ := H
   (try dsimp only at H)
   have A8 := am A80
   clear A80
   replace H := Option.bind_eq_some_iff.mp H
   obtain ⟨⟨t110, t111, t112⟩, A90, H⟩ := H
   (try dsimp only at H)
   have A9 := am A90
   clear A90
   replace H := Option.bind_eq_some_iff.mp H
   obtain ⟨⟨t113, t114, t115⟩, A100, H⟩ := H
   (try dsimp only at H)
   have A10 := am A100
   clear A100
   replace H := Option.bind_eq_some_iff.mp H
   obtain ⟨⟨t116, t117, t118⟩, A110, H⟩ := H
   (try dsimp only at H)
   have A11 := am A110
   clear A110
   refine em_ (p := a1 = 0) (fun c12 => ?g1p) (fun c12 => ?g1n)
   case g1p =>
    rw [if_pos c12] at H
    exact absurd H (by simp)
   case' g1n =>
    rw [if_neg c12] at H
    have c12b0 : (a1 == 0) = false := beq_eq_false_iff_ne.mpr c12
    have c12b1 : (a1 != 0) = true := bne_iff_ne.mpr c12
    simp only [Option.some.injEq, Prod.mk.injEq] at H
    obtain ⟨rfl, rfl, rfl⟩ := H
    have lf3_ := trivial
  all_goals
   go_enter Tryd.func53, Tryd.ntmps53
   go_wp2_with (first | ((with_reducible refine gate_callee (f := 74) rfl ?_); refine gl_ (some 22) Tryd.func74 #[.pointer (some ⟨g, 0, none⟩)] ?_; (with_reducible refine (spec_l1Byte.calls g s0_0 t111 t112 t113 t114 t115 w0 _ ?side1 ?side2 A10.out).mono ?_); (case side1 => exact ri83 HI0); (case side2 => exact rbi83 HB HI0 IsS83.ge); rintro e w15 ⟨rfl, hi, hb, hk⟩; refine ⟨_, rfl, ?_⟩; have n0_ := am (KeepBut.trans (rkk HK) hk (.inl rfl)); have n1_ := am (hb); have n2_ := am (hi); clear HK; clear HB; clear HI0; have HK := n0_; have HB := n1_; have HI0 := n2_; clear n0_ n1_ n2_; (try clear hb); (try clear hb2); (try clear hk); (try clear hi)) | ((with_reducible refine gate_callee (f := 74) rfl ?_); refine gl_ (some 24) Tryd.func74 #[.pointer (some ⟨g, 0, none⟩)] ?_; (with_reducible refine (spec_l1Byte.calls g s0_0 t114 t115 t116 t117 t118 w0 _ ?side1 ?side2 A11.out).mono ?_); (case side1 => exact ri83 HI0); (case side2 => exact rbi83 HB HI0 IsS83.ge); rintro e w16 ⟨rfl, hi, hb, hk⟩; refine ⟨_, rfl, ?_⟩; have n0_ := am (KeepBut.trans (rkk HK) hk (.inl rfl)); have n1_ := am (hb); have n2_ := am (hi); clear HK; clear HB; clear HI0; have HK := n0_; have HB := n1_; have HI0 := n2_; clear n0_ n1_ n2_; (try clear hb); (try clear hb2); (try clear hk); (try clear hi)) | ((with_reducible refine gate_callee (f := 74) rfl ?_); refine gl_ (some 18) Tryd.func74 #[.pointer (some ⟨g, 0, none⟩)] ?_; (with_reducible refine (spec_l1Byte.calls g s0_0 s0_1 s0_2 t107 t108 t109 w0 _ ?side1 ?side2 A8.out).mono ?_); (case side1 => exact ri83 HI0); (case side2 => exact rbi83 HB HI0 IsS83.ge); rintro e w13 ⟨rfl, hi, hb, hk⟩; refine ⟨_, rfl, ?_⟩; have n0_ := am (KeepBut.trans (rkk HK) hk (.inl rfl)); have n1_ := am (hb); have n2_ := am (hi); clear HK; clear HB; clear HI0; have HK := n0_; have HB := n1_; have HI0 := n2_; clear n0_ n1_ n2_; (try clear hb); (try clear hb2); (try clear hk); (try clear hi)) | ((with_reducible refine gate_callee (f := 74) rfl ?_); refine gl_ (some 20) Tryd.func74 #[.pointer (some ⟨g, 0, none⟩)] ?_; (with_reducible refine (spec_l1Byte.calls g s0_0 t108 t109 t110 t111 t112 w0 _ ?side1 ?side2 A9.out).mono ?_); (case side1 => exact ri83 HI0); (case side2 => exact rbi83 HB HI0 IsS83.ge); rintro e w14 ⟨rfl, hi, hb, hk⟩; refine ⟨_, rfl, ?_⟩; have n0_ := am (KeepBut.trans (rkk HK) hk (.inl rfl)); have n1_ := am (hb); have n2_ := am (hi); clear HK; clear HB; clear HI0; have HK := n0_; have HB := n1_; have HI0 := n2_; clear n0_ n1_ n2_; (try clear hb); (try clear hb2); (try clear hk); (try clear hi)) | ((with_reducible refine gate_callee (f := 74) rfl ?_); refine gl_ (some 14) Tryd.func74 #[.pointer (some ⟨g, 0, none⟩)] ?_; (with_reducible refine (spec_l1Byte.calls g s0_0 s0_1 s0_2 t104 t105 t106 w0 _ ?side1 ?side2 A5.out).mono ?_); (case side1 => exact ri83 HI0); (case side2 => exact rbi83 HB HI0 IsS83.ge); rintro e w7 ⟨rfl, hi, hb, hk⟩; refine ⟨_, rfl, ?_⟩; have n0_ := am (KeepBut.trans (rkk HK) hk (.inl rfl)); have n1_ := am (hb); have n2_ := am (hi); clear HK; clear HB; clear HI0; have HK := n0_; have HB := n1_; have HI0 := n2_; clear n0_ n1_ n2_; (try clear hb); (try clear hb2); (try clear hk); (try clear hi)))
   go_ret
   exact ⟨by first | rfl | (simp [errW_none, errW_some] <;> rfl) | (simp [*, errW_none, errW_some] <;> rfl), ri83 HI0, rbi83 HB HI0 IsS83.ge, rkk HK⟩

/-! ### spec_l1Once: function 52 -/
def spec_l1Once.f (s0_0 : List Int) (s0_1 : Int) (s0_2 : Int) (a1 : Int) : Option (Bool × Int × Int) := (spec_l1Below.f s0_0 s0_1 s0_2 a1).bind fun bt119 => (some ((bt119.1 == 0), bt119.2.1, bt119.2.2))
set_option maxHeartbeats 8000000 in
set_option maxRecDepth 100000 in
theorem spec_l1Once.calls (g : Nat) (s0_0 : List Int) (s0_1 : Int) (s0_2 : Int) (a1 : Int) (r1 : Bool) (r2 : Int) (r3 : Int) (w0 w : World) (hI : IsS83 w0 w g s0_0 s0_1 s0_2) (hB : Below w0.heap.size w0 w) (h : spec_l1Once.f s0_0 s0_1 s0_2 a1 = some (r1, r2, r3)) :
  Calls Tryd.prog 52 #[.pointer (some ⟨g, 0, none⟩), .int .i64 a1] w fun e w' => e = .returned (.bool r1) ∧ IsS83 w0 w' g s0_0 r2 r3 ∧ Below w0.heap.size w0 w' ∧ KeepBut w w' g none := by
 have HI0 := am hI
 have HK := am (KeepBut.refl w g none)
 have HL := am hB.size
 clear hI
 have HW0 := am hB.size
 have HB := am hB
 clear hB
 have H := h
 unfold spec_l1Once.f at H
 clear h
 replace H := Option.bind_eq_some_iff.mp H
 obtain ⟨⟨t119, t120, t121⟩, A30, H⟩ := H
 (try dsimp only at H)
 have A3 := am A30
 clear A30
 simp only [Option.some.injEq, Prod.mk.injEq] at H
 obtain ⟨rfl, rfl, rfl⟩ := H
 go_enter Tryd.func52, Tryd.ntmps52
 go_wp2_with (first | ((with_reducible refine gate_callee (f := 53) rfl ?_); refine gl_ (some 7) Tryd.func53 #[.pointer (some ⟨g, 0, none⟩), .int .i64 a1] ?_; (with_reducible refine (spec_l1Below.calls g s0_0 s0_1 s0_2 a1 t119 t120 t121 w0 _ ?side1 ?side2 A3.out).mono ?_); (case side1 => exact ri83 HI0); (case side2 => exact rbi83 HB HI0 IsS83.ge); rintro e w4 ⟨rfl, hi, hb, hk⟩; refine ⟨_, rfl, ?_⟩; have n0_ := am (KeepBut.trans (rkk HK) hk (.inl rfl)); have n1_ := am (hb); have n2_ := am (hi); clear HK; clear HB; clear HI0; have HK := n0_; have HB := n1_; have HI0 := n2_; clear n0_ n1_ n2_; (try clear hb); (try clear hb2); (try clear hk); (try clear hi)))
 go_ret
 exact ⟨by first | rfl | (simp [errW_none, errW_some] <;> rfl) | (simp [*, errW_none, errW_some] <;> rfl), ri83 HI0, rbi83 HB HI0 IsS83.ge, rkk HK⟩

/-! ### spec_l1DrawRune: function 72 -/
def spec_l1DrawRune.f (s0_0 : List Int) (s0_1 : Int) (s0_2 : Int) : Option (Int × Int × Int) := (some (([65, 97, 98, 32, 233, 19968, 128512, 769, 10, 27, 127, 65533] : List Int) : List Int)).bind fun y122 => ((spec_l1Below.f s0_0 s0_1 s0_2 12).bind fun bt125 => (if 0 ≤ bt125.1 then (if bt125.1 < (y122.length : Int) then (some (rd y122 bt125.1, bt125.2.1, bt125.2.2)) else (none)) else (none)))
set_option maxHeartbeats 8000000 in
set_option maxRecDepth 100000 in
theorem spec_l1DrawRune.calls (g : Nat) (s0_0 : List Int) (s0_1 : Int) (s0_2 : Int) (r1 : Int) (r2 : Int) (r3 : Int) (w0 w : World) (hI : IsS83 w0 w g s0_0 s0_1 s0_2) (hB : Below w0.heap.size w0 w) (h : spec_l1DrawRune.f s0_0 s0_1 s0_2 = some (r1, r2, r3)) :
  Calls Tryd.prog 72 #[.pointer (some ⟨g, 0, none⟩)] w fun e w' => e = .returned (.int .i64 r1) ∧ IsS83 w0 w' g s0_0 r2 r3 ∧ Below w0.heap.size w0 w' ∧ KeepBut w w' g none := by
 have HI0 := am hI
 have HK := am (KeepBut.refl w g none)
 have HL := am hB.size
 clear hI
 have HW0 := am hB.size
 have HB := am hB
 clear hB
 have H := h
 unfold spec_l1DrawRune.f at H
 clear h
 obtain ⟨y122, hy122⟩ : ∃ y_ : List Int, y_ = (([65, 97, 98, 32, 233, 19968, 128512, 769, 10, 27, 127, 65533] : List Int)) := ⟨_, rfl⟩
 replace H : ((spec_l1Below.f s0_0 s0_1 s0_2 12).bind fun bt125 => (if 0 ≤ bt125.1 then (if bt125.1 < (y122.length : Int) then (some (rd y122 bt125.1, bt125.2.1, bt125.2.2)) else (none)) else (none))) = some (r1, r2, r3) := by first | (rw [hy122]; with_reducible exact H) | (rw [hy122]; exact H) | exact H
 have Ny122 := am hy122
 clear hy122
 replace H := Option.bind_eq_some_iff.mp H
 obtain ⟨⟨t125, t126, t127⟩, A20, H⟩ := H
 (try dsimp only at H)
 have A2 := am A20
 clear A20
 refine em_ (p := 0 ≤ t125) (fun c3 => ?g4p) (fun c3 => ?g4n)
 case' g4p =>
  rw [if_pos c3] at H
  have c3b0 : decide (0 ≤ t125) = true := decide_eq_true c3
  clear c3
  refine em_ (p := t125 < (y122.length : Int)) (fun c4 => ?g3p) (fun c4 => ?g3n)
  case' g3p =>
   rw [if_pos c4] at H
   have c4b0 : decide (t125 < (y122.length : Int)) = true := decide_eq_true c4
   clear c4
   simp only [Option.some.injEq, Prod.mk.injEq] at H
   obtain ⟨rfl, rfl, rfl⟩ := H
   have lf4_ := trivial
  case g3n =>
   rw [if_neg c4] at H
   exact absurd H (by simp)
 case g4n =>
  rw [if_neg c3] at H
  exact absurd H (by simp)
 all_goals
  go_enter Tryd.func72, Tryd.ntmps72
  go_wp2_with (first | ((with_reducible refine gate_dst (N := 3) rfl ?_); refine Kd.R_lit (Kd.int .i64) _ 2 ?hg (N := 3) ?hd (xs := ([65, 97, 98, 32, 233, 19968, 128512, 769, 10, 27, 127, 65533] : List Int)) (inner := [.int .i64 65, .int .i64 97, .int .i64 98, .int .i64 32, .int .i64 233, .int .i64 19968, .int .i64 128512, .int .i64 769, .int .i64 10, .int .i64 27, .int .i64 127, .int .i64 65533]) (ok := fun _ => True) (okp := fun _ => True) ?hr ?hp (fun _ hk => hk) trivial (Below.refl _ _) (Nat.le_refl _) (by simp) ?_; (case hd => rfl); (case hg => rfl); (case hr => first | (go_simp; done) | (go_simp; rfl)); (case hp => exact (Reps.one (show Kd.M (Kd.int .i64) _ _ _ 65 [.int .i64 65] from rfl) (Reps.one (show Kd.M (Kd.int .i64) _ _ _ 97 [.int .i64 97] from rfl) (Reps.one (show Kd.M (Kd.int .i64) _ _ _ 98 [.int .i64 98] from rfl) (Reps.one (show Kd.M (Kd.int .i64) _ _ _ 32 [.int .i64 32] from rfl) (Reps.one (show Kd.M (Kd.int .i64) _ _ _ 233 [.int .i64 233] from rfl) (Reps.one (show Kd.M (Kd.int .i64) _ _ _ 19968 [.int .i64 19968] from rfl) (Reps.one (show Kd.M (Kd.int .i64) _ _ _ 128512 [.int .i64 128512] from rfl) (Reps.one (show Kd.M (Kd.int .i64) _ _ _ 769 [.int .i64 769] from rfl) (Reps.one (show Kd.M (Kd.int .i64) _ _ _ 10 [.int .i64 10] from rfl) (Reps.one (show Kd.M (Kd.int .i64) _ _ _ 27 [.int .i64 27] from rfl) (Reps.one (show Kd.M (Kd.int .i64) _ _ _ 127 [.int .i64 127] from rfl) (Reps.one (show Kd.M (Kd.int .i64) _ _ _ 65533 [.int .i64 65533] from rfl) (Reps.none _ _)))))))))))))); intro v123 w5 ho6 hb hg_ hnew_; clear hg_ hnew_; (first | rw [← Ny122.out] at ho6 | (simp only [Int.reduceToNat] at ho6; rw [← Ny122.out] at ho6)); have n0_ := am (Kd.R_lower ho6 (keep_size (w := w) (g := g) (row := none) (rkk HK))); have n1_ := am (IsS83.below (ri83 HI0) hb); have n2_ := am (KeepBut.trans (rkk HK) (KeepBut.of_below hb g none) (.inl rfl)); have n3_ := am (below_step (rbi83 HB HI0 IsS83.ge) hb); clear HI0; clear HK; clear HB; have HO124 := n0_; have HI0 := n1_; have HK := n2_; have HB := n3_; clear n0_ n1_ n2_ n3_; clear hb ho6) | ((with_reducible refine gate_callee (f := 53) rfl ?_); refine gl_ (some 5) Tryd.func53 #[.pointer (some ⟨g, 0, none⟩), .int .i64 12] ?_; (with_reducible refine (spec_l1Below.calls g s0_0 s0_1 s0_2 12 t125 t126 t127 w0 _ ?side1 ?side2 A2.out).mono ?_); (case side1 => exact ri83 HI0); (case side2 => exact rbi83 HB HI0 IsS83.ge); rintro e w7 ⟨rfl, hi, hb, hk⟩; refine ⟨_, rfl, ?_⟩; have n0_ := am (Kd.R_mono (Kd.R_keep (IsS83.apart (show IsS83 w0 _ g s0_0 s0_1 s0_2 from ri83 HI0) (rr HO124) (by decide)) hk (fun _ h => h.2)) (fun _ h => h.1)); have n1_ := am (KeepBut.trans (rkk HK) hk (.inl rfl)); have n2_ := am (hb); have n3_ := am (hi); clear HO124; clear HK; clear HB; clear HI0; have HO124 := n0_; have HK := n1_; have HB := n2_; have HI0 := n3_; clear n0_ n1_ n2_ n3_; (try clear hb); (try clear hb2); (try clear hk); (try clear hi); obtain ⟨Ao8, co8, eo8⟩ := Kd.R_slice HO124.out; subst eo8; have p128 : 0 ≤ (t125 : Int) := dt_; have q128 : t125 < (y122.length : Int) := dt_; obtain ⟨ad128, e128, hx128_0⟩ := Kd.at_int (Kd.R_reads' HO124.out).2.2 t125 p128 q128; cases e128; replace p128 := eq_true p128; replace q128 := eq_true q128))
  go_ret
  exact ⟨by first | rfl | (simp [errW_none, errW_some] <;> rfl) | (simp [*, errW_none, errW_some] <;> rfl), ri83 HI0, rbi83 HB HI0 IsS83.ge, rkk HK⟩

/-! ### spec_DrawRuneOk: function 48 -/
def spec_DrawRuneOk.f (k : Nat) (l0 : List Int) : Option (Int) := (spec_l1New.f k l0).bind fun bt129 => ((spec_l1Once.f bt129.1 bt129.2.1 bt129.2.2 2).bind fun bt133 => (if bt133.1 = true then ((some (([(-1), 0, 127, 128, 2047, 2048, 55295, 55296, 57343, 57344, 65535, 65536, 1114111, 1114112, 4611686018427387904, (-9223372036854775808)] : List Int) : List Int)).bind fun y136 => ((spec_l1Below.f bt129.1 bt133.2.1 bt133.2.2 16).bind fun bt139 => (if 0 ≤ bt139.1 then (if bt139.1 < (y136.length : Int) then (some (rd y136 bt139.1)) else (none)) else (none)))) else ((spec_l1DrawRune.f bt129.1 bt133.2.1 bt133.2.2).bind fun bt143 => (some bt143.1))))
theorem spec_DrawRuneOk.mono : ∀ a0 k, LeO (spec_DrawRuneOk.f k a0) (spec_DrawRuneOk.f (k + 1) a0) := by
 intro a0 k
 unfold spec_DrawRuneOk.f
 repeat' first
   | (with_reducible exact spec_l1New.mono _ _)
   | (with_reducible exact LeO.refl _)
   | (with_reducible exact LeO.none _)
   | (with_reducible refine LeO.ite ?_ ?_)
   | (with_reducible refine LeO.bind ?_ (fun _ => ?_))
set_option maxHeartbeats 8000000 in
set_option maxRecDepth 100000 in
theorem spec_DrawRuneOk.calls (k : Nat) (A0 : Option Addr) (c0 : Nat) (l0 : List Int) (r : Int) (w : World) (hr0 : Kd.C (Kd.int .u8) w A0 l0.length l0) (hc0 : l0.length ≤ c0) (h : spec_DrawRuneOk.f k l0 = some r) :
  Calls Tryd.prog 48 #[.slice A0 l0.length c0] w fun e w' => e = .returned (.int .i64 r) ∧ Below w.heap.size w w' := by
 have HR0 := am hr0
 have HC0 := am hc0
 clear hr0 hc0
 have HB := am (Below.refl w.heap.size w)
 have H := h
 unfold spec_DrawRuneOk.f at H
 clear h
 replace H := Option.bind_eq_some_iff.mp H
 obtain ⟨⟨t129, t130, t131⟩, A20, H⟩ := H
 (try dsimp only at H)
 have A2 := am A20
 clear A20
 replace H := Option.bind_eq_some_iff.mp H
 obtain ⟨⟨t133, t134, t135⟩, A30, H⟩ := H
 (try dsimp only at H)
 have A3 := am A30
 clear A30
 refine em_ (p := t133 = true) (fun c4 => ?g7p) (fun c4 => ?g7n)
 case' g7p =>
  subst c4
  rw [if_pos rfl] at H
  obtain ⟨y136, hy136⟩ : ∃ y_ : List Int, y_ = (([(-1), 0, 127, 128, 2047, 2048, 55295, 55296, 57343, 57344, 65535, 65536, 1114111, 1114112, 4611686018427387904, (-9223372036854775808)] : List Int)) := ⟨_, rfl⟩
  replace H : ((spec_l1Below.f t129 t134 t135 16).bind fun bt139 => (if 0 ≤ bt139.1 then (if bt139.1 < (y136.length : Int) then (some (rd y136 bt139.1)) else (none)) else (none))) = some r := by first | (rw [hy136]; with_reducible exact H) | (rw [hy136]; exact H) | exact H
  have Ny136 := am hy136
  clear hy136
  replace H := Option.bind_eq_some_iff.mp H
  obtain ⟨⟨t139, t140, t141⟩, A50, H⟩ := H
  (try dsimp only at H)
  have A5 := am A50
  clear A50
  refine em_ (p := 0 ≤ t139) (fun c6 => ?g6p) (fun c6 => ?g6n)
  case' g6p =>
   rw [if_pos c6] at H
   have c6b0 : decide (0 ≤ t139) = true := decide_eq_true c6
   clear c6
   refine em_ (p := t139 < (y136.length : Int)) (fun c7 => ?g5p) (fun c7 => ?g5n)
   case' g5p =>
    rw [if_pos c7] at H
    have c7b0 : decide (t139 < (y136.length : Int)) = true := decide_eq_true c7
    clear c7
    obtain rfl := Option.some.inj H
    have lf5_ := trivial
   case g5n =>
    rw [if_neg c7] at H
    exact absurd H (by simp)
  case g6n =>
   rw [if_neg c6] at H
   exact absurd H (by simp)
 case' g7n =>
  replace c4 := Bool.eq_false_iff.mpr c4
  subst c4
  rw [if_neg (show ¬ (false = true) by decide)] at H
  replace H := Option.bind_eq_some_iff.mp H
  obtain ⟨⟨t143, t144, t145⟩, A140, H⟩ := H
  replace H : (some t143) = some r := H
  have A14 := am A140
  clear A140
  obtain rfl := Option.some.inj H
  have lf6_ := trivial
 all_goals
  go_enter Tryd.func48, Tryd.ntmps48
  go_wp2_with (first | ((with_reducible refine gate_dst (N := 8) rfl ?_); refine Kd.R_lit (Kd.int .i64) _ 2 ?hg (N := 8) ?hd (xs := ([(-1), 0, 127, 128, 2047, 2048, 55295, 55296, 57343, 57344, 65535, 65536, 1114111, 1114112, 4611686018427387904, (-9223372036854775808)] : List Int)) (inner := [.int .i64 (-1), .int .i64 0, .int .i64 127, .int .i64 128, .int .i64 2047, .int .i64 2048, .int .i64 55295, .int .i64 55296, .int .i64 57343, .int .i64 57344, .int .i64 65535, .int .i64 65536, .int .i64 1114111, .int .i64 1114112, .int .i64 4611686018427387904, .int .i64 (-9223372036854775808)]) (ok := fun _ => True) (okp := fun _ => True) ?hr ?hp (fun _ hk => hk) trivial (Below.refl _ _) (Nat.le_refl _) (by simp) ?_; (case hd => rfl); (case hg => rfl); (case hr => first | (go_simp; done) | (go_simp; rfl)); (case hp => exact (Reps.one (show Kd.M (Kd.int .i64) _ _ _ (-1) [.int .i64 (-1)] from rfl) (Reps.one (show Kd.M (Kd.int .i64) _ _ _ 0 [.int .i64 0] from rfl) (Reps.one (show Kd.M (Kd.int .i64) _ _ _ 127 [.int .i64 127] from rfl) (Reps.one (show Kd.M (Kd.int .i64) _ _ _ 128 [.int .i64 128] from rfl) (Reps.one (show Kd.M (Kd.int .i64) _ _ _ 2047 [.int .i64 2047] from rfl) (Reps.one (show Kd.M (Kd.int .i64) _ _ _ 2048 [.int .i64 2048] from rfl) (Reps.one (show Kd.M (Kd.int .i64) _ _ _ 55295 [.int .i64 55295] from rfl) (Reps.one (show Kd.M (Kd.int .i64) _ _ _ 55296 [.int .i64 55296] from rfl) (Reps.one (show Kd.M (Kd.int .i64) _ _ _ 57343 [.int .i64 57343] from rfl) (Reps.one (show Kd.M (Kd.int .i64) _ _ _ 57344 [.int .i64 57344] from rfl) (Reps.one (show Kd.M (Kd.int .i64) _ _ _ 65535 [.int .i64 65535] from rfl) (Reps.one (show Kd.M (Kd.int .i64) _ _ _ 65536 [.int .i64 65536] from rfl) (Reps.one (show Kd.M (Kd.int .i64) _ _ _ 1114111 [.int .i64 1114111] from rfl) (Reps.one (show Kd.M (Kd.int .i64) _ _ _ 1114112 [.int .i64 1114112] from rfl) (Reps.one (show Kd.M (Kd.int .i64) _ _ _ 4611686018427387904 [.int .i64 4611686018427387904] from rfl) (Reps.one (show Kd.M (Kd.int .i64) _ _ _ (-9223372036854775808) [.int .i64 (-9223372036854775808)] from rfl) (Reps.none _ _)))))))))))))))))); intro v137 w10 ho11 hb hg_ hnew_; clear hg_ hnew_; (first | rw [← Ny136.out] at ho11 | (simp only [Int.reduceToNat] at ho11; rw [← Ny136.out] at ho11)); have n0_ := am (Kd.R_lower ho11 (below_size (rbi83 HB HI132 IsS83.ge))); have n1_ := am (IsS83.below (ri83 HI132) hb); have n2_ := am (below_step (rbi83 HB HI132 IsS83.ge) hb); clear HI132; clear HB; have HO138 := n0_; have HI132 := n1_; have HB := n2_; clear n0_ n1_ n2_; clear hb ho11) | ((with_reducible refine gate_callee (f := 53) rfl ?_); refine gl_ (some 10) Tryd.func53 #[.pointer (some ⟨g132, 0, none⟩), .int .i64 16] ?_; (with_reducible refine (spec_l1Below.calls g132 t129 t134 t135 16 t139 t140 t141 w _ ?side1 ?side2 A5.out).mono ?_); (case side1 => exact ri83 HI132); (case side2 => exact rbi83 HB HI132 IsS83.ge); rintro e w12 ⟨rfl, hi, hb, hk⟩; refine ⟨_, rfl, ?_⟩; have n0_ := am (Kd.R_mono (Kd.R_keep (IsS83.apart (show IsS83 w _ g132 t129 t134 t135 from ri83 HI132) (rr HO138) (by decide)) hk (fun _ h => h.2)) (fun _ h => h.1)); have n1_ := am (hb); have n2_ := am (hi); clear HO138; clear HB; clear HI132; have HO138 := n0_; have HB := n1_; have HI132 := n2_; clear n0_ n1_ n2_; (try clear hb); (try clear hb2); (try clear hk); (try clear hi); obtain ⟨Ao13, co13, eo13⟩ := Kd.R_slice HO138.out; subst eo13; have p142 : 0 ≤ (t139 : Int) := dt_; have q142 : t139 < (y136.length : Int) := dt_; obtain ⟨ad142, e142, hx142_0⟩ := Kd.at_int (Kd.R_reads' HO138.out).2.2 t139 p142 q142; cases e142; replace p142 := eq_true p142; replace q142 := eq_true q142) | ((with_reducible refine gate_callee (f := 52) rfl ?_); refine gl_ (some 7) Tryd.func52 #[.pointer (some ⟨g132, 0, none⟩), .int .i64 2] ?_; (with_reducible refine (spec_l1Once.calls g132 t129 t130 t131 2 false t134 t135 w _ ?side1 ?side2 A3.out).mono ?_); (case side1 => exact ri83 HI132); (case side2 => exact rbi83 HB HI132 IsS83.ge); rintro e w16 ⟨rfl, hi, hb, hk⟩; refine ⟨_, rfl, ?_⟩; have n0_ := am (hb); have n1_ := am (hi); clear HB; clear HI132; have HB := n0_; have HI132 := n1_; clear n0_ n1_; (try clear hb); (try clear hb2); (try clear hk); (try clear hi)) | ((with_reducible refine gate_callee (f := 52) rfl ?_); refine gl_ (some 7) Tryd.func52 #[.pointer (some ⟨g132, 0, none⟩), .int .i64 2] ?_; (with_reducible refine (spec_l1Once.calls g132 t129 t130 t131 2 true t134 t135 w _ ?side1 ?side2 A3.out).mono ?_); (case side1 => exact ri83 HI132); (case side2 => exact rbi83 HB HI132 IsS83.ge); rintro e w9 ⟨rfl, hi, hb, hk⟩; refine ⟨_, rfl, ?_⟩; have n0_ := am (hb); have n1_ := am (hi); clear HB; clear HI132; have HB := n0_; have HI132 := n1_; clear n0_ n1_; (try clear hb); (try clear hb2); (try clear hk); (try clear hi)) | ((with_reducible refine gate_callee (f := 72) rfl ?_); refine gl_ (some 14) Tryd.func72 #[.pointer (some ⟨g132, 0, none⟩)] ?_; (with_reducible refine (spec_l1DrawRune.calls g132 t129 t134 t135 t143 t144 t145 w _ ?side1 ?side2 A14.out).mono ?_); (case side1 => exact ri83 HI132); (case side2 => exact rbi83 HB HI132 IsS83.ge); rintro e w17 ⟨rfl, hi, hb, hk⟩; refine ⟨_, rfl, ?_⟩; have n0_ := am (hb); have n1_ := am (hi); clear HB; clear HI132; have HB := n0_; have HI132 := n1_; clear n0_ n1_; (try clear hb); (try clear hb2); (try clear hk); (try clear hi)) | ((with_reducible refine gate_callee (f := 50) rfl ?_); refine gl_ (some 5) Tryd.func50 #[.slice A0 l0.length c0] ?_; (with_reducible refine (spec_l1New.calls k _ _ l0 t129 t130 t131 w _ ?side1 ?side2 ?side3 A2.out).mono ?_); (case side1 => repeat (first | (with_reducible first | exact HB.out | apply b1 | apply b2 | apply b3) | exact HB.out)); (case side2 => exact HR0.out); (case side3 => exact HC0.out); rintro e w8 ⟨g132, rfl, hi, hb, hb2⟩; refine ⟨_, rfl, ?_⟩; have n0_ := am (hb); have n1_ := am (hi); clear HB; have HB := n0_; have HI132 := n1_; clear n0_ n1_; (try clear hb); (try clear hb2); (try clear hk); (try clear hi)))
  go_ret
  exact ⟨by first | rfl | (simp [errW_none, errW_some] <;> rfl) | (simp [*, errW_none, errW_some] <;> rfl), rbi83 HB HI132 IsS83.ge⟩

/-! ### spec_DrawPut: function 8 -/
def spec_DrawPut.f (k : Nat) (l0 : List Int) : Option (Int) := (spec_DrawRuneOk.f k l0).bind fun t146 => (some t146)
theorem spec_DrawPut.mono : ∀ a0 k, LeO (spec_DrawPut.f k a0) (spec_DrawPut.f (k + 1) a0) := by
 intro a0 k
 unfold spec_DrawPut.f
 repeat' first
   | (with_reducible exact spec_DrawRuneOk.mono _ _)
   | (with_reducible exact LeO.refl _)
   | (with_reducible exact LeO.none _)
   | (with_reducible refine LeO.ite ?_ ?_)
   | (with_reducible refine LeO.bind ?_ (fun _ => ?_))
set_option maxHeartbeats 8000000 in
set_option maxRecDepth 100000 in
theorem spec_DrawPut.calls (k : Nat) (A0 : Option Addr) (c0 : Nat) (l0 : List Int) (r : Int) (w : World) (hr0 : Kd.C (Kd.int .u8) w A0 l0.length l0) (hc0 : l0.length ≤ c0) (h : spec_DrawPut.f k l0 = some r) :
  Calls Tryd.prog 8 #[.slice A0 l0.length c0] w fun e w' => e = .returned (.int .i64 r) ∧ Below w.heap.size w w' := by
 have HR0 := am hr0
 have HC0 := am hc0
 clear hr0 hc0
 have HB := am (Below.refl w.heap.size w)
 have H : ((spec_DrawRuneOk.f k l0).bind fun t146 => (some t146)) = some r := h
 clear h
 replace H := Option.bind_eq_some_iff.mp H
 obtain ⟨t146, A20, H⟩ := H
 replace H : (some t146) = some r := H
 have A2 := am A20
 clear A20
 obtain rfl := Option.some.inj H
 go_enter Tryd.func8, Tryd.ntmps8
 go_wp2_with (first | ((with_reducible refine gate_callee (f := 48) rfl ?_); refine gl_ (some 4) Tryd.func48 #[.slice A0 l0.length c0] ?_; (with_reducible refine (spec_DrawRuneOk.calls k _ _ l0 t146 _ ?side1 ?side2 A2.out).mono ?_); (case side1 => exact rc (HR0.out)); (case side2 => exact HC0.out); rintro e w3 ⟨rfl, hb⟩; refine ⟨_, rfl, ?_⟩; have n0_ := am (below_step (rb HB) hb); clear HB; have HB := n0_; clear n0_; (try clear hb); (try clear hb2); (try clear hk); (try clear hi)))
 go_ret
 exact ⟨by first | rfl | (simp [errW_none, errW_some] <;> rfl) | (simp [*, errW_none, errW_some] <;> rfl), by repeat (first | (with_reducible first | exact HB.out | apply b1 | apply b2 | apply b3) | exact HB.out)⟩

/-! ### impl_in: function 58 -/
def impl_in.f (a0 : Int) (a1 : Int) (a2 : Int) : Option (Bool) := if a1 ≤ a0 then (some (decide (a0 ≤ a2))) else (some false)
set_option maxHeartbeats 8000000 in
set_option maxRecDepth 100000 in
theorem impl_in.calls (a0 : Int) (a1 : Int) (a2 : Int) (r : Bool) (w : World) (h : impl_in.f a0 a1 a2 = some r) :
  Calls Tryd.prog 58 #[.int .i64 a0, .int .i64 a1, .int .i64 a2] w fun e w' => e = .returned (.bool r) ∧ Drawn0 w w' := by
 have H : (if a1 ≤ a0 then (some (decide (a0 ≤ a2))) else (some false)) = some r := h
 clear h
 by_cases c4 : a1 ≤ a0
 ·rw [if_pos c4] at H
  have c4b0 : decide (a1 ≤ a0) = true := decide_eq_true c4
  clear c4
  obtain rfl := Option.some.inj H
  go_enter Tryd.func58, Tryd.ntmps58
  go_wp2
  go_ret
  exact ⟨by first | rfl | (simp; done) | (simp [*]; done), by repeat (first | exact Drawn0.refl _ | apply Drawn0.step)⟩
 ·rw [if_neg c4] at H
  have c4b0 : decide (a1 ≤ a0) = false := decide_eq_false c4
  clear c4
  obtain rfl := Option.some.inj H
  go_enter Tryd.func58, Tryd.ntmps58
  go_wp2
  go_ret
  exact ⟨by first | rfl | (simp; done) | (simp [*]; done), by repeat (first | exact Drawn0.refl _ | apply Drawn0.step)⟩

/-! ### impl_RuneOk: function 23 -/
def impl_RuneOk.f (a0 : Int) : Option (Bool) := (impl_in.f a0 0 1114111).bind fun t147 => (if t147 = true then ((impl_in.f a0 55296 57343).bind fun t148 => (some (!t148))) else (some false))
set_option maxHeartbeats 8000000 in
set_option maxRecDepth 100000 in
theorem impl_RuneOk.calls (a0 : Int) (r : Bool) (w : World) (h : impl_RuneOk.f a0 = some r) :
  Calls Tryd.prog 23 #[.int .i64 a0] w fun e w' => e = .returned (.bool r) ∧ Drawn0 w w' := by
 have H := h
 unfold impl_RuneOk.f at H
 clear h
 replace H := Option.bind_eq_some_iff.mp H
 obtain ⟨t147, A20, H⟩ := H
 (try dsimp only at H)
 have A2 := am A20
 clear A20
 by_cases c3 : t147 = true
 ·subst c3
  have H1 : ((impl_in.f a0 55296 57343).bind fun t148 => (some (!t148))) = some r := by rw [if_pos rfl] at H; exact H
  clear H
  have H := H1
  clear H1
  replace H := Option.bind_eq_some_iff.mp H
  obtain ⟨t148, A40, H⟩ := H
  replace H : (some (!t148)) = some r := H
  have A4 := am A40
  clear A40
  obtain rfl := Option.some.inj H
  go_enter Tryd.func23, Tryd.ntmps23
  go_wp2_with (first | ((with_reducible refine gate_callee (f := 58) rfl ?_); refine gl_ (some 4) Tryd.func58 #[.int .i64 a0, .int .i64 0, .int .i64 1114111] ?_; (with_reducible refine (impl_in.calls a0 0 1114111 true _ A2.out).mono ?_); rintro e w' ⟨rfl, ⟨nd, rfl⟩⟩; refine ⟨_, rfl, ?_⟩) | (go_at_call 58; (with_reducible refine (impl_in.calls a0 55296 57343 t148 _ A4.out).mono ?_); rintro e w' ⟨rfl, ⟨nd, rfl⟩⟩))
  go_ret
  exact ⟨by first | rfl | (simp; done) | (simp [*]; done), by repeat (first | exact Drawn0.refl _ | apply Drawn0.step)⟩
 ·replace c3 := Bool.eq_false_iff.mpr c3
  subst c3
  have H1 : (some false) = some r := by rw [if_neg (show ¬ (false = true) by decide)] at H; exact H
  clear H
  have H := H1
  clear H1
  obtain rfl := Option.some.inj H
  go_enter Tryd.func23, Tryd.ntmps23
  go_wp2_with (first | ((with_reducible refine gate_callee (f := 58) rfl ?_); refine gl_ (some 4) Tryd.func58 #[.int .i64 a0, .int .i64 0, .int .i64 1114111] ?_; (with_reducible refine (impl_in.calls a0 0 1114111 false _ A2.out).mono ?_); rintro e w' ⟨rfl, ⟨nd, rfl⟩⟩; refine ⟨_, rfl, ?_⟩))
  go_ret
  exact ⟨by first | rfl | (simp; done) | (simp [*]; done), by repeat (first | exact Drawn0.refl _ | apply Drawn0.step)⟩

end Go.Proofs.YtfhkpneffmcdbaaDoor.QB
