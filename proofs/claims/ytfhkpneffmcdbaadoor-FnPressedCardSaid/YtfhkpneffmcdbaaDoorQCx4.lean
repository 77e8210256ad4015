/- Contracts of Go functions that laws of this seat reach: each Lean function answers as its Go function does. No condition. Written by wip/tools/inj.py, over the kit's print. -/
import Derived.Test.YtfhkpneffmcdbaaDoorQCx0
import Derived.Test.YtfhkpneffmcdbaaDoorQCx3
namespace Go.Proofs.YtfhkpneffmcdbaaDoor.QC
open Go.RowKit Go.Proofs.YtfhkpneffmcdbaaDoorW.PrintWords Go.Proofs.YtfhkpneffmcdbaaDoorW.PrintLast Go.Proofs.YtfhkpneffmcdbaaDoorW.PrintMore
attribute [local go_sem] max2_int min2_int max_two min_two max_three min_three max_four min_four   -- for this text's walks alone
set_option linter.unusedVariables false
set_option linter.unusedSimpArgs false

/-! ### spec_l13Draw: function 67 -/
def spec_l13Draw.j0 : Nat → List Int → Int → Int → Int → Int → Bool → Option (Int × Int × Bool × Int × Int)
 | 0, _, _, _, _, _, _ => none
 | k + 1, x1000, x1001, x1002, x127000, x127001, x127002 => (spec_l1Once.f x1000 x1001 x1002 14).bind fun bt144 => (if bt144.1 = true then ((spec_l1Below.f x1000 bt144.2.1 bt144.2.2 3).bind fun bt147 => (if bt147.1 = 0 then ((some (([0, 13, (-1), 4611686018427387904] : List Int) : List Int)).bind fun y150 => ((spec_l1Below.f x1000 bt147.2.1 bt147.2.2 4).bind fun bt153 => (if 0 ≤ bt153.1 then (if bt153.1 < (y150.length : Int) then (some (rd y150 bt153.1, x127001, x127002, bt153.2.1, bt153.2.2)) else (none)) else (none)))) else (if bt147.1 = 1 then ((some (([(-1), 0, 9, 27, 127, 55296] : List Int) : List Int)).bind fun y157 => ((spec_l1Below.f x1000 bt147.2.1 bt147.2.2 6).bind fun bt160 => (if 0 ≤ bt160.1 then (if bt160.1 < (y157.length : Int) then (some (x127000, rd y157 bt160.1, x127002, bt160.2.1, bt160.2.2)) else (none)) else (none)))) else (if bt147.1 = 2 then (some (x127000, x127001, !x127002, bt147.2.1, bt147.2.2)) else (some (x127000, x127001, x127002, bt147.2.1, bt147.2.2)))))) else (some (x127000, x127001, x127002, bt144.2.1, bt144.2.2)))
def spec_l13Draw.f (k : Nat) (s0_0 : List Int) (s0_1 : Int) (s0_2 : Int) : Option (Int × Int × Bool × Int × Int) := (spec_l1Below.f s0_0 s0_1 s0_2 12).bind fun bt123 => (if (wrap64 (1 + bt123.1)) = 1 then ((some (([97, 32, 233, 19968, 126, 91, 65, 51] : List Int) : List Int)).bind fun y127 => ((spec_l1Below.f s0_0 bt123.2.1 bt123.2.2 8).bind fun bt130 => (if 0 ≤ bt130.1 then (if bt130.1 < (y127.length : Int) then ((spec_l1Once.f s0_0 bt130.2.1 bt130.2.2 3).bind fun bt134 => (if bt134.1 = true then (spec_l13Draw.j0 k s0_0 bt134.2.1 bt134.2.2 (wrap64 (1 + bt123.1)) (rd y127 bt130.1) ((rd y127 bt130.1) != 91)) else (spec_l13Draw.j0 k s0_0 bt134.2.1 bt134.2.2 (wrap64 (1 + bt123.1)) (rd y127 bt130.1) false))) else (none)) else (none)))) else (if (wrap64 (1 + bt123.1)) = 2 then ((some (([1, 3, 4, 26, 8, 10] : List Int) : List Int)).bind fun y137 => ((spec_l1Below.f s0_0 bt123.2.1 bt123.2.2 6).bind fun bt140 => (if 0 ≤ bt140.1 then (if bt140.1 < (y137.length : Int) then (spec_l13Draw.j0 k s0_0 bt140.2.1 bt140.2.2 (wrap64 (1 + bt123.1)) (rd y137 bt140.1) false) else (none)) else (none)))) else (spec_l13Draw.j0 k s0_0 bt123.2.1 bt123.2.2 (wrap64 (1 + bt123.1)) 0 false)))
theorem spec_l13Draw.mono_l : ∀ k, (∀ y0 y1 y2 y3 y4 y5, LeO (spec_l13Draw.j0 k y0 y1 y2 y3 y4 y5) (spec_l13Draw.j0 (k + 1) y0 y1 y2 y3 y4 y5))
 | 0 => fun _ _ _ _ _ _ r h => by simp [spec_l13Draw.j0] at h
 | k + 1 => by
  have ih0 := spec_l13Draw.mono_l k
  ·intro y0 y1 y2 y3 y4 y5
   unfold spec_l13Draw.j0
   repeat' first
   | (with_reducible exact ih0 _ _ _ _ _ _)
   | (with_reducible exact LeO.refl _)
   | (with_reducible exact LeO.none _)
   | (with_reducible refine LeO.ite ?_ ?_)
   | (with_reducible refine LeO.bind ?_ (fun _ => ?_))
theorem spec_l13Draw.mono : ∀ a0 a1 a2 k, LeO (spec_l13Draw.f k a0 a1 a2) (spec_l13Draw.f (k + 1) a0 a1 a2) := by
 intro a0 a1 a2 k
 have ih0 := spec_l13Draw.mono_l k
 unfold spec_l13Draw.f
 repeat' first
   | (with_reducible exact ih0 _ _ _ _ _ _)
   | (with_reducible exact LeO.refl _)
   | (with_reducible exact LeO.none _)
   | (with_reducible refine LeO.ite ?_ ?_)
   | (with_reducible refine LeO.bind ?_ (fun _ => ?_))
set_option maxHeartbeats 8000000 in
set_option maxRecDepth 100000 in
theorem spec_l13Draw.calls (k : Nat) (g : Nat) (s0_0 : List Int) (s0_1 : Int) (s0_2 : Int) (r1 : Int) (r2 : Int) (r3 : Bool) (r4 : Int) (r5 : Int) (w0 w : World) (hI : IsS83 w0 w g s0_0 s0_1 s0_2) (hB : Below w0.heap.size w0 w) (h : spec_l13Draw.f k s0_0 s0_1 s0_2 = some (r1, r2, r3, r4, r5)) :
  Calls Tryd.prog 67 #[.pointer (some ⟨g, 0, none⟩)] w fun e w' => e = .returned (.agg #[.int .i64 r1, .int .i64 r2, .bool r3]) ∧ IsS83 w0 w' g s0_0 r4 r5 ∧ Below w0.heap.size w0 w' ∧ KeepBut w w' g none := by
 have hu50 := Tryd.underlying50
 have HI0 := am hI
 have HK := am (KeepBut.refl w g none)
 have HL := am hB.size
 clear hI
 have HW0 := am hB.size
 have HB := am hB
 clear hB
 have H := h
 unfold spec_l13Draw.f at H
 clear h
 replace H := Option.bind_eq_some_iff.mp H
 obtain ⟨⟨t123, t124, t125⟩, A20, H⟩ := H
 (try dsimp only at H)
 have A2 := am A20
 clear A20
 have HC3 := am H
 clear H
 go_enter Tryd.func67, Tryd.ntmps67
 go_upto_block 0 with (first | ((with_reducible refine gate_dst (N := 2) rfl ?_); refine box_event ?hg (N := 2) ?hd (cs := #[.int .i64 0, .int .i64 0, .bool false]) (t := 50) ?hr ?_; (case hd => rfl); (case hg => rfl); (case hr => first | (go_simp; done) | (go_simp; rfl)); intro gb122 hg w4 hbox hb; have n0_ := am (IsS83.below (ri83 HI0) hb); have n1_ := am (KeepBut.trans (rkk HK) (KeepBut.of_below hb g none) (.inl rfl)); have n2_ := am (below_step (rbi83 HB HI0 IsS83.ge) hb); have n3_ := am (hbox); have n4_ := am ((by rw [hg]; exact (keep_size (w := w) (g := g) (row := none) (rkk HK)) : w.heap.size ≤ gb122)); have n5_ := am ((Nat.le_trans HW0.out (by rw [hg]; exact (keep_size (w := w) (g := g) (row := none) (rkk HK)) : w.heap.size ≤ gb122) : w0.heap.size ≤ gb122)); have n6_ := am ((by rw [hg]; exact Nat.ne_of_lt (IsS83.lt (show IsS83 w0 _ g s0_0 s0_1 s0_2 from ri83 HI0)) : g ≠ gb122)); have n7_ := am ((by rw [hg]; exact Nat.ne_of_gt (IsS83.lt (show IsS83 w0 _ g s0_0 s0_1 s0_2 from ri83 HI0)) : gb122 ≠ g)); clear HI0; clear HK; clear HB; have HI0 := n0_; have HK := n1_; have HB := n2_; have BK122 := n3_; have GW122 := n4_; have GE122 := n5_; have NB0_122 := n6_; have NB122_0 := n7_; clear n0_ n1_ n2_ n3_ n4_ n5_ n6_ n7_; clear hb hbox hg) | ((with_reducible refine gate_callee (f := 53) rfl ?_); refine gl_ (some 5) Tryd.func53 #[.pointer (some ⟨g, 0, none⟩), .int .i64 12] ?_; (with_reducible refine (spec_l1Below.calls g s0_0 s0_1 s0_2 12 t123 t124 t125 w0 _ ?side1 ?side2 A2.out).mono ?_); (case side1 => repeat (first | (with_reducible first | exact HI0.out | apply IsS83.alloc | apply IsS83.drewN | apply IsS83.drew | apply IsS83.set_1 | apply IsS83.set_2 | refine IsS83.far ?_ NB0_122.out _) | exact HI0.out)); (case side2 => repeat (first | (with_reducible first | exact HB.out | apply b1 | apply b2 | apply b3 | refine below_set ?_ (IsS83.ge HI0.out) | refine below_set ?_ GE122.out) | exact HB.out)); rintro e w5 ⟨rfl, hi, hb, hk⟩; refine ⟨_, rfl, ?_⟩; have n0_ := am (KeepBut.blk hk (g' := gb122) (o := .cells #[.int .i64 0, .int .i64 0, .bool false] 50 (0, 0)) (rk BK122) NB122_0.out (by simp)); have n1_ := am (KeepBut.trans (by repeat (first | (with_reducible first | exact HK.out | apply KeepBut.set_ | apply keep_drewN | apply keep_drew | apply keep_alloc | refine keep_far ?_ GW122.out _) | exact HK.out)) hk (.inl rfl)); have n2_ := am (hb); have n3_ := am (hi); clear BK122; clear HK; clear HB; clear HI0; have BK122 := n0_; have HK := n1_; have HB := n2_; have HI0 := n3_; clear n0_ n1_ n2_ n3_; (try clear hb); (try clear hb2); (try clear hk); (try clear hi)) | ((with_reducible refine gate_dst (N := 3) rfl ?_); refine box_event ?hg (N := 3) ?hd (cs := #[.int .i64 0, .int .i64 0, .bool false]) (t := 50) ?hr ?_; (case hd => rfl); (case hg => rfl); (case hr => first | (go_simp; done) | (go_simp; rfl)); intro gb126 hg w6 hbox hb; have n0_ := am (IsS83.below (by repeat (first | (with_reducible first | exact HI0.out | apply IsS83.alloc | apply IsS83.drewN | apply IsS83.drew | apply IsS83.set_1 | apply IsS83.set_2 | refine IsS83.far ?_ NB0_122.out _) | exact HI0.out)) hb); have n1_ := am (blk_below (g := gb122) (o := .cells #[.int .i64 0, .int .i64 0, .bool false] 50 (0, 0)) (rk BK122) hb); have n2_ := am (KeepBut.trans (by repeat (first | (with_reducible first | exact HK.out | apply KeepBut.set_ | apply keep_drewN | apply keep_drew | apply keep_alloc | refine keep_far ?_ GW122.out _) | exact HK.out)) (KeepBut.of_below hb g none) (.inl rfl)); have n3_ := am (below_step (by repeat (first | (with_reducible first | exact HB.out | apply b1 | apply b2 | apply b3 | refine below_set ?_ (IsS83.ge HI0.out) | refine below_set ?_ GE122.out) | exact HB.out)) hb); have n4_ := am (hbox); have n5_ := am ((by rw [hg]; exact (keep_size (w := w) (g := g) (row := none) (by repeat (first | (with_reducible first | exact HK.out | apply KeepBut.set_ | apply keep_drewN | apply keep_drew | apply keep_alloc | refine keep_far ?_ GW122.out _) | exact HK.out))) : w.heap.size ≤ gb126)); have n6_ := am ((Nat.le_trans HW0.out (by rw [hg]; exact (keep_size (w := w) (g := g) (row := none) (by repeat (first | (with_reducible first | exact HK.out | apply KeepBut.set_ | apply keep_drewN | apply keep_drew | apply keep_alloc | refine keep_far ?_ GW122.out _) | exact HK.out))) : w.heap.size ≤ gb126) : w0.heap.size ≤ gb126)); have n7_ := am ((by rw [hg]; exact Nat.ne_of_lt (blk_lt (g := gb122) (o := .cells #[.int .i64 0, .int .i64 0, .bool false] 50 (0, 0)) (rk BK122)) : gb122 ≠ gb126)); have n8_ := am ((by rw [hg]; exact Nat.ne_of_gt (blk_lt (g := gb122) (o := .cells #[.int .i64 0, .int .i64 0, .bool false] 50 (0, 0)) (rk BK122)) : gb126 ≠ gb122)); have n9_ := am ((by rw [hg]; exact Nat.ne_of_lt (IsS83.lt (show IsS83 w0 _ g s0_0 t124 t125 from by repeat (first | (with_reducible first | exact HI0.out | apply IsS83.alloc | apply IsS83.drewN | apply IsS83.drew | apply IsS83.set_1 | apply IsS83.set_2 | refine IsS83.far ?_ NB0_122.out _) | exact HI0.out))) : g ≠ gb126)); have n10_ := am ((by rw [hg]; exact Nat.ne_of_gt (IsS83.lt (show IsS83 w0 _ g s0_0 t124 t125 from by repeat (first | (with_reducible first | exact HI0.out | apply IsS83.alloc | apply IsS83.drewN | apply IsS83.drew | apply IsS83.set_1 | apply IsS83.set_2 | refine IsS83.far ?_ NB0_122.out _) | exact HI0.out))) : gb126 ≠ g)); clear HI0; clear BK122; clear HK; clear HB; have HI0 := n0_; have BK122 := n1_; have HK := n2_; have HB := n3_; have BK126 := n4_; have GW126 := n5_; have GE126 := n6_; have NB122_126 := n7_; have NB126_122 := n8_; have NB0_126 := n9_; have NB126_0 := n10_; clear n0_ n1_ n2_ n3_ n4_ n5_ n6_ n7_ n8_ n9_ n10_; clear hb hbox hg; have hnb7 := NB126_122.out; have hnc7 := NB122_126.out; have hnb8 := NB126_0.out; have hnc8 := NB0_126.out; have hcz9_0 : w6.cell? ⟨gb126, 0, none⟩ = some (.int .i64 0) := (blk_cell BK126.out 0).trans rfl; have hcz9_1 : w6.cell? ⟨gb126, 1, none⟩ = some (.int .i64 0) := (blk_cell BK126.out 1).trans rfl; have hcz9_2 : w6.cell? ⟨gb126, 2, none⟩ = some (.bool false) := (blk_cell BK126.out 2).trans rfl; have hfz9_0 := blk_frozen BK126.out 0; have hfz9_1 := blk_frozen BK126.out 1; have hfz9_2 := blk_frozen BK126.out 2))
 (try simp only [Act.put, List.setIfInBounds_toArray, List.set_cons_zero, List.set_cons_succ])
 go_cut [] (fun wc => ∃ (kq : Nat) (x1001_2 : Int) (x1002_2 : Int) (x127001_2 : Int) (x127002_2 : Bool), Aside0 (spec_l13Draw.j0 kq s0_0 x1001_2 x1002_2 (wrap64 (1 + t123)) x127001_2 x127002_2 = some (r1, r2, r3, r4, r5)) ∧ Aside0 (kq ≤ k) ∧ Aside0 (wc.heap[gb122]? = some (.cells #[.int .i64 0, .int .i64 0, .bool false] 50 (0, 0))) ∧ Aside0 (wc.heap[gb126]? = some (.cells #[.int .i64 (wrap64 (1 + t123)), .int .i64 x127001_2, .bool x127002_2] 50 (0, 0))) ∧ Aside0 (IsS83 w0 wc g s0_0 x1001_2 x1002_2) ∧ Aside0 (KeepBut w wc g none) ∧ Aside0 (Below w0.heap.size w0 wc))
 case first =>
  have H := HC3.out
  clear HC3
  refine em_ (p := (wrap64 (1 + t123)) = 1) (fun c10 => ?g5p) (fun c10 => ?g5n)
  case' g5p =>
   rw [if_pos c10] at H
   have c10b0 : ((wrap64 (1 + t123)) == 1) = true := beq_iff_eq.mpr c10
   have c10b1 : ((wrap64 (1 + t123)) != 1) = false := bne_eq_false_iff_eq.mpr c10
   clear c10
   (first | rw [c10b0] | rw [c10b1] | (simp only [i64_w, i32_w]; rw [c10b0]) | skip)
   obtain ⟨y127, hy127⟩ : ∃ y_ : List Int, y_ = (([97, 32, 233, 19968, 126, 91, 65, 51] : List Int)) := ⟨_, rfl⟩
   replace H : ((spec_l1Below.f s0_0 t124 t125 8).bind fun bt130 => (if 0 ≤ bt130.1 then (if bt130.1 < (y127.length : Int) then ((spec_l1Once.f s0_0 bt130.2.1 bt130.2.2 3).bind fun bt134 => (if bt134.1 = true then (spec_l13Draw.j0 k s0_0 bt134.2.1 bt134.2.2 (wrap64 (1 + t123)) (rd y127 bt130.1) ((rd y127 bt130.1) != 91)) else (spec_l13Draw.j0 k s0_0 bt134.2.1 bt134.2.2 (wrap64 (1 + t123)) (rd y127 bt130.1) false))) else (none)) else (none))) = some (r1, r2, r3, r4, r5) := by first | (rw [hy127]; with_reducible exact H) | (rw [hy127]; exact H) | exact H
   have Ny127 := am hy127
   clear hy127
   replace H := Option.bind_eq_some_iff.mp H
   obtain ⟨⟨t130, t131, t132⟩, A110, H⟩ := H
   (try dsimp only at H)
   have A11 := am A110
   clear A110
   refine em_ (p := 0 ≤ t130) (fun c12 => ?g2p) (fun c12 => ?g2n)
   case' g2p =>
    rw [if_pos c12] at H
    have c12b0 : decide (0 ≤ t130) = true := decide_eq_true c12
    clear c12
    refine em_ (p := t130 < (y127.length : Int)) (fun c13 => ?g1p) (fun c13 => ?g1n)
    case' g1p =>
     rw [if_pos c13] at H
     have c13b0 : decide (t130 < (y127.length : Int)) = true := decide_eq_true c13
     clear c13
     replace H := Option.bind_eq_some_iff.mp H
     obtain ⟨⟨t134, t135, t136⟩, A140, H⟩ := H
     (try dsimp only at H)
     have A14 := am A140
     clear A140
     refine em_ (p := t134 = true) (fun c15 => ?g0p) (fun c15 => ?g0n)
     case' g0p =>
      subst c15
      rw [if_pos rfl] at H
      have H' := am H
      clear H
      have lf1_ := trivial
     case' g0n =>
      replace c15 := Bool.eq_false_iff.mpr c15
      subst c15
      rw [if_neg (show ¬ (false = true) by decide)] at H
      have H' := am H
      clear H
      have lf2_ := trivial
    case g1n =>
     rw [if_neg c13] at H
     exact absurd H (by simp)
   case g2n =>
    rw [if_neg c12] at H
    exact absurd H (by simp)
  case g5n =>
   rw [if_neg c10] at H
   have c10b0 : ((wrap64 (1 + t123)) == 1) = false := beq_eq_false_iff_ne.mpr c10
   have c10b1 : ((wrap64 (1 + t123)) != 1) = true := bne_iff_ne.mpr c10
   (first | rw [c10b0] | rw [c10b1] | (simp only [i64_w, i32_w]; rw [c10b0]) | skip)
   refine em_ (p := (wrap64 (1 + t123)) = 2) (fun c34 => ?g6p) (fun c34 => ?g6n)
   case g6p =>
    rw [if_pos c34] at H
    have c34b0 : ((wrap64 (1 + t123)) == 2) = true := beq_iff_eq.mpr c34
    have c34b1 : ((wrap64 (1 + t123)) != 2) = false := bne_eq_false_iff_eq.mpr c34
    clear c34
    obtain ⟨y137, hy137⟩ : ∃ y_ : List Int, y_ = (([1, 3, 4, 26, 8, 10] : List Int)) := ⟨_, rfl⟩
    replace H : ((spec_l1Below.f s0_0 t124 t125 6).bind fun bt140 => (if 0 ≤ bt140.1 then (if bt140.1 < (y137.length : Int) then (spec_l13Draw.j0 k s0_0 bt140.2.1 bt140.2.2 (wrap64 (1 + t123)) (rd y137 bt140.1) false) else (none)) else (none))) = some (r1, r2, r3, r4, r5) := by first | (rw [hy137]; with_reducible exact H) | (rw [hy137]; exact H) | exact H
    have Ny137 := am hy137
    clear hy137
    replace H := Option.bind_eq_some_iff.mp H
    obtain ⟨⟨t140, t141, t142⟩, A350, H⟩ := H
    (try dsimp only at H)
    have A35 := am A350
    clear A350
    refine em_ (p := 0 ≤ t140) (fun c36 => ?g4p) (fun c36 => ?g4n)
    case' g4p =>
     rw [if_pos c36] at H
     have c36b0 : decide (0 ≤ t140) = true := decide_eq_true c36
     clear c36
     refine em_ (p := t140 < (y137.length : Int)) (fun c37 => ?g3p) (fun c37 => ?g3n)
     case' g3p =>
      rw [if_pos c37] at H
      have c37b0 : decide (t140 < (y137.length : Int)) = true := decide_eq_true c37
      clear c37
      have H' := am H
      clear H
      have lf3_ := trivial
     case g3n =>
      rw [if_neg c37] at H
      exact absurd H (by simp)
    case g4n =>
     rw [if_neg c36] at H
     exact absurd H (by simp)
    all_goals
     go_wp2_with (first | ((with_reducible refine gate_dst (N := 28) rfl ?_); refine Kd.R_lit (Kd.int .i64) _ 2 ?hg (N := 28) ?hd (xs := ([1, 3, 4, 26, 8, 10] : List Int)) (inner := [.int .i64 1, .int .i64 3, .int .i64 4, .int .i64 26, .int .i64 8, .int .i64 10]) (ok := fun _ => True) (okp := fun _ => True) ?hr ?hp (fun _ hk => hk) trivial (Below.refl _ _) (Nat.le_refl _) (by simp) ?_; (case hd => rfl); (case hg => rfl); (case hr => first | (go_simp; done) | (go_simp; rfl)); (case hp => exact (Reps.one (show Kd.M (Kd.int .i64) _ _ _ 1 [.int .i64 1] from rfl) (Reps.one (show Kd.M (Kd.int .i64) _ _ _ 3 [.int .i64 3] from rfl) (Reps.one (show Kd.M (Kd.int .i64) _ _ _ 4 [.int .i64 4] from rfl) (Reps.one (show Kd.M (Kd.int .i64) _ _ _ 26 [.int .i64 26] from rfl) (Reps.one (show Kd.M (Kd.int .i64) _ _ _ 8 [.int .i64 8] from rfl) (Reps.one (show Kd.M (Kd.int .i64) _ _ _ 10 [.int .i64 10] from rfl) (Reps.none _ _)))))))); intro v138 w38 ho39 hb hg_ hnew_; clear hg_ hnew_; (first | rw [← Ny137.out] at ho39 | (simp only [Int.reduceToNat] at ho39; rw [← Ny137.out] at ho39)); have n0_ := am (Kd.R_lower ho39 (keep_size (w := w) (g := g) (row := none) (by repeat (first | (with_reducible first | exact HK.out | apply KeepBut.set_ | apply keep_drewN | apply keep_drew | apply keep_alloc | refine keep_far ?_ GW122.out _ | refine keep_far ?_ GW126.out _) | exact HK.out)))); have n1_ := am (IsS83.below (show IsS83 w0 (((w6.setCell ⟨gb126, 0, none⟩ (.int .i64 (wrap64 (1 + t123)))).setCell ⟨gb126, 1, none⟩ (.int .i64 0)).setCell ⟨gb126, 2, none⟩ (.bool false)) g s0_0 t124 t125 from by repeat (first | (with_reducible first | exact HI0.out | apply IsS83.alloc | apply IsS83.drewN | apply IsS83.drew | apply IsS83.set_1 | apply IsS83.set_2 | refine IsS83.far ?_ NB0_122.out _ | refine IsS83.far ?_ NB0_126.out _) | exact HI0.out)) hb); have n2_ := am (blk_below (g := gb122) (o := .cells #[.int .i64 0, .int .i64 0, .bool false] 50 (0, 0)) (by (with_reducible repeat (first | apply k1 | apply k2 | apply k3)); refine blk_far ?_ NB122_126.out _; (with_reducible repeat (first | apply k1 | apply k2 | apply k3)); refine blk_far ?_ NB122_126.out _; (with_reducible repeat (first | apply k1 | apply k2 | apply k3)); refine blk_far ?_ NB122_126.out _; (with_reducible repeat (first | apply k1 | apply k2 | apply k3)); exact BK122.out) hb); have n3_ := am (blk_below (g := gb126) (o := .cells #[.int .i64 (wrap64 (1 + t123)), .int .i64 0, .bool false] 50 (0, 0)) (by (with_reducible repeat (first | apply k1 | apply k2 | apply k3)); refine blk_put (cs := #[.int .i64 (wrap64 (1 + t123)), .int .i64 0, .bool false]) ?_ 2 _ rfl; (with_reducible repeat (first | apply k1 | apply k2 | apply k3)); refine blk_put (cs := #[.int .i64 (wrap64 (1 + t123)), .int .i64 0, .bool false]) ?_ 1 _ rfl; (with_reducible repeat (first | apply k1 | apply k2 | apply k3)); refine blk_put (cs := #[.int .i64 0, .int .i64 0, .bool false]) ?_ 0 _ rfl; (with_reducible repeat (first | apply k1 | apply k2 | apply k3)); exact BK126.out) hb); have n4_ := am (KeepBut.trans (by repeat (first | (with_reducible first | exact HK.out | apply KeepBut.set_ | apply keep_drewN | apply keep_drew | apply keep_alloc | refine keep_far ?_ GW122.out _ | refine keep_far ?_ GW126.out _) | exact HK.out)) (KeepBut.of_below hb g none) (.inl rfl)); have n5_ := am (below_step (by repeat (first | (with_reducible first | exact HB.out | apply b1 | apply b2 | apply b3 | refine below_set ?_ (IsS83.ge HI0.out) | refine below_set ?_ GE122.out | refine below_set ?_ GE126.out) | exact HB.out)) hb); clear HI0; clear BK122; clear BK126; clear HK; clear HB; have HO139 := n0_; have HI0 := n1_; have BK122 := n2_; have BK126 := n3_; have HK := n4_; have HB := n5_; clear n0_ n1_ n2_ n3_ n4_ n5_; clear hb ho39) | ((with_reducible refine gate_callee (f := 53) rfl ?_); refine gl_ (some 30) Tryd.func53 #[.pointer (some ⟨g, 0, none⟩), .int .i64 6] ?_; (with_reducible refine (spec_l1Below.calls g s0_0 t124 t125 6 t140 t141 t142 w0 _ ?side1 ?side2 A35.out).mono ?_); (case side1 => repeat (first | (with_reducible first | exact HI0.out | apply IsS83.alloc | apply IsS83.drewN | apply IsS83.drew | apply IsS83.set_1 | apply IsS83.set_2 | refine IsS83.far ?_ NB0_122.out _ | refine IsS83.far ?_ NB0_126.out _) | exact HI0.out)); (case side2 => repeat (first | (with_reducible first | exact HB.out | apply b1 | apply b2 | apply b3 | refine below_set ?_ (IsS83.ge HI0.out) | refine below_set ?_ GE122.out | refine below_set ?_ GE126.out) | exact HB.out)); rintro e w40 ⟨rfl, hi, hb, hk⟩; refine ⟨_, rfl, ?_⟩; have n0_ := am (KeepBut.blk hk (g' := gb122) (o := .cells #[.int .i64 0, .int .i64 0, .bool false] 50 (0, 0)) (rk BK122) NB122_0.out (by simp)); have n1_ := am (KeepBut.blk hk (g' := gb126) (o := .cells #[.int .i64 (wrap64 (1 + t123)), .int .i64 0, .bool false] 50 (0, 0)) (rk BK126) NB126_0.out (by simp)); have n2_ := am (Kd.R_mono (Kd.R_keep (IsS83.apart (show IsS83 w0 _ g s0_0 t124 t125 from by repeat (first | (with_reducible first | exact HI0.out | apply IsS83.alloc | apply IsS83.drewN | apply IsS83.drew | apply IsS83.set_1 | apply IsS83.set_2 | refine IsS83.far ?_ NB0_122.out _ | refine IsS83.far ?_ NB0_126.out _) | exact HI0.out)) (rr HO139) (by decide)) hk (fun _ h => h.2)) (fun _ h => h.1)); have n3_ := am (KeepBut.trans (by repeat (first | (with_reducible first | exact HK.out | apply KeepBut.set_ | apply keep_drewN | apply keep_drew | apply keep_alloc | refine keep_far ?_ GW122.out _ | refine keep_far ?_ GW126.out _) | exact HK.out)) hk (.inl rfl)); have n4_ := am (hb); have n5_ := am (hi); clear BK122; clear BK126; clear HO139; clear HK; clear HB; clear HI0; have BK122 := n0_; have BK126 := n1_; have HO139 := n2_; have HK := n3_; have HB := n4_; have HI0 := n5_; clear n0_ n1_ n2_ n3_ n4_ n5_; (try clear hb); (try clear hb2); (try clear hk); (try clear hi); obtain ⟨Ao41, co41, eo41⟩ := Kd.R_slice HO139.out; subst eo41; have p143 : 0 ≤ (t140 : Int) := dt_; have q143 : t140 < (y137.length : Int) := dt_; obtain ⟨ad143, e143, hx143_0⟩ := Kd.at_int (Kd.R_reads' HO139.out).2.2 t140 p143 q143; cases e143; replace p143 := eq_true p143; replace q143 := eq_true q143; have hnb42 := NB126_122.out; have hnc42 := NB122_126.out; have hnb43 := NB126_0.out; have hnc43 := NB0_126.out; have hcz44_0 : w40.cell? ⟨gb126, 0, none⟩ = some (.int .i64 (wrap64 (1 + t123))) := (blk_cell BK126.out 0).trans rfl; have hcz44_1 : w40.cell? ⟨gb126, 1, none⟩ = some (.int .i64 0) := (blk_cell BK126.out 1).trans rfl; have hcz44_2 : w40.cell? ⟨gb126, 2, none⟩ = some (.bool false) := (blk_cell BK126.out 2).trans rfl; have hfz44_0 := blk_frozen BK126.out 0; have hfz44_1 := blk_frozen BK126.out 1; have hfz44_2 := blk_frozen BK126.out 2))
     go_meet
     case rel => exact ⟨_, (t141), (t142), (rd y137 t140), (false), H', ⟨by first | omega | exact Nat.le_refl _⟩, ⟨by (with_reducible repeat (first | apply k1 | apply k2 | apply k3)); refine blk_far ?_ NB122_126.out _; (with_reducible repeat (first | apply k1 | apply k2 | apply k3)); exact BK122.out⟩, ⟨by (with_reducible repeat (first | apply k1 | apply k2 | apply k3)); refine blk_put (cs := #[.int .i64 (wrap64 (1 + t123)), .int .i64 0, .bool false]) ?_ 1 _ rfl; (with_reducible repeat (first | apply k1 | apply k2 | apply k3)); exact BK126.out⟩, ⟨by repeat (first | (with_reducible first | exact HI0.out | apply IsS83.alloc | apply IsS83.drewN | apply IsS83.drew | apply IsS83.set_1 | apply IsS83.set_2 | refine IsS83.far ?_ NB0_122.out _ | refine IsS83.far ?_ NB0_126.out _) | exact HI0.out)⟩, ⟨by repeat (first | (with_reducible first | exact HK.out | apply KeepBut.set_ | apply keep_drewN | apply keep_drew | apply keep_alloc | refine keep_far ?_ GW122.out _ | refine keep_far ?_ GW126.out _) | exact HK.out)⟩, ⟨by repeat (first | (with_reducible first | exact HB.out | apply b1 | apply b2 | apply b3 | refine below_set ?_ (IsS83.ge HI0.out) | refine below_set ?_ GE122.out | refine below_set ?_ GE126.out) | exact HB.out)⟩⟩
   case' g6n =>
    rw [if_neg c34] at H
    have c34b0 : ((wrap64 (1 + t123)) == 2) = false := beq_eq_false_iff_ne.mpr c34
    have c34b1 : ((wrap64 (1 + t123)) != 2) = true := bne_iff_ne.mpr c34
    have H' := am H
    clear H
    have lf5_ := trivial
   all_goals
    go_wp2
    go_meet
    case rel => exact ⟨_, (t124), (t125), (0), (false), H', ⟨by first | omega | exact Nat.le_refl _⟩, ⟨by (with_reducible repeat (first | apply k1 | apply k2 | apply k3)); refine blk_far ?_ NB122_126.out _; (with_reducible repeat (first | apply k1 | apply k2 | apply k3)); refine blk_far ?_ NB122_126.out _; (with_reducible repeat (first | apply k1 | apply k2 | apply k3)); refine blk_far ?_ NB122_126.out _; (with_reducible repeat (first | apply k1 | apply k2 | apply k3)); exact BK122.out⟩, ⟨by (with_reducible repeat (first | apply k1 | apply k2 | apply k3)); refine blk_put (cs := #[.int .i64 (wrap64 (1 + t123)), .int .i64 0, .bool false]) ?_ 2 _ rfl; (with_reducible repeat (first | apply k1 | apply k2 | apply k3)); refine blk_put (cs := #[.int .i64 (wrap64 (1 + t123)), .int .i64 0, .bool false]) ?_ 1 _ rfl; (with_reducible repeat (first | apply k1 | apply k2 | apply k3)); refine blk_put (cs := #[.int .i64 0, .int .i64 0, .bool false]) ?_ 0 _ rfl; (with_reducible repeat (first | apply k1 | apply k2 | apply k3)); exact BK126.out⟩, ⟨by repeat (first | (with_reducible first | exact HI0.out | apply IsS83.alloc | apply IsS83.drewN | apply IsS83.drew | apply IsS83.set_1 | apply IsS83.set_2 | refine IsS83.far ?_ NB0_122.out _ | refine IsS83.far ?_ NB0_126.out _) | exact HI0.out)⟩, ⟨by repeat (first | (with_reducible first | exact HK.out | apply KeepBut.set_ | apply keep_drewN | apply keep_drew | apply keep_alloc | refine keep_far ?_ GW122.out _ | refine keep_far ?_ GW126.out _) | exact HK.out)⟩, ⟨by repeat (first | (with_reducible first | exact HB.out | apply b1 | apply b2 | apply b3 | refine below_set ?_ (IsS83.ge HI0.out) | refine below_set ?_ GE122.out | refine below_set ?_ GE126.out) | exact HB.out)⟩⟩
  all_goals
   go_wp2_with (first | ((with_reducible refine gate_dst (N := 12) rfl ?_); refine Kd.R_lit (Kd.int .i64) _ 2 ?hg (N := 12) ?hd (xs := ([97, 32, 233, 19968, 126, 91, 65, 51] : List Int)) (inner := [.int .i64 97, .int .i64 32, .int .i64 233, .int .i64 19968, .int .i64 126, .int .i64 91, .int .i64 65, .int .i64 51]) (ok := fun _ => True) (okp := fun _ => True) ?hr ?hp (fun _ hk => hk) trivial (Below.refl _ _) (Nat.le_refl _) (by simp) ?_; (case hd => rfl); (case hg => rfl); (case hr => first | (go_simp; done) | (go_simp; rfl)); (case hp => exact (Reps.one (show Kd.M (Kd.int .i64) _ _ _ 97 [.int .i64 97] from rfl) (Reps.one (show Kd.M (Kd.int .i64) _ _ _ 32 [.int .i64 32] from rfl) (Reps.one (show Kd.M (Kd.int .i64) _ _ _ 233 [.int .i64 233] from rfl) (Reps.one (show Kd.M (Kd.int .i64) _ _ _ 19968 [.int .i64 19968] from rfl) (Reps.one (show Kd.M (Kd.int .i64) _ _ _ 126 [.int .i64 126] from rfl) (Reps.one (show Kd.M (Kd.int .i64) _ _ _ 91 [.int .i64 91] from rfl) (Reps.one (show Kd.M (Kd.int .i64) _ _ _ 65 [.int .i64 65] from rfl) (Reps.one (show Kd.M (Kd.int .i64) _ _ _ 51 [.int .i64 51] from rfl) (Reps.none _ _)))))))))); intro v128 w16 ho17 hb hg_ hnew_; clear hg_ hnew_; (first | rw [← Ny127.out] at ho17 | (simp only [Int.reduceToNat] at ho17; rw [← Ny127.out] at ho17)); have n0_ := am (Kd.R_lower ho17 (keep_size (w := w) (g := g) (row := none) (by repeat (first | (with_reducible first | exact HK.out | apply KeepBut.set_ | apply keep_drewN | apply keep_drew | apply keep_alloc | refine keep_far ?_ GW122.out _ | refine keep_far ?_ GW126.out _) | exact HK.out)))); have n1_ := am (IsS83.below (show IsS83 w0 (((w6.setCell ⟨gb126, 0, none⟩ (.int .i64 (wrap64 (1 + t123)))).setCell ⟨gb126, 1, none⟩ (.int .i64 0)).setCell ⟨gb126, 2, none⟩ (.bool false)) g s0_0 t124 t125 from by repeat (first | (with_reducible first | exact HI0.out | apply IsS83.alloc | apply IsS83.drewN | apply IsS83.drew | apply IsS83.set_1 | apply IsS83.set_2 | refine IsS83.far ?_ NB0_122.out _ | refine IsS83.far ?_ NB0_126.out _) | exact HI0.out)) hb); have n2_ := am (blk_below (g := gb122) (o := .cells #[.int .i64 0, .int .i64 0, .bool false] 50 (0, 0)) (by (with_reducible repeat (first | apply k1 | apply k2 | apply k3)); refine blk_far ?_ NB122_126.out _; (with_reducible repeat (first | apply k1 | apply k2 | apply k3)); refine blk_far ?_ NB122_126.out _; (with_reducible repeat (first | apply k1 | apply k2 | apply k3)); refine blk_far ?_ NB122_126.out _; (with_reducible repeat (first | apply k1 | apply k2 | apply k3)); exact BK122.out) hb); have n3_ := am (blk_below (g := gb126) (o := .cells #[.int .i64 (wrap64 (1 + t123)), .int .i64 0, .bool false] 50 (0, 0)) (by (with_reducible repeat (first | apply k1 | apply k2 | apply k3)); refine blk_put (cs := #[.int .i64 (wrap64 (1 + t123)), .int .i64 0, .bool false]) ?_ 2 _ rfl; (with_reducible repeat (first | apply k1 | apply k2 | apply k3)); refine blk_put (cs := #[.int .i64 (wrap64 (1 + t123)), .int .i64 0, .bool false]) ?_ 1 _ rfl; (with_reducible repeat (first | apply k1 | apply k2 | apply k3)); refine blk_put (cs := #[.int .i64 0, .int .i64 0, .bool false]) ?_ 0 _ rfl; (with_reducible repeat (first | apply k1 | apply k2 | apply k3)); exact BK126.out) hb); have n4_ := am (KeepBut.trans (by repeat (first | (with_reducible first | exact HK.out | apply KeepBut.set_ | apply keep_drewN | apply keep_drew | apply keep_alloc | refine keep_far ?_ GW122.out _ | refine keep_far ?_ GW126.out _) | exact HK.out)) (KeepBut.of_below hb g none) (.inl rfl)); have n5_ := am (below_step (by repeat (first | (with_reducible first | exact HB.out | apply b1 | apply b2 | apply b3 | refine below_set ?_ (IsS83.ge HI0.out) | refine below_set ?_ GE122.out | refine below_set ?_ GE126.out) | exact HB.out)) hb); clear HI0; clear BK122; clear BK126; clear HK; clear HB; have HO129 := n0_; have HI0 := n1_; have BK122 := n2_; have BK126 := n3_; have HK := n4_; have HB := n5_; clear n0_ n1_ n2_ n3_ n4_ n5_; clear hb ho17) | ((with_reducible refine gate_callee (f := 52) rfl ?_); refine gl_ (some 19) Tryd.func52 #[.pointer (some ⟨g, 0, none⟩), .int .i64 3] ?_; (with_reducible refine (spec_l1Once.calls g s0_0 t131 t132 3 false t135 t136 w0 _ ?side1 ?side2 A14.out).mono ?_); (case side1 => repeat (first | (with_reducible first | exact HI0.out | apply IsS83.alloc | apply IsS83.drewN | apply IsS83.drew | apply IsS83.set_1 | apply IsS83.set_2 | refine IsS83.far ?_ NB0_122.out _ | refine IsS83.far ?_ NB0_126.out _) | exact HI0.out)); (case side2 => repeat (first | (with_reducible first | exact HB.out | apply b1 | apply b2 | apply b3 | refine below_set ?_ (IsS83.ge HI0.out) | refine below_set ?_ GE122.out | refine below_set ?_ GE126.out) | exact HB.out)); rintro e w32 ⟨rfl, hi, hb, hk⟩; refine ⟨_, rfl, ?_⟩; have n0_ := am (KeepBut.blk hk (g' := gb122) (o := .cells #[.int .i64 0, .int .i64 0, .bool false] 50 (0, 0)) (by (with_reducible repeat (first | apply k1 | apply k2 | apply k3)); refine blk_far ?_ NB122_126.out _; (with_reducible repeat (first | apply k1 | apply k2 | apply k3)); exact BK122.out) NB122_0.out (by simp)); have n1_ := am (KeepBut.blk hk (g' := gb126) (o := .cells #[.int .i64 (wrap64 (1 + t123)), .int .i64 (rd y127 t130), .bool false] 50 (0, 0)) (by (with_reducible repeat (first | apply k1 | apply k2 | apply k3)); refine blk_put (cs := #[.int .i64 (wrap64 (1 + t123)), .int .i64 0, .bool false]) ?_ 1 _ rfl; (with_reducible repeat (first | apply k1 | apply k2 | apply k3)); exact BK126.out) NB126_0.out (by simp)); have n2_ := am (Kd.R_mono (Kd.R_keep (IsS83.apart (show IsS83 w0 _ g s0_0 t131 t132 from by repeat (first | (with_reducible first | exact HI0.out | apply IsS83.alloc | apply IsS83.drewN | apply IsS83.drew | apply IsS83.set_1 | apply IsS83.set_2 | refine IsS83.far ?_ NB0_122.out _ | refine IsS83.far ?_ NB0_126.out _) | exact HI0.out)) (by (with_reducible repeat (first | apply r1 | apply r2 | apply r3)); exact (Kd.R_mono (Kd.R_far (p := ⟨gb126, 1, none⟩) (Kd.R_types HO129.out BK126.out (by decide)) (fun _ hk => hk.2) (.int .i64 (rd y127 t130))) (fun _ h_ => h_.1))) (by decide)) hk (fun _ h => h.2)) (fun _ h => h.1)); have n3_ := am (KeepBut.trans (by repeat (first | (with_reducible first | exact HK.out | apply KeepBut.set_ | apply keep_drewN | apply keep_drew | apply keep_alloc | refine keep_far ?_ GW122.out _ | refine keep_far ?_ GW126.out _) | exact HK.out)) hk (.inl rfl)); have n4_ := am (hb); have n5_ := am (hi); clear BK122; clear BK126; clear HO129; clear HK; clear HB; clear HI0; have BK122 := n0_; have BK126 := n1_; have HO129 := n2_; have HK := n3_; have HB := n4_; have HI0 := n5_; clear n0_ n1_ n2_ n3_ n4_ n5_; (try clear hb); (try clear hb2); (try clear hk); (try clear hi); have hcz33_0 : w32.cell? ⟨gb126, 0, none⟩ = some (.int .i64 (wrap64 (1 + t123))) := (blk_cell BK126.out 0).trans rfl; have hcz33_1 : w32.cell? ⟨gb126, 1, none⟩ = some (.int .i64 (rd y127 t130)) := (blk_cell BK126.out 1).trans rfl; have hcz33_2 : w32.cell? ⟨gb126, 2, none⟩ = some (.bool false) := (blk_cell BK126.out 2).trans rfl; have hfz33_0 := blk_frozen BK126.out 0; have hfz33_1 := blk_frozen BK126.out 1; have hfz33_2 := blk_frozen BK126.out 2) | ((with_reducible refine gate_callee (f := 52) rfl ?_); refine gl_ (some 19) Tryd.func52 #[.pointer (some ⟨g, 0, none⟩), .int .i64 3] ?_; (with_reducible refine (spec_l1Once.calls g s0_0 t131 t132 3 true t135 t136 w0 _ ?side1 ?side2 A14.out).mono ?_); (case side1 => repeat (first | (with_reducible first | exact HI0.out | apply IsS83.alloc | apply IsS83.drewN | apply IsS83.drew | apply IsS83.set_1 | apply IsS83.set_2 | refine IsS83.far ?_ NB0_122.out _ | refine IsS83.far ?_ NB0_126.out _) | exact HI0.out)); (case side2 => repeat (first | (with_reducible first | exact HB.out | apply b1 | apply b2 | apply b3 | refine below_set ?_ (IsS83.ge HI0.out) | refine below_set ?_ GE122.out | refine below_set ?_ GE126.out) | exact HB.out)); rintro e w23 ⟨rfl, hi, hb, hk⟩; refine ⟨_, rfl, ?_⟩; have n0_ := am (KeepBut.blk hk (g' := gb122) (o := .cells #[.int .i64 0, .int .i64 0, .bool false] 50 (0, 0)) (by (with_reducible repeat (first | apply k1 | apply k2 | apply k3)); refine blk_far ?_ NB122_126.out _; (with_reducible repeat (first | apply k1 | apply k2 | apply k3)); exact BK122.out) NB122_0.out (by simp)); have n1_ := am (KeepBut.blk hk (g' := gb126) (o := .cells #[.int .i64 (wrap64 (1 + t123)), .int .i64 (rd y127 t130), .bool false] 50 (0, 0)) (by (with_reducible repeat (first | apply k1 | apply k2 | apply k3)); refine blk_put (cs := #[.int .i64 (wrap64 (1 + t123)), .int .i64 0, .bool false]) ?_ 1 _ rfl; (with_reducible repeat (first | apply k1 | apply k2 | apply k3)); exact BK126.out) NB126_0.out (by simp)); have n2_ := am (Kd.R_mono (Kd.R_keep (IsS83.apart (show IsS83 w0 _ g s0_0 t131 t132 from by repeat (first | (with_reducible first | exact HI0.out | apply IsS83.alloc | apply IsS83.drewN | apply IsS83.drew | apply IsS83.set_1 | apply IsS83.set_2 | refine IsS83.far ?_ NB0_122.out _ | refine IsS83.far ?_ NB0_126.out _) | exact HI0.out)) (by (with_reducible repeat (first | apply r1 | apply r2 | apply r3)); exact (Kd.R_mono (Kd.R_far (p := ⟨gb126, 1, none⟩) (Kd.R_types HO129.out BK126.out (by decide)) (fun _ hk => hk.2) (.int .i64 (rd y127 t130))) (fun _ h_ => h_.1))) (by decide)) hk (fun _ h => h.2)) (fun _ h => h.1)); have n3_ := am (KeepBut.trans (by repeat (first | (with_reducible first | exact HK.out | apply KeepBut.set_ | apply keep_drewN | apply keep_drew | apply keep_alloc | refine keep_far ?_ GW122.out _ | refine keep_far ?_ GW126.out _) | exact HK.out)) hk (.inl rfl)); have n4_ := am (hb); have n5_ := am (hi); clear BK122; clear BK126; clear HO129; clear HK; clear HB; clear HI0; have BK122 := n0_; have BK126 := n1_; have HO129 := n2_; have HK := n3_; have HB := n4_; have HI0 := n5_; clear n0_ n1_ n2_ n3_ n4_ n5_; (try clear hb); (try clear hb2); (try clear hk); (try clear hi); have hcz24_0 : w23.cell? ⟨gb126, 0, none⟩ = some (.int .i64 (wrap64 (1 + t123))) := (blk_cell BK126.out 0).trans rfl; have hcz24_1 : w23.cell? ⟨gb126, 1, none⟩ = some (.int .i64 (rd y127 t130)) := (blk_cell BK126.out 1).trans rfl; have hcz24_2 : w23.cell? ⟨gb126, 2, none⟩ = some (.bool false) := (blk_cell BK126.out 2).trans rfl; have hfz24_0 := blk_frozen BK126.out 0; have hfz24_1 := blk_frozen BK126.out 1; have hfz24_2 := blk_frozen BK126.out 2) | ((with_reducible refine gate_callee (f := 53) rfl ?_); refine gl_ (some 14) Tryd.func53 #[.pointer (some ⟨g, 0, none⟩), .int .i64 8] ?_; (with_reducible refine (spec_l1Below.calls g s0_0 t124 t125 8 t130 t131 t132 w0 _ ?side1 ?side2 A11.out).mono ?_); (case side1 => repeat (first | (with_reducible first | exact HI0.out | apply IsS83.alloc | apply IsS83.drewN | apply IsS83.drew | apply IsS83.set_1 | apply IsS83.set_2 | refine IsS83.far ?_ NB0_122.out _ | refine IsS83.far ?_ NB0_126.out _) | exact HI0.out)); (case side2 => repeat (first | (with_reducible first | exact HB.out | apply b1 | apply b2 | apply b3 | refine below_set ?_ (IsS83.ge HI0.out) | refine below_set ?_ GE122.out | refine below_set ?_ GE126.out) | exact HB.out)); rintro e w18 ⟨rfl, hi, hb, hk⟩; refine ⟨_, rfl, ?_⟩; have n0_ := am (KeepBut.blk hk (g' := gb122) (o := .cells #[.int .i64 0, .int .i64 0, .bool false] 50 (0, 0)) (rk BK122) NB122_0.out (by simp)); have n1_ := am (KeepBut.blk hk (g' := gb126) (o := .cells #[.int .i64 (wrap64 (1 + t123)), .int .i64 0, .bool false] 50 (0, 0)) (rk BK126) NB126_0.out (by simp)); have n2_ := am (Kd.R_mono (Kd.R_keep (IsS83.apart (show IsS83 w0 _ g s0_0 t124 t125 from by repeat (first | (with_reducible first | exact HI0.out | apply IsS83.alloc | apply IsS83.drewN | apply IsS83.drew | apply IsS83.set_1 | apply IsS83.set_2 | refine IsS83.far ?_ NB0_122.out _ | refine IsS83.far ?_ NB0_126.out _) | exact HI0.out)) (rr HO129) (by decide)) hk (fun _ h => h.2)) (fun _ h => h.1)); have n3_ := am (KeepBut.trans (by repeat (first | (with_reducible first | exact HK.out | apply KeepBut.set_ | apply keep_drewN | apply keep_drew | apply keep_alloc | refine keep_far ?_ GW122.out _ | refine keep_far ?_ GW126.out _) | exact HK.out)) hk (.inl rfl)); have n4_ := am (hb); have n5_ := am (hi); clear BK122; clear BK126; clear HO129; clear HK; clear HB; clear HI0; have BK122 := n0_; have BK126 := n1_; have HO129 := n2_; have HK := n3_; have HB := n4_; have HI0 := n5_; clear n0_ n1_ n2_ n3_ n4_ n5_; (try clear hb); (try clear hb2); (try clear hk); (try clear hi); obtain ⟨Ao19, co19, eo19⟩ := Kd.R_slice HO129.out; subst eo19; have p133 : 0 ≤ (t130 : Int) := dt_; have q133 : t130 < (y127.length : Int) := dt_; obtain ⟨ad133, e133, hx133_0⟩ := Kd.at_int (Kd.R_reads' HO129.out).2.2 t130 p133 q133; cases e133; replace p133 := eq_true p133; replace q133 := eq_true q133; have hnb20 := NB126_122.out; have hnc20 := NB122_126.out; have hnb21 := NB126_0.out; have hnc21 := NB0_126.out; have hcz22_0 : w18.cell? ⟨gb126, 0, none⟩ = some (.int .i64 (wrap64 (1 + t123))) := (blk_cell BK126.out 0).trans rfl; have hcz22_1 : w18.cell? ⟨gb126, 1, none⟩ = some (.int .i64 0) := (blk_cell BK126.out 1).trans rfl; have hcz22_2 : w18.cell? ⟨gb126, 2, none⟩ = some (.bool false) := (blk_cell BK126.out 2).trans rfl; have hfz22_0 := blk_frozen BK126.out 0; have hfz22_1 := blk_frozen BK126.out 1; have hfz22_2 := blk_frozen BK126.out 2))
   go_meet
   first
   | (
     have q_ := lf1_
     case rel => exact ⟨_, (t135), (t136), (rd y127 t130), (((rd y127 t130) != 91)), H', ⟨by first | omega | exact Nat.le_refl _⟩, ⟨by (with_reducible repeat (first | apply k1 | apply k2 | apply k3)); refine blk_far ?_ NB122_126.out _; (with_reducible repeat (first | apply k1 | apply k2 | apply k3)); exact BK122.out⟩, ⟨by (with_reducible repeat (first | apply k1 | apply k2 | apply k3)); refine blk_put (cs := #[.int .i64 (wrap64 (1 + t123)), .int .i64 (rd y127 t130), .bool false]) ?_ 2 _ rfl; (with_reducible repeat (first | apply k1 | apply k2 | apply k3)); exact BK126.out⟩, ⟨by repeat (first | (with_reducible first | exact HI0.out | apply IsS83.alloc | apply IsS83.drewN | apply IsS83.drew | apply IsS83.set_1 | apply IsS83.set_2 | refine IsS83.far ?_ NB0_122.out _ | refine IsS83.far ?_ NB0_126.out _) | exact HI0.out)⟩, ⟨by repeat (first | (with_reducible first | exact HK.out | apply KeepBut.set_ | apply keep_drewN | apply keep_drew | apply keep_alloc | refine keep_far ?_ GW122.out _ | refine keep_far ?_ GW126.out _) | exact HK.out)⟩, ⟨by repeat (first | (with_reducible first | exact HB.out | apply b1 | apply b2 | apply b3 | refine below_set ?_ (IsS83.ge HI0.out) | refine below_set ?_ GE122.out | refine below_set ?_ GE126.out) | exact HB.out)⟩⟩
     )
   | (
     have q_ := lf2_
     case rel => exact ⟨_, (t135), (t136), (rd y127 t130), (false), H', ⟨by first | omega | exact Nat.le_refl _⟩, ⟨by (with_reducible repeat (first | apply k1 | apply k2 | apply k3)); refine blk_far ?_ NB122_126.out _; (with_reducible repeat (first | apply k1 | apply k2 | apply k3)); exact BK122.out⟩, ⟨by (with_reducible repeat (first | apply k1 | apply k2 | apply k3)); refine blk_put (cs := #[.int .i64 (wrap64 (1 + t123)), .int .i64 (rd y127 t130), .bool false]) ?_ 2 _ rfl; (with_reducible repeat (first | apply k1 | apply k2 | apply k3)); exact BK126.out⟩, ⟨by repeat (first | (with_reducible first | exact HI0.out | apply IsS83.alloc | apply IsS83.drewN | apply IsS83.drew | apply IsS83.set_1 | apply IsS83.set_2 | refine IsS83.far ?_ NB0_122.out _ | refine IsS83.far ?_ NB0_126.out _) | exact HI0.out)⟩, ⟨by repeat (first | (with_reducible first | exact HK.out | apply KeepBut.set_ | apply keep_drewN | apply keep_drew | apply keep_alloc | refine keep_far ?_ GW122.out _ | refine keep_far ?_ GW126.out _) | exact HK.out)⟩, ⟨by repeat (first | (with_reducible first | exact HB.out | apply b1 | apply b2 | apply b3 | refine below_set ?_ (IsS83.ge HI0.out) | refine below_set ?_ GE122.out | refine below_set ?_ GE126.out) | exact HB.out)⟩⟩
     )
 case rest =>
  clear HC3
  try clear c1
  try clear p1
  try clear q1
  try clear hx1
  try clear c2
  try clear p2
  try clear c3
  try clear c4
  try clear c5
  try clear c6
  try clear p6
  try clear c7
  try clear c8
  try clear c10
  try clear c10b0
  try clear c10b1
  try clear c12
  try clear c12b0
  try clear c13
  try clear c13b0
  try clear p13
  try clear q13
  try clear hx13
  try clear p14
  try clear q14
  try clear hx14
  try clear c15
  try clear c20
  try clear c21
  try clear c29
  try clear c30
  try clear c34
  try clear c34b0
  try clear c34b1
  try clear c36
  try clear c36b0
  try clear c37
  try clear c37b0
  try clear c42
  try clear c43
  try clear hcz22_0
  try clear hcz22_1
  try clear hcz22_2
  try clear hcz24_0
  try clear hcz24_1
  try clear hcz24_2
  try clear hcz31_0
  try clear hcz31_1
  try clear hcz31_2
  try clear hcz33_0
  try clear hcz33_1
  try clear hcz33_2
  try clear hcz44_0
  try clear hcz44_1
  try clear hcz44_2
  try clear hcz9_0
  try clear hcz9_1
  try clear hcz9_2
  try clear hfz22_0
  try clear hfz22_1
  try clear hfz22_2
  try clear hfz24_0
  try clear hfz24_1
  try clear hfz24_2
  try clear hfz31_0
  try clear hfz31_1
  try clear hfz31_2
  try clear hfz33_0
  try clear hfz33_1
  try clear hfz33_2
  try clear hfz44_0
  try clear hfz44_1
  try clear hfz44_2
  try clear hfz9_0
  try clear hfz9_1
  try clear hfz9_2
  try clear hx133_0
  try clear hx143_0
  try clear p133
  try clear p143
  try clear q133
  try clear q143
  obtain ⟨kq, x1001_2, x1002_2, x127001_2, x127002_2, HA, HJ2, BK122, BK126, HI0, HK, HB⟩ := hcut
  cases kq with
  | zero => exact absurd HA.out (by simp [spec_l13Draw.j0])
  | succ kj2 =>
   have H := HA.out
   clear HA
   simp only [spec_l13Draw.j0] at H
   replace H := Option.bind_eq_some_iff.mp H
   obtain ⟨⟨t144, t145, t146⟩, A450, H⟩ := H
   (try dsimp only at H)
   have A45 := am A450
   clear A450
   refine em_ (p := t144 = true) (fun c46 => ?g14p) (fun c46 => ?g14n)
   case' g14p =>
    subst c46
    rw [if_pos rfl] at H
    replace H := Option.bind_eq_some_iff.mp H
    obtain ⟨⟨t147, t148, t149⟩, A470, H⟩ := H
    (try dsimp only at H)
    have A47 := am A470
    clear A470
    refine em_ (p := t147 = 0) (fun c48 => ?g13p) (fun c48 => ?g13n)
    case' g13p =>
     rw [if_pos c48] at H
     have c48b0 : (t147 == 0) = true := beq_iff_eq.mpr c48
     have c48b1 : (t147 != 0) = false := bne_eq_false_iff_eq.mpr c48
     clear c48
     obtain ⟨y150, hy150⟩ : ∃ y_ : List Int, y_ = (([0, 13, (-1), 4611686018427387904] : List Int)) := ⟨_, rfl⟩
     replace H : ((spec_l1Below.f s0_0 t148 t149 4).bind fun bt153 => (if 0 ≤ bt153.1 then (if bt153.1 < (y150.length : Int) then (some (rd y150 bt153.1, x127001_2, x127002_2, bt153.2.1, bt153.2.2)) else (none)) else (none))) = some (r1, r2, r3, r4, r5) := by first | (rw [hy150]; with_reducible exact H) | (rw [hy150]; exact H) | exact H
     have Ny150 := am hy150
     clear hy150
     replace H := Option.bind_eq_some_iff.mp H
     obtain ⟨⟨t153, t154, t155⟩, A490, H⟩ := H
     (try dsimp only at H)
     have A49 := am A490
     clear A490
     refine em_ (p := 0 ≤ t153) (fun c50 => ?g8p) (fun c50 => ?g8n)
     case' g8p =>
      rw [if_pos c50] at H
      have c50b0 : decide (0 ≤ t153) = true := decide_eq_true c50
      clear c50
      refine em_ (p := t153 < (y150.length : Int)) (fun c51 => ?g7p) (fun c51 => ?g7n)
      case' g7p =>
       rw [if_pos c51] at H
       have c51b0 : decide (t153 < (y150.length : Int)) = true := decide_eq_true c51
       clear c51
       simp only [Option.some.injEq, Prod.mk.injEq] at H
       obtain ⟨rfl, rfl, rfl, rfl, rfl⟩ := H
       have lf6_ := trivial
      case g7n =>
       rw [if_neg c51] at H
       exact absurd H (by simp)
     case g8n =>
      rw [if_neg c50] at H
      exact absurd H (by simp)
    case' g13n =>
     rw [if_neg c48] at H
     have c48b0 : (t147 == 0) = false := beq_eq_false_iff_ne.mpr c48
     have c48b1 : (t147 != 0) = true := bne_iff_ne.mpr c48
     refine em_ (p := t147 = 1) (fun c63 => ?g12p) (fun c63 => ?g12n)
     case' g12p =>
      rw [if_pos c63] at H
      have c63b0 : (t147 == 1) = true := beq_iff_eq.mpr c63
      have c63b1 : (t147 != 1) = false := bne_eq_false_iff_eq.mpr c63
      clear c63
      obtain ⟨y157, hy157⟩ : ∃ y_ : List Int, y_ = (([(-1), 0, 9, 27, 127, 55296] : List Int)) := ⟨_, rfl⟩
      replace H : ((spec_l1Below.f s0_0 t148 t149 6).bind fun bt160 => (if 0 ≤ bt160.1 then (if bt160.1 < (y157.length : Int) then (some ((wrap64 (1 + t123)), rd y157 bt160.1, x127002_2, bt160.2.1, bt160.2.2)) else (none)) else (none))) = some (r1, r2, r3, r4, r5) := by first | (rw [hy157]; with_reducible exact H) | (rw [hy157]; exact H) | exact H
      have Ny157 := am hy157
      clear hy157
      replace H := Option.bind_eq_some_iff.mp H
      obtain ⟨⟨t160, t161, t162⟩, A640, H⟩ := H
      (try dsimp only at H)
      have A64 := am A640
      clear A640
      refine em_ (p := 0 ≤ t160) (fun c65 => ?g10p) (fun c65 => ?g10n)
      case' g10p =>
       rw [if_pos c65] at H
       have c65b0 : decide (0 ≤ t160) = true := decide_eq_true c65
       clear c65
       refine em_ (p := t160 < (y157.length : Int)) (fun c66 => ?g9p) (fun c66 => ?g9n)
       case' g9p =>
        rw [if_pos c66] at H
        have c66b0 : decide (t160 < (y157.length : Int)) = true := decide_eq_true c66
        clear c66
        simp only [Option.some.injEq, Prod.mk.injEq] at H
        obtain ⟨rfl, rfl, rfl, rfl, rfl⟩ := H
        have lf7_ := trivial
       case g9n =>
        rw [if_neg c66] at H
        exact absurd H (by simp)
      case g10n =>
       rw [if_neg c65] at H
       exact absurd H (by simp)
     case' g12n =>
      rw [if_neg c63] at H
      have c63b0 : (t147 == 1) = false := beq_eq_false_iff_ne.mpr c63
      have c63b1 : (t147 != 1) = true := bne_iff_ne.mpr c63
      refine em_ (p := t147 = 2) (fun c78 => ?g11p) (fun c78 => ?g11n)
      case' g11p =>
       rw [if_pos c78] at H
       have c78b0 : (t147 == 2) = true := beq_iff_eq.mpr c78
       have c78b1 : (t147 != 2) = false := bne_eq_false_iff_eq.mpr c78
       clear c78
       simp only [Option.some.injEq, Prod.mk.injEq] at H
       obtain ⟨rfl, rfl, rfl, rfl, rfl⟩ := H
       have lf8_ := trivial
      case' g11n =>
       rw [if_neg c78] at H
       have c78b0 : (t147 == 2) = false := beq_eq_false_iff_ne.mpr c78
       have c78b1 : (t147 != 2) = true := bne_iff_ne.mpr c78
       simp only [Option.some.injEq, Prod.mk.injEq] at H
       obtain ⟨rfl, rfl, rfl, rfl, rfl⟩ := H
       have lf9_ := trivial
   case' g14n =>
    replace c46 := Bool.eq_false_iff.mpr c46
    subst c46
    rw [if_neg (show ¬ (false = true) by decide)] at H
    simp only [Option.some.injEq, Prod.mk.injEq] at H
    obtain ⟨rfl, rfl, rfl, rfl, rfl⟩ := H
    have lf10_ := trivial
   all_goals
    go_wp2_with (first | ((with_reducible refine gate_callee (f := 53) rfl ?_); refine gl_ (some 42) Tryd.func53 #[.pointer (some ⟨g, 0, none⟩), .int .i64 4] ?_; (with_reducible refine (spec_l1Below.calls g s0_0 t148 t149 4 t153 t154 t155 w0 _ ?side1 ?side2 A49.out).mono ?_); (case side1 => repeat (first | (with_reducible first | exact HI0.out | apply IsS83.alloc | apply IsS83.drewN | apply IsS83.drew | apply IsS83.set_1 | apply IsS83.set_2 | refine IsS83.far ?_ NB0_122.out _ | refine IsS83.far ?_ NB0_126.out _) | exact HI0.out)); (case side2 => repeat (first | (with_reducible first | exact HB.out | apply b1 | apply b2 | apply b3 | refine below_set ?_ (IsS83.ge HI0.out) | refine below_set ?_ GE122.out | refine below_set ?_ GE126.out) | exact HB.out)); rintro e w56 ⟨rfl, hi, hb, hk⟩; refine ⟨_, rfl, ?_⟩; have n0_ := am (KeepBut.blk hk (g' := gb122) (o := .cells #[.int .i64 0, .int .i64 0, .bool false] 50 (0, 0)) (rk BK122) NB122_0.out (by simp)); have n1_ := am (KeepBut.blk hk (g' := gb126) (o := .cells #[.int .i64 (wrap64 (1 + t123)), .int .i64 x127001_2, .bool x127002_2] 50 (0, 0)) (rk BK126) NB126_0.out (by simp)); have n2_ := am (Kd.R_mono (Kd.R_keep (IsS83.apart (show IsS83 w0 _ g s0_0 t148 t149 from by repeat (first | (with_reducible first | exact HI0.out | apply IsS83.alloc | apply IsS83.drewN | apply IsS83.drew | apply IsS83.set_1 | apply IsS83.set_2 | refine IsS83.far ?_ NB0_122.out _ | refine IsS83.far ?_ NB0_126.out _) | exact HI0.out)) (rr HO152) (by decide)) hk (fun _ h => h.2)) (fun _ h => h.1)); have n3_ := am (KeepBut.trans (by repeat (first | (with_reducible first | exact HK.out | apply KeepBut.set_ | apply keep_drewN | apply keep_drew | apply keep_alloc | refine keep_far ?_ GW122.out _ | refine keep_far ?_ GW126.out _) | exact HK.out)) hk (.inl rfl)); have n4_ := am (hb); have n5_ := am (hi); clear BK122; clear BK126; clear HO152; clear HK; clear HB; clear HI0; have BK122 := n0_; have BK126 := n1_; have HO152 := n2_; have HK := n3_; have HB := n4_; have HI0 := n5_; clear n0_ n1_ n2_ n3_ n4_ n5_; (try clear hb); (try clear hb2); (try clear hk); (try clear hi); obtain ⟨Ao57, co57, eo57⟩ := Kd.R_slice HO152.out; subst eo57; have p156 : 0 ≤ (t153 : Int) := dt_; have q156 : t153 < (y150.length : Int) := dt_; obtain ⟨ad156, e156, hx156_0⟩ := Kd.at_int (Kd.R_reads' HO152.out).2.2 t153 p156 q156; cases e156; replace p156 := eq_true p156; replace q156 := eq_true q156; have hnb58 := NB126_122.out; have hnc58 := NB122_126.out; have hnb59 := NB126_0.out; have hnc59 := NB0_126.out; have hcz60_0 : w56.cell? ⟨gb126, 0, none⟩ = some (.int .i64 (wrap64 (1 + t123))) := (blk_cell BK126.out 0).trans rfl; have hcz60_1 : w56.cell? ⟨gb126, 1, none⟩ = some (.int .i64 x127001_2) := (blk_cell BK126.out 1).trans rfl; have hcz60_2 : w56.cell? ⟨gb126, 2, none⟩ = some (.bool x127002_2) := (blk_cell BK126.out 2).trans rfl; have hfz60_0 := blk_frozen BK126.out 0; have hfz60_1 := blk_frozen BK126.out 1; have hfz60_2 := blk_frozen BK126.out 2; have hnb61 := NB122_0.out; have hnc61 := NB0_122.out; have hcz62_0 : w56.cell? ⟨gb122, 0, none⟩ = some (.int .i64 0) := (blk_cell BK122.out 0).trans rfl; have hcz62_1 : w56.cell? ⟨gb122, 1, none⟩ = some (.int .i64 0) := (blk_cell BK122.out 1).trans rfl; have hcz62_2 : w56.cell? ⟨gb122, 2, none⟩ = some (.bool false) := (blk_cell BK122.out 2).trans rfl; have hfz62_0 := blk_frozen BK122.out 0; have hfz62_1 := blk_frozen BK122.out 1; have hfz62_2 := blk_frozen BK122.out 2) | ((with_reducible refine gate_callee (f := 53) rfl ?_); refine gl_ (some 50) Tryd.func53 #[.pointer (some ⟨g, 0, none⟩), .int .i64 6] ?_; (with_reducible refine (spec_l1Below.calls g s0_0 t148 t149 6 t160 t161 t162 w0 _ ?side1 ?side2 A64.out).mono ?_); (case side1 => repeat (first | (with_reducible first | exact HI0.out | apply IsS83.alloc | apply IsS83.drewN | apply IsS83.drew | apply IsS83.set_1 | apply IsS83.set_2 | refine IsS83.far ?_ NB0_122.out _ | refine IsS83.far ?_ NB0_126.out _) | exact HI0.out)); (case side2 => repeat (first | (with_reducible first | exact HB.out | apply b1 | apply b2 | apply b3 | refine below_set ?_ (IsS83.ge HI0.out) | refine below_set ?_ GE122.out | refine below_set ?_ GE126.out) | exact HB.out)); rintro e w71 ⟨rfl, hi, hb, hk⟩; refine ⟨_, rfl, ?_⟩; have n0_ := am (KeepBut.blk hk (g' := gb122) (o := .cells #[.int .i64 0, .int .i64 0, .bool false] 50 (0, 0)) (rk BK122) NB122_0.out (by simp)); have n1_ := am (KeepBut.blk hk (g' := gb126) (o := .cells #[.int .i64 (wrap64 (1 + t123)), .int .i64 x127001_2, .bool x127002_2] 50 (0, 0)) (rk BK126) NB126_0.out (by simp)); have n2_ := am (Kd.R_mono (Kd.R_keep (IsS83.apart (show IsS83 w0 _ g s0_0 t148 t149 from by repeat (first | (with_reducible first | exact HI0.out | apply IsS83.alloc | apply IsS83.drewN | apply IsS83.drew | apply IsS83.set_1 | apply IsS83.set_2 | refine IsS83.far ?_ NB0_122.out _ | refine IsS83.far ?_ NB0_126.out _) | exact HI0.out)) (rr HO159) (by decide)) hk (fun _ h => h.2)) (fun _ h => h.1)); have n3_ := am (KeepBut.trans (by repeat (first | (with_reducible first | exact HK.out | apply KeepBut.set_ | apply keep_drewN | apply keep_drew | apply keep_alloc | refine keep_far ?_ GW122.out _ | refine keep_far ?_ GW126.out _) | exact HK.out)) hk (.inl rfl)); have n4_ := am (hb); have n5_ := am (hi); clear BK122; clear BK126; clear HO159; clear HK; clear HB; clear HI0; have BK122 := n0_; have BK126 := n1_; have HO159 := n2_; have HK := n3_; have HB := n4_; have HI0 := n5_; clear n0_ n1_ n2_ n3_ n4_ n5_; (try clear hb); (try clear hb2); (try clear hk); (try clear hi); obtain ⟨Ao72, co72, eo72⟩ := Kd.R_slice HO159.out; subst eo72; have p163 : 0 ≤ (t160 : Int) := dt_; have q163 : t160 < (y157.length : Int) := dt_; obtain ⟨ad163, e163, hx163_0⟩ := Kd.at_int (Kd.R_reads' HO159.out).2.2 t160 p163 q163; cases e163; replace p163 := eq_true p163; replace q163 := eq_true q163; have hnb73 := NB126_122.out; have hnc73 := NB122_126.out; have hnb74 := NB126_0.out; have hnc74 := NB0_126.out; have hcz75_0 : w71.cell? ⟨gb126, 0, none⟩ = some (.int .i64 (wrap64 (1 + t123))) := (blk_cell BK126.out 0).trans rfl; have hcz75_1 : w71.cell? ⟨gb126, 1, none⟩ = some (.int .i64 x127001_2) := (blk_cell BK126.out 1).trans rfl; have hcz75_2 : w71.cell? ⟨gb126, 2, none⟩ = some (.bool x127002_2) := (blk_cell BK126.out 2).trans rfl; have hfz75_0 := blk_frozen BK126.out 0; have hfz75_1 := blk_frozen BK126.out 1; have hfz75_2 := blk_frozen BK126.out 2; have hnb76 := NB122_0.out; have hnc76 := NB0_122.out; have hcz77_0 : w71.cell? ⟨gb122, 0, none⟩ = some (.int .i64 0) := (blk_cell BK122.out 0).trans rfl; have hcz77_1 : w71.cell? ⟨gb122, 1, none⟩ = some (.int .i64 0) := (blk_cell BK122.out 1).trans rfl; have hcz77_2 : w71.cell? ⟨gb122, 2, none⟩ = some (.bool false) := (blk_cell BK122.out 2).trans rfl; have hfz77_0 := blk_frozen BK122.out 0; have hfz77_1 := blk_frozen BK122.out 1; have hfz77_2 := blk_frozen BK122.out 2) | ((with_reducible refine gate_callee (f := 52) rfl ?_); refine gl_ (some 35) Tryd.func52 #[.pointer (some ⟨g, 0, none⟩), .int .i64 14] ?_; (with_reducible refine (spec_l1Once.calls g s0_0 x1001_2 x1002_2 14 false t145 t146 w0 _ ?side1 ?side2 A45.out).mono ?_); (case side1 => repeat (first | (with_reducible first | exact HI0.out | apply IsS83.alloc | apply IsS83.drewN | apply IsS83.drew | apply IsS83.set_1 | apply IsS83.set_2 | refine IsS83.far ?_ NB0_122.out _ | refine IsS83.far ?_ NB0_126.out _) | exact HI0.out)); (case side2 => repeat (first | (with_reducible first | exact HB.out | apply b1 | apply b2 | apply b3 | refine below_set ?_ (IsS83.ge HI0.out) | refine below_set ?_ GE122.out | refine below_set ?_ GE126.out) | exact HB.out)); rintro e w93 ⟨rfl, hi, hb, hk⟩; refine ⟨_, rfl, ?_⟩; have n0_ := am (KeepBut.blk hk (g' := gb122) (o := .cells #[.int .i64 0, .int .i64 0, .bool false] 50 (0, 0)) (rk BK122) NB122_0.out (by simp)); have n1_ := am (KeepBut.blk hk (g' := gb126) (o := .cells #[.int .i64 (wrap64 (1 + t123)), .int .i64 x127001_2, .bool x127002_2] 50 (0, 0)) (rk BK126) NB126_0.out (by simp)); have n2_ := am (KeepBut.trans (by repeat (first | (with_reducible first | exact HK.out | apply KeepBut.set_ | apply keep_drewN | apply keep_drew | apply keep_alloc | refine keep_far ?_ GW122.out _ | refine keep_far ?_ GW126.out _) | exact HK.out)) hk (.inl rfl)); have n3_ := am (hb); have n4_ := am (hi); clear BK122; clear BK126; clear HK; clear HB; clear HI0; have BK122 := n0_; have BK126 := n1_; have HK := n2_; have HB := n3_; have HI0 := n4_; clear n0_ n1_ n2_ n3_ n4_; (try clear hb); (try clear hb2); (try clear hk); (try clear hi); have hnb94 := NB126_122.out; have hnc94 := NB122_126.out; have hnb95 := NB126_0.out; have hnc95 := NB0_126.out; have hcz96_0 : w93.cell? ⟨gb126, 0, none⟩ = some (.int .i64 (wrap64 (1 + t123))) := (blk_cell BK126.out 0).trans rfl; have hcz96_1 : w93.cell? ⟨gb126, 1, none⟩ = some (.int .i64 x127001_2) := (blk_cell BK126.out 1).trans rfl; have hcz96_2 : w93.cell? ⟨gb126, 2, none⟩ = some (.bool x127002_2) := (blk_cell BK126.out 2).trans rfl; have hfz96_0 := blk_frozen BK126.out 0; have hfz96_1 := blk_frozen BK126.out 1; have hfz96_2 := blk_frozen BK126.out 2; have hnb97 := NB122_0.out; have hnc97 := NB0_122.out; have hcz98_0 : w93.cell? ⟨gb122, 0, none⟩ = some (.int .i64 0) := (blk_cell BK122.out 0).trans rfl; have hcz98_1 : w93.cell? ⟨gb122, 1, none⟩ = some (.int .i64 0) := (blk_cell BK122.out 1).trans rfl; have hcz98_2 : w93.cell? ⟨gb122, 2, none⟩ = some (.bool false) := (blk_cell BK122.out 2).trans rfl; have hfz98_0 := blk_frozen BK122.out 0; have hfz98_1 := blk_frozen BK122.out 1; have hfz98_2 := blk_frozen BK122.out 2) | ((with_reducible refine gate_callee (f := 53) rfl ?_); refine gl_ (some 37) Tryd.func53 #[.pointer (some ⟨g, 0, none⟩), .int .i64 3] ?_; (with_reducible refine (spec_l1Below.calls g s0_0 t145 t146 3 t147 t148 t149 w0 _ ?side1 ?side2 A47.out).mono ?_); (case side1 => repeat (first | (with_reducible first | exact HI0.out | apply IsS83.alloc | apply IsS83.drewN | apply IsS83.drew | apply IsS83.set_1 | apply IsS83.set_2 | refine IsS83.far ?_ NB0_122.out _ | refine IsS83.far ?_ NB0_126.out _) | exact HI0.out)); (case side2 => repeat (first | (with_reducible first | exact HB.out | apply b1 | apply b2 | apply b3 | refine below_set ?_ (IsS83.ge HI0.out) | refine below_set ?_ GE122.out | refine below_set ?_ GE126.out) | exact HB.out)); rintro e w80 ⟨rfl, hi, hb, hk⟩; refine ⟨_, rfl, ?_⟩; have n0_ := am (KeepBut.blk hk (g' := gb122) (o := .cells #[.int .i64 0, .int .i64 0, .bool false] 50 (0, 0)) (rk BK122) NB122_0.out (by simp)); have n1_ := am (KeepBut.blk hk (g' := gb126) (o := .cells #[.int .i64 (wrap64 (1 + t123)), .int .i64 x127001_2, .bool x127002_2] 50 (0, 0)) (rk BK126) NB126_0.out (by simp)); have n2_ := am (KeepBut.trans (by repeat (first | (with_reducible first | exact HK.out | apply KeepBut.set_ | apply keep_drewN | apply keep_drew | apply keep_alloc | refine keep_far ?_ GW122.out _ | refine keep_far ?_ GW126.out _) | exact HK.out)) hk (.inl rfl)); have n3_ := am (hb); have n4_ := am (hi); clear BK122; clear BK126; clear HK; clear HB; clear HI0; have BK122 := n0_; have BK126 := n1_; have HK := n2_; have HB := n3_; have HI0 := n4_; clear n0_ n1_ n2_ n3_ n4_; (try clear hb); (try clear hb2); (try clear hk); (try clear hi); have hnb81 := NB126_122.out; have hnc81 := NB122_126.out; have hnb82 := NB126_0.out; have hnc82 := NB0_126.out; have hcz83_0 : w80.cell? ⟨gb126, 0, none⟩ = some (.int .i64 (wrap64 (1 + t123))) := (blk_cell BK126.out 0).trans rfl; have hcz83_1 : w80.cell? ⟨gb126, 1, none⟩ = some (.int .i64 x127001_2) := (blk_cell BK126.out 1).trans rfl; have hcz83_2 : w80.cell? ⟨gb126, 2, none⟩ = some (.bool x127002_2) := (blk_cell BK126.out 2).trans rfl; have hfz83_0 := blk_frozen BK126.out 0; have hfz83_1 := blk_frozen BK126.out 1; have hfz83_2 := blk_frozen BK126.out 2; have hnb84 := NB122_0.out; have hnc84 := NB0_122.out; have hcz85_0 : w80.cell? ⟨gb122, 0, none⟩ = some (.int .i64 0) := (blk_cell BK122.out 0).trans rfl; have hcz85_1 : w80.cell? ⟨gb122, 1, none⟩ = some (.int .i64 0) := (blk_cell BK122.out 1).trans rfl; have hcz85_2 : w80.cell? ⟨gb122, 2, none⟩ = some (.bool false) := (blk_cell BK122.out 2).trans rfl; have hfz85_0 := blk_frozen BK122.out 0; have hfz85_1 := blk_frozen BK122.out 1; have hfz85_2 := blk_frozen BK122.out 2) | ((with_reducible refine gate_dst (N := 48) rfl ?_); refine Kd.R_lit (Kd.int .i64) _ 2 ?hg (N := 48) ?hd (xs := ([(-1), 0, 9, 27, 127, 55296] : List Int)) (inner := [.int .i64 (-1), .int .i64 0, .int .i64 9, .int .i64 27, .int .i64 127, .int .i64 55296]) (ok := fun _ => True) (okp := fun _ => True) ?hr ?hp (fun _ hk => hk) trivial (Below.refl _ _) (Nat.le_refl _) (by simp) ?_; (case hd => rfl); (case hg => rfl); (case hr => first | (go_simp; done) | (go_simp; rfl)); (case hp => exact (Reps.one (show Kd.M (Kd.int .i64) _ _ _ (-1) [.int .i64 (-1)] from rfl) (Reps.one (show Kd.M (Kd.int .i64) _ _ _ 0 [.int .i64 0] from rfl) (Reps.one (show Kd.M (Kd.int .i64) _ _ _ 9 [.int .i64 9] from rfl) (Reps.one (show Kd.M (Kd.int .i64) _ _ _ 27 [.int .i64 27] from rfl) (Reps.one (show Kd.M (Kd.int .i64) _ _ _ 127 [.int .i64 127] from rfl) (Reps.one (show Kd.M (Kd.int .i64) _ _ _ 55296 [.int .i64 55296] from rfl) (Reps.none _ _)))))))); intro v158 w69 ho70 hb hg_ hnew_; clear hg_ hnew_; (first | rw [← Ny157.out] at ho70 | (simp only [Int.reduceToNat] at ho70; rw [← Ny157.out] at ho70)); have n0_ := am (Kd.R_lower ho70 (keep_size (w := w) (g := g) (row := none) (by repeat (first | (with_reducible first | exact HK.out | apply KeepBut.set_ | apply keep_drewN | apply keep_drew | apply keep_alloc | refine keep_far ?_ GW122.out _ | refine keep_far ?_ GW126.out _) | exact HK.out)))); have n1_ := am (blk_below (g := gb122) (o := .cells #[.int .i64 0, .int .i64 0, .bool false] 50 (0, 0)) (rk BK122) hb); have n2_ := am (blk_below (g := gb126) (o := .cells #[.int .i64 (wrap64 (1 + t123)), .int .i64 x127001_2, .bool x127002_2] 50 (0, 0)) (rk BK126) hb); have n3_ := am (IsS83.below (by repeat (first | (with_reducible first | exact HI0.out | apply IsS83.alloc | apply IsS83.drewN | apply IsS83.drew | apply IsS83.set_1 | apply IsS83.set_2 | refine IsS83.far ?_ NB0_122.out _ | refine IsS83.far ?_ NB0_126.out _) | exact HI0.out)) hb); have n4_ := am (KeepBut.trans (by repeat (first | (with_reducible first | exact HK.out | apply KeepBut.set_ | apply keep_drewN | apply keep_drew | apply keep_alloc | refine keep_far ?_ GW122.out _ | refine keep_far ?_ GW126.out _) | exact HK.out)) (KeepBut.of_below hb g none) (.inl rfl)); have n5_ := am (below_step (by repeat (first | (with_reducible first | exact HB.out | apply b1 | apply b2 | apply b3 | refine below_set ?_ (IsS83.ge HI0.out) | refine below_set ?_ GE122.out | refine below_set ?_ GE126.out) | exact HB.out)) hb); clear BK122; clear BK126; clear HI0; clear HK; clear HB; have HO159 := n0_; have BK122 := n1_; have BK126 := n2_; have HI0 := n3_; have HK := n4_; have HB := n5_; clear n0_ n1_ n2_ n3_ n4_ n5_; clear hb ho70) | ((with_reducible refine gate_dst (N := 40) rfl ?_); refine Kd.R_lit (Kd.int .i64) _ 2 ?hg (N := 40) ?hd (xs := ([0, 13, (-1), 4611686018427387904] : List Int)) (inner := [.int .i64 0, .int .i64 13, .int .i64 (-1), .int .i64 4611686018427387904]) (ok := fun _ => True) (okp := fun _ => True) ?hr ?hp (fun _ hk => hk) trivial (Below.refl _ _) (Nat.le_refl _) (by simp) ?_; (case hd => rfl); (case hg => rfl); (case hr => first | (go_simp; done) | (go_simp; rfl)); (case hp => exact (Reps.one (show Kd.M (Kd.int .i64) _ _ _ 0 [.int .i64 0] from rfl) (Reps.one (show Kd.M (Kd.int .i64) _ _ _ 13 [.int .i64 13] from rfl) (Reps.one (show Kd.M (Kd.int .i64) _ _ _ (-1) [.int .i64 (-1)] from rfl) (Reps.one (show Kd.M (Kd.int .i64) _ _ _ 4611686018427387904 [.int .i64 4611686018427387904] from rfl) (Reps.none _ _)))))); intro v151 w54 ho55 hb hg_ hnew_; clear hg_ hnew_; (first | rw [← Ny150.out] at ho55 | (simp only [Int.reduceToNat] at ho55; rw [← Ny150.out] at ho55)); have n0_ := am (Kd.R_lower ho55 (keep_size (w := w) (g := g) (row := none) (by repeat (first | (with_reducible first | exact HK.out | apply KeepBut.set_ | apply keep_drewN | apply keep_drew | apply keep_alloc | refine keep_far ?_ GW122.out _ | refine keep_far ?_ GW126.out _) | exact HK.out)))); have n1_ := am (blk_below (g := gb122) (o := .cells #[.int .i64 0, .int .i64 0, .bool false] 50 (0, 0)) (rk BK122) hb); have n2_ := am (blk_below (g := gb126) (o := .cells #[.int .i64 (wrap64 (1 + t123)), .int .i64 x127001_2, .bool x127002_2] 50 (0, 0)) (rk BK126) hb); have n3_ := am (IsS83.below (by repeat (first | (with_reducible first | exact HI0.out | apply IsS83.alloc | apply IsS83.drewN | apply IsS83.drew | apply IsS83.set_1 | apply IsS83.set_2 | refine IsS83.far ?_ NB0_122.out _ | refine IsS83.far ?_ NB0_126.out _) | exact HI0.out)) hb); have n4_ := am (KeepBut.trans (by repeat (first | (with_reducible first | exact HK.out | apply KeepBut.set_ | apply keep_drewN | apply keep_drew | apply keep_alloc | refine keep_far ?_ GW122.out _ | refine keep_far ?_ GW126.out _) | exact HK.out)) (KeepBut.of_below hb g none) (.inl rfl)); have n5_ := am (below_step (by repeat (first | (with_reducible first | exact HB.out | apply b1 | apply b2 | apply b3 | refine below_set ?_ (IsS83.ge HI0.out) | refine below_set ?_ GE122.out | refine below_set ?_ GE126.out) | exact HB.out)) hb); clear BK122; clear BK126; clear HI0; clear HK; clear HB; have HO152 := n0_; have BK122 := n1_; have BK126 := n2_; have HI0 := n3_; have HK := n4_; have HB := n5_; clear n0_ n1_ n2_ n3_ n4_ n5_; clear hb ho55) | ((with_reducible refine gate_callee (f := 52) rfl ?_); refine gl_ (some 35) Tryd.func52 #[.pointer (some ⟨g, 0, none⟩), .int .i64 14] ?_; (with_reducible refine (spec_l1Once.calls g s0_0 x1001_2 x1002_2 14 true t145 t146 w0 _ ?side1 ?side2 A45.out).mono ?_); (case side1 => repeat (first | (with_reducible first | exact HI0.out | apply IsS83.alloc | apply IsS83.drewN | apply IsS83.drew | apply IsS83.set_1 | apply IsS83.set_2 | refine IsS83.far ?_ NB0_122.out _ | refine IsS83.far ?_ NB0_126.out _) | exact HI0.out)); (case side2 => repeat (first | (with_reducible first | exact HB.out | apply b1 | apply b2 | apply b3 | refine below_set ?_ (IsS83.ge HI0.out) | refine below_set ?_ GE122.out | refine below_set ?_ GE126.out) | exact HB.out)); rintro e w52 ⟨rfl, hi, hb, hk⟩; refine ⟨_, rfl, ?_⟩; have n0_ := am (KeepBut.blk hk (g' := gb122) (o := .cells #[.int .i64 0, .int .i64 0, .bool false] 50 (0, 0)) (rk BK122) NB122_0.out (by simp)); have n1_ := am (KeepBut.blk hk (g' := gb126) (o := .cells #[.int .i64 (wrap64 (1 + t123)), .int .i64 x127001_2, .bool x127002_2] 50 (0, 0)) (rk BK126) NB126_0.out (by simp)); have n2_ := am (KeepBut.trans (by repeat (first | (with_reducible first | exact HK.out | apply KeepBut.set_ | apply keep_drewN | apply keep_drew | apply keep_alloc | refine keep_far ?_ GW122.out _ | refine keep_far ?_ GW126.out _) | exact HK.out)) hk (.inl rfl)); have n3_ := am (hb); have n4_ := am (hi); clear BK122; clear BK126; clear HK; clear HB; clear HI0; have BK122 := n0_; have BK126 := n1_; have HK := n2_; have HB := n3_; have HI0 := n4_; clear n0_ n1_ n2_ n3_ n4_; (try clear hb); (try clear hb2); (try clear hk); (try clear hi)) | ((with_reducible refine gate_callee (f := 53) rfl ?_); refine gl_ (some 37) Tryd.func53 #[.pointer (some ⟨g, 0, none⟩), .int .i64 3] ?_; (with_reducible refine (spec_l1Below.calls g s0_0 t145 t146 3 t147 t148 t149 w0 _ ?side1 ?side2 A47.out).mono ?_); (case side1 => repeat (first | (with_reducible first | exact HI0.out | apply IsS83.alloc | apply IsS83.drewN | apply IsS83.drew | apply IsS83.set_1 | apply IsS83.set_2 | refine IsS83.far ?_ NB0_122.out _ | refine IsS83.far ?_ NB0_126.out _) | exact HI0.out)); (case side2 => repeat (first | (with_reducible first | exact HB.out | apply b1 | apply b2 | apply b3 | refine below_set ?_ (IsS83.ge HI0.out) | refine below_set ?_ GE122.out | refine below_set ?_ GE126.out) | exact HB.out)); rintro e w53 ⟨rfl, hi, hb, hk⟩; refine ⟨_, rfl, ?_⟩; have n0_ := am (KeepBut.blk hk (g' := gb122) (o := .cells #[.int .i64 0, .int .i64 0, .bool false] 50 (0, 0)) (rk BK122) NB122_0.out (by simp)); have n1_ := am (KeepBut.blk hk (g' := gb126) (o := .cells #[.int .i64 (wrap64 (1 + t123)), .int .i64 x127001_2, .bool x127002_2] 50 (0, 0)) (rk BK126) NB126_0.out (by simp)); have n2_ := am (KeepBut.trans (by repeat (first | (with_reducible first | exact HK.out | apply KeepBut.set_ | apply keep_drewN | apply keep_drew | apply keep_alloc | refine keep_far ?_ GW122.out _ | refine keep_far ?_ GW126.out _) | exact HK.out)) hk (.inl rfl)); have n3_ := am (hb); have n4_ := am (hi); clear BK122; clear BK126; clear HK; clear HB; clear HI0; have BK122 := n0_; have BK126 := n1_; have HK := n2_; have HB := n3_; have HI0 := n4_; clear n0_ n1_ n2_ n3_ n4_; (try clear hb); (try clear hb2); (try clear hk); (try clear hi)))
    first
    | (
      have q_ := lf7_
      refine bodyPost_ret (results_cell_row rfl _ _ gb122 50 #[.int .i64 (wrap64 (1 + t123)), .int .i64 (rd y157 t160), .bool x127002_2] (0, 0) _ rfl (by (with_reducible repeat (first | apply k1 | apply k2 | apply k3)); refine blk_put (cs := #[.int .i64 (wrap64 (1 + t123)), .int .i64 (rd y157 t160), .bool false]) ?_ 2 _ rfl; (with_reducible repeat (first | apply k1 | apply k2 | apply k3)); refine blk_put (cs := #[.int .i64 (wrap64 (1 + t123)), .int .i64 0, .bool false]) ?_ 1 _ rfl; (with_reducible repeat (first | apply k1 | apply k2 | apply k3)); refine blk_put (cs := #[.int .i64 0, .int .i64 0, .bool false]) ?_ 0 _ rfl; (with_reducible repeat (first | apply k1 | apply k2 | apply k3)); refine blk_far ?_ NB122_126.out _; (with_reducible repeat (first | apply k1 | apply k2 | apply k3)); exact BK122.out) Tryd.underlying50 rfl (by kernel_rfl)) rfl ?_
      exact ⟨by first | rfl | (simp [errW_none, errW_some] <;> rfl) | (simp [*, errW_none, errW_some] <;> rfl), by repeat (first | (with_reducible first | exact HI0.out | apply IsS83.alloc | apply IsS83.drewN | apply IsS83.drew | apply IsS83.set_1 | apply IsS83.set_2 | refine IsS83.far ?_ NB0_122.out _ | refine IsS83.far ?_ NB0_126.out _) | exact HI0.out), by repeat (first | (with_reducible first | exact HB.out | apply b1 | apply b2 | apply b3 | refine below_set ?_ (IsS83.ge HI0.out) | refine below_set ?_ GE122.out | refine below_set ?_ GE126.out) | exact HB.out), by repeat (first | (with_reducible first | exact HK.out | apply KeepBut.set_ | apply keep_drewN | apply keep_drew | apply keep_alloc | refine keep_far ?_ GW122.out _ | refine keep_far ?_ GW126.out _) | exact HK.out)⟩
      )
    | (
      have q_ := lf8_
      refine bodyPost_ret (results_cell_row rfl _ _ gb122 50 #[.int .i64 (wrap64 (1 + t123)), .int .i64 x127001_2, .bool (!x127002_2)] (0, 0) _ rfl (by (with_reducible repeat (first | apply k1 | apply k2 | apply k3)); refine blk_put (cs := #[.int .i64 (wrap64 (1 + t123)), .int .i64 x127001_2, .bool false]) ?_ 2 _ rfl; (with_reducible repeat (first | apply k1 | apply k2 | apply k3)); refine blk_put (cs := #[.int .i64 (wrap64 (1 + t123)), .int .i64 0, .bool false]) ?_ 1 _ rfl; (with_reducible repeat (first | apply k1 | apply k2 | apply k3)); refine blk_put (cs := #[.int .i64 0, .int .i64 0, .bool false]) ?_ 0 _ rfl; (with_reducible repeat (first | apply k1 | apply k2 | apply k3)); refine blk_far ?_ NB122_126.out _; (with_reducible repeat (first | apply k1 | apply k2 | apply k3)); exact BK122.out) Tryd.underlying50 rfl (by kernel_rfl)) rfl ?_
      exact ⟨by first | rfl | (simp [errW_none, errW_some] <;> rfl) | (simp [*, errW_none, errW_some] <;> rfl), by repeat (first | (with_reducible first | exact HI0.out | apply IsS83.alloc | apply IsS83.drewN | apply IsS83.drew | apply IsS83.set_1 | apply IsS83.set_2 | refine IsS83.far ?_ NB0_122.out _ | refine IsS83.far ?_ NB0_126.out _) | exact HI0.out), by repeat (first | (with_reducible first | exact HB.out | apply b1 | apply b2 | apply b3 | refine below_set ?_ (IsS83.ge HI0.out) | refine below_set ?_ GE122.out | refine below_set ?_ GE126.out) | exact HB.out), by repeat (first | (with_reducible first | exact HK.out | apply KeepBut.set_ | apply keep_drewN | apply keep_drew | apply keep_alloc | refine keep_far ?_ GW122.out _ | refine keep_far ?_ GW126.out _) | exact HK.out)⟩
      )
    | (
      have q_ := lf6_
      refine bodyPost_ret (results_cell_row rfl _ _ gb122 50 #[.int .i64 (rd y150 t153), .int .i64 x127001_2, .bool x127002_2] (0, 0) _ rfl (by (with_reducible repeat (first | apply k1 | apply k2 | apply k3)); refine blk_put (cs := #[.int .i64 (rd y150 t153), .int .i64 x127001_2, .bool false]) ?_ 2 _ rfl; (with_reducible repeat (first | apply k1 | apply k2 | apply k3)); refine blk_put (cs := #[.int .i64 (rd y150 t153), .int .i64 0, .bool false]) ?_ 1 _ rfl; (with_reducible repeat (first | apply k1 | apply k2 | apply k3)); refine blk_put (cs := #[.int .i64 0, .int .i64 0, .bool false]) ?_ 0 _ rfl; (with_reducible repeat (first | apply k1 | apply k2 | apply k3)); refine blk_far ?_ NB122_126.out _; (with_reducible repeat (first | apply k1 | apply k2 | apply k3)); exact BK122.out) Tryd.underlying50 rfl (by kernel_rfl)) rfl ?_
      exact ⟨by first | rfl | (simp [errW_none, errW_some] <;> rfl) | (simp [*, errW_none, errW_some] <;> rfl), by repeat (first | (with_reducible first | exact HI0.out | apply IsS83.alloc | apply IsS83.drewN | apply IsS83.drew | apply IsS83.set_1 | apply IsS83.set_2 | refine IsS83.far ?_ NB0_122.out _ | refine IsS83.far ?_ NB0_126.out _) | exact HI0.out), by repeat (first | (with_reducible first | exact HB.out | apply b1 | apply b2 | apply b3 | refine below_set ?_ (IsS83.ge HI0.out) | refine below_set ?_ GE122.out | refine below_set ?_ GE126.out) | exact HB.out), by repeat (first | (with_reducible first | exact HK.out | apply KeepBut.set_ | apply keep_drewN | apply keep_drew | apply keep_alloc | refine keep_far ?_ GW122.out _ | refine keep_far ?_ GW126.out _) | exact HK.out)⟩
      )
    | (
      first | have q_ := lf9_ | have q_ := lf10_
      refine bodyPost_ret (results_cell_row rfl _ _ gb122 50 #[.int .i64 (wrap64 (1 + t123)), .int .i64 x127001_2, .bool x127002_2] (0, 0) _ rfl (by (with_reducible repeat (first | apply k1 | apply k2 | apply k3)); refine blk_put (cs := #[.int .i64 (wrap64 (1 + t123)), .int .i64 x127001_2, .bool false]) ?_ 2 _ rfl; (with_reducible repeat (first | apply k1 | apply k2 | apply k3)); refine blk_put (cs := #[.int .i64 (wrap64 (1 + t123)), .int .i64 0, .bool false]) ?_ 1 _ rfl; (with_reducible repeat (first | apply k1 | apply k2 | apply k3)); refine blk_put (cs := #[.int .i64 0, .int .i64 0, .bool false]) ?_ 0 _ rfl; (with_reducible repeat (first | apply k1 | apply k2 | apply k3)); exact BK122.out) Tryd.underlying50 rfl (by kernel_rfl)) rfl ?_
      exact ⟨by first | rfl | (simp [errW_none, errW_some] <;> rfl) | (simp [*, errW_none, errW_some] <;> rfl), by repeat (first | (with_reducible first | exact HI0.out | apply IsS83.alloc | apply IsS83.drewN | apply IsS83.drew | apply IsS83.set_1 | apply IsS83.set_2 | refine IsS83.far ?_ NB0_122.out _ | refine IsS83.far ?_ NB0_126.out _) | exact HI0.out), by repeat (first | (with_reducible first | exact HB.out | apply b1 | apply b2 | apply b3 | refine below_set ?_ (IsS83.ge HI0.out) | refine below_set ?_ GE122.out | refine below_set ?_ GE126.out) | exact HB.out), by repeat (first | (with_reducible first | exact HK.out | apply KeepBut.set_ | apply keep_drewN | apply keep_drew | apply keep_alloc | refine keep_far ?_ GW122.out _ | refine keep_far ?_ GW126.out _) | exact HK.out)⟩
      )

/-! ### spec_DrawKeyOk: function 65 -/
def spec_DrawKeyOk.f (k : Nat) (l0 : List Int) : Option (Int × Int × Bool) := (spec_l1New.f k l0).bind fun bt165 => ((spec_l13Draw.f k bt165.1 bt165.2.1 bt165.2.2).bind fun bt169 => (some (bt169.1, bt169.2.1, bt169.2.2.1)))
theorem spec_DrawKeyOk.mono : ∀ a0 k, LeO (spec_DrawKeyOk.f k a0) (spec_DrawKeyOk.f (k + 1) a0) := by
 intro a0 k
 unfold spec_DrawKeyOk.f
 repeat' first
   | (with_reducible exact spec_l13Draw.mono _ _ _ _)
   | (with_reducible exact spec_l1New.mono _ _)
   | (with_reducible exact LeO.refl _)
   | (with_reducible exact LeO.none _)
   | (with_reducible refine LeO.ite ?_ ?_)
   | (with_reducible refine LeO.bind ?_ (fun _ => ?_))
set_option maxHeartbeats 8000000 in
set_option maxRecDepth 100000 in
theorem spec_DrawKeyOk.calls (k : Nat) (A0 : Option Addr) (c0 : Nat) (l0 : List Int) (r1 : Int) (r2 : Int) (r3 : Bool) (w : World) (hr0 : Kd.C (Kd.int .u8) w A0 l0.length l0) (hc0 : l0.length ≤ c0) (h : spec_DrawKeyOk.f k l0 = some (r1, r2, r3)) :
  Calls Tryd.prog 65 #[.slice A0 l0.length c0] w fun e w' => e = .returned (.agg #[.int .i64 r1, .int .i64 r2, .bool r3]) ∧ Below w.heap.size w w' := by
 have hu50 := Tryd.underlying50
 have HR0 := am hr0
 have HC0 := am hc0
 clear hr0 hc0
 have HB := am (Below.refl w.heap.size w)
 have H := h
 unfold spec_DrawKeyOk.f at H
 clear h
 replace H := Option.bind_eq_some_iff.mp H
 obtain ⟨⟨t165, t166, t167⟩, A20, H⟩ := H
 (try dsimp only at H)
 have A2 := am A20
 clear A20
 replace H := Option.bind_eq_some_iff.mp H
 obtain ⟨⟨t169, t170, t171, t172, t173⟩, A30, H⟩ := H
 (try dsimp only at H)
 have A3 := am A30
 clear A30
 simp only [Option.some.injEq, Prod.mk.injEq] at H
 obtain ⟨rfl, rfl, rfl⟩ := H
 go_enter Tryd.func65, Tryd.ntmps65
 go_wp2_with (first | ((with_reducible refine gate_dst (N := 2) rfl ?_); refine box_event ?hg (N := 2) ?hd (cs := #[.int .i64 0, .int .i64 0, .bool false]) (t := 50) ?hr ?_; (case hd => rfl); (case hg => rfl); (case hr => first | (go_simp; done) | (go_simp; rfl)); intro gb164 hg w4 hbox hb; have n0_ := am (below_step (rb HB) hb); have n1_ := am (hbox); have n2_ := am ((by rw [hg]; exact (below_size (rb HB)) : w.heap.size ≤ gb164)); have n3_ := am ((by rw [hg]; exact (below_size (rb HB)) : w.heap.size ≤ gb164)); clear HB; have HB := n0_; have BK164 := n1_; have GW164 := n2_; have GE164 := n3_; clear n0_ n1_ n2_ n3_; clear hb hbox hg) | ((with_reducible refine gate_callee (f := 50) rfl ?_); refine gl_ (some 5) Tryd.func50 #[.slice A0 l0.length c0] ?_; (with_reducible refine (spec_l1New.calls k _ _ l0 t165 t166 t167 w _ ?side1 ?side2 ?side3 A2.out).mono ?_); (case side1 => repeat (first | (with_reducible first | exact HB.out | apply b1 | apply b2 | apply b3 | refine below_set ?_ GE164.out) | exact HB.out)); (case side2 => exact HR0.out); (case side3 => exact HC0.out); rintro e w5 ⟨g168, rfl, hi, hb, hb2⟩; refine ⟨_, rfl, ?_⟩; have n0_ := am (blk_below (g := gb164) (o := .cells #[.int .i64 0, .int .i64 0, .bool false] 50 (0, 0)) (rk BK164) hb2); have n1_ := am (hb); have n2_ := am (hi); have n3_ := am (IsS83.ne_blk hi (blk_below (g := gb164) (o := .cells #[.int .i64 0, .int .i64 0, .bool false] 50 (0, 0)) (rk BK164) hb2) (by decide)); have n4_ := am (Ne.symm (IsS83.ne_blk hi (blk_below (g := gb164) (o := .cells #[.int .i64 0, .int .i64 0, .bool false] 50 (0, 0)) (rk BK164) hb2) (by decide))); clear BK164; clear HB; have BK164 := n0_; have HB := n1_; have HI168 := n2_; have NB168_164 := n3_; have NB164_168 := n4_; clear n0_ n1_ n2_ n3_ n4_; (try clear hb); (try clear hb2); (try clear hk); (try clear hi)) | ((with_reducible refine gate_callee (f := 67) rfl ?_); refine gl_ (some 7) Tryd.func67 #[.pointer (some ⟨g168, 0, none⟩)] ?_; (with_reducible refine (spec_l13Draw.calls k g168 t165 t166 t167 t169 t170 t171 t172 t173 w _ ?side1 ?side2 A3.out).mono ?_); (case side1 => repeat (first | (with_reducible first | exact HI168.out | apply IsS83.alloc | apply IsS83.drewN | apply IsS83.drew | apply IsS83.set_1 | apply IsS83.set_2 | refine IsS83.far ?_ NB168_164.out _) | exact HI168.out)); (case side2 => repeat (first | (with_reducible first | exact HB.out | apply b1 | apply b2 | apply b3 | refine below_set ?_ (IsS83.ge HI168.out) | refine below_set ?_ GE164.out) | exact HB.out)); rintro e w6 ⟨rfl, hi, hb, hk⟩; refine ⟨_, rfl, ?_⟩; have n0_ := am (KeepBut.blk hk (g' := gb164) (o := .cells #[.int .i64 0, .int .i64 0, .bool false] 50 (0, 0)) (rk BK164) NB164_168.out (by simp)); have n1_ := am (hb); have n2_ := am (hi); clear BK164; clear HB; clear HI168; have BK164 := n0_; have HB := n1_; have HI168 := n2_; clear n0_ n1_ n2_; (try clear hb); (try clear hb2); (try clear hk); (try clear hi); have hnb7 := NB164_168.out; have hnc7 := NB168_164.out; have hcz8_0 : w6.cell? ⟨gb164, 0, none⟩ = some (.int .i64 0) := (blk_cell BK164.out 0).trans rfl; have hcz8_1 : w6.cell? ⟨gb164, 1, none⟩ = some (.int .i64 0) := (blk_cell BK164.out 1).trans rfl; have hcz8_2 : w6.cell? ⟨gb164, 2, none⟩ = some (.bool false) := (blk_cell BK164.out 2).trans rfl; have hfz8_0 := blk_frozen BK164.out 0; have hfz8_1 := blk_frozen BK164.out 1; have hfz8_2 := blk_frozen BK164.out 2))
 refine bodyPost_ret (results_cell_row rfl _ _ gb164 50 #[.int .i64 t169, .int .i64 t170, .bool t171] (0, 0) _ rfl (by (with_reducible repeat (first | apply k1 | apply k2 | apply k3)); refine blk_put (cs := #[.int .i64 t169, .int .i64 t170, .bool false]) ?_ 2 _ rfl; (with_reducible repeat (first | apply k1 | apply k2 | apply k3)); refine blk_put (cs := #[.int .i64 t169, .int .i64 0, .bool false]) ?_ 1 _ rfl; (with_reducible repeat (first | apply k1 | apply k2 | apply k3)); refine blk_put (cs := #[.int .i64 0, .int .i64 0, .bool false]) ?_ 0 _ rfl; (with_reducible repeat (first | apply k1 | apply k2 | apply k3)); exact BK164.out) Tryd.underlying50 rfl (by kernel_rfl)) rfl ?_
 exact ⟨by first | rfl | (simp [errW_none, errW_some] <;> rfl) | (simp [*, errW_none, errW_some] <;> rfl), by repeat (first | (with_reducible first | exact HB.out | apply b1 | apply b2 | apply b3 | refine below_set ?_ (IsS83.ge HI168.out) | refine below_set ?_ GE164.out) | exact HB.out)⟩

/-! ### spec_DrawSent: function 39 -/
def spec_DrawSent.f (k : Nat) (l0 : List Int) : Option (Int × Int × Bool) := (spec_DrawKeyOk.f k l0).bind fun bt175 => (some (bt175.1, bt175.2.1, bt175.2.2))
theorem spec_DrawSent.mono : ∀ a0 k, LeO (spec_DrawSent.f k a0) (spec_DrawSent.f (k + 1) a0) := by
 intro a0 k
 unfold spec_DrawSent.f
 repeat' first
   | (with_reducible exact spec_DrawKeyOk.mono _ _)
   | (with_reducible exact LeO.refl _)
   | (with_reducible exact LeO.none _)
   | (with_reducible refine LeO.ite ?_ ?_)
   | (with_reducible refine LeO.bind ?_ (fun _ => ?_))
set_option maxHeartbeats 8000000 in
set_option maxRecDepth 100000 in
theorem spec_DrawSent.calls (k : Nat) (A0 : Option Addr) (c0 : Nat) (l0 : List Int) (r1 : Int) (r2 : Int) (r3 : Bool) (w : World) (hr0 : Kd.C (Kd.int .u8) w A0 l0.length l0) (hc0 : l0.length ≤ c0) (h : spec_DrawSent.f k l0 = some (r1, r2, r3)) :
  Calls Tryd.prog 39 #[.slice A0 l0.length c0] w fun e w' => e = .returned (.agg #[.int .i64 r1, .int .i64 r2, .bool r3]) ∧ Below w.heap.size w w' := by
 have hu50 := Tryd.underlying50
 have HR0 := am hr0
 have HC0 := am hc0
 clear hr0 hc0
 have HB := am (Below.refl w.heap.size w)
 have H : ((spec_DrawKeyOk.f k l0).bind fun bt175 => (some (bt175.1, bt175.2.1, bt175.2.2))) = some (r1, r2, r3) := h
 clear h
 replace H := Option.bind_eq_some_iff.mp H
 obtain ⟨⟨t175, t176, t177⟩, A20, H⟩ := H
 (try dsimp only at H)
 have A2 := am A20
 clear A20
 simp only [Option.some.injEq, Prod.mk.injEq] at H
 obtain ⟨rfl, rfl, rfl⟩ := H
 go_enter Tryd.func39, Tryd.ntmps39
 go_wp2_with (first | ((with_reducible refine gate_dst (N := 2) rfl ?_); refine box_event ?hg (N := 2) ?hd (cs := #[.int .i64 0, .int .i64 0, .bool false]) (t := 50) ?hr ?_; (case hd => rfl); (case hg => rfl); (case hr => first | (go_simp; done) | (go_simp; rfl)); intro gb174 hg w3 hbox hb; have n0_ := am (below_step (rb HB) hb); have n1_ := am (hbox); have n2_ := am ((by rw [hg]; exact (below_size (rb HB)) : w.heap.size ≤ gb174)); have n3_ := am ((by rw [hg]; exact (below_size (rb HB)) : w.heap.size ≤ gb174)); clear HB; have HB := n0_; have BK174 := n1_; have GW174 := n2_; have GE174 := n3_; clear n0_ n1_ n2_ n3_; clear hb hbox hg) | ((with_reducible refine gate_callee (f := 65) rfl ?_); refine gl_ (some 4) Tryd.func65 #[.slice A0 l0.length c0] ?_; (with_reducible refine (spec_DrawKeyOk.calls k _ _ l0 t175 t176 t177 _ ?side1 ?side2 A2.out).mono ?_); (case side1 => exact rc ((Kd.C_below HR0.out HB.out))); (case side2 => exact HC0.out); rintro e w4 ⟨rfl, hb⟩; refine ⟨_, rfl, ?_⟩; have n0_ := am (blk_below (g := gb174) (o := .cells #[.int .i64 0, .int .i64 0, .bool false] 50 (0, 0)) (rk BK174) hb); have n1_ := am (below_step (rb1 HB GE174) hb); clear BK174; clear HB; have BK174 := n0_; have HB := n1_; clear n0_ n1_; (try clear hb); (try clear hb2); (try clear hk); (try clear hi); have hcz5_0 : w4.cell? ⟨gb174, 0, none⟩ = some (.int .i64 0) := (blk_cell BK174.out 0).trans rfl; have hcz5_1 : w4.cell? ⟨gb174, 1, none⟩ = some (.int .i64 0) := (blk_cell BK174.out 1).trans rfl; have hcz5_2 : w4.cell? ⟨gb174, 2, none⟩ = some (.bool false) := (blk_cell BK174.out 2).trans rfl; have hfz5_0 := blk_frozen BK174.out 0; have hfz5_1 := blk_frozen BK174.out 1; have hfz5_2 := blk_frozen BK174.out 2))
 refine bodyPost_ret (results_cell_row rfl _ _ gb174 50 #[.int .i64 t175, .int .i64 t176, .bool t177] (0, 0) _ rfl (by (with_reducible repeat (first | apply k1 | apply k2 | apply k3)); refine blk_put (cs := #[.int .i64 t175, .int .i64 t176, .bool false]) ?_ 2 _ rfl; (with_reducible repeat (first | apply k1 | apply k2 | apply k3)); refine blk_put (cs := #[.int .i64 t175, .int .i64 0, .bool false]) ?_ 1 _ rfl; (with_reducible repeat (first | apply k1 | apply k2 | apply k3)); refine blk_put (cs := #[.int .i64 0, .int .i64 0, .bool false]) ?_ 0 _ rfl; (with_reducible repeat (first | apply k1 | apply k2 | apply k3)); exact BK174.out) Tryd.underlying50 rfl (by kernel_rfl)) rfl ?_
 exact ⟨by first | rfl | (simp [errW_none, errW_some] <;> rfl) | (simp [*, errW_none, errW_some] <;> rfl), by repeat (first | (with_reducible first | exact HB.out | apply b1 | apply b2 | apply b3 | refine below_set ?_ GE174.out) | exact HB.out)⟩

end Go.Proofs.YtfhkpneffmcdbaaDoor.QC
