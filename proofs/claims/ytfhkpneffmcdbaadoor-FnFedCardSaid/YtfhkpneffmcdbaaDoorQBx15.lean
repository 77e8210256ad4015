/- Contracts of Go functions that laws of this seat reach: each Lean function answers as its Go function does. No condition. Written by wip/tools/inj.py, over the kit's print. -/
import Derived.Test.YtfhkpneffmcdbaaDoorQBx0
import Derived.Test.YtfhkpneffmcdbaaDoorQBx2
import Derived.Test.YtfhkpneffmcdbaaDoorQBx3
import Derived.Test.YtfhkpneffmcdbaaDoorQBx7
import Derived.Test.YtfhkpneffmcdbaaDoorQBx14
namespace Go.Proofs.YtfhkpneffmcdbaaDoor.QB
open Go.RowKit Go.Proofs.YtfhkpneffmcdbaaDoorW.PrintWords Go.Proofs.YtfhkpneffmcdbaaDoorW.PrintLast Go.Proofs.YtfhkpneffmcdbaaDoorW.PrintMore
attribute [local go_sem] max2_int min2_int max_two min_two max_three min_three max_four min_four   -- for this text's walks alone
set_option linter.unusedVariables false
set_option linter.unusedSimpArgs false

/-! ### spec_l1DrawFeeder: function 60 -/
def spec_l1DrawFeeder.l0 : Nat → ByteArray → Int → List Int → Int → Int → ByteArray → Option (ByteArray × Int × Int)
 | 0, _, _, _, _, _, _ => none
 | k + 1, x4, x5, x1000, x1001, x1002, x434000 => if x5 < (x4.size : Int) then (if 0 ≤ x5 then ((spec_Feed.f k x434000 (bt x4 x5)).bind fun bt437 => (spec_l1DrawFeeder.l0 k x4 (wrap64 (x5 + 1)) x1000 x1001 x1002 bt437.1)) else (none)) else ((spec_l1Once.f x1000 x1001 x1002 12).bind fun bt442 => (if bt442.1 = true then ((some (([(⟨#[97]⟩ : ByteArray), (⟨#[128]⟩ : ByteArray), (⟨#[194]⟩ : ByteArray), (⟨#[228, 184]⟩ : ByteArray), (⟨#[240, 159, 152]⟩ : ByteArray), (⟨#[237, 160]⟩ : ByteArray), (⟨#[240, 159, 152, 128]⟩ : ByteArray)] : List ByteArray) : List ByteArray)).bind fun y445 => ((spec_l1Below.f x1000 bt442.2.1 bt442.2.2 7).bind fun bt448 => (if 0 ≤ bt448.1 then (if bt448.1 < (y445.length : Int) then (some (rdOf ByteArray.empty y445 bt448.1, bt448.2.1, bt448.2.2)) else (none)) else (none)))) else (some (x434000, bt442.2.1, bt442.2.2))))
def spec_l1DrawFeeder.f (k : Nat) (s0_0 : List Int) (s0_1 : Int) (s0_2 : Int) : Option (ByteArray × Int × Int) := (spec_l1DrawBytes.f k s0_0 s0_1 s0_2).bind fun bt434 => (spec_l1DrawFeeder.l0 k bt434.1 0 s0_0 bt434.2.1 bt434.2.2 (⟨#[]⟩ : ByteArray))
theorem spec_l1DrawFeeder.mono_l : ∀ k, (∀ y0 y1 y2 y3 y4 y5, LeO (spec_l1DrawFeeder.l0 k y0 y1 y2 y3 y4 y5) (spec_l1DrawFeeder.l0 (k + 1) y0 y1 y2 y3 y4 y5))
 | 0 => fun _ _ _ _ _ _ r h => by simp [spec_l1DrawFeeder.l0] at h
 | k + 1 => by
  have ih0 := spec_l1DrawFeeder.mono_l k
  ·intro y0 y1 y2 y3 y4 y5
   unfold spec_l1DrawFeeder.l0
   repeat' first
   | (with_reducible exact ih0 _ _ _ _ _ _)
   | (with_reducible exact spec_Feed.mono _ _ _)
   | (with_reducible exact spec_l1DrawBytes.mono _ _ _ _)
   | (with_reducible exact LeO.refl _)
   | (with_reducible exact LeO.none _)
   | (with_reducible refine LeO.ite ?_ ?_)
   | (with_reducible refine LeO.bind ?_ (fun _ => ?_))
theorem spec_l1DrawFeeder.mono : ∀ a0 a1 a2 k, LeO (spec_l1DrawFeeder.f k a0 a1 a2) (spec_l1DrawFeeder.f (k + 1) a0 a1 a2) := by
 intro a0 a1 a2 k
 have ih0 := spec_l1DrawFeeder.mono_l k
 unfold spec_l1DrawFeeder.f
 repeat' first
   | (with_reducible exact ih0 _ _ _ _ _ _)
   | (with_reducible exact spec_Feed.mono _ _ _)
   | (with_reducible exact spec_l1DrawBytes.mono _ _ _ _)
   | (with_reducible exact LeO.refl _)
   | (with_reducible exact LeO.none _)
   | (with_reducible refine LeO.ite ?_ ?_)
   | (with_reducible refine LeO.bind ?_ (fun _ => ?_))
def spec_l1DrawFeeder.T6 : Bool × List (List Nat × List Nat) := (true, [([], []), ([], []), ([], []), ([1, 2], [1, 2]), ([0, 3], [0, 3]), ([4], [4]), ([5], [5]), ([5], [5]), ([], []), ([8, 6, 4, 0, 1, 2, 3, 4, 5, 6, 8], [6, 8]), ([7, 9, 0, 1, 2, 3, 4, 5, 6, 7, 8, 9], [7])])
def spec_l1DrawFeeder.B6 : List Nat := [0, 0, 0, 6, 15, 31, 63, 63, 0, 383, 1023]
theorem spec_l1DrawFeeder.tab6 : rtab .any (opsOf Tryd.f60 6) = spec_l1DrawFeeder.T6 := by kernel_rfl
theorem spec_l1DrawFeeder.bits6 : waitsOk spec_l1DrawFeeder.T6.2 spec_l1DrawFeeder.B6 = true := by kernel_rfl
set_option maxHeartbeats 8000000 in
set_option maxRecDepth 100000 in
theorem spec_l1DrawFeeder.calls (k : Nat) (g : Nat) (s0_0 : List Int) (s0_1 : Int) (s0_2 : Int) (r1 : ByteArray) (r2 : Int) (r3 : Int) (w0 w : World) (hI : IsS83 w0 w g s0_0 s0_1 s0_2) (hB : Below w0.heap.size w0 w) (h : spec_l1DrawFeeder.f k s0_0 s0_1 s0_2 = some (r1, r2, r3)) :
  Calls Tryd.prog 60 #[.pointer (some ⟨g, 0, none⟩)] w fun e w' => e = .returned (.agg #[.string r1]) ∧ IsS83 w0 w' g s0_0 r2 r3 ∧ Below w0.heap.size w0 w' ∧ KeepBut w w' g none := by
 have hu38 := Tryd.underlying38
 have HI0 := am hI
 have HK := am (KeepBut.refl w g none)
 have HL := am hB.size
 clear hI
 have HW0 := am hB.size
 have HB := am hB
 clear hB
 have H := h
 unfold spec_l1DrawFeeder.f at H
 clear h
 replace H := Option.bind_eq_some_iff.mp H
 obtain ⟨⟨t434, t435, t436⟩, A20, H⟩ := H
 (try dsimp only at H)
 have A2 := am A20
 clear A20
 have H' := am H
 clear H
 go_enter Tryd.func60, Tryd.ntmps60
 go_wp2_with (first | ((with_reducible refine gate_dst (N := 2) rfl ?_); refine box_event ?hg (N := 2) ?hd (cs := #[.string (⟨#[]⟩ : ByteArray)]) (t := 38) ?hr ?_; (case hd => rfl); (case hg => rfl); (case hr => first | (go_simp; done) | (go_simp; rfl)); intro gb432 hg w3 hbox hb; have n0_ := am (IsS83.below (ri83 HI0) hb); have n1_ := am (KeepBut.trans (rkk HK) (KeepBut.of_below hb g none) (.inl rfl)); have n2_ := am (below_step (rbi83 HB HI0 IsS83.ge) hb); have n3_ := am (hbox); have n4_ := am ((by rw [hg]; exact (keep_size (w := w) (g := g) (row := none) (rkk HK)) : w.heap.size ≤ gb432)); have n5_ := am ((Nat.le_trans HW0.out (by rw [hg]; exact (keep_size (w := w) (g := g) (row := none) (rkk HK)) : w.heap.size ≤ gb432) : w0.heap.size ≤ gb432)); have n6_ := am ((by rw [hg]; exact Nat.ne_of_lt (IsS83.lt (show IsS83 w0 _ g s0_0 s0_1 s0_2 from ri83 HI0)) : g ≠ gb432)); have n7_ := am ((by rw [hg]; exact Nat.ne_of_gt (IsS83.lt (show IsS83 w0 _ g s0_0 s0_1 s0_2 from ri83 HI0)) : gb432 ≠ g)); clear HI0; clear HK; clear HB; have HI0 := n0_; have HK := n1_; have HB := n2_; have BK432 := n3_; have GW432 := n4_; have GE432 := n5_; have NB0_432 := n6_; have NB432_0 := n7_; clear n0_ n1_ n2_ n3_ n4_ n5_ n6_ n7_; clear hb hbox hg) | ((with_reducible refine gate_dst (N := 3) rfl ?_); refine box_event ?hg (N := 3) ?hd (cs := #[.string (⟨#[]⟩ : ByteArray)]) (t := 38) ?hr ?_; (case hd => rfl); (case hg => rfl); (case hr => first | (go_simp; done) | (go_simp; rfl)); intro gb433 hg w4 hbox hb; have n0_ := am (IsS83.below (by repeat (first | (with_reducible first | exact HI0.out | apply IsS83.alloc | apply IsS83.drewN | apply IsS83.drew | apply IsS83.set_1 | apply IsS83.set_2 | refine IsS83.far ?_ NB0_432.out _) | exact HI0.out)) hb); have n1_ := am (blk_below (g := gb432) (o := .cells #[.string (⟨#[]⟩ : ByteArray)] 38 (0, 0)) (rk BK432) hb); have n2_ := am (KeepBut.trans (by repeat (first | (with_reducible first | exact HK.out | apply KeepBut.set_ | apply keep_drewN | apply keep_drew | apply keep_alloc | refine keep_far ?_ GW432.out _) | exact HK.out)) (KeepBut.of_below hb g none) (.inl rfl)); have n3_ := am (below_step (by repeat (first | (with_reducible first | exact HB.out | apply b1 | apply b2 | apply b3 | refine below_set ?_ (IsS83.ge HI0.out) | refine below_set ?_ GE432.out) | exact HB.out)) hb); have n4_ := am (hbox); have n5_ := am ((by rw [hg]; exact (keep_size (w := w) (g := g) (row := none) (by repeat (first | (with_reducible first | exact HK.out | apply KeepBut.set_ | apply keep_drewN | apply keep_drew | apply keep_alloc | refine keep_far ?_ GW432.out _) | exact HK.out))) : w.heap.size ≤ gb433)); have n6_ := am ((Nat.le_trans HW0.out (by rw [hg]; exact (keep_size (w := w) (g := g) (row := none) (by repeat (first | (with_reducible first | exact HK.out | apply KeepBut.set_ | apply keep_drewN | apply keep_drew | apply keep_alloc | refine keep_far ?_ GW432.out _) | exact HK.out))) : w.heap.size ≤ gb433) : w0.heap.size ≤ gb433)); have n7_ := am ((by rw [hg]; exact Nat.ne_of_lt (blk_lt (g := gb432) (o := .cells #[.string (⟨#[]⟩ : ByteArray)] 38 (0, 0)) (rk BK432)) : gb432 ≠ gb433)); have n8_ := am ((by rw [hg]; exact Nat.ne_of_gt (blk_lt (g := gb432) (o := .cells #[.string (⟨#[]⟩ : ByteArray)] 38 (0, 0)) (rk BK432)) : gb433 ≠ gb432)); have n9_ := am ((by rw [hg]; exact Nat.ne_of_lt (IsS83.lt (show IsS83 w0 _ g s0_0 s0_1 s0_2 from by repeat (first | (with_reducible first | exact HI0.out | apply IsS83.alloc | apply IsS83.drewN | apply IsS83.drew | apply IsS83.set_1 | apply IsS83.set_2 | refine IsS83.far ?_ NB0_432.out _) | exact HI0.out))) : g ≠ gb433)); have n10_ := am ((by rw [hg]; exact Nat.ne_of_gt (IsS83.lt (show IsS83 w0 _ g s0_0 s0_1 s0_2 from by repeat (first | (with_reducible first | exact HI0.out | apply IsS83.alloc | apply IsS83.drewN | apply IsS83.drew | apply IsS83.set_1 | apply IsS83.set_2 | refine IsS83.far ?_ NB0_432.out _) | exact HI0.out))) : gb433 ≠ g)); clear HI0; clear BK432; clear HK; clear HB; have HI0 := n0_; have BK432 := n1_; have HK := n2_; have HB := n3_; have BK433 := n4_; have GW433 := n5_; have GE433 := n6_; have NB432_433 := n7_; have NB433_432 := n8_; have NB0_433 := n9_; have NB433_0 := n10_; clear n0_ n1_ n2_ n3_ n4_ n5_ n6_ n7_ n8_ n9_ n10_; clear hb hbox hg; have hnb5 := NB433_432.out; have hnc5 := NB432_433.out; have hnb6 := NB433_0.out; have hnc6 := NB0_433.out; have hcz7_0 : w4.cell? ⟨gb433, 0, none⟩ = some (.string (⟨#[]⟩ : ByteArray)) := (blk_cell BK433.out 0).trans rfl; have hfz7_0 := blk_frozen BK433.out 0) | ((with_reducible refine gate_callee (f := 64) rfl ?_); refine gl_ (some 10) Tryd.func64 #[.pointer (some ⟨g, 0, none⟩)] ?_; (with_reducible refine (spec_l1DrawBytes.calls k g s0_0 s0_1 s0_2 t434 t435 t436 w0 _ ?side1 ?side2 A2.out).mono ?_); (case side1 => repeat (first | (with_reducible first | exact HI0.out | apply IsS83.alloc | apply IsS83.drewN | apply IsS83.drew | apply IsS83.set_1 | apply IsS83.set_2 | refine IsS83.far ?_ NB0_432.out _ | refine IsS83.far ?_ NB0_433.out _) | exact HI0.out)); (case side2 => repeat (first | (with_reducible first | exact HB.out | apply b1 | apply b2 | apply b3 | refine below_set ?_ (IsS83.ge HI0.out) | refine below_set ?_ GE432.out | refine below_set ?_ GE433.out) | exact HB.out)); rintro e w8 ⟨rfl, hi, hb, hk⟩; refine ⟨_, rfl, ?_⟩; have n0_ := am (KeepBut.blk hk (g' := gb432) (o := .cells #[.string (⟨#[]⟩ : ByteArray)] 38 (0, 0)) (by (with_reducible repeat (first | apply k1 | apply k2 | apply k3)); refine blk_far ?_ NB432_433.out _; (with_reducible repeat (first | apply k1 | apply k2 | apply k3)); exact BK432.out) NB432_0.out (by simp)); have n1_ := am (KeepBut.blk hk (g' := gb433) (o := .cells #[.string (⟨#[]⟩ : ByteArray)] 38 (0, 0)) (by (with_reducible repeat (first | apply k1 | apply k2 | apply k3)); refine blk_put (cs := #[.string (⟨#[]⟩ : ByteArray)]) ?_ 0 _ rfl; (with_reducible repeat (first | apply k1 | apply k2 | apply k3)); exact BK433.out) NB433_0.out (by simp)); have n2_ := am (KeepBut.trans (by repeat (first | (with_reducible first | exact HK.out | apply KeepBut.set_ | apply keep_drewN | apply keep_drew | apply keep_alloc | refine keep_far ?_ GW432.out _ | refine keep_far ?_ GW433.out _) | exact HK.out)) hk (.inl rfl)); have n3_ := am (hb); have n4_ := am (hi); clear BK432; clear BK433; clear HK; clear HB; clear HI0; have BK432 := n0_; have BK433 := n1_; have HK := n2_; have HB := n3_; have HI0 := n4_; clear n0_ n1_ n2_ n3_ n4_; (try clear hb); (try clear hb2); (try clear hk); (try clear hi)))
 go_loopg [5] k (fun kq v5 w' => ∃ (x5_1 : Int) (x434000_1 : ByteArray), v5 = .int .i64 x5_1 ∧ Aside0 (spec_l1DrawFeeder.l0 kq t434 x5_1 s0_0 t435 t436 x434000_1 = some (r1, r2, r3)) ∧ Aside0 (kq ≤ k) ∧ Aside0 (w'.heap[gb432]? = some (.cells #[.string (⟨#[]⟩ : ByteArray)] 38 (0, 0))) ∧ Aside0 (w'.heap[gb433]? = some (.cells #[.string x434000_1] 38 (0, 0))) ∧ Aside0 (IsS83 w0 w' g s0_0 t435 t436) ∧ Aside0 (KeepBut w w' g none) ∧ Aside0 (Below w0.heap.size w0 w'))
 case atStart => exact ⟨(0), ((⟨#[]⟩ : ByteArray)), (by first | rfl | (simp; done) | (simp [*]; done)), H', ⟨Nat.le_refl _⟩, ⟨rk BK432⟩, ⟨rk BK433⟩, ⟨by repeat (first | (with_reducible first | exact HI0.out | apply IsS83.alloc | apply IsS83.drewN | apply IsS83.drew | apply IsS83.set_1 | apply IsS83.set_2 | refine IsS83.far ?_ NB0_432.out _ | refine IsS83.far ?_ NB0_433.out _) | exact HI0.out)⟩, ⟨by repeat (first | (with_reducible first | exact HK.out | apply KeepBut.set_ | apply keep_drewN | apply keep_drew | apply keep_alloc | refine keep_far ?_ GW432.out _ | refine keep_far ?_ GW433.out _) | exact HK.out)⟩, ⟨by repeat (first | (with_reducible first | exact HB.out | apply b1 | apply b2 | apply b3 | refine below_set ?_ (IsS83.ge HI0.out) | refine below_set ?_ GE432.out | refine below_set ?_ GE433.out) | exact HB.out)⟩⟩
 case round =>
  clear H'
  try clear p2
  try clear c5
  try clear c6
  try clear hcz7_0
  try clear hfz7_0
  obtain ⟨x5_1, x434000_1, rfl, HA, HK1, BK432, BK433, HI0, HK, HB⟩ := hrel
  cases gk with
  | zero => exact absurd HA.out (by simp [spec_l1DrawFeeder.l0])
  | succ k1 =>
   have H := HA.out
   clear HA
   simp only [spec_l1DrawFeeder.l0] at H
   refine em_ (p := x5_1 < (t434.size : Int)) (fun c9 => ?g3p) (fun c9 => ?g3n)
   case' g3p =>
    rw [if_pos c9] at H
    have c9b0 : decide (x5_1 < (t434.size : Int)) = true := decide_eq_true c9
    clear c9
    refine em_ (p := 0 ≤ x5_1) (fun c10 => ?g0p) (fun c10 => ?g0n)
    case' g0p =>
     rw [if_pos c10] at H
     have c10b0 : decide (0 ≤ x5_1) = true := decide_eq_true c10
     clear c10
     replace H := Option.bind_eq_some_iff.mp H
     obtain ⟨⟨t437, t438⟩, A120, H⟩ := H
     (try dsimp only at H)
     have A12 := am A120
     clear A120
     have H' := am H
     clear H
     have lf1_ := trivial
    case g0n =>
     rw [if_neg c10] at H
     exact absurd H (by simp)
   case g3n =>
    rw [if_neg c9] at H
    have c9b0 : decide (x5_1 < (t434.size : Int)) = false := decide_eq_false c9
    clear c9
    replace H := Option.bind_eq_some_iff.mp H
    obtain ⟨⟨t442, t443, t444⟩, A250, H⟩ := H
    (try dsimp only at H)
    have A25 := am A250
    clear A250
    refine em_ (p := t442 = true) (fun c26 => ?g4p) (fun c26 => ?g4n)
    case g4p =>
     subst c26
     rw [if_pos rfl] at H
     obtain ⟨y445, hy445⟩ : ∃ y_ : List ByteArray, y_ = (([(⟨#[97]⟩ : ByteArray), (⟨#[128]⟩ : ByteArray), (⟨#[194]⟩ : ByteArray), (⟨#[228, 184]⟩ : ByteArray), (⟨#[240, 159, 152]⟩ : ByteArray), (⟨#[237, 160]⟩ : ByteArray), (⟨#[240, 159, 152, 128]⟩ : ByteArray)] : List ByteArray)) := ⟨_, rfl⟩
     replace H : ((spec_l1Below.f s0_0 t443 t444 7).bind fun bt448 => (if 0 ≤ bt448.1 then (if bt448.1 < (y445.length : Int) then (some (rdOf ByteArray.empty y445 bt448.1, bt448.2.1, bt448.2.2)) else (none)) else (none))) = some (r1, r2, r3) := by first | (rw [hy445]; with_reducible exact H) | (rw [hy445]; exact H) | exact H
     have Ny445 := am hy445
     clear hy445
     replace H := Option.bind_eq_some_iff.mp H
     obtain ⟨⟨t448, t449, t450⟩, A270, H⟩ := H
     (try dsimp only at H)
     have A27 := am A270
     clear A270
     refine em_ (p := 0 ≤ t448) (fun c28 => ?g2p) (fun c28 => ?g2n)
     case' g2p =>
      rw [if_pos c28] at H
      have c28b0 : decide (0 ≤ t448) = true := decide_eq_true c28
      clear c28
      refine em_ (p := t448 < (y445.length : Int)) (fun c29 => ?g1p) (fun c29 => ?g1n)
      case' g1p =>
       rw [if_pos c29] at H
       have c29b0 : decide (t448 < (y445.length : Int)) = true := decide_eq_true c29
       clear c29
       simp only [Option.some.injEq, Prod.mk.injEq] at H
       obtain ⟨rfl, rfl, rfl⟩ := H
       have lf2_ := trivial
      case g1n =>
       rw [if_neg c29] at H
       exact absurd H (by simp)
     case g2n =>
      rw [if_neg c28] at H
      exact absurd H (by simp)
     all_goals
      go_wp2_with (first | ((with_reducible refine gate_callee (f := 52) rfl ?_); refine gl_ (some 27) Tryd.func52 #[.pointer (some ⟨g, 0, none⟩), .int .i64 12] ?_; (with_reducible refine (spec_l1Once.calls g s0_0 t435 t436 12 true t443 t444 w0 _ ?side1 ?side2 A25.out).mono ?_); (case side1 => repeat (first | (with_reducible first | exact HI0.out | apply IsS83.alloc | apply IsS83.drewN | apply IsS83.drew | apply IsS83.set_1 | apply IsS83.set_2 | refine IsS83.far ?_ NB0_432.out _ | refine IsS83.far ?_ NB0_433.out _) | exact HI0.out)); (case side2 => repeat (first | (with_reducible first | exact HB.out | apply b1 | apply b2 | apply b3 | refine below_set ?_ (IsS83.ge HI0.out) | refine below_set ?_ GE432.out | refine below_set ?_ GE433.out) | exact HB.out)); rintro e w30 ⟨rfl, hi, hb, hk⟩; refine ⟨_, rfl, ?_⟩; have n0_ := am (KeepBut.blk hk (g' := gb432) (o := .cells #[.string (⟨#[]⟩ : ByteArray)] 38 (0, 0)) (rk BK432) NB432_0.out (by simp)); have n1_ := am (KeepBut.blk hk (g' := gb433) (o := .cells #[.string x434000_1] 38 (0, 0)) (rk BK433) NB433_0.out (by simp)); have n2_ := am (KeepBut.trans (by repeat (first | (with_reducible first | exact HK.out | apply KeepBut.set_ | apply keep_drewN | apply keep_drew | apply keep_alloc | refine keep_far ?_ GW432.out _ | refine keep_far ?_ GW433.out _) | exact HK.out)) hk (.inl rfl)); have n3_ := am (hb); have n4_ := am (hi); clear BK432; clear BK433; clear HK; clear HB; clear HI0; have BK432 := n0_; have BK433 := n1_; have HK := n2_; have HB := n3_; have HI0 := n4_; clear n0_ n1_ n2_ n3_ n4_; (try clear hb); (try clear hb2); (try clear hk); (try clear hi)) | ((with_reducible refine gate_dst (N := 28) rfl ?_); refine Kd.R_lit Kd.string _ 9 ?hg (N := 28) ?hd (xs := ([(⟨#[97]⟩ : ByteArray), (⟨#[128]⟩ : ByteArray), (⟨#[194]⟩ : ByteArray), (⟨#[228, 184]⟩ : ByteArray), (⟨#[240, 159, 152]⟩ : ByteArray), (⟨#[237, 160]⟩ : ByteArray), (⟨#[240, 159, 152, 128]⟩ : ByteArray)] : List ByteArray)) (inner := [.string (⟨#[97]⟩ : ByteArray), .string (⟨#[128]⟩ : ByteArray), .string (⟨#[194]⟩ : ByteArray), .string (⟨#[228, 184]⟩ : ByteArray), .string (⟨#[240, 159, 152]⟩ : ByteArray), .string (⟨#[237, 160]⟩ : ByteArray), .string (⟨#[240, 159, 152, 128]⟩ : ByteArray)]) (ok := fun _ => True) (okp := fun _ => True) ?hr ?hp (fun _ hk => hk) trivial (Below.refl _ _) (Nat.le_refl _) (by simp) ?_; (case hd => rfl); (case hg => rfl); (case hr => first | (go_simp; done) | (go_simp; rfl)); (case hp => exact (Reps.one (show Kd.M Kd.string _ _ _ (⟨#[97]⟩ : ByteArray) [.string (⟨#[97]⟩ : ByteArray)] from rfl) (Reps.one (show Kd.M Kd.string _ _ _ (⟨#[128]⟩ : ByteArray) [.string (⟨#[128]⟩ : ByteArray)] from rfl) (Reps.one (show Kd.M Kd.string _ _ _ (⟨#[194]⟩ : ByteArray) [.string (⟨#[194]⟩ : ByteArray)] from rfl) (Reps.one (show Kd.M Kd.string _ _ _ (⟨#[228, 184]⟩ : ByteArray) [.string (⟨#[228, 184]⟩ : ByteArray)] from rfl) (Reps.one (show Kd.M Kd.string _ _ _ (⟨#[240, 159, 152]⟩ : ByteArray) [.string (⟨#[240, 159, 152]⟩ : ByteArray)] from rfl) (Reps.one (show Kd.M Kd.string _ _ _ (⟨#[237, 160]⟩ : ByteArray) [.string (⟨#[237, 160]⟩ : ByteArray)] from rfl) (Reps.one (show Kd.M Kd.string _ _ _ (⟨#[240, 159, 152, 128]⟩ : ByteArray) [.string (⟨#[240, 159, 152, 128]⟩ : ByteArray)] from rfl) (Reps.none _ _))))))))); intro v446 w31 ho32 hb hg_ hnew_; clear hg_ hnew_; (first | rw [← Ny445.out] at ho32 | (simp only [Int.reduceToNat] at ho32; rw [← Ny445.out] at ho32)); have n0_ := am (Kd.R_lower ho32 (keep_size (w := w) (g := g) (row := none) (by repeat (first | (with_reducible first | exact HK.out | apply KeepBut.set_ | apply keep_drewN | apply keep_drew | apply keep_alloc | refine keep_far ?_ GW432.out _ | refine keep_far ?_ GW433.out _) | exact HK.out)))); have n1_ := am (blk_below (g := gb432) (o := .cells #[.string (⟨#[]⟩ : ByteArray)] 38 (0, 0)) (rk BK432) hb); have n2_ := am (blk_below (g := gb433) (o := .cells #[.string x434000_1] 38 (0, 0)) (rk BK433) hb); have n3_ := am (IsS83.below (by repeat (first | (with_reducible first | exact HI0.out | apply IsS83.alloc | apply IsS83.drewN | apply IsS83.drew | apply IsS83.set_1 | apply IsS83.set_2 | refine IsS83.far ?_ NB0_432.out _ | refine IsS83.far ?_ NB0_433.out _) | exact HI0.out)) hb); have n4_ := am (KeepBut.trans (by repeat (first | (with_reducible first | exact HK.out | apply KeepBut.set_ | apply keep_drewN | apply keep_drew | apply keep_alloc | refine keep_far ?_ GW432.out _ | refine keep_far ?_ GW433.out _) | exact HK.out)) (KeepBut.of_below hb g none) (.inl rfl)); have n5_ := am (below_step (by repeat (first | (with_reducible first | exact HB.out | apply b1 | apply b2 | apply b3 | refine below_set ?_ (IsS83.ge HI0.out) | refine below_set ?_ GE432.out | refine below_set ?_ GE433.out) | exact HB.out)) hb); clear BK432; clear BK433; clear HI0; clear HK; clear HB; have HO447 := n0_; have BK432 := n1_; have BK433 := n2_; have HI0 := n3_; have HK := n4_; have HB := n5_; clear n0_ n1_ n2_ n3_ n4_ n5_; clear hb ho32) | ((with_reducible refine gate_callee (f := 53) rfl ?_); refine gl_ (some 30) Tryd.func53 #[.pointer (some ⟨g, 0, none⟩), .int .i64 7] ?_; (with_reducible refine (spec_l1Below.calls g s0_0 t443 t444 7 t448 t449 t450 w0 _ ?side1 ?side2 A27.out).mono ?_); (case side1 => repeat (first | (with_reducible first | exact HI0.out | apply IsS83.alloc | apply IsS83.drewN | apply IsS83.drew | apply IsS83.set_1 | apply IsS83.set_2 | refine IsS83.far ?_ NB0_432.out _ | refine IsS83.far ?_ NB0_433.out _) | exact HI0.out)); (case side2 => repeat (first | (with_reducible first | exact HB.out | apply b1 | apply b2 | apply b3 | refine below_set ?_ (IsS83.ge HI0.out) | refine below_set ?_ GE432.out | refine below_set ?_ GE433.out) | exact HB.out)); rintro e w33 ⟨rfl, hi, hb, hk⟩; refine ⟨_, rfl, ?_⟩; have n0_ := am (KeepBut.blk hk (g' := gb432) (o := .cells #[.string (⟨#[]⟩ : ByteArray)] 38 (0, 0)) (rk BK432) NB432_0.out (by simp)); have n1_ := am (KeepBut.blk hk (g' := gb433) (o := .cells #[.string x434000_1] 38 (0, 0)) (rk BK433) NB433_0.out (by simp)); have n2_ := am (Kd.R_mono (Kd.R_keep (IsS83.apart (show IsS83 w0 _ g s0_0 t443 t444 from by repeat (first | (with_reducible first | exact HI0.out | apply IsS83.alloc | apply IsS83.drewN | apply IsS83.drew | apply IsS83.set_1 | apply IsS83.set_2 | refine IsS83.far ?_ NB0_432.out _ | refine IsS83.far ?_ NB0_433.out _) | exact HI0.out)) (rr HO447) (by decide)) hk (fun _ h => h.2)) (fun _ h => h.1)); have n3_ := am (KeepBut.trans (by repeat (first | (with_reducible first | exact HK.out | apply KeepBut.set_ | apply keep_drewN | apply keep_drew | apply keep_alloc | refine keep_far ?_ GW432.out _ | refine keep_far ?_ GW433.out _) | exact HK.out)) hk (.inl rfl)); have n4_ := am (hb); have n5_ := am (hi); clear BK432; clear BK433; clear HO447; clear HK; clear HB; clear HI0; have BK432 := n0_; have BK433 := n1_; have HO447 := n2_; have HK := n3_; have HB := n4_; have HI0 := n5_; clear n0_ n1_ n2_ n3_ n4_ n5_; (try clear hb); (try clear hb2); (try clear hk); (try clear hi); obtain ⟨Ao34, co34, eo34⟩ := Kd.R_slice HO447.out; subst eo34; have p451 : 0 ≤ (t448 : Int) := dt_; have q451 : t448 < (y445.length : Int) := dt_; obtain ⟨ad451, e451, hx451_0⟩ := Kd.at_string (Kd.R_reads' HO447.out).2.2 t448 p451 q451; cases e451; replace p451 := eq_true p451; replace q451 := eq_true q451; have hnb35 := NB433_432.out; have hnc35 := NB432_433.out; have hnb36 := NB433_0.out; have hnc36 := NB0_433.out; have hcz37_0 : w33.cell? ⟨gb433, 0, none⟩ = some (.string x434000_1) := (blk_cell BK433.out 0).trans rfl; have hfz37_0 := blk_frozen BK433.out 0; have hnb38 := NB432_0.out; have hnc38 := NB0_432.out; have hcz39_0 : w33.cell? ⟨gb432, 0, none⟩ = some (.string (⟨#[]⟩ : ByteArray)) := (blk_cell BK432.out 0).trans rfl; have hfz39_0 := blk_frozen BK432.out 0))
      refine bodyPost_ret (results_cell_row rfl _ _ gb432 38 #[.string (rdOf ByteArray.empty y445 t448)] (0, 0) _ rfl (by (with_reducible repeat (first | apply k1 | apply k2 | apply k3)); refine blk_put (cs := #[.string (⟨#[]⟩ : ByteArray)]) ?_ 0 _ rfl; (with_reducible repeat (first | apply k1 | apply k2 | apply k3)); refine blk_far ?_ NB432_433.out _; (with_reducible repeat (first | apply k1 | apply k2 | apply k3)); exact BK432.out) Tryd.underlying38 rfl (by kernel_rfl)) rfl ?_
      exact ⟨by first | rfl | (simp [errW_none, errW_some] <;> rfl) | (simp [*, errW_none, errW_some] <;> rfl), by repeat (first | (with_reducible first | exact HI0.out | apply IsS83.alloc | apply IsS83.drewN | apply IsS83.drew | apply IsS83.set_1 | apply IsS83.set_2 | refine IsS83.far ?_ NB0_432.out _ | refine IsS83.far ?_ NB0_433.out _) | exact HI0.out), by repeat (first | (with_reducible first | exact HB.out | apply b1 | apply b2 | apply b3 | refine below_set ?_ (IsS83.ge HI0.out) | refine below_set ?_ GE432.out | refine below_set ?_ GE433.out) | exact HB.out), by repeat (first | (with_reducible first | exact HK.out | apply KeepBut.set_ | apply keep_drewN | apply keep_drew | apply keep_alloc | refine keep_far ?_ GW432.out _ | refine keep_far ?_ GW433.out _) | exact HK.out)⟩
    case' g4n =>
     replace c26 := Bool.eq_false_iff.mpr c26
     subst c26
     rw [if_neg (show ¬ (false = true) by decide)] at H
     simp only [Option.some.injEq, Prod.mk.injEq] at H
     obtain ⟨rfl, rfl, rfl⟩ := H
     have lf4_ := trivial
    all_goals
     go_wp2_with (first | ((with_reducible refine gate_callee (f := 52) rfl ?_); refine gl_ (some 27) Tryd.func52 #[.pointer (some ⟨g, 0, none⟩), .int .i64 12] ?_; (with_reducible refine (spec_l1Once.calls g s0_0 t435 t436 12 false t443 t444 w0 _ ?side1 ?side2 A25.out).mono ?_); (case side1 => repeat (first | (with_reducible first | exact HI0.out | apply IsS83.alloc | apply IsS83.drewN | apply IsS83.drew | apply IsS83.set_1 | apply IsS83.set_2 | refine IsS83.far ?_ NB0_432.out _ | refine IsS83.far ?_ NB0_433.out _) | exact HI0.out)); (case side2 => repeat (first | (with_reducible first | exact HB.out | apply b1 | apply b2 | apply b3 | refine below_set ?_ (IsS83.ge HI0.out) | refine below_set ?_ GE432.out | refine below_set ?_ GE433.out) | exact HB.out)); rintro e w40 ⟨rfl, hi, hb, hk⟩; refine ⟨_, rfl, ?_⟩; have n0_ := am (KeepBut.blk hk (g' := gb432) (o := .cells #[.string (⟨#[]⟩ : ByteArray)] 38 (0, 0)) (rk BK432) NB432_0.out (by simp)); have n1_ := am (KeepBut.blk hk (g' := gb433) (o := .cells #[.string x434000_1] 38 (0, 0)) (rk BK433) NB433_0.out (by simp)); have n2_ := am (KeepBut.trans (by repeat (first | (with_reducible first | exact HK.out | apply KeepBut.set_ | apply keep_drewN | apply keep_drew | apply keep_alloc | refine keep_far ?_ GW432.out _ | refine keep_far ?_ GW433.out _) | exact HK.out)) hk (.inl rfl)); have n3_ := am (hb); have n4_ := am (hi); clear BK432; clear BK433; clear HK; clear HB; clear HI0; have BK432 := n0_; have BK433 := n1_; have HK := n2_; have HB := n3_; have HI0 := n4_; clear n0_ n1_ n2_ n3_ n4_; (try clear hb); (try clear hb2); (try clear hk); (try clear hi); have hnb41 := NB433_432.out; have hnc41 := NB432_433.out; have hnb42 := NB433_0.out; have hnc42 := NB0_433.out; have hcz43_0 : w40.cell? ⟨gb433, 0, none⟩ = some (.string x434000_1) := (blk_cell BK433.out 0).trans rfl; have hfz43_0 := blk_frozen BK433.out 0; have hnb44 := NB432_0.out; have hnc44 := NB0_432.out; have hcz45_0 : w40.cell? ⟨gb432, 0, none⟩ = some (.string (⟨#[]⟩ : ByteArray)) := (blk_cell BK432.out 0).trans rfl; have hfz45_0 := blk_frozen BK432.out 0))
     refine bodyPost_ret (results_cell_row rfl _ _ gb432 38 #[.string x434000_1] (0, 0) _ rfl (by (with_reducible repeat (first | apply k1 | apply k2 | apply k3)); refine blk_put (cs := #[.string (⟨#[]⟩ : ByteArray)]) ?_ 0 _ rfl; (with_reducible repeat (first | apply k1 | apply k2 | apply k3)); exact BK432.out) Tryd.underlying38 rfl (by kernel_rfl)) rfl ?_
     exact ⟨by first | rfl | (simp [errW_none, errW_some] <;> rfl) | (simp [*, errW_none, errW_some] <;> rfl), by repeat (first | (with_reducible first | exact HI0.out | apply IsS83.alloc | apply IsS83.drewN | apply IsS83.drew | apply IsS83.set_1 | apply IsS83.set_2 | refine IsS83.far ?_ NB0_432.out _ | refine IsS83.far ?_ NB0_433.out _) | exact HI0.out), by repeat (first | (with_reducible first | exact HB.out | apply b1 | apply b2 | apply b3 | refine below_set ?_ (IsS83.ge HI0.out) | refine below_set ?_ GE432.out | refine below_set ?_ GE433.out) | exact HB.out), by repeat (first | (with_reducible first | exact HK.out | apply KeepBut.set_ | apply keep_drewN | apply keep_drew | apply keep_alloc | refine keep_far ?_ GW432.out _ | refine keep_far ?_ GW433.out _) | exact HK.out)⟩
   all_goals
    try go_wp2
    have n0_ := am (blk_drew BK432.out)
    have n1_ := am (blk_drew BK433.out)
    have n2_ := am (IsS83.drew HI0.out)
    have n3_ := am (keep_drew HK.out)
    have n4_ := am (below_drew1 HB.out)
    clear BK432
    clear BK433
    clear HI0
    clear HK
    clear HB
    have BK432 := n0_
    have BK433 := n1_
    have HI0 := n2_
    have HK := n3_
    have HB := n4_
    clear n0_ n1_ n2_ n3_ n4_
    have p11 : 0 ≤ (x5_1 : Int) := dt_
    have q11 : x5_1 < (t434.size : Int) := dt_
    have hx11 := bt_at t434 x5_1
    replace p11 := eq_true p11
    replace q11 := eq_true q11
    refine start_ (n := 11) (S := fun w' => w'.cell? ⟨gb433, 0, none⟩ = some (.string x434000_1)) (ds := []) (bm 11 0) (by kernel_rfl) rfl rfl ((blk_cell BK433.out 0).trans rfl) (fun hHeld => ?_); refine with_tabW spec_l1DrawFeeder.tab6 spec_l1DrawFeeder.bits6 (fun HT_ HW_ => ?_)
    generalize wr.drew = w13 at BK432 BK433 HI0 HK HB hHeld ⊢
    refine pu_ 1 19 (bm 11 2) HT_.out ?_
    refine pu_ 2 20 (bm 11 6) HT_.out ?_
    refine take_ (i := 0) (N := some 18) (v := ?_) (a' := ?_) (bm 11 7) rfl rfl (take_ofW HT_.out HW_.out (by kernel_rfl)) (fun _ _ _ h => h) (Or.inl ⟨by rfl, ?_⟩) hHeld ?_ ?_
    rotate_left
    ·intro w' s0
     go_simp
     with_reducible rfl
    rotate_left
    ·simp only [Act.put, List.setIfInBounds_toArray, List.set_cons_zero, List.set_cons_succ, i64_w, i32_w]
     rfl
    refine take_ (i := 3) (N := some 21) (v := ?_) (a' := ?_) (bm 11 15) rfl rfl (take_ofW HT_.out HW_.out (by kernel_rfl)) (fun _ _ _ h => h) (Or.inl ⟨by rfl, ?_⟩) hHeld ?_ ?_
    rotate_left
    ·intro w' s0
     go_simp
     with_reducible rfl
    rotate_left
    ·simp only [Act.put, List.setIfInBounds_toArray, List.set_cons_zero, List.set_cons_succ, i64_w, i32_w]
     rfl
    refine join_ (σ := Value × Nat) 2 (bm 11 511) (fun s_ => [(22, .tuple #[.agg #[.string t437], s_.1]), (6, .pointer (some ⟨s_.2, 0, none⟩)), (17, .tuple #[.agg #[.string t437], s_.1]), (23, .agg #[.string t437]), (24, s_.1)]) (fun s_ w' => (w'.cell? ⟨gb433, 0, none⟩ = some (.string x434000_1)) ∧ (Kd.R (Kd.int .i64) 2 w' w.heap.size (fun _ => True) s_.1 t438) ∧ (w'.heap[gb432]? = some (.cells #[.string (⟨#[]⟩ : ByteArray)] 38 (0, 0))) ∧ (w'.heap[gb433]? = some (.cells #[.string x434000_1] 38 (0, 0))) ∧ (w'.heap[s_.2]? = some (.cells #[.string (⟨#[]⟩ : ByteArray)] 38 (0, 0))) ∧ (w.heap.size ≤ s_.2) ∧ (w0.heap.size ≤ s_.2) ∧ (g ≠ s_.2) ∧ (s_.2 ≠ g) ∧ (gb432 ≠ s_.2) ∧ (s_.2 ≠ gb432) ∧ (gb433 ≠ s_.2) ∧ (s_.2 ≠ gb433) ∧ (IsS83 w0 w' g s0_0 t435 t436) ∧ (KeepBut w w' g none) ∧ (Below w0.heap.size w0 w')) ?_ ?_
    rotate_left
    ·intro hCont
     refine two_ (i := 4) (j := 8) (Ni := some 22) (Nj := some 6) (bm 11 31) (bm 11 271) rfl rfl rfl rfl (two_of HT_.out (by kernel_rfl)) (by decide) (by decide) (fun K hK => ?_) (fun K hK => ?_)
     ·skip
      refine goes_ Tryd.func27 (by kernel_rfl) rfl #[.agg #[.string x434000_1], .int .u8 (bt t434 x5_1)] (by rfl) rfl rfl (by (try simp only [List.map_toArray, List.map_cons, List.map_nil]); first | done | rfl | (simp only [List.length_drop, List.length_take]; rfl)) ?_
      with_reducible refine (spec_Feed.calls k1 x434000_1 (bt t434 x5_1) t437 t438 _ A12.out).mono ?_
      rintro e w14 ⟨v439, rfl, ho0, hb⟩
      refine ⟨_, rfl, ?_⟩
      have n0_ := am (Kd.R_lower ho0 (keep_size (w := w) (g := g) (row := none) (by repeat (first | (with_reducible first | exact HK.out | apply KeepBut.set_ | apply keep_drewN | apply keep_drew | apply keep_alloc | refine keep_far ?_ GW432.out _ | refine keep_far ?_ GW433.out _) | exact HK.out))))
      have n1_ := am (blk_below (g := gb432) (o := .cells #[.string (⟨#[]⟩ : ByteArray)] 38 (0, 0)) (rk BK432) hb)
      have n2_ := am (blk_below (g := gb433) (o := .cells #[.string x434000_1] 38 (0, 0)) (rk BK433) hb)
      have n3_ := am (IsS83.below (by repeat (first | (with_reducible first | exact HI0.out | apply IsS83.alloc | apply IsS83.drewN | apply IsS83.drew | apply IsS83.set_1 | apply IsS83.set_2 | refine IsS83.far ?_ NB0_432.out _ | refine IsS83.far ?_ NB0_433.out _) | exact HI0.out)) hb)
      have n4_ := am (KeepBut.trans (by repeat (first | (with_reducible first | exact HK.out | apply KeepBut.set_ | apply keep_drewN | apply keep_drew | apply keep_alloc | refine keep_far ?_ GW432.out _ | refine keep_far ?_ GW433.out _) | exact HK.out)) (KeepBut.of_below hb g none) (.inl rfl))
      have n5_ := am (below_step (by repeat (first | (with_reducible first | exact HB.out | apply b1 | apply b2 | apply b3 | refine below_set ?_ (IsS83.ge HI0.out) | refine below_set ?_ GE432.out | refine below_set ?_ GE433.out) | exact HB.out)) hb)
      clear BK432
      clear BK433
      clear HI0
      clear HK
      clear HB
      have HO440 := n0_
      have BK432 := n1_
      have BK433 := n2_
      have HI0 := n3_
      have HK := n4_
      have HB := n5_
      clear n0_ n1_ n2_ n3_ n4_ n5_
      (try clear hb)
      (try clear hb2)
      (try clear hk)
      (try clear hi)
      (try clear ho0)
      refine hK.out _ _ ((blk_cell BK433.out 0).trans rfl) (fun hHeld => ?_)
      clear hK K
      refine norm_ (a' := ?_) ?_ ?_
      rotate_left
      ·show Act.put _ (some 22) _ = _
       simp only [Act.put, List.setIfInBounds_toArray, List.set_cons_zero, List.set_cons_succ, i64_w, i32_w]
       rfl
      refine pu_ 5 17 (bm 11 63) HT_.out ?_
      refine pu_ 6 23 (bm 11 127) HT_.out ?_
      refine pu_ 7 24 (bm 11 255) HT_.out ?_
      refine one_ (i := 8) (N := some 6) (bm 11 511) rfl rfl (one_of HT_.out (by kernel_rfl)) (by decide) (fun K hK => ?_)
      refine box_step ?hg (N := 6) ?hd (cs := #[.string (⟨#[]⟩ : ByteArray)]) (t := 38) ?hr ?_; (case hd => rfl); (case hg => rfl); (case hr => first | (go_simp; done) | (go_simp; rfl))
      intro gb441 hg w15 hbox hb
      have n0_ := am (Kd.R_below (rr HO440) hb)
      have n1_ := am (blk_below (g := gb432) (o := .cells #[.string (⟨#[]⟩ : ByteArray)] 38 (0, 0)) (rk BK432) hb)
      have n2_ := am (blk_below (g := gb433) (o := .cells #[.string x434000_1] 38 (0, 0)) (rk BK433) hb)
      have n3_ := am (IsS83.below (by repeat (first | (with_reducible first | exact HI0.out | apply IsS83.alloc | apply IsS83.drewN | apply IsS83.drew | apply IsS83.set_1 | apply IsS83.set_2 | refine IsS83.far ?_ NB0_432.out _ | refine IsS83.far ?_ NB0_433.out _) | exact HI0.out)) hb)
      have n4_ := am (KeepBut.trans (by repeat (first | (with_reducible first | exact HK.out | apply KeepBut.set_ | apply keep_drewN | apply keep_drew | apply keep_alloc | refine keep_far ?_ GW432.out _ | refine keep_far ?_ GW433.out _) | exact HK.out)) (KeepBut.of_below hb g none) (.inl rfl))
      have n5_ := am (below_step (by repeat (first | (with_reducible first | exact HB.out | apply b1 | apply b2 | apply b3 | refine below_set ?_ (IsS83.ge HI0.out) | refine below_set ?_ GE432.out | refine below_set ?_ GE433.out) | exact HB.out)) hb)
      have n6_ := am (hbox)
      have n7_ := am ((by rw [hg]; exact (keep_size (w := w) (g := g) (row := none) (by repeat (first | (with_reducible first | exact HK.out | apply KeepBut.set_ | apply keep_drewN | apply keep_drew | apply keep_alloc | refine keep_far ?_ GW432.out _ | refine keep_far ?_ GW433.out _) | exact HK.out))) : w.heap.size ≤ gb441))
      have n8_ := am ((Nat.le_trans HW0.out (by rw [hg]; exact (keep_size (w := w) (g := g) (row := none) (by repeat (first | (with_reducible first | exact HK.out | apply KeepBut.set_ | apply keep_drewN | apply keep_drew | apply keep_alloc | refine keep_far ?_ GW432.out _ | refine keep_far ?_ GW433.out _) | exact HK.out))) : w.heap.size ≤ gb441) : w0.heap.size ≤ gb441))
      have n9_ := am ((by rw [hg]; exact Nat.ne_of_lt (blk_lt (g := gb432) (o := .cells #[.string (⟨#[]⟩ : ByteArray)] 38 (0, 0)) (rk BK432)) : gb432 ≠ gb441))
      have n10_ := am ((by rw [hg]; exact Nat.ne_of_gt (blk_lt (g := gb432) (o := .cells #[.string (⟨#[]⟩ : ByteArray)] 38 (0, 0)) (rk BK432)) : gb441 ≠ gb432))
      have n11_ := am ((by rw [hg]; exact Nat.ne_of_lt (blk_lt (g := gb433) (o := .cells #[.string x434000_1] 38 (0, 0)) (rk BK433)) : gb433 ≠ gb441))
      have n12_ := am ((by rw [hg]; exact Nat.ne_of_gt (blk_lt (g := gb433) (o := .cells #[.string x434000_1] 38 (0, 0)) (rk BK433)) : gb441 ≠ gb433))
      have n13_ := am ((by rw [hg]; exact Nat.ne_of_lt (IsS83.lt (show IsS83 w0 _ g s0_0 t435 t436 from by repeat (first | (with_reducible first | exact HI0.out | apply IsS83.alloc | apply IsS83.drewN | apply IsS83.drew | apply IsS83.set_1 | apply IsS83.set_2 | refine IsS83.far ?_ NB0_432.out _ | refine IsS83.far ?_ NB0_433.out _) | exact HI0.out))) : g ≠ gb441))
      have n14_ := am ((by rw [hg]; exact Nat.ne_of_gt (IsS83.lt (show IsS83 w0 _ g s0_0 t435 t436 from by repeat (first | (with_reducible first | exact HI0.out | apply IsS83.alloc | apply IsS83.drewN | apply IsS83.drew | apply IsS83.set_1 | apply IsS83.set_2 | refine IsS83.far ?_ NB0_432.out _ | refine IsS83.far ?_ NB0_433.out _) | exact HI0.out))) : gb441 ≠ g))
      clear HO440
      clear BK432
      clear BK433
      clear HI0
      clear HK
      clear HB
      have HO440 := n0_
      have BK432 := n1_
      have BK433 := n2_
      have HI0 := n3_
      have HK := n4_
      have HB := n5_
      have BK441 := n6_
      have GW441 := n7_
      have GE441 := n8_
      have NB432_441 := n9_
      have NB441_432 := n10_
      have NB433_441 := n11_
      have NB441_433 := n12_
      have NB0_441 := n13_
      have NB441_0 := n14_
      clear n0_ n1_ n2_ n3_ n4_ n5_ n6_ n7_ n8_ n9_ n10_ n11_ n12_ n13_ n14_
      clear hb hbox hg
      refine hK.out _ _ ((blk_cell BK433.out 0).trans rfl) (fun hHeld => ?_)
      clear hK K
      refine norm_ (a' := ?_) ?_ ?_
      rotate_left
      ·show Act.put _ (some 6) _ = _
       simp only [Act.put, List.setIfInBounds_toArray, List.set_cons_zero, List.set_cons_succ, i64_w, i32_w]
       rfl
      exact norm_ (by simp only [putAll, Act.put, List.setIfInBounds_toArray, List.set_cons_zero, List.set_cons_succ]) (hCont (v439, gb441) _ ⟨hHeld, (rr HO440), (rk BK432), (rk BK433), (rk BK441), GW441.out, GE441.out, NB0_441.out, NB441_0.out, NB432_441.out, NB441_432.out, NB433_441.out, NB441_433.out, (by repeat (first | (with_reducible first | exact HI0.out | apply IsS83.alloc | apply IsS83.drewN | apply IsS83.drew | apply IsS83.set_1 | apply IsS83.set_2 | refine IsS83.far ?_ NB0_432.out _ | refine IsS83.far ?_ NB0_433.out _ | refine IsS83.far ?_ NB0_441.out _) | exact HI0.out)), (by repeat (first | (with_reducible first | exact HK.out | apply KeepBut.set_ | apply keep_drewN | apply keep_drew | apply keep_alloc | refine keep_far ?_ GW432.out _ | refine keep_far ?_ GW433.out _ | refine keep_far ?_ GW441.out _) | exact HK.out)), (by repeat (first | (with_reducible first | exact HB.out | apply b1 | apply b2 | apply b3 | refine below_set ?_ (IsS83.ge HI0.out) | refine below_set ?_ GE432.out | refine below_set ?_ GE433.out | refine below_set ?_ GE441.out) | exact HB.out))⟩)
     ·skip
      refine box_step ?hg (N := 6) ?hd (cs := #[.string (⟨#[]⟩ : ByteArray)]) (t := 38) ?hr ?_; (case hd => rfl); (case hg => rfl); (case hr => first | (go_simp; done) | (go_simp; rfl))
      intro gb441 hg w14 hbox hb
      have n0_ := am (blk_below (g := gb432) (o := .cells #[.string (⟨#[]⟩ : ByteArray)] 38 (0, 0)) (rk BK432) hb)
      have n1_ := am (blk_below (g := gb433) (o := .cells #[.string x434000_1] 38 (0, 0)) (rk BK433) hb)
      have n2_ := am (IsS83.below (by repeat (first | (with_reducible first | exact HI0.out | apply IsS83.alloc | apply IsS83.drewN | apply IsS83.drew | apply IsS83.set_1 | apply IsS83.set_2 | refine IsS83.far ?_ NB0_432.out _ | refine IsS83.far ?_ NB0_433.out _) | exact HI0.out)) hb)
      have n3_ := am (KeepBut.trans (by repeat (first | (with_reducible first | exact HK.out | apply KeepBut.set_ | apply keep_drewN | apply keep_drew | apply keep_alloc | refine keep_far ?_ GW432.out _ | refine keep_far ?_ GW433.out _) | exact HK.out)) (KeepBut.of_below hb g none) (.inl rfl))
      have n4_ := am (below_step (by repeat (first | (with_reducible first | exact HB.out | apply b1 | apply b2 | apply b3 | refine below_set ?_ (IsS83.ge HI0.out) | refine below_set ?_ GE432.out | refine below_set ?_ GE433.out) | exact HB.out)) hb)
      have n5_ := am (hbox)
      have n6_ := am ((by rw [hg]; exact (keep_size (w := w) (g := g) (row := none) (by repeat (first | (with_reducible first | exact HK.out | apply KeepBut.set_ | apply keep_drewN | apply keep_drew | apply keep_alloc | refine keep_far ?_ GW432.out _ | refine keep_far ?_ GW433.out _) | exact HK.out))) : w.heap.size ≤ gb441))
      have n7_ := am ((Nat.le_trans HW0.out (by rw [hg]; exact (keep_size (w := w) (g := g) (row := none) (by repeat (first | (with_reducible first | exact HK.out | apply KeepBut.set_ | apply keep_drewN | apply keep_drew | apply keep_alloc | refine keep_far ?_ GW432.out _ | refine keep_far ?_ GW433.out _) | exact HK.out))) : w.heap.size ≤ gb441) : w0.heap.size ≤ gb441))
      have n8_ := am ((by rw [hg]; exact Nat.ne_of_lt (blk_lt (g := gb432) (o := .cells #[.string (⟨#[]⟩ : ByteArray)] 38 (0, 0)) (rk BK432)) : gb432 ≠ gb441))
      have n9_ := am ((by rw [hg]; exact Nat.ne_of_gt (blk_lt (g := gb432) (o := .cells #[.string (⟨#[]⟩ : ByteArray)] 38 (0, 0)) (rk BK432)) : gb441 ≠ gb432))
      have n10_ := am ((by rw [hg]; exact Nat.ne_of_lt (blk_lt (g := gb433) (o := .cells #[.string x434000_1] 38 (0, 0)) (rk BK433)) : gb433 ≠ gb441))
      have n11_ := am ((by rw [hg]; exact Nat.ne_of_gt (blk_lt (g := gb433) (o := .cells #[.string x434000_1] 38 (0, 0)) (rk BK433)) : gb441 ≠ gb433))
      have n12_ := am ((by rw [hg]; exact Nat.ne_of_lt (IsS83.lt (show IsS83 w0 _ g s0_0 t435 t436 from by repeat (first | (with_reducible first | exact HI0.out | apply IsS83.alloc | apply IsS83.drewN | apply IsS83.drew | apply IsS83.set_1 | apply IsS83.set_2 | refine IsS83.far ?_ NB0_432.out _ | refine IsS83.far ?_ NB0_433.out _) | exact HI0.out))) : g ≠ gb441))
      have n13_ := am ((by rw [hg]; exact Nat.ne_of_gt (IsS83.lt (show IsS83 w0 _ g s0_0 t435 t436 from by repeat (first | (with_reducible first | exact HI0.out | apply IsS83.alloc | apply IsS83.drewN | apply IsS83.drew | apply IsS83.set_1 | apply IsS83.set_2 | refine IsS83.far ?_ NB0_432.out _ | refine IsS83.far ?_ NB0_433.out _) | exact HI0.out))) : gb441 ≠ g))
      clear BK432
      clear BK433
      clear HI0
      clear HK
      clear HB
      have BK432 := n0_
      have BK433 := n1_
      have HI0 := n2_
      have HK := n3_
      have HB := n4_
      have BK441 := n5_
      have GW441 := n6_
      have GE441 := n7_
      have NB432_441 := n8_
      have NB441_432 := n9_
      have NB433_441 := n10_
      have NB441_433 := n11_
      have NB0_441 := n12_
      have NB441_0 := n13_
      clear n0_ n1_ n2_ n3_ n4_ n5_ n6_ n7_ n8_ n9_ n10_ n11_ n12_ n13_
      clear hb hbox hg
      refine hK.out _ _ ((blk_cell BK433.out 0).trans rfl) (fun hHeld => ?_)
      clear hK K
      refine norm_ (a' := ?_) ?_ ?_
      rotate_left
      ·show Act.put _ (some 6) _ = _
       simp only [Act.put, List.setIfInBounds_toArray, List.set_cons_zero, List.set_cons_succ, i64_w, i32_w]
       rfl
      refine one_ (i := 4) (N := some 22) (bm 11 287) rfl rfl (one_of HT_.out (by kernel_rfl)) (by decide) (fun K hK => ?_)
      refine goes_ Tryd.func27 (by kernel_rfl) rfl #[.agg #[.string x434000_1], .int .u8 (bt t434 x5_1)] (by rfl) rfl rfl (by (try simp only [List.map_toArray, List.map_cons, List.map_nil]); first | done | rfl | (simp only [List.length_drop, List.length_take]; rfl)) ?_
      with_reducible refine (spec_Feed.calls k1 x434000_1 (bt t434 x5_1) t437 t438 _ A12.out).mono ?_
      rintro e w15 ⟨v439, rfl, ho0, hb⟩
      refine ⟨_, rfl, ?_⟩
      have n0_ := am (Kd.R_lower ho0 (keep_size (w := w) (g := g) (row := none) (by repeat (first | (with_reducible first | exact HK.out | apply KeepBut.set_ | apply keep_drewN | apply keep_drew | apply keep_alloc | refine keep_far ?_ GW432.out _ | refine keep_far ?_ GW433.out _ | refine keep_far ?_ GW441.out _) | exact HK.out))))
      have n1_ := am (blk_below (g := gb432) (o := .cells #[.string (⟨#[]⟩ : ByteArray)] 38 (0, 0)) (rk BK432) hb)
      have n2_ := am (blk_below (g := gb433) (o := .cells #[.string x434000_1] 38 (0, 0)) (rk BK433) hb)
      have n3_ := am (IsS83.below (by repeat (first | (with_reducible first | exact HI0.out | apply IsS83.alloc | apply IsS83.drewN | apply IsS83.drew | apply IsS83.set_1 | apply IsS83.set_2 | refine IsS83.far ?_ NB0_432.out _ | refine IsS83.far ?_ NB0_433.out _ | refine IsS83.far ?_ NB0_441.out _) | exact HI0.out)) hb)
      have n4_ := am (blk_below (g := gb441) (o := .cells #[.string (⟨#[]⟩ : ByteArray)] 38 (0, 0)) (rk BK441) hb)
      have n5_ := am (KeepBut.trans (by repeat (first | (with_reducible first | exact HK.out | apply KeepBut.set_ | apply keep_drewN | apply keep_drew | apply keep_alloc | refine keep_far ?_ GW432.out _ | refine keep_far ?_ GW433.out _ | refine keep_far ?_ GW441.out _) | exact HK.out)) (KeepBut.of_below hb g none) (.inl rfl))
      have n6_ := am (below_step (by repeat (first | (with_reducible first | exact HB.out | apply b1 | apply b2 | apply b3 | refine below_set ?_ (IsS83.ge HI0.out) | refine below_set ?_ GE432.out | refine below_set ?_ GE433.out | refine below_set ?_ GE441.out) | exact HB.out)) hb)
      clear BK432
      clear BK433
      clear HI0
      clear BK441
      clear HK
      clear HB
      have HO440 := n0_
      have BK432 := n1_
      have BK433 := n2_
      have HI0 := n3_
      have BK441 := n4_
      have HK := n5_
      have HB := n6_
      clear n0_ n1_ n2_ n3_ n4_ n5_ n6_
      (try clear hb)
      (try clear hb2)
      (try clear hk)
      (try clear hi)
      (try clear ho0)
      refine hK.out _ _ ((blk_cell BK433.out 0).trans rfl) (fun hHeld => ?_)
      clear hK K
      refine norm_ (a' := ?_) ?_ ?_
      rotate_left
      ·show Act.put _ (some 22) _ = _
       simp only [Act.put, List.setIfInBounds_toArray, List.set_cons_zero, List.set_cons_succ, i64_w, i32_w]
       rfl
      refine pu_ 5 17 (bm 11 319) HT_.out ?_
      refine pu_ 6 23 (bm 11 383) HT_.out ?_
      refine pu_ 7 24 (bm 11 511) HT_.out ?_
      exact norm_ (by simp only [putAll, Act.put, List.setIfInBounds_toArray, List.set_cons_zero, List.set_cons_succ]) (hCont (v439, gb441) _ ⟨hHeld, (rr HO440), (rk BK432), (rk BK433), (rk BK441), GW441.out, GE441.out, NB0_441.out, NB441_0.out, NB432_441.out, NB441_432.out, NB433_441.out, NB441_433.out, (by repeat (first | (with_reducible first | exact HI0.out | apply IsS83.alloc | apply IsS83.drewN | apply IsS83.drew | apply IsS83.set_1 | apply IsS83.set_2 | refine IsS83.far ?_ NB0_432.out _ | refine IsS83.far ?_ NB0_433.out _ | refine IsS83.far ?_ NB0_441.out _) | exact HI0.out)), (by repeat (first | (with_reducible first | exact HK.out | apply KeepBut.set_ | apply keep_drewN | apply keep_drew | apply keep_alloc | refine keep_far ?_ GW432.out _ | refine keep_far ?_ GW433.out _ | refine keep_far ?_ GW441.out _) | exact HK.out)), (by repeat (first | (with_reducible first | exact HB.out | apply b1 | apply b2 | apply b3 | refine below_set ?_ (IsS83.ge HI0.out) | refine below_set ?_ GE432.out | refine below_set ?_ GE433.out | refine below_set ?_ GE441.out) | exact HB.out))⟩)
    rintro ⟨v439, gb441⟩ w16 ⟨hS_, h0_, h1_, h2_, h3_, h4_, h5_, h6_, h7_, h8_, h9_, h10_, h11_, h12_, h13_, h14_⟩
    have n0_ : Aside0 (Kd.R (Kd.int .i64) 2 w16 w.heap.size (fun _ => True) v439 t438) := ⟨h0_⟩
    have n1_ : Aside0 (w16.heap[gb432]? = some (.cells #[.string (⟨#[]⟩ : ByteArray)] 38 (0, 0))) := ⟨h1_⟩
    have n2_ : Aside0 (w16.heap[gb433]? = some (.cells #[.string x434000_1] 38 (0, 0))) := ⟨h2_⟩
    have n3_ : Aside0 (w16.heap[gb441]? = some (.cells #[.string (⟨#[]⟩ : ByteArray)] 38 (0, 0))) := ⟨h3_⟩
    have n4_ : Aside0 (w.heap.size ≤ gb441) := ⟨h4_⟩
    have n5_ : Aside0 (w0.heap.size ≤ gb441) := ⟨h5_⟩
    have n6_ : Aside0 (g ≠ gb441) := ⟨h6_⟩
    have n7_ : Aside0 (gb441 ≠ g) := ⟨h7_⟩
    have n8_ : Aside0 (gb432 ≠ gb441) := ⟨h8_⟩
    have n9_ : Aside0 (gb441 ≠ gb432) := ⟨h9_⟩
    have n10_ : Aside0 (gb433 ≠ gb441) := ⟨h10_⟩
    have n11_ : Aside0 (gb441 ≠ gb433) := ⟨h11_⟩
    have n12_ : Aside0 (IsS83 w0 w16 g s0_0 t435 t436) := ⟨h12_⟩
    have n13_ : Aside0 (KeepBut w w16 g none) := ⟨h13_⟩
    have n14_ : Aside0 (Below w0.heap.size w0 w16) := ⟨h14_⟩
    clear BK432
    clear BK433
    clear HI0
    clear HK
    clear HB
    clear h0_ h1_ h2_ h3_ h4_ h5_ h6_ h7_ h8_ h9_ h10_ h11_ h12_ h13_ h14_
    have HO440 := n0_
    have BK432 := n1_
    have BK433 := n2_
    have BK441 := n3_
    have GW441 := n4_
    have GE441 := n5_
    have NB0_441 := n6_
    have NB441_0 := n7_
    have NB432_441 := n8_
    have NB441_432 := n9_
    have NB433_441 := n10_
    have NB441_433 := n11_
    have HI0 := n12_
    have HK := n13_
    have HB := n14_
    clear n0_ n1_ n2_ n3_ n4_ n5_ n6_ n7_ n8_ n9_ n10_ n11_ n12_ n13_ n14_
    have hHeld : w16.cell? ⟨gb433, 0, none⟩ = some (.string x434000_1) := hS_
    refine norm_ (a' := ?_) ?_ ?_
    rotate_left
    ·simp only [putAll, Act.put, List.setIfInBounds_toArray, List.set_cons_zero, List.set_cons_succ]
     rfl
    refine one_ (i := 9) (N := none) (bm 11 1023) rfl rfl (one_of HT_.out (by kernel_rfl)) (by decide) (fun K hK => ?_)
    have hs17 : w16.cell? ⟨gb441, 0, none⟩ = some (.string (⟨#[]⟩ : ByteArray)) := (blk_cell BK441.out 0).trans rfl
    have hfs17 := blk_frozen BK441.out 0
    have hns17_0 := NB432_441.out
    have hns17_1 := NB433_441.out
    have hms17_0 := NB441_432.out
    have hms17_1 := NB441_433.out
    refine skip_ (w1 := ?_) (by rfl) rfl ?_ ?_
    rotate_left
    ·go_simp
     rfl
    refine hK.out _ _ (((cell_far (p := ⟨gb441, _, none⟩) NB433_441.out _).trans (hHeld))) (fun hHeld => ?_)
    clear hK K
    refine pu_ 10 7 (bm 11 2047) HT_.out ?_
    refine done_ (done_of HT_.out (by kernel_rfl)) ?_
    have hnb18 := NB441_432.out
    have hnc18 := NB432_441.out
    have hnb19 := NB441_433.out
    have hnc19 := NB433_441.out
    have hnb20 := NB441_0.out
    have hnc20 := NB0_441.out
    have hcz21_0 : w16.cell? ⟨gb441, 0, none⟩ = some (.string (⟨#[]⟩ : ByteArray)) := (blk_cell BK441.out 0).trans rfl
    have hfz21_0 := blk_frozen BK441.out 0
    have hnb22 := NB433_432.out
    have hnc22 := NB432_433.out
    have hnb23 := NB433_0.out
    have hnc23 := NB0_433.out
    have hcz24_0 : w16.cell? ⟨gb433, 0, none⟩ = some (.string x434000_1) := (blk_cell BK433.out 0).trans rfl
    have hfz24_0 := blk_frozen BK433.out 0
    try go_wp2
    go_roundg k1
    case measure => have := HK1.out; omega
    case rel => exact ⟨(wrap64 (x5_1 + 1)), (t437), (by first | rfl | (simp; done) | (simp [*]; done)), H', ⟨by have := HK1.out; omega⟩, ⟨by (with_reducible repeat (first | apply k1 | apply k2 | apply k3)); refine blk_far ?_ NB432_433.out _; (with_reducible repeat (first | apply k1 | apply k2 | apply k3)); refine blk_far ?_ NB432_441.out _; (with_reducible repeat (first | apply k1 | apply k2 | apply k3)); exact BK432.out⟩, ⟨by (with_reducible repeat (first | apply k1 | apply k2 | apply k3)); refine blk_put (cs := #[.string x434000_1]) ?_ 0 _ rfl; (with_reducible repeat (first | apply k1 | apply k2 | apply k3)); refine blk_far ?_ NB433_441.out _; (with_reducible repeat (first | apply k1 | apply k2 | apply k3)); exact BK433.out⟩, ⟨by repeat (first | (with_reducible first | exact HI0.out | apply IsS83.alloc | apply IsS83.drewN | apply IsS83.drew | apply IsS83.set_1 | apply IsS83.set_2 | refine IsS83.far ?_ NB0_432.out _ | refine IsS83.far ?_ NB0_433.out _ | refine IsS83.far ?_ NB0_441.out _) | exact HI0.out)⟩, ⟨by repeat (first | (with_reducible first | exact HK.out | apply KeepBut.set_ | apply keep_drewN | apply keep_drew | apply keep_alloc | refine keep_far ?_ GW432.out _ | refine keep_far ?_ GW433.out _ | refine keep_far ?_ GW441.out _) | exact HK.out)⟩, ⟨by repeat (first | (with_reducible first | exact HB.out | apply b1 | apply b2 | apply b3 | refine below_set ?_ (IsS83.ge HI0.out) | refine below_set ?_ GE432.out | refine below_set ?_ GE433.out | refine below_set ?_ GE441.out) | exact HB.out)⟩⟩

end Go.Proofs.YtfhkpneffmcdbaaDoor.QB
