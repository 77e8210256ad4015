/- Contracts of Go functions that laws of this seat reach: each Lean function answers as its Go function does. No condition. Written by wip/tools/inj.py, over the kit's print. -/
import Derived.Test.YtfhkpneffmcdbaaQEx0
import Derived.Test.YtfhkpneffmcdbaaQEx2
import Derived.Test.YtfhkpneffmcdbaaQEx16
import Derived.Test.YtfhkpneffmcdbaaQEx17
import Derived.Test.YtfhkpneffmcdbaaQEx18
namespace Go.Proofs.Ytfhkpneffmcdbaa.QE
open Go.RowKit Go.Proofs.YtfhkpneffmcdbaaW.PrintWords Go.Proofs.YtfhkpneffmcdbaaW.PrintLast Go.Proofs.YtfhkpneffmcdbaaW.PrintMore
attribute [local go_sem] max2_int min2_int max_two min_two max_three min_three max_four min_four   -- for this text's walks alone
set_option linter.unusedVariables false
set_option linter.unusedSimpArgs false

/-! ### spec_l5Resized: function 54 -/
def spec_l5Resized.l0 : Nat → Int → Int → Int → Int → Int → List (List (S40)) → Int → List (List (S40)) → Option (Int × (List (List (S40))))
 | 0, _, _, _, _, _, _, _, _ => none
 | k + 1, x1, x2, x8, x9, x316000, x316001, x318000, x318001 => if x9 < (wrap64 (x8 + x2)) then ((some (([] : List (S40)) : List (S40))).bind fun y319 => (if x9 < (x316001.length : Int) then (if 0 ≤ x9 then ((spec_l1Min.f x1 x316000).bind fun t323 => (if 0 ≤ t323 then (if t323 ≤ ((rd_L4 x316001 x9).length : Int) then ((spec_l4Mended.f k ((rd_L4 x316001 x9).take (t323 : Int).toNat)).bind fun t328 => ((spec_l4Row.f k (wrap64 (x1 - (t328.length : Int))) 0 0 false false false).bind fun t331 => (if t328.length + t331.length < 3518437208883 then (if x318001.length < 5864062014805 then (spec_l5Resized.l0 k x1 x2 x8 (wrap64 (x9 + 1)) x316000 x316001 x318000 (x318001 ++ [(t328 ++ t331)])) else (none)) else (none)))) else (none)) else (none))) else (none)) else ((spec_l4Row.f k (wrap64 (x1 - (y319.length : Int))) 0 0 false false false).bind fun t340 => (if y319.length + t340.length < 3518437208883 then (if x318001.length < 5864062014805 then (spec_l5Resized.l0 k x1 x2 x8 (wrap64 (x9 + 1)) x316000 x316001 x318000 (x318001 ++ [(y319 ++ t340)])) else (none)) else (none))))) else (some (x318000, x318001))
def spec_l5Resized.f (k : Nat) (a0_0 : Int) (l0_1 : List (List (S40))) (a1 : Int) (a2 : Int) : Option (Int × (List (List (S40)))) := (spec_l1Max.f 0 (wrap64 ((l0_1.length : Int) - a2))).bind fun t318 => (spec_l5Resized.l0 k a1 a2 t318 t318 a0_0 l0_1 a1 ([] : List (List (S40))))
theorem spec_l5Resized.mono_l : ∀ k, (∀ y0 y1 y2 y3 y4 y5 y6 y7, LeO (spec_l5Resized.l0 k y0 y1 y2 y3 y4 y5 y6 y7) (spec_l5Resized.l0 (k + 1) y0 y1 y2 y3 y4 y5 y6 y7))
 | 0 => fun _ _ _ _ _ _ _ _ r h => by simp [spec_l5Resized.l0] at h
 | k + 1 => by
  have ih0 := spec_l5Resized.mono_l k
  ·intro y0 y1 y2 y3 y4 y5 y6 y7
   unfold spec_l5Resized.l0
   repeat' first
   | (with_reducible exact ih0 _ _ _ _ _ _ _ _)
   | (with_reducible exact spec_l4Mended.mono _ _)
   | (with_reducible exact spec_l4Row.mono _ _ _ _ _ _ _)
   | (with_reducible exact LeO.refl _)
   | (with_reducible exact LeO.none _)
   | (with_reducible refine LeO.ite ?_ ?_)
   | (with_reducible refine LeO.bind ?_ (fun _ => ?_))
theorem spec_l5Resized.mono : ∀ a0 a1 a2 a3 k, LeO (spec_l5Resized.f k a0 a1 a2 a3) (spec_l5Resized.f (k + 1) a0 a1 a2 a3) := by
 intro a0 a1 a2 a3 k
 have ih0 := spec_l5Resized.mono_l k
 unfold spec_l5Resized.f
 repeat' first
   | (with_reducible exact ih0 _ _ _ _ _ _ _ _)
   | (with_reducible exact spec_l4Mended.mono _ _)
   | (with_reducible exact spec_l4Row.mono _ _ _ _ _ _ _)
   | (with_reducible exact LeO.refl _)
   | (with_reducible exact LeO.none _)
   | (with_reducible refine LeO.ite ?_ ?_)
   | (with_reducible refine LeO.bind ?_ (fun _ => ?_))
def spec_l5Resized.T8 : Bool × List (List Nat × List Nat) := (true, [([], []), ([0], [0]), ([], []), ([1, 2], [1, 2]), ([3], [3]), ([], []), ([], []), ([6], [6]), ([5, 7], [5, 7]), ([4, 8], [4, 8]), ([9, 8], [9]), ([10, 10, 0, 1, 2, 3, 4, 5, 6, 7, 8, 9, 10], [10])])
def spec_l5Resized.B8 : List Nat := [0, 1, 0, 7, 15, 0, 0, 64, 224, 511, 1023, 2047]
theorem spec_l5Resized.tab8 : rtab .any (opsOf Try.f54 8) = spec_l5Resized.T8 := by kernel_rfl
theorem spec_l5Resized.bits8 : waitsOk spec_l5Resized.T8.2 spec_l5Resized.B8 = true := by kernel_rfl
def spec_l5Resized.T9 : Bool × List (List Nat × List Nat) := (true, [([], []), ([0], [0]), ([], []), ([], []), ([], []), ([4], [4]), ([3, 5], [3, 5]), ([], []), ([6, 7], [6, 7]), ([2, 8, 8], [2, 8]), ([9], [9]), ([1, 10, 9], [1, 10]), ([0, 1, 2, 3, 4, 5, 6, 7, 8, 9, 10, 11], []), ([12, 11, 11, 0, 1, 2, 3, 4, 5, 6, 7, 8, 9, 10, 11], [11, 12])])
def spec_l5Resized.B9 : List Nat := [0, 1, 0, 0, 0, 16, 56, 0, 248, 508, 1020, 2047, 4095, 8191]
theorem spec_l5Resized.tab9 : rtab .any (opsOf Try.f54 9) = spec_l5Resized.T9 := by kernel_rfl
theorem spec_l5Resized.bits9 : waitsOk spec_l5Resized.T9.2 spec_l5Resized.B9 = true := by kernel_rfl
set_option maxHeartbeats 8000000 in
set_option maxRecDepth 100000 in
theorem spec_l5Resized.calls (k : Nat) (a0_0 : Int) (A0_1 : Option Addr) (c0_1 : Nat) (l0_1 : List (List (S40))) (a1 : Int) (a2 : Int) (r1 : Int) (r2 : List (List (S40))) (w : World) (hr0_1 : Kd.C (Kd.slice 40 k40) w A0_1 l0_1.length l0_1) (hc0_1 : l0_1.length ≤ c0_1) (h : spec_l5Resized.f k a0_0 l0_1 a1 a2 = some (r1, r2)) :
  Calls Try.prog 54 #[.agg #[.int .i64 a0_0, .slice A0_1 l0_1.length c0_1], .int .i64 a1, .int .i64 a2] w fun e w' => ∃ v1_ : Value, e = .returned (.agg #[.int .i64 r1, v1_]) ∧ Kd.S (Kd.slice 40 k40) 26 w' w.heap.size (fun _ => True) v1_ r2 ∧ Below w.heap.size w w' := by
 have hu43 := Try.underlying43
 have hu29 := Try.underlying29
 have HR0_1 := am hr0_1
 have HC0_1 := am hc0_1
 clear hr0_1 hc0_1
 have HB := am (Below.refl w.heap.size w)
 have H := h
 unfold spec_l5Resized.f at H
 clear h
 replace H := Option.bind_eq_some_iff.mp H
 obtain ⟨t318, A40, H⟩ := H
 (try dsimp only at H)
 have A4 := am A40
 clear A40
 have H' := am H
 clear H
 go_enter Try.func54, Try.ntmps54
 go_wp2_with (first | ((with_reducible refine gate_dst (N := 3) rfl ?_); refine box_event ?hg (N := 3) ?hd (cs := #[.int .i64 a0_0, .slice A0_1 l0_1.length c0_1]) (t := 43) ?hr ?_; (case hd => rfl); (case hg => rfl); (case hr => first | (go_simp; done) | (go_simp; rfl)); intro gb315 hg w5 hbox hb; have n0_ := am (below_step (rb HB) hb); have n1_ := am (hbox); have n2_ := am ((by rw [hg]; exact (below_size (rb HB)) : w.heap.size ≤ gb315)); have n3_ := am ((by rw [hg]; exact (below_size (rb HB)) : w.heap.size ≤ gb315)); clear HB; have HB := n0_; have BK315 := n1_; have GW315 := n2_; have GE315 := n3_; clear n0_ n1_ n2_ n3_; clear hb hbox hg) | ((with_reducible refine gate_dst (N := 6) rfl ?_); refine box_event ?hg (N := 6) ?hd (cs := #[.int .i64 0, .slice none 0 0]) (t := 43) ?hr ?_; (case hd => rfl); (case hg => rfl); (case hr => first | (go_simp; done) | (go_simp; rfl)); intro gb316 hg w6 hbox hb; have n0_ := am (blk_below (g := gb315) (o := .cells #[.int .i64 a0_0, .slice A0_1 l0_1.length c0_1] 43 (0, 0)) (rk BK315) hb); have n1_ := am (below_step (rb1 HB GE315) hb); have n2_ := am (hbox); have n3_ := am ((by rw [hg]; exact (below_size (rb1 HB GE315)) : w.heap.size ≤ gb316)); have n4_ := am ((by rw [hg]; exact (below_size (rb1 HB GE315)) : w.heap.size ≤ gb316)); have n5_ := am ((by rw [hg]; exact Nat.ne_of_lt (blk_lt (g := gb315) (o := .cells #[.int .i64 a0_0, .slice A0_1 l0_1.length c0_1] 43 (0, 0)) (rk BK315)) : gb315 ≠ gb316)); have n6_ := am ((by rw [hg]; exact Nat.ne_of_gt (blk_lt (g := gb315) (o := .cells #[.int .i64 a0_0, .slice A0_1 l0_1.length c0_1] 43 (0, 0)) (rk BK315)) : gb316 ≠ gb315)); clear BK315; clear HB; have BK315 := n0_; have HB := n1_; have BK316 := n2_; have GW316 := n3_; have GE316 := n4_; have NB315_316 := n5_; have NB316_315 := n6_; clear n0_ n1_ n2_ n3_ n4_ n5_ n6_; clear hb hbox hg) | ((with_reducible refine gate_dst (N := 7) rfl ?_); refine box_event ?hg (N := 7) ?hd (cs := #[.int .i64 0, .slice none 0 0]) (t := 43) ?hr ?_; (case hd => rfl); (case hg => rfl); (case hr => first | (go_simp; done) | (go_simp; rfl)); intro gb317 hg w7 hbox hb; have n0_ := am (blk_below (g := gb315) (o := .cells #[.int .i64 a0_0, .slice A0_1 l0_1.length c0_1] 43 (0, 0)) (rk BK315) hb); have n1_ := am (blk_below (g := gb316) (o := .cells #[.int .i64 0, .slice none 0 0] 43 (0, 0)) (rk BK316) hb); have n2_ := am (below_step (rb2 HB GE315 GE316) hb); have n3_ := am (hbox); have n4_ := am ((by rw [hg]; exact (below_size (rb2 HB GE315 GE316)) : w.heap.size ≤ gb317)); have n5_ := am ((by rw [hg]; exact (below_size (rb2 HB GE315 GE316)) : w.heap.size ≤ gb317)); have n6_ := am ((by rw [hg]; exact Nat.ne_of_lt (blk_lt (g := gb315) (o := .cells #[.int .i64 a0_0, .slice A0_1 l0_1.length c0_1] 43 (0, 0)) (rk BK315)) : gb315 ≠ gb317)); have n7_ := am ((by rw [hg]; exact Nat.ne_of_gt (blk_lt (g := gb315) (o := .cells #[.int .i64 a0_0, .slice A0_1 l0_1.length c0_1] 43 (0, 0)) (rk BK315)) : gb317 ≠ gb315)); have n8_ := am ((by rw [hg]; exact Nat.ne_of_lt (blk_lt (g := gb316) (o := .cells #[.int .i64 0, .slice none 0 0] 43 (0, 0)) (rk BK316)) : gb316 ≠ gb317)); have n9_ := am ((by rw [hg]; exact Nat.ne_of_gt (blk_lt (g := gb316) (o := .cells #[.int .i64 0, .slice none 0 0] 43 (0, 0)) (rk BK316)) : gb317 ≠ gb316)); clear BK315; clear BK316; clear HB; have BK315 := n0_; have BK316 := n1_; have HB := n2_; have BK317 := n3_; have GW317 := n4_; have GE317 := n5_; have NB315_317 := n6_; have NB317_315 := n7_; have NB316_317 := n8_; have NB317_316 := n9_; clear n0_ n1_ n2_ n3_ n4_ n5_ n6_ n7_ n8_ n9_; clear hb hbox hg; have hnb8 := NB317_315.out; have hnc8 := NB315_317.out; have hnb9 := NB317_316.out; have hnc9 := NB316_317.out; have hcz10_0 : w7.cell? ⟨gb317, 0, none⟩ = some (.int .i64 0) := (blk_cell BK317.out 0).trans rfl; have hcz10_1 : w7.cell? ⟨gb317, 1, none⟩ = some (.slice none 0 0) := (blk_cell BK317.out 1).trans rfl; have hfz10_0 := blk_frozen BK317.out 0; have hfz10_1 := blk_frozen BK317.out 1; have hnb11 := NB315_316.out; have hnc11 := NB316_315.out; have hcz12_0 : w7.cell? ⟨gb315, 0, none⟩ = some (.int .i64 a0_0) := (blk_cell BK315.out 0).trans rfl; have hcz12_1 : w7.cell? ⟨gb315, 1, none⟩ = some (.slice A0_1 l0_1.length c0_1) := (blk_cell BK315.out 1).trans rfl; have hfz12_0 := blk_frozen BK315.out 0; have hfz12_1 := blk_frozen BK315.out 1) | ((with_reducible refine gate_callee (f := 74) rfl ?_); refine gl_ (some 18) Try.func74 #[.int .i64 0, .int .i64 (wrap64 ((l0_1.length : Int) - a2))] ?_; (with_reducible refine (spec_l1Max.calls 0 (wrap64 ((l0_1.length : Int) - a2)) t318 _ A4.out).mono ?_); rintro e w' ⟨rfl, ⟨nd, rfl⟩⟩; refine ⟨_, rfl, ?_⟩))
 go_loopg [9] k (fun kq v9 w' => ∃ (x9_1 : Int) (x318001_1 : List (List (S40))) (u318001 : Value), v9 = .int .i64 x9_1 ∧ Aside0 (spec_l5Resized.l0 kq a1 a2 t318 x9_1 a0_0 l0_1 a1 x318001_1 = some (r1, r2)) ∧ Aside0 (kq ≤ k) ∧ Aside0 (Kd.S (Kd.slice 40 k40) 26 w' w.heap.size (fun _ => True) u318001 x318001_1) ∧ Aside0 (w'.heap[gb315]? = some (.cells #[.int .i64 a0_0, (.slice A0_1 l0_1.length c0_1)] 43 (0, 0))) ∧ Aside0 (w'.heap[gb316]? = some (.cells #[.int .i64 0, (.slice none 0 0)] 43 (0, 0))) ∧ Aside0 (w'.heap[gb317]? = some (.cells #[.int .i64 a1, u318001] 43 (0, 0))) ∧ Aside0 (Below w.heap.size w w'))
 case atStart => exact ⟨(t318), (([] : List (List (S40)))), (.slice none 0 0), (by first | rfl | (simp; done) | (simp [*]; done)), H', ⟨Nat.le_refl _⟩, ⟨by first | exact Kd.S_nil _ _ _ _ _ | exact Kd.N_nil _ _ _ _ _ | exact Kd.V_nil _ _ _ _ _ | exact Kd.Q_nil _ _ _ _ _ | exact Kd.R_nil _ _ _ _ _⟩, ⟨by (with_reducible repeat (first | apply k1 | apply k2 | apply k3)); refine blk_far ?_ NB315_317.out _; (with_reducible repeat (first | apply k1 | apply k2 | apply k3)); refine blk_far ?_ NB315_317.out _; (with_reducible repeat (first | apply k1 | apply k2 | apply k3)); exact BK315.out⟩, ⟨by (with_reducible repeat (first | apply k1 | apply k2 | apply k3)); refine blk_far ?_ NB316_317.out _; (with_reducible repeat (first | apply k1 | apply k2 | apply k3)); refine blk_far ?_ NB316_317.out _; (with_reducible repeat (first | apply k1 | apply k2 | apply k3)); exact BK316.out⟩, ⟨by (with_reducible repeat (first | apply k1 | apply k2 | apply k3)); refine blk_put (cs := #[.int .i64 a1, .slice none 0 0]) ?_ 1 _ rfl; (with_reducible repeat (first | apply k1 | apply k2 | apply k3)); refine blk_put (cs := #[.int .i64 0, .slice none 0 0]) ?_ 0 _ rfl; (with_reducible repeat (first | apply k1 | apply k2 | apply k3)); exact BK317.out⟩, ⟨rb3 HB GE315 GE316 GE317⟩⟩
 case round =>
  clear H'
  try clear c1
  try clear p2
  try clear c5
  try clear p6
  try clear c7
  try clear c8
  try clear c9
  try clear c11
  try clear hcz10_0
  try clear hcz10_1
  try clear hcz12_0
  try clear hcz12_1
  try clear hfz10_0
  try clear hfz10_1
  try clear hfz12_0
  try clear hfz12_1
  obtain ⟨x9_1, x318001_1, u318001, rfl, HA, HK1, HO_318001, BK315, BK316, BK317, HB⟩ := hrel
  cases gk with
  | zero => exact absurd HA.out (by simp [spec_l5Resized.l0])
  | succ k1 =>
   have H := HA.out
   clear HA
   simp only [spec_l5Resized.l0] at H
   by_cases c13 : x9_1 < (wrap64 (t318 + a2))
   ·rw [if_pos c13] at H
    have c13b0 : decide (x9_1 < (wrap64 (t318 + a2))) = true := decide_eq_true c13
    clear c13
    obtain ⟨y319, hy319⟩ : ∃ y_ : List (S40), y_ = (([] : List (S40))) := ⟨_, rfl⟩
    replace H : (if x9_1 < (l0_1.length : Int) then (if 0 ≤ x9_1 then ((spec_l1Min.f a1 a0_0).bind fun t323 => (if 0 ≤ t323 then (if t323 ≤ ((rd_L4 l0_1 x9_1).length : Int) then ((spec_l4Mended.f k1 ((rd_L4 l0_1 x9_1).take (t323 : Int).toNat)).bind fun t328 => ((spec_l4Row.f k1 (wrap64 (a1 - (t328.length : Int))) 0 0 false false false).bind fun t331 => (if t328.length + t331.length < 3518437208883 then (if x318001_1.length < 5864062014805 then (spec_l5Resized.l0 k1 a1 a2 t318 (wrap64 (x9_1 + 1)) a0_0 l0_1 a1 (x318001_1 ++ [(t328 ++ t331)])) else (none)) else (none)))) else (none)) else (none))) else (none)) else ((spec_l4Row.f k1 (wrap64 (a1 - (y319.length : Int))) 0 0 false false false).bind fun t340 => (if y319.length + t340.length < 3518437208883 then (if x318001_1.length < 5864062014805 then (spec_l5Resized.l0 k1 a1 a2 t318 (wrap64 (x9_1 + 1)) a0_0 l0_1 a1 (x318001_1 ++ [(y319 ++ t340)])) else (none)) else (none)))) = some (r1, r2) := by first | (rw [hy319]; with_reducible exact H) | (rw [hy319]; exact H) | exact H
    have Ny319 := am hy319
    clear hy319
    refine em_ (p := x9_1 < (l0_1.length : Int)) (fun c14 => ?g7p) (fun c14 => ?g7n)
    case' g7p =>
     rw [if_pos c14] at H
     have c14b0 : decide (x9_1 < (l0_1.length : Int)) = true := decide_eq_true c14
     clear c14
     refine em_ (p := 0 ≤ x9_1) (fun c15 => ?g4p) (fun c15 => ?g4n)
     case' g4p =>
      rw [if_pos c15] at H
      have c15b0 : decide (0 ≤ x9_1) = true := decide_eq_true c15
      clear c15
      replace H := Option.bind_eq_some_iff.mp H
      obtain ⟨t323, A160, H⟩ := H
      (try dsimp only at H)
      have A16 := am A160
      clear A160
      refine em_ (p := 0 ≤ t323) (fun c17 => ?g3p) (fun c17 => ?g3n)
      case' g3p =>
       rw [if_pos c17] at H
       have c17b0 := eq_true c17
       have c17b1 : decide (0 ≤ t323) = true := decide_eq_true c17
       clear c17
       refine em_ (p := t323 ≤ ((rd_L4 l0_1 x9_1).length : Int)) (fun c18 => ?g2p) (fun c18 => ?g2n)
       case' g2p =>
        rw [if_pos c18] at H
        have c18b0 := eq_true c18
        have c18b1 : decide (t323 ≤ ((rd_L4 l0_1 x9_1).length : Int)) = true := decide_eq_true c18
        clear c18
        obtain ⟨y324, hy324⟩ : ∃ y_ : List (S40), y_ = ((rd_L4 l0_1 x9_1).take (t323 : Int).toNat) := ⟨_, rfl⟩
        replace H : ((spec_l4Mended.f k1 y324).bind fun t328 => ((spec_l4Row.f k1 (wrap64 (a1 - (t328.length : Int))) 0 0 false false false).bind fun t331 => (if t328.length + t331.length < 3518437208883 then (if x318001_1.length < 5864062014805 then (spec_l5Resized.l0 k1 a1 a2 t318 (wrap64 (x9_1 + 1)) a0_0 l0_1 a1 (x318001_1 ++ [(t328 ++ t331)])) else (none)) else (none)))) = some (r1, r2) := by first | (rw [hy324]; with_reducible exact H) | (rw [hy324]; exact H) | exact H
        have Ny324 := am hy324
        clear hy324
        replace H := Option.bind_eq_some_iff.mp H
        obtain ⟨t328, A190, H⟩ := H
        (try dsimp only at H)
        have A19 := am A190
        clear A190
        replace H := Option.bind_eq_some_iff.mp H
        obtain ⟨t331, A200, H⟩ := H
        (try dsimp only at H)
        have A20 := am A200
        clear A200
        refine em_ (p := t328.length + t331.length < 3518437208883) (fun c21 => ?g1p) (fun c21 => ?g1n)
        case' g1p =>
         rw [if_pos c21] at H
         have LMc21 := am c21
         clear c21
         obtain ⟨y334, hy334⟩ : ∃ y_ : List (S40), y_ = (t328 ++ t331) := ⟨_, rfl⟩
         replace H : (if x318001_1.length < 5864062014805 then (spec_l5Resized.l0 k1 a1 a2 t318 (wrap64 (x9_1 + 1)) a0_0 l0_1 a1 (x318001_1 ++ [y334])) else (none)) = some (r1, r2) := by first | (rw [hy334]; with_reducible exact H) | (rw [hy334]; exact H) | exact H
         have Ny334 := am hy334
         clear hy334
         refine em_ (p := x318001_1.length < 5864062014805) (fun c22 => ?g0p) (fun c22 => ?g0n)
         case' g0p =>
          rw [if_pos c22] at H
          have LMc22 := am c22
          clear c22
          obtain ⟨y337, hy337⟩ : ∃ y_ : List (List (S40)), y_ = (x318001_1 ++ [y334]) := ⟨_, rfl⟩
          replace H : (spec_l5Resized.l0 k1 a1 a2 t318 (wrap64 (x9_1 + 1)) a0_0 l0_1 a1 y337) = some (r1, r2) := by first | (rw [hy337]; with_reducible exact H) | (rw [hy337]; exact H) | exact H
          have Ny337 := am hy337
          clear hy337
          have H' := am H
          clear H
          have lf1_ := trivial
         case g0n =>
          rw [if_neg c22] at H
          exact absurd H (by simp)
        case g1n =>
         rw [if_neg c21] at H
         exact absurd H (by simp)
       case g2n =>
        rw [if_neg c18] at H
        exact absurd H (by simp)
      case g3n =>
       rw [if_neg c17] at H
       exact absurd H (by simp)
     case g4n =>
      rw [if_neg c15] at H
      exact absurd H (by simp)
    case' g7n =>
     rw [if_neg c14] at H
     have c14b0 : decide (x9_1 < (l0_1.length : Int)) = false := decide_eq_false c14
     clear c14
     replace H := Option.bind_eq_some_iff.mp H
     obtain ⟨t340, A400, H⟩ := H
     (try dsimp only at H)
     have A40 := am A400
     clear A400
     refine em_ (p := y319.length + t340.length < 3518437208883) (fun c41 => ?g6p) (fun c41 => ?g6n)
     case' g6p =>
      rw [if_pos c41] at H
      have LMc41 := am c41
      clear c41
      obtain ⟨y343, hy343⟩ : ∃ y_ : List (S40), y_ = (y319 ++ t340) := ⟨_, rfl⟩
      replace H : (if x318001_1.length < 5864062014805 then (spec_l5Resized.l0 k1 a1 a2 t318 (wrap64 (x9_1 + 1)) a0_0 l0_1 a1 (x318001_1 ++ [y343])) else (none)) = some (r1, r2) := by first | (rw [hy343]; with_reducible exact H) | (rw [hy343]; exact H) | exact H
      have Ny343 := am hy343
      clear hy343
      refine em_ (p := x318001_1.length < 5864062014805) (fun c42 => ?g5p) (fun c42 => ?g5n)
      case' g5p =>
       rw [if_pos c42] at H
       have LMc42 := am c42
       clear c42
       obtain ⟨y346, hy346⟩ : ∃ y_ : List (List (S40)), y_ = (x318001_1 ++ [y343]) := ⟨_, rfl⟩
       replace H : (spec_l5Resized.l0 k1 a1 a2 t318 (wrap64 (x9_1 + 1)) a0_0 l0_1 a1 y346) = some (r1, r2) := by first | (rw [hy346]; with_reducible exact H) | (rw [hy346]; exact H) | exact H
       have Ny346 := am hy346
       clear hy346
       have H' := am H
       clear H
       have lf2_ := trivial
      case g5n =>
       rw [if_neg c42] at H
       exact absurd H (by simp)
     case g6n =>
      rw [if_neg c41] at H
      exact absurd H (by simp)
    all_goals
     try go_wp2_with (first | ((with_reducible refine gate_dst (N := 27) rfl ?_); refine Kd.R_lit k40 _ 40 ?hg (N := 27) ?hd (xs := ([] : List (S40))) (inner := []) (ok := fun _ => True) (okp := fun _ => True) ?hr ?hp (fun _ hk => hk) trivial (Below.refl _ _) (Nat.le_refl _) (by simp) ?_; (case hd => rfl); (case hg => rfl); (case hr => first | (go_simp; done) | (go_simp; rfl)); (case hp => exact (Reps.none _ _)); intro v320 w23 ho24 hb hg_ hnew_; clear hg_ hnew_; (first | rw [← Ny319.out] at ho24 | (simp only [Int.reduceToNat] at ho24; rw [← Ny319.out] at ho24)); have n0_ := am (Kd.S_elder' (rs HO_318001) (Kd.R_base ho24) hb); have n1_ := am (Kd.R_lower ho24 (below_size (rb3 HB GE315 GE316 GE317))); have n2_ := am (blk_below (g := gb315) (o := .cells #[.int .i64 a0_0, .slice A0_1 l0_1.length c0_1] 43 (0, 0)) (rk BK315) hb); have n3_ := am (blk_below (g := gb316) (o := .cells #[.int .i64 0, .slice none 0 0] 43 (0, 0)) (rk BK316) hb); have n4_ := am (blk_below (g := gb317) (o := .cells #[.int .i64 a1, u318001] 43 (0, 0)) (rk BK317) hb); have n5_ := am (below_step (rb3 HB GE315 GE316 GE317) hb); clear HO_318001; clear BK315; clear BK316; clear BK317; clear HB; have HO_318001 := n0_; have HO321 := n1_; have BK315 := n2_; have BK316 := n3_; have BK317 := n4_; have HB := n5_; clear n0_ n1_ n2_ n3_ n4_ n5_; clear hb ho24; have hnb25 := NB315_316.out; have hnc25 := NB316_315.out; have hnb26 := NB315_317.out; have hnc26 := NB317_315.out; have hcz27_0 : w23.cell? ⟨gb315, 0, none⟩ = some (.int .i64 a0_0) := (blk_cell BK315.out 0).trans rfl; have hcz27_1 : w23.cell? ⟨gb315, 1, none⟩ = some (.slice A0_1 l0_1.length c0_1) := (blk_cell BK315.out 1).trans rfl; have hfz27_0 := blk_frozen BK315.out 0; have hfz27_1 := blk_frozen BK315.out 1))
     have n0_ := am (Kd.S_drew HO_318001.out)
     have n1_ := am (Kd.R_drew HO321.out)
     have n2_ := am (blk_drew BK315.out)
     have n3_ := am (blk_drew BK316.out)
     have n4_ := am (blk_drew BK317.out)
     have n5_ := am (below_drew1 HB.out)
     clear HO_318001
     clear HO321
     clear BK315
     clear BK316
     clear BK317
     clear HB
     have HO_318001 := n0_
     have HO321 := n1_
     have BK315 := n2_
     have BK316 := n3_
     have BK317 := n4_
     have HB := n5_
     clear n0_ n1_ n2_ n3_ n4_ n5_
     first
     | (
       have q_ := lf1_
       have p322 : 0 ≤ (x9_1 : Int) := dt_
       have q322 : x9_1 < (l0_1.length : Int) := dt_
       obtain ⟨ad322, A322_0, c322_0, e322, hx322_0, hl322_0, hi322_0⟩ := at_L4 HR0_1.out x9_1 p322 q322
       have hw322_0 := hx322_0
       cases e322
       replace hx322_0 := mv HB.out hx322_0
       have HR322_0 := am hi322_0
       have HC322_0 := am hl322_0
       clear hi322_0 hl322_0
       replace p322 := eq_true p322
       replace q322 := eq_true q322
       refine start_ (n := 12) (S := fun w' => w'.cell? ⟨gb315, 0, none⟩ = some (.int .i64 a0_0) ∧ w'.cell? ⟨gb315, 1, none⟩ = some (.slice (some ad322) l0_1.length c0_1) ∧ w'.cell? (ad322.add (x9_1).toNat) = some (.slice A322_0 (rd_L4 l0_1 x9_1).length c322_0)) (ds := []) (bm 12 0) (by kernel_rfl) rfl rfl ⟨(blk_cell BK315.out 0).trans rfl, (blk_cell BK315.out 1).trans rfl, ((HB.out.cell (World.block_lt_of_cell? w _ hw322_0)).trans hw322_0)⟩ (fun hHeld => ?_); refine with_tabW spec_l5Resized.tab8 spec_l5Resized.bits8 (fun HT_ HW_ => ?_)
       generalize w23.drew = w28 at HO_318001 HO321 BK315 BK316 BK317 HB HR322_0 hx322_0 hHeld ⊢
       refine pu_ 0 33 (bm 12 1) HT_.out ?_
       refine pu_ 2 35 (bm 12 5) HT_.out ?_
       refine pu_ 5 38 (bm 12 37) HT_.out ?_
       refine pu_ 6 39 (bm 12 101) HT_.out ?_
       refine take_ (i := 1) (N := some 34) (v := ?_) (a' := ?_) (bm 12 103) rfl rfl (take_ofW HT_.out HW_.out (by kernel_rfl)) (fun _ _ _ h => h) (Or.inl ⟨by rfl, ?_⟩) hHeld ?_ ?_
       rotate_left
       ·rintro w' ⟨s0, s1, s2⟩
        go_simp
        with_reducible rfl
       rotate_left
       ·simp only [Act.put, List.setIfInBounds_toArray, List.set_cons_zero, List.set_cons_succ, i64_w, i32_w]
        rfl
       refine pu_ 3 36 (bm 12 111) HT_.out ?_
       refine take_ (i := 4) (N := some 37) (v := ?_) (a' := ?_) (bm 12 127) rfl rfl (take_ofW HT_.out HW_.out (by kernel_rfl)) (fun _ _ _ h => h) (Or.inl ⟨by rfl, ?_⟩) hHeld ?_ ?_
       rotate_left
       ·rintro w' ⟨s0, s1, s2⟩
        go_simp
        with_reducible rfl
       rotate_left
       ·simp only [Act.put, List.setIfInBounds_toArray, List.set_cons_zero, List.set_cons_succ, i64_w, i32_w]
        rfl
       refine take_ (i := 7) (N := some 40) (v := ?_) (a' := ?_) (bm 12 255) rfl rfl (take_ofW HT_.out HW_.out (by kernel_rfl)) (fun _ _ _ h => h) (Or.inl ⟨by rfl, ?_⟩) hHeld ?_ ?_
       rotate_left
       ·rintro w' ⟨s0, s1, s2⟩
        go_simp
        with_reducible rfl
       rotate_left
       ·simp only [Act.put, List.setIfInBounds_toArray, List.set_cons_zero, List.set_cons_succ, i64_w, i32_w]
        rfl
       refine one_ (i := 8) (N := some 41) (bm 12 511) rfl rfl (one_of HT_.out (by kernel_rfl)) (by decide) (fun K hK => ?_)
       refine goes_ Try.func59 (by kernel_rfl) rfl #[.int .i64 a1, .int .i64 a0_0] (by rfl) rfl rfl (by (try simp only [List.map_toArray, List.map_cons, List.map_nil]); first | done | rfl | (simp only [List.length_drop, List.length_take]; rfl)) ?_
       with_reducible refine (spec_l1Min.calls a1 a0_0 t323 _ A16.out).mono ?_
       rintro e w' ⟨rfl, ⟨nd, rfl⟩⟩
       refine ⟨_, rfl, ?_⟩
       have q29 : (t323 : Int) ≤ (((rd_L4 l0_1 x9_1).length : Int) : Int) := dt_
       obtain ⟨i029, hi029, _, hsz29, _⟩ := info_parts info40
       have hroom29 : (rd_L4 l0_1 x9_1).length ≤ c322_0 := HC322_0.out
       have hC29 : Kd.C k40 _ A322_0 (rd_L4 l0_1 x9_1).length (rd_L4 l0_1 x9_1) := HR322_0.out
       have hcut29 := cut_to (P := Try.prog) 26 40 .i64 Try.underlying26 hi029 A322_0 (rd_L4 l0_1 x9_1).length c322_0 t323 dt_ q29 hroom29
       have hr29 := Kd.C_take (m := (t323 : Int).toNat) hC29 (by omega)
       have hy29 : y324.length = (t323 : Int).toNat := (by rw [Ny324.out, List.length_take]; omega)
       rw [← Ny324.out] at hr29
       rw [← hy29] at hcut29
       have HR327 := am hr29
       have HC327 := am (show y324.length ≤ c322_0 from by omega)
       clear hr29 hC29 hroom29 hi029 hsz29
       have KY29 := am hy29
       clear hy29
       replace q29 := eq_true q29
       refine hK.out _ _ ⟨(blk_cell BK315.out 0).trans rfl, (blk_cell BK315.out 1).trans rfl, ((HB.out.cell (World.block_lt_of_cell? w _ hw322_0)).trans hw322_0)⟩ (fun hHeld => ?_)
       clear hK K
       refine norm_ (a' := ?_) ?_ ?_
       rotate_left
       ·show Act.put _ (some 41) _ = _
        simp only [Act.put, List.setIfInBounds_toArray, List.set_cons_zero, List.set_cons_succ, i64_w, i32_w]
        rfl
       refine pu_ 9 42 (bm 12 1023) HT_.out ?_
       refine one_ (i := 10) (N := some 43) (bm 12 2047) rfl rfl (one_of HT_.out (by kernel_rfl)) (by decide) (fun K hK => ?_)
       refine goes_ Try.func60 (by kernel_rfl) rfl #[.slice A322_0 y324.length c322_0] (by rfl) rfl rfl (by (try simp only [List.map_toArray, List.map_cons, List.map_nil]); first | done | rfl | (simp only [List.length_drop, List.length_take]; rfl)) ?_
       with_reducible refine (spec_l4Mended.calls k1 _ _ y324 t328 _ ?side1 ?side2 A19.out).mono ?_
       (case side1 => repeat (first | exact (Kd.C_below HR327.out (rb3 HB GE315 GE316 GE317)) | (with_reducible refine Kd.C_alloc ?_ _) | (with_reducible refine Kd.C_drewN ?_ _) | (with_reducible refine Kd.C_drew ?_)))
       (case side2 => exact HC327.out)
       rintro e w30 ⟨v329, rfl, ho0, hb⟩
       refine ⟨_, rfl, ?_⟩
       have n0_ := am (Kd.S_elder' (rs HO_318001) (Kd.R_base ho0) hb)
       have n1_ := am (Kd.R_elder' (rr HO321) (Kd.R_base ho0) hb)
       have n2_ := am (Kd.R_lower (Kd.R_new' ho0 (Kd.R_lt (rr HO321))) (below_size (rb3 HB GE315 GE316 GE317)))
       have n3_ := am (blk_below (g := gb315) (o := .cells #[.int .i64 a0_0, .slice (some ad322) l0_1.length c0_1] 43 (0, 0)) (rk BK315) hb)
       have n4_ := am (blk_below (g := gb316) (o := .cells #[.int .i64 0, .slice none 0 0] 43 (0, 0)) (rk BK316) hb)
       have n5_ := am (blk_below (g := gb317) (o := .cells #[.int .i64 a1, u318001] 43 (0, 0)) (rk BK317) hb)
       have n6_ := am (below_step (rb3 HB GE315 GE316 GE317) hb)
       clear HO_318001
       clear HO321
       clear BK315
       clear BK316
       clear BK317
       clear HB
       have HO_318001 := n0_
       have HO321 := n1_
       have HO330 := n2_
       have BK315 := n3_
       have BK316 := n4_
       have BK317 := n5_
       have HB := n6_
       clear n0_ n1_ n2_ n3_ n4_ n5_ n6_
       (try clear hb)
       (try clear hb2)
       (try clear hk)
       (try clear hi)
       (try clear ho0)
       refine hK.out _ _ ⟨(blk_cell BK315.out 0).trans rfl, (blk_cell BK315.out 1).trans rfl, ((HB.out.cell (World.block_lt_of_cell? w _ hw322_0)).trans hw322_0)⟩ (fun hHeld => ?_)
       clear hK K
       refine norm_ (a' := ?_) ?_ ?_
       rotate_left
       ·show Act.put _ (some 43) _ = _
        simp only [Act.put, List.setIfInBounds_toArray, List.set_cons_zero, List.set_cons_succ, i64_w, i32_w]
        rfl
       refine pu_ 11 10 (bm 12 4095) HT_.out ?_
       refine done_ (done_of HT_.out (by kernel_rfl)) ?_
       try go_wp2
       have n0_ := am (Kd.S_drew HO_318001.out)
       have n1_ := am (Kd.R_drew HO321.out)
       have n2_ := am (Kd.R_drew HO330.out)
       have n3_ := am (blk_drew BK315.out)
       have n4_ := am (blk_drew BK316.out)
       have n5_ := am (blk_drew BK317.out)
       have n6_ := am (below_drew1 HB.out)
       clear HO_318001
       clear HO321
       clear HO330
       clear BK315
       clear BK316
       clear BK317
       clear HB
       have HO_318001 := n0_
       have HO321 := n1_
       have HO330 := n2_
       have BK315 := n3_
       have BK316 := n4_
       have BK317 := n5_
       have HB := n6_
       clear n0_ n1_ n2_ n3_ n4_ n5_ n6_
       obtain ⟨Ao32, co32, eo32⟩ := Kd.R_slice HO330.out
       (first | subst eo32 | (injection eo32 with f1_ f2_ f3_; have f4_ := f1_.symm; have f5_ := f3_.symm; clear f1_ f2_ f3_; subst f4_; subst f5_))
       refine start_ (n := 14) (S := fun w' => w'.cell? ⟨gb317, 0, none⟩ = some (.int .i64 a1) ∧ w'.cell? ⟨gb317, 1, none⟩ = some (u318001)) (ds := [13]) (bm 14 0) (by kernel_rfl) rfl rfl ⟨(blk_cell BK317.out 0).trans rfl, (blk_cell BK317.out 1).trans rfl⟩ (fun hHeld => ?_); refine with_tabW spec_l5Resized.tab9 spec_l5Resized.bits9 (fun HT_ HW_ => ?_)
       generalize w30.drew = w31 at HO_318001 HO321 HO330 BK315 BK316 BK317 HB hHeld ⊢
       refine pu_ 0 44 (bm 14 1) HT_.out ?_
       refine pu_ 2 46 (bm 14 5) HT_.out ?_
       refine pu_ 3 47 (bm 14 13) HT_.out ?_
       refine pu_ 4 48 (bm 14 29) HT_.out ?_
       refine pu_ 5 49 (bm 14 61) HT_.out ?_
       refine pu_ 6 50 (bm 14 125) HT_.out ?_
       refine pu_ 7 51 (bm 14 253) HT_.out ?_
       refine take_ (i := 1) (N := some 45) (v := ?_) (a' := ?_) (bm 14 255) rfl rfl (take_ofW HT_.out HW_.out (by kernel_rfl)) (fun _ _ _ h => h) (Or.inl ⟨by rfl, ?_⟩) hHeld ?_ ?_
       rotate_left
       ·rintro w' ⟨s0, s1⟩
        go_simp
        with_reducible rfl
       rotate_left
       ·simp only [Act.put, List.setIfInBounds_toArray, List.set_cons_zero, List.set_cons_succ, i64_w, i32_w]
        rfl
       refine one_ (i := 8) (N := some 52) (bm 14 511) rfl rfl (one_of HT_.out (by kernel_rfl)) (by decide) (fun K hK => ?_)
       refine goes_ Try.func61 (by kernel_rfl) rfl #[.int .i64 (wrap64 (a1 - (t328.length : Int))), .agg #[.int .i64 0, .int .i64 0, .bool false, .bool false, .bool false]] (by rfl) rfl rfl (by (try simp only [List.map_toArray, List.map_cons, List.map_nil]); first | done | rfl | (simp only [List.length_drop, List.length_take]; rfl)) ?_
       with_reducible refine (spec_l4Row.calls k1 (wrap64 (a1 - (t328.length : Int))) 0 0 false false false t331 _ A20.out).mono ?_
       rintro e w33 ⟨v332, rfl, ho0, hb⟩
       refine ⟨_, rfl, ?_⟩
       have n0_ := am (Kd.S_elder' (rs HO_318001) (Kd.R_base ho0) hb)
       have n1_ := am (Kd.R_elder' (rr HO321) (Kd.R_base ho0) hb)
       have n2_ := am (Kd.R_elder' (rr HO330) (Kd.R_base ho0) hb)
       have n3_ := am (Kd.R_lower (Kd.R_new' (Kd.R_new' ho0 (Kd.R_lt (rr HO321))) (Kd.R_lt (rr HO330))) (below_size (rb3 HB GE315 GE316 GE317)))
       have n4_ := am (blk_below (g := gb315) (o := .cells #[.int .i64 a0_0, .slice (some ad322) l0_1.length c0_1] 43 (0, 0)) (rk BK315) hb)
       have n5_ := am (blk_below (g := gb316) (o := .cells #[.int .i64 0, .slice none 0 0] 43 (0, 0)) (rk BK316) hb)
       have n6_ := am (blk_below (g := gb317) (o := .cells #[.int .i64 a1, u318001] 43 (0, 0)) (rk BK317) hb)
       have n7_ := am (below_step (rb3 HB GE315 GE316 GE317) hb)
       clear HO_318001
       clear HO321
       clear HO330
       clear BK315
       clear BK316
       clear BK317
       clear HB
       have HO_318001 := n0_
       have HO321 := n1_
       have HO330 := n2_
       have HO333 := n3_
       have BK315 := n4_
       have BK316 := n5_
       have BK317 := n6_
       have HB := n7_
       clear n0_ n1_ n2_ n3_ n4_ n5_ n6_ n7_
       (try clear hb)
       (try clear hb2)
       (try clear hk)
       (try clear hi)
       (try clear ho0)
       obtain ⟨Ao35, co35, eo35⟩ := Kd.R_slice HO333.out
       (first | subst eo35 | (injection eo35 with f1_ f2_ f3_; have f4_ := f1_.symm; have f5_ := f3_.symm; clear f1_ f2_ f3_; subst f4_; subst f5_))
       refine hK.out _ _ ⟨(blk_cell BK317.out 0).trans rfl, (blk_cell BK317.out 1).trans rfl⟩ (fun hHeld => ?_)
       clear hK K
       refine norm_ (a' := ?_) ?_ ?_
       rotate_left
       ·show Act.put _ (some 52) _ = _
        simp only [Act.put, List.setIfInBounds_toArray, List.set_cons_zero, List.set_cons_succ, i64_w, i32_w]
        rfl
       refine one_ (i := 9) (N := some 53) (bm 14 1023) rfl rfl (one_of HT_.out (by kernel_rfl)) (by decide) (fun K hK => ?_)
       refine Kd.R_append_rows_step k40 (w0 := w) w.heap.size (by rfl) (.tmp 46) (.tmp 52) 26 40 (.agg #[(.int .i64 0), (.int .i64 0), (.int .i64 0), (.bool false), (.bool false), (.bool false), (.int .i64 0)]) 40 rfl Try.underlying26 info40 rfl (by decide) (by omega) (.slice Ao32 t328.length co32) t328 t331 _ _ _ (fun k_ => some k_ ≠ (v320 : Value).ownBlock ∧ some k_ ≠ (.slice Ao35 t331.length co35 : Value).ownBlock) (fun _ => False) rfl rfl ?aO ?aR (fun _ _ h => h) (fun _ h => h.elim) ?aF ?aB ?aS ?aL ?_
       (case aR => repeat (first | exact (Kd.R_reads' HO333.out).2.2 | (with_reducible refine Kd.C_alloc ?_ _) | (with_reducible refine Kd.C_drewN ?_ _) | (with_reducible refine Kd.C_drew ?_)))
       (case aB => exact (rb3 HB GE315 GE316 GE317))
       (case aF => exact (fun k_ hk => ⟨Kd.fresh' (Kd.R_lt (rr HO321)) k_ hk, Kd.fresh' (Kd.R_lt (rr HO333)) k_ hk⟩))
       (case aO => exact (by (with_reducible repeat (first | apply r1 | apply r2 | apply r3)); exact Kd.R_mono HO330.out (fun _ hk => ⟨hk.1.2, hk.2⟩)))
       (case aS => exact (below_size (rb3 HB GE315 GE316 GE317)))
       (case aL => have := LMc21.out; omega)
       intro v335 w34 ho hb hg hat
       rw [← Ny334.out] at ho
       have n0_ := am (Kd.S_after (ok := (fun k_ => some k_ ≠ (v320 : Value).ownBlock ∧ some k_ ≠ (.slice Ao35 t331.length co35 : Value).ownBlock)) (by (with_reducible repeat (first | apply Kd.S_alloc | apply Kd.S_drewN | apply Kd.S_drew)); exact Kd.S_mono HO_318001.out (fun _ hk => ⟨⟨hk.1.1.2, hk.2⟩, hk.1.2⟩)) hg hat)
       have n1_ := am (blk_grown (g := gb315) (o := .cells #[.int .i64 a0_0, .slice (some ad322) l0_1.length c0_1] 43 (0, 0)) (rk BK315) hg (Kd.R_ne HO330.out BK315.out (by decide)))
       have n2_ := am (blk_grown (g := gb316) (o := .cells #[.int .i64 0, .slice none 0 0] 43 (0, 0)) (rk BK316) hg (Kd.R_ne HO330.out BK316.out (by decide)))
       have n3_ := am (blk_grown (g := gb317) (o := .cells #[.int .i64 a1, u318001] 43 (0, 0)) (rk BK317) hg (Kd.R_ne HO330.out BK317.out (by decide)))
       have n4_ := am (Kd.R_after (ok := (fun k_ => some k_ ≠ (.slice Ao35 t331.length co35 : Value).ownBlock)) (by (with_reducible repeat (first | apply r1 | apply r2 | apply r3)); exact Kd.R_mono HO321.out (fun _ hk => ⟨hk.2, hk.1.2⟩)) hg hat)
       have n5_ := am (Kd.R_after (ok := (fun k_ => some k_ ≠ (v320 : Value).ownBlock)) (by (with_reducible repeat (first | apply r1 | apply r2 | apply r3)); exact Kd.R_mono HO333.out (fun _ hk => ⟨hk.1.2, hk.2⟩)) hg hat)
       have n6_ := am (hb)
       have n7_ := am (ho)
       clear HO_318001
       clear BK315
       clear BK316
       clear BK317
       clear HO321
       clear HO333
       clear HB
       clear HO330
       have HO_318001 := n0_
       have BK315 := n1_
       have BK316 := n2_
       have BK317 := n3_
       have HO321 := n4_
       have HO333 := n5_
       have HB := n6_
       have HO336 := n7_
       clear n0_ n1_ n2_ n3_ n4_ n5_ n6_ n7_
       clear ho hb hg hat
       obtain ⟨Ao37, co37, eo37⟩ := Kd.R_slice HO336.out
       (first | subst eo37 | (injection eo37 with f1_ f2_ f3_; have f4_ := f1_.symm; have f5_ := f3_.symm; clear f1_ f2_ f3_; subst f4_; subst f5_))
       refine hK.out _ _ ⟨(blk_cell BK317.out 0).trans rfl, (blk_cell BK317.out 1).trans rfl⟩ (fun hHeld => ?_)
       clear hK K
       refine norm_ (a' := ?_) ?_ ?_
       rotate_left
       ·show Act.put _ (some 53) _ = _
        simp only [Act.put, List.setIfInBounds_toArray, List.set_cons_zero, List.set_cons_succ, i64_w, i32_w]
        rfl
       refine one_ (i := 10) (N := some 54) (bm 14 2047) rfl rfl (one_of HT_.out (by kernel_rfl)) (by decide) (fun K hK => ?_)
       refine value_ (w1 := ?_) (v := ?_) (by rfl) rfl ?_ ?_
       rotate_left 2
       ·go_simp
        constructor
        ·rfl
        ·rfl
       refine hK.out _ _ ⟨(blk_cell (blk_alloc BK317.out _) 0).trans rfl, (blk_cell (blk_alloc BK317.out _) 1).trans rfl⟩ (fun hHeld => ?_)
       clear hK K
       refine norm_ (a' := ?_) ?_ ?_
       rotate_left
       ·show Act.put _ (some 54) _ = _
        simp only [Act.put, List.setIfInBounds_toArray, List.set_cons_zero, List.set_cons_succ, i64_w, i32_w]
        rfl
       refine one_ (i := 11) (N := some 55) (bm 14 4095) rfl rfl (one_of HT_.out (by kernel_rfl)) (by decide) (fun K hK => ?_)
       refine Kd.S_append_step (Kd.slice 40 k40) (w0 := w) w.heap.size (by rfl) (.tmp 45) (.tmp 54) 41 26 (.slice none 0 0) 24 rfl Try.underlying41 info26 rfl (by decide) (by omega) u318001 x318001_1 y334 [.slice Ao37 y334.length co37] (fun k_ => some k_ ≠ (v320 : Value).ownBlock ∧ some k_ ≠ (.slice Ao35 t331.length co35 : Value).ownBlock) (fun k_ => some k_ = (.slice Ao37 y334.length co37 : Value).ownBlock) rfl rfl ?aP (fun k_ hk_ => ((Kd.R_mono (ok' := fun k_ => ((fun k_ => some k_ ≠ (v320 : Value).ownBlock ∧ some k_ ≠ (.slice Ao35 t331.length co35 : Value).ownBlock)) k_ ∧ some k_ ≠ (u318001 : Value).ownBlock) (Kd.R_apart' (HO336.out) (Kd.S_typed HO_318001.out) (by decide)) (fun k_ hk => ⟨⟨hk.1.1, hk.1.2⟩, hk.2⟩))).1 k_ hk_.symm) ?aF ?aO ?aB ?aS ?aL ?_
       (case aP => exact Kd.M_row (Kd.R_mono (Kd.R_tight rfl (Kd.R_mono (ok' := fun k_ => ((fun k_ => some k_ ≠ (v320 : Value).ownBlock ∧ some k_ ≠ (.slice Ao35 t331.length co35 : Value).ownBlock)) k_ ∧ some k_ ≠ (u318001 : Value).ownBlock) (Kd.R_apart' (HO336.out) (Kd.S_typed HO_318001.out) (by decide)) (fun k_ hk => ⟨⟨hk.1.1, hk.1.2⟩, hk.2⟩))) (fun _ h_ => h_)))
       (case aB => exact (rb3 HB GE315 GE316 GE317))
       (case aF => exact (fun k_ hk => ⟨Kd.fresh' (Kd.R_lt (rr HO321)) k_ hk, Kd.fresh' (Kd.R_lt (rr HO333)) k_ hk⟩))
       (case aO => exact (by (with_reducible repeat (first | apply Kd.S_alloc | apply Kd.S_drewN | apply Kd.S_drew)); exact Kd.S_mono HO_318001.out (fun k_ hk => ⟨⟨hk.1.1, hk.1.2⟩, fun e_ => hk.2 e_⟩)))
       (case aS => exact (below_size (rb3 HB GE315 GE316 GE317)))
       (case aL => have := LMc22.out; omega)
       intro v338 w36 ho hb hg hat
       rw [← Ny337.out] at ho
       have n0_ := am (blk_grown (g := gb315) (o := .cells #[.int .i64 a0_0, .slice (some ad322) l0_1.length c0_1] 43 (0, 0)) (rk BK315) hg (Kd.S_ne HO_318001.out BK315.out (by decide)))
       have n1_ := am (blk_grown (g := gb316) (o := .cells #[.int .i64 0, .slice none 0 0] 43 (0, 0)) (rk BK316) hg (Kd.S_ne HO_318001.out BK316.out (by decide)))
       have n2_ := am (blk_grown (g := gb317) (o := .cells #[.int .i64 a1, u318001] 43 (0, 0)) (rk BK317) hg (Kd.S_ne HO_318001.out BK317.out (by decide)))
       have n3_ := am (Kd.R_over' (rr HO321) (Kd.S_typed (rs HO_318001)) (by decide) hg)
       have n4_ := am (Kd.R_over' (rr HO333) (Kd.S_typed (rs HO_318001)) (by decide) hg)
       have n5_ := am (hb)
       have n6_ := am (ho)
       clear BK315
       clear BK316
       clear BK317
       clear HO321
       clear HO333
       clear HB
       clear HO_318001
       clear HO336
       have BK315 := n0_
       have BK316 := n1_
       have BK317 := n2_
       have HO321 := n3_
       have HO333 := n4_
       have HB := n5_
       have HO339 := n6_
       clear n0_ n1_ n2_ n3_ n4_ n5_ n6_
       clear ho hb hg hat
       obtain ⟨Ao38, co38, eo38⟩ := Kd.S_slice HO339.out
       (first | subst eo38 | (injection eo38 with f1_ f2_ f3_; have f4_ := f1_.symm; have f5_ := f3_.symm; clear f1_ f2_ f3_; subst f4_; subst f5_))
       refine hK.out _ _ ⟨(blk_cell BK317.out 0).trans rfl, (blk_cell BK317.out 1).trans rfl⟩ (fun hHeld => ?_)
       clear hK K
       refine norm_ (a' := ?_) ?_ ?_
       rotate_left
       ·show Act.put _ (some 55) _ = _
        simp only [Act.put, List.setIfInBounds_toArray, List.set_cons_zero, List.set_cons_succ, i64_w, i32_w]
        rfl
       refine pu_ 12 56 (bm 14 8191) HT_.out ?_
       refine last_ (i := 13) (N := none) (bm 14 16383) rfl rfl (one_of HT_.out (by kernel_rfl)) (by decide) (fun K hK => ?_)
       have hs39 : w36.cell? ⟨gb317, 1, none⟩ = some (u318001) := (blk_cell BK317.out 1).trans rfl
       have hfs39 := blk_frozen BK317.out 1
       have hns39_0 := NB315_317.out
       have hns39_1 := NB316_317.out
       have hms39_0 := NB317_315.out
       have hms39_1 := NB317_316.out
       refine skip_ (w1 := ?_) (by rfl) rfl ?_ ?_
       rotate_left
       ·go_simp
        rfl
       refine hK.out _ _ ?_
       clear hK K
       refine done_ (done_of HT_.out (by kernel_rfl)) ?_
       try go_wp2
       go_roundg k1
       case measure => have := HK1.out; omega
       case rel => exact ⟨(wrap64 (x9_1 + 1)), (y337), (.slice Ao38 y337.length co38), (by first | rfl | (simp; done) | (simp [*]; done)), H', ⟨by have := HK1.out; omega⟩, ⟨by (with_reducible repeat (first | apply Kd.S_alloc | apply Kd.S_drewN | apply Kd.S_drew)); exact Kd.S_mono (Kd.S_far (p := ⟨gb317, 1, none⟩) (Kd.S_types HO339.out BK317.out (by decide)) (fun _ hk => hk.2) (.slice Ao38 y337.length co38)) (fun _ hk => trivial)⟩, ⟨by (with_reducible repeat (first | apply k1 | apply k2 | apply k3)); refine blk_far ?_ NB315_317.out _; (with_reducible repeat (first | apply k1 | apply k2 | apply k3)); exact BK315.out⟩, ⟨by (with_reducible repeat (first | apply k1 | apply k2 | apply k3)); refine blk_far ?_ NB316_317.out _; (with_reducible repeat (first | apply k1 | apply k2 | apply k3)); exact BK316.out⟩, ⟨by (with_reducible repeat (first | apply k1 | apply k2 | apply k3)); refine blk_put (cs := #[.int .i64 a1, u318001]) ?_ 1 _ rfl; (with_reducible repeat (first | apply k1 | apply k2 | apply k3)); exact BK317.out⟩, ⟨rb3 HB GE315 GE316 GE317⟩⟩
       )
     | (
       have q_ := lf2_
       obtain ⟨Ao49, co49, eo49⟩ := Kd.R_slice HO321.out
       (first | subst eo49 | (injection eo49 with f1_ f2_ f3_; have f4_ := f1_.symm; have f5_ := f3_.symm; clear f1_ f2_ f3_; subst f4_; subst f5_))
       refine start_ (n := 14) (S := fun w' => w'.cell? ⟨gb317, 0, none⟩ = some (.int .i64 a1) ∧ w'.cell? ⟨gb317, 1, none⟩ = some (u318001)) (ds := [13]) (bm 14 0) (by kernel_rfl) rfl rfl ⟨(blk_cell BK317.out 0).trans rfl, (blk_cell BK317.out 1).trans rfl⟩ (fun hHeld => ?_); refine with_tabW spec_l5Resized.tab9 spec_l5Resized.bits9 (fun HT_ HW_ => ?_)
       generalize w23.drew = w48 at HO_318001 HO321 BK315 BK316 BK317 HB hHeld ⊢
       refine pu_ 0 44 (bm 14 1) HT_.out ?_
       refine pu_ 2 46 (bm 14 5) HT_.out ?_
       refine pu_ 3 47 (bm 14 13) HT_.out ?_
       refine pu_ 4 48 (bm 14 29) HT_.out ?_
       refine pu_ 5 49 (bm 14 61) HT_.out ?_
       refine pu_ 6 50 (bm 14 125) HT_.out ?_
       refine pu_ 7 51 (bm 14 253) HT_.out ?_
       refine take_ (i := 1) (N := some 45) (v := ?_) (a' := ?_) (bm 14 255) rfl rfl (take_ofW HT_.out HW_.out (by kernel_rfl)) (fun _ _ _ h => h) (Or.inl ⟨by rfl, ?_⟩) hHeld ?_ ?_
       rotate_left
       ·rintro w' ⟨s0, s1⟩
        go_simp
        with_reducible rfl
       rotate_left
       ·simp only [Act.put, List.setIfInBounds_toArray, List.set_cons_zero, List.set_cons_succ, i64_w, i32_w]
        rfl
       refine one_ (i := 8) (N := some 52) (bm 14 511) rfl rfl (one_of HT_.out (by kernel_rfl)) (by decide) (fun K hK => ?_)
       refine goes_ Try.func61 (by kernel_rfl) rfl #[.int .i64 (wrap64 (a1 - (y319.length : Int))), .agg #[.int .i64 0, .int .i64 0, .bool false, .bool false, .bool false]] (by rfl) rfl rfl (by (try simp only [List.map_toArray, List.map_cons, List.map_nil]); first | done | rfl | (simp only [List.length_drop, List.length_take]; rfl)) ?_
       with_reducible refine (spec_l4Row.calls k1 (wrap64 (a1 - (y319.length : Int))) 0 0 false false false t340 _ A40.out).mono ?_
       rintro e w50 ⟨v341, rfl, ho0, hb⟩
       refine ⟨_, rfl, ?_⟩
       have n0_ := am (Kd.S_elder' (rs HO_318001) (Kd.R_base ho0) hb)
       have n1_ := am (Kd.R_elder' (rr HO321) (Kd.R_base ho0) hb)
       have n2_ := am (Kd.R_lower (Kd.R_new' ho0 (Kd.R_lt (rr HO321))) (below_size (rb3 HB GE315 GE316 GE317)))
       have n3_ := am (blk_below (g := gb315) (o := .cells #[.int .i64 a0_0, .slice A0_1 l0_1.length c0_1] 43 (0, 0)) (rk BK315) hb)
       have n4_ := am (blk_below (g := gb316) (o := .cells #[.int .i64 0, .slice none 0 0] 43 (0, 0)) (rk BK316) hb)
       have n5_ := am (blk_below (g := gb317) (o := .cells #[.int .i64 a1, u318001] 43 (0, 0)) (rk BK317) hb)
       have n6_ := am (below_step (rb3 HB GE315 GE316 GE317) hb)
       clear HO_318001
       clear HO321
       clear BK315
       clear BK316
       clear BK317
       clear HB
       have HO_318001 := n0_
       have HO321 := n1_
       have HO342 := n2_
       have BK315 := n3_
       have BK316 := n4_
       have BK317 := n5_
       have HB := n6_
       clear n0_ n1_ n2_ n3_ n4_ n5_ n6_
       (try clear hb)
       (try clear hb2)
       (try clear hk)
       (try clear hi)
       (try clear ho0)
       obtain ⟨Ao52, co52, eo52⟩ := Kd.R_slice HO342.out
       (first | subst eo52 | (injection eo52 with f1_ f2_ f3_; have f4_ := f1_.symm; have f5_ := f3_.symm; clear f1_ f2_ f3_; subst f4_; subst f5_))
       refine hK.out _ _ ⟨(blk_cell BK317.out 0).trans rfl, (blk_cell BK317.out 1).trans rfl⟩ (fun hHeld => ?_)
       clear hK K
       refine norm_ (a' := ?_) ?_ ?_
       rotate_left
       ·show Act.put _ (some 52) _ = _
        simp only [Act.put, List.setIfInBounds_toArray, List.set_cons_zero, List.set_cons_succ, i64_w, i32_w]
        rfl
       refine one_ (i := 9) (N := some 53) (bm 14 1023) rfl rfl (one_of HT_.out (by kernel_rfl)) (by decide) (fun K hK => ?_)
       refine Kd.R_append_rows_step k40 (w0 := w) w.heap.size (by rfl) (.tmp 46) (.tmp 52) 26 40 (.agg #[(.int .i64 0), (.int .i64 0), (.int .i64 0), (.bool false), (.bool false), (.bool false), (.int .i64 0)]) 40 rfl Try.underlying26 info40 rfl (by decide) (by omega) (.slice Ao49 y319.length co49) y319 t340 _ _ _ (fun k_ => some k_ ≠ (.slice Ao52 t340.length co52 : Value).ownBlock) (fun _ => False) rfl rfl ?aO ?aR (fun _ _ h => h) (fun _ h => h.elim) ?aF ?aB ?aS ?aL ?_
       (case aR => repeat (first | exact (Kd.R_reads' HO342.out).2.2 | (with_reducible refine Kd.C_alloc ?_ _) | (with_reducible refine Kd.C_drewN ?_ _) | (with_reducible refine Kd.C_drew ?_)))
       (case aB => exact (rb3 HB GE315 GE316 GE317))
       (case aF => exact (fun k_ hk => Kd.fresh' (Kd.R_lt (rr HO342)) k_ hk))
       (case aO => exact (by (with_reducible repeat (first | apply r1 | apply r2 | apply r3)); exact Kd.R_mono HO321.out (fun _ hk => hk.2)))
       (case aS => exact (below_size (rb3 HB GE315 GE316 GE317)))
       (case aL => have := LMc41.out; omega)
       intro v344 w51 ho hb hg hat
       rw [← Ny343.out] at ho
       have n0_ := am (Kd.S_after (ok := (fun k_ => some k_ ≠ (.slice Ao52 t340.length co52 : Value).ownBlock)) (by (with_reducible repeat (first | apply Kd.S_alloc | apply Kd.S_drewN | apply Kd.S_drew)); exact Kd.S_mono HO_318001.out (fun _ hk => ⟨hk.2, hk.1.2⟩)) hg hat)
       have n1_ := am (blk_grown (g := gb315) (o := .cells #[.int .i64 a0_0, .slice A0_1 l0_1.length c0_1] 43 (0, 0)) (rk BK315) hg (Kd.R_ne HO321.out BK315.out (by decide)))
       have n2_ := am (blk_grown (g := gb316) (o := .cells #[.int .i64 0, .slice none 0 0] 43 (0, 0)) (rk BK316) hg (Kd.R_ne HO321.out BK316.out (by decide)))
       have n3_ := am (blk_grown (g := gb317) (o := .cells #[.int .i64 a1, u318001] 43 (0, 0)) (rk BK317) hg (Kd.R_ne HO321.out BK317.out (by decide)))
       have n4_ := am (Kd.R_after (ok := (fun _ => True)) (rr HO342) hg hat)
       have n5_ := am (hb)
       have n6_ := am (ho)
       clear HO_318001
       clear BK315
       clear BK316
       clear BK317
       clear HO342
       clear HB
       clear HO321
       have HO_318001 := n0_
       have BK315 := n1_
       have BK316 := n2_
       have BK317 := n3_
       have HO342 := n4_
       have HB := n5_
       have HO345 := n6_
       clear n0_ n1_ n2_ n3_ n4_ n5_ n6_
       clear ho hb hg hat
       obtain ⟨Ao54, co54, eo54⟩ := Kd.R_slice HO345.out
       (first | subst eo54 | (injection eo54 with f1_ f2_ f3_; have f4_ := f1_.symm; have f5_ := f3_.symm; clear f1_ f2_ f3_; subst f4_; subst f5_))
       refine hK.out _ _ ⟨(blk_cell BK317.out 0).trans rfl, (blk_cell BK317.out 1).trans rfl⟩ (fun hHeld => ?_)
       clear hK K
       refine norm_ (a' := ?_) ?_ ?_
       rotate_left
       ·show Act.put _ (some 53) _ = _
        simp only [Act.put, List.setIfInBounds_toArray, List.set_cons_zero, List.set_cons_succ, i64_w, i32_w]
        rfl
       refine one_ (i := 10) (N := some 54) (bm 14 2047) rfl rfl (one_of HT_.out (by kernel_rfl)) (by decide) (fun K hK => ?_)
       refine value_ (w1 := ?_) (v := ?_) (by rfl) rfl ?_ ?_
       rotate_left 2
       ·go_simp
        constructor
        ·rfl
        ·rfl
       refine hK.out _ _ ⟨(blk_cell (blk_alloc BK317.out _) 0).trans rfl, (blk_cell (blk_alloc BK317.out _) 1).trans rfl⟩ (fun hHeld => ?_)
       clear hK K
       refine norm_ (a' := ?_) ?_ ?_
       rotate_left
       ·show Act.put _ (some 54) _ = _
        simp only [Act.put, List.setIfInBounds_toArray, List.set_cons_zero, List.set_cons_succ, i64_w, i32_w]
        rfl
       refine one_ (i := 11) (N := some 55) (bm 14 4095) rfl rfl (one_of HT_.out (by kernel_rfl)) (by decide) (fun K hK => ?_)
       refine Kd.S_append_step (Kd.slice 40 k40) (w0 := w) w.heap.size (by rfl) (.tmp 45) (.tmp 54) 41 26 (.slice none 0 0) 24 rfl Try.underlying41 info26 rfl (by decide) (by omega) u318001 x318001_1 y343 [.slice Ao54 y343.length co54] (fun k_ => some k_ ≠ (.slice Ao52 t340.length co52 : Value).ownBlock) (fun k_ => some k_ = (.slice Ao54 y343.length co54 : Value).ownBlock) rfl rfl ?aP (fun k_ hk_ => ((Kd.R_mono (ok' := fun k_ => ((fun k_ => some k_ ≠ (.slice Ao52 t340.length co52 : Value).ownBlock)) k_ ∧ some k_ ≠ (u318001 : Value).ownBlock) (Kd.R_apart' (HO345.out) (Kd.S_typed HO_318001.out) (by decide)) (fun k_ hk => ⟨hk.1, hk.2⟩))).1 k_ hk_.symm) ?aF ?aO ?aB ?aS ?aL ?_
       (case aP => exact Kd.M_row (Kd.R_mono (Kd.R_tight rfl (Kd.R_mono (ok' := fun k_ => ((fun k_ => some k_ ≠ (.slice Ao52 t340.length co52 : Value).ownBlock)) k_ ∧ some k_ ≠ (u318001 : Value).ownBlock) (Kd.R_apart' (HO345.out) (Kd.S_typed HO_318001.out) (by decide)) (fun k_ hk => ⟨hk.1, hk.2⟩))) (fun _ h_ => h_)))
       (case aB => exact (rb3 HB GE315 GE316 GE317))
       (case aF => exact (fun k_ hk => Kd.fresh' (Kd.R_lt (rr HO342)) k_ hk))
       (case aO => exact (by (with_reducible repeat (first | apply Kd.S_alloc | apply Kd.S_drewN | apply Kd.S_drew)); exact Kd.S_mono HO_318001.out (fun k_ hk => ⟨hk.1, fun e_ => hk.2 e_⟩)))
       (case aS => exact (below_size (rb3 HB GE315 GE316 GE317)))
       (case aL => have := LMc42.out; omega)
       intro v347 w53 ho hb hg hat
       rw [← Ny346.out] at ho
       have n0_ := am (blk_grown (g := gb315) (o := .cells #[.int .i64 a0_0, .slice A0_1 l0_1.length c0_1] 43 (0, 0)) (rk BK315) hg (Kd.S_ne HO_318001.out BK315.out (by decide)))
       have n1_ := am (blk_grown (g := gb316) (o := .cells #[.int .i64 0, .slice none 0 0] 43 (0, 0)) (rk BK316) hg (Kd.S_ne HO_318001.out BK316.out (by decide)))
       have n2_ := am (blk_grown (g := gb317) (o := .cells #[.int .i64 a1, u318001] 43 (0, 0)) (rk BK317) hg (Kd.S_ne HO_318001.out BK317.out (by decide)))
       have n3_ := am (Kd.R_over' (rr HO342) (Kd.S_typed (rs HO_318001)) (by decide) hg)
       have n4_ := am (hb)
       have n5_ := am (ho)
       clear BK315
       clear BK316
       clear BK317
       clear HO342
       clear HB
       clear HO_318001
       clear HO345
       have BK315 := n0_
       have BK316 := n1_
       have BK317 := n2_
       have HO342 := n3_
       have HB := n4_
       have HO348 := n5_
       clear n0_ n1_ n2_ n3_ n4_ n5_
       clear ho hb hg hat
       obtain ⟨Ao55, co55, eo55⟩ := Kd.S_slice HO348.out
       (first | subst eo55 | (injection eo55 with f1_ f2_ f3_; have f4_ := f1_.symm; have f5_ := f3_.symm; clear f1_ f2_ f3_; subst f4_; subst f5_))
       refine hK.out _ _ ⟨(blk_cell BK317.out 0).trans rfl, (blk_cell BK317.out 1).trans rfl⟩ (fun hHeld => ?_)
       clear hK K
       refine norm_ (a' := ?_) ?_ ?_
       rotate_left
       ·show Act.put _ (some 55) _ = _
        simp only [Act.put, List.setIfInBounds_toArray, List.set_cons_zero, List.set_cons_succ, i64_w, i32_w]
        rfl
       refine pu_ 12 56 (bm 14 8191) HT_.out ?_
       refine last_ (i := 13) (N := none) (bm 14 16383) rfl rfl (one_of HT_.out (by kernel_rfl)) (by decide) (fun K hK => ?_)
       have hs56 : w53.cell? ⟨gb317, 1, none⟩ = some (u318001) := (blk_cell BK317.out 1).trans rfl
       have hfs56 := blk_frozen BK317.out 1
       have hns56_0 := NB315_317.out
       have hns56_1 := NB316_317.out
       have hms56_0 := NB317_315.out
       have hms56_1 := NB317_316.out
       refine skip_ (w1 := ?_) (by rfl) rfl ?_ ?_
       rotate_left
       ·go_simp
        rfl
       refine hK.out _ _ ?_
       clear hK K
       refine done_ (done_of HT_.out (by kernel_rfl)) ?_
       try go_wp2
       go_roundg k1
       case measure => have := HK1.out; omega
       case rel => exact ⟨(wrap64 (x9_1 + 1)), (y346), (.slice Ao55 y346.length co55), (by first | rfl | (simp; done) | (simp [*]; done)), H', ⟨by have := HK1.out; omega⟩, ⟨by (with_reducible repeat (first | apply Kd.S_alloc | apply Kd.S_drewN | apply Kd.S_drew)); exact Kd.S_mono (Kd.S_far (p := ⟨gb317, 1, none⟩) (Kd.S_types HO348.out BK317.out (by decide)) (fun _ hk => hk.2) (.slice Ao55 y346.length co55)) (fun _ hk => trivial)⟩, ⟨by (with_reducible repeat (first | apply k1 | apply k2 | apply k3)); refine blk_far ?_ NB315_317.out _; (with_reducible repeat (first | apply k1 | apply k2 | apply k3)); exact BK315.out⟩, ⟨by (with_reducible repeat (first | apply k1 | apply k2 | apply k3)); refine blk_far ?_ NB316_317.out _; (with_reducible repeat (first | apply k1 | apply k2 | apply k3)); exact BK316.out⟩, ⟨by (with_reducible repeat (first | apply k1 | apply k2 | apply k3)); refine blk_put (cs := #[.int .i64 a1, u318001]) ?_ 1 _ rfl; (with_reducible repeat (first | apply k1 | apply k2 | apply k3)); exact BK317.out⟩, ⟨rb3 HB GE315 GE316 GE317⟩⟩
       )
   ·rw [if_neg c13] at H
    have c13b0 : decide (x9_1 < (wrap64 (t318 + a2))) = false := decide_eq_false c13
    clear c13
    simp only [Option.some.injEq, Prod.mk.injEq] at H
    obtain ⟨rfl, rfl⟩ := H
    have hnb57 := NB317_315.out
    have hnc57 := NB315_317.out
    have hnb58 := NB317_316.out
    have hnc58 := NB316_317.out
    have hcz59_0 : wr.cell? ⟨gb317, 0, none⟩ = some (.int .i64 a1) := (blk_cell BK317.out 0).trans rfl
    have hcz59_1 : wr.cell? ⟨gb317, 1, none⟩ = some (u318001) := (blk_cell BK317.out 1).trans rfl
    have hfz59_0 := blk_frozen BK317.out 0
    have hfz59_1 := blk_frozen BK317.out 1
    have hnb60 := NB316_315.out
    have hnc60 := NB315_316.out
    have hcz61_0 : wr.cell? ⟨gb316, 0, none⟩ = some (.int .i64 0) := (blk_cell BK316.out 0).trans rfl
    have hcz61_1 : wr.cell? ⟨gb316, 1, none⟩ = some (.slice none 0 0) := (blk_cell BK316.out 1).trans rfl
    have hfz61_0 := blk_frozen BK316.out 0
    have hfz61_1 := blk_frozen BK316.out 1
    obtain ⟨Ao62, co62, eo62⟩ := Kd.S_slice HO_318001.out
    subst eo62
    go_wp2
    refine bodyPost_ret (results_cell_row rfl _ _ gb316 43 #[.int .i64 a1, .slice Ao62 x318001_1.length co62] (0, 0) _ rfl (by (with_reducible repeat (first | apply k1 | apply k2 | apply k3)); refine blk_put (cs := #[.int .i64 a1, .slice none 0 0]) ?_ 1 _ rfl; (with_reducible repeat (first | apply k1 | apply k2 | apply k3)); refine blk_put (cs := #[.int .i64 0, .slice none 0 0]) ?_ 0 _ rfl; (with_reducible repeat (first | apply k1 | apply k2 | apply k3)); exact BK316.out) Try.underlying43 rfl (by kernel_rfl)) rfl ?_
    exact ⟨_, by first | rfl | (simp [errW_none, errW_some] <;> rfl) | (simp [*, errW_none, errW_some] <;> rfl), by (with_reducible repeat (first | apply Kd.S_alloc | apply Kd.S_drewN | apply Kd.S_drew)); exact Kd.S_mono (Kd.S_far (p := ⟨gb316, 1, none⟩) (Kd.S_far (p := ⟨gb316, 0, none⟩) (Kd.S_types HO_318001.out BK316.out (by decide)) (fun _ hk => hk.2) (.int .i64 a1)) (fun _ hk => hk.2) (.slice Ao62 x318001_1.length co62)) (fun _ hk => trivial), rb3 HB GE315 GE316 GE317⟩

end Go.Proofs.Ytfhkpneffmcdbaa.QE
