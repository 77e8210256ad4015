/- Contracts of Go functions that laws of this seat reach: each Lean function answers as its Go function does. No condition. Written by wip/tools/inj.py, over the kit's print. -/
import Derived.Test.YtfhkpneffmcdbaaDoorQBx0
import Derived.Test.YtfhkpneffmcdbaaDoorQBx2
import Derived.Test.YtfhkpneffmcdbaaDoorQBx3
import Derived.Test.YtfhkpneffmcdbaaDoorQBx15
namespace Go.Proofs.YtfhkpneffmcdbaaDoor.QB
open Go.RowKit Go.Proofs.YtfhkpneffmcdbaaDoorW.PrintWords Go.Proofs.YtfhkpneffmcdbaaDoorW.PrintLast Go.Proofs.YtfhkpneffmcdbaaDoorW.PrintMore
attribute [local go_sem] max2_int min2_int max_two min_two max_three min_three max_four min_four   -- for this text's walks alone
set_option linter.unusedVariables false
set_option linter.unusedSimpArgs false

/-! ### spec_DrawFeed: function 25 -/
def spec_DrawFeed.f (k : Nat) (l0 : List Int) : Option (ByteArray × Int) := (spec_l1New.f k l0).bind fun bt453 => ((spec_l1DrawFeeder.f k bt453.1 bt453.2.1 bt453.2.2).bind fun bt457 => ((some (([97, 128, 191, 159, 195, 228, 240, 255, 160] : List Int) : List Int)).bind fun y461 => ((spec_l1Below.f bt453.1 bt457.2.1 bt457.2.2 9).bind fun bt464 => (if 0 ≤ bt464.1 then (if bt464.1 < (y461.length : Int) then (some (bt457.1, rd y461 bt464.1)) else (none)) else (none)))))
theorem spec_DrawFeed.mono : ∀ a0 k, LeO (spec_DrawFeed.f k a0) (spec_DrawFeed.f (k + 1) a0) := by
 intro a0 k
 unfold spec_DrawFeed.f
 repeat' first
   | (with_reducible exact spec_l1DrawFeeder.mono _ _ _ _)
   | (with_reducible exact spec_l1New.mono _ _)
   | (with_reducible exact LeO.refl _)
   | (with_reducible exact LeO.none _)
   | (with_reducible refine LeO.ite ?_ ?_)
   | (with_reducible refine LeO.bind ?_ (fun _ => ?_))
def spec_DrawFeed.T3 : Bool × List (List Nat × List Nat) := (true, [([], []), ([], []), ([], []), ([2], [2]), ([1, 3], [1, 3]), ([4], [4]), ([0, 3, 0], [0]), ([5, 6, 0, 1, 2, 3, 4, 5, 6], [5])])
def spec_DrawFeed.B3 : List Nat := [0, 0, 0, 4, 14, 30, 13, 127]
theorem spec_DrawFeed.tab3 : rtab .any (opsOf Tryd.f25 3) = spec_DrawFeed.T3 := by kernel_rfl
theorem spec_DrawFeed.bits3 : waitsOk spec_DrawFeed.T3.2 spec_DrawFeed.B3 = true := by kernel_rfl
set_option maxHeartbeats 8000000 in
set_option maxRecDepth 100000 in
theorem spec_DrawFeed.calls (k : Nat) (A0 : Option Addr) (c0 : Nat) (l0 : List Int) (r1 : ByteArray) (r2 : Int) (w : World) (hr0 : Kd.C (Kd.int .u8) w A0 l0.length l0) (hc0 : l0.length ≤ c0) (h : spec_DrawFeed.f k l0 = some (r1, r2)) :
  Calls Tryd.prog 25 #[.slice A0 l0.length c0] w fun e w' => e = .returned (.tuple #[.agg #[.string r1], .int .u8 r2]) ∧ Below w.heap.size w w' := by
 have hu38 := Tryd.underlying38
 have HR0 := am hr0
 have HC0 := am hc0
 clear hr0 hc0
 have HB := am (Below.refl w.heap.size w)
 have H := h
 unfold spec_DrawFeed.f at H
 clear h
 replace H := Option.bind_eq_some_iff.mp H
 obtain ⟨⟨t453, t454, t455⟩, A20, H⟩ := H
 (try dsimp only at H)
 have A2 := am A20
 clear A20
 replace H := Option.bind_eq_some_iff.mp H
 obtain ⟨⟨t457, t458, t459⟩, A30, H⟩ := H
 (try dsimp only at H)
 have A3 := am A30
 clear A30
 obtain ⟨y461, hy461⟩ : ∃ y_ : List Int, y_ = (([97, 128, 191, 159, 195, 228, 240, 255, 160] : List Int)) := ⟨_, rfl⟩
 replace H : ((spec_l1Below.f t453 t458 t459 9).bind fun bt464 => (if 0 ≤ bt464.1 then (if bt464.1 < (y461.length : Int) then (some (t457, rd y461 bt464.1)) else (none)) else (none))) = some (r1, r2) := by first | (rw [hy461]; with_reducible exact H) | (rw [hy461]; exact H) | exact H
 have Ny461 := am hy461
 clear hy461
 replace H := Option.bind_eq_some_iff.mp H
 obtain ⟨⟨t464, t465, t466⟩, A40, H⟩ := H
 (try dsimp only at H)
 have A4 := am A40
 clear A40
 refine em_ (p := 0 ≤ t464) (fun c5 => ?g1p) (fun c5 => ?g1n)
 case' g1p =>
  rw [if_pos c5] at H
  have c5b0 : decide (0 ≤ t464) = true := decide_eq_true c5
  clear c5
  refine em_ (p := t464 < (y461.length : Int)) (fun c6 => ?g0p) (fun c6 => ?g0n)
  case' g0p =>
   rw [if_pos c6] at H
   have c6b0 : decide (t464 < (y461.length : Int)) = true := decide_eq_true c6
   clear c6
   simp only [Option.some.injEq, Prod.mk.injEq] at H
   obtain ⟨rfl, rfl⟩ := H
   have lf1_ := trivial
  case g0n =>
   rw [if_neg c6] at H
   exact absurd H (by simp)
 case g1n =>
  rw [if_neg c5] at H
  exact absurd H (by simp)
 all_goals
  go_enter Tryd.func25, Tryd.ntmps25
  try go_wp2_with (first | ((with_reducible refine gate_dst (N := 2) rfl ?_); refine box_event ?hg (N := 2) ?hd (cs := #[.string (⟨#[]⟩ : ByteArray)]) (t := 38) ?hr ?_; (case hd => rfl); (case hg => rfl); (case hr => first | (go_simp; done) | (go_simp; rfl)); intro gb452 hg w7 hbox hb; have n0_ := am (below_step (rb HB) hb); have n1_ := am (hbox); have n2_ := am ((by rw [hg]; exact (below_size (rb HB)) : w.heap.size ≤ gb452)); have n3_ := am ((by rw [hg]; exact (below_size (rb HB)) : w.heap.size ≤ gb452)); clear HB; have HB := n0_; have BK452 := n1_; have GW452 := n2_; have GE452 := n3_; clear n0_ n1_ n2_ n3_; clear hb hbox hg) | ((with_reducible refine gate_callee (f := 50) rfl ?_); refine gl_ (some 7) Tryd.func50 #[.slice A0 l0.length c0] ?_; (with_reducible refine (spec_l1New.calls k _ _ l0 t453 t454 t455 w _ ?side1 ?side2 ?side3 A2.out).mono ?_); (case side1 => repeat (first | (with_reducible first | exact HB.out | apply b1 | apply b2 | apply b3 | refine below_set ?_ GE452.out) | exact HB.out)); (case side2 => exact HR0.out); (case side3 => exact HC0.out); rintro e w8 ⟨g456, rfl, hi, hb, hb2⟩; refine ⟨_, rfl, ?_⟩; have n0_ := am (blk_below (g := gb452) (o := .cells #[.string (⟨#[]⟩ : ByteArray)] 38 (0, 0)) (rk BK452) hb2); have n1_ := am (hb); have n2_ := am (hi); have n3_ := am (IsS83.ne_blk hi (blk_below (g := gb452) (o := .cells #[.string (⟨#[]⟩ : ByteArray)] 38 (0, 0)) (rk BK452) hb2) (by decide)); have n4_ := am (Ne.symm (IsS83.ne_blk hi (blk_below (g := gb452) (o := .cells #[.string (⟨#[]⟩ : ByteArray)] 38 (0, 0)) (rk BK452) hb2) (by decide))); clear BK452; clear HB; have BK452 := n0_; have HB := n1_; have HI456 := n2_; have NB456_452 := n3_; have NB452_456 := n4_; clear n0_ n1_ n2_ n3_ n4_; (try clear hb); (try clear hb2); (try clear hk); (try clear hi)) | ((with_reducible refine gate_callee (f := 60) rfl ?_); refine gl_ (some 9) Tryd.func60 #[.pointer (some ⟨g456, 0, none⟩)] ?_; (with_reducible refine (spec_l1DrawFeeder.calls k g456 t453 t454 t455 t457 t458 t459 w _ ?side1 ?side2 A3.out).mono ?_); (case side1 => repeat (first | (with_reducible first | exact HI456.out | apply IsS83.alloc | apply IsS83.drewN | apply IsS83.drew | apply IsS83.set_1 | apply IsS83.set_2 | refine IsS83.far ?_ NB456_452.out _) | exact HI456.out)); (case side2 => repeat (first | (with_reducible first | exact HB.out | apply b1 | apply b2 | apply b3 | refine below_set ?_ (IsS83.ge HI456.out) | refine below_set ?_ GE452.out) | exact HB.out)); rintro e w9 ⟨rfl, hi, hb, hk⟩; refine ⟨_, rfl, ?_⟩; have n0_ := am (KeepBut.blk hk (g' := gb452) (o := .cells #[.string (⟨#[]⟩ : ByteArray)] 38 (0, 0)) (rk BK452) NB452_456.out (by simp)); have n1_ := am (hb); have n2_ := am (hi); clear BK452; clear HB; clear HI456; have BK452 := n0_; have HB := n1_; have HI456 := n2_; clear n0_ n1_ n2_; (try clear hb); (try clear hb2); (try clear hk); (try clear hi)) | ((with_reducible refine gate_dst (N := 5) rfl ?_); refine box_event ?hg (N := 5) ?hd (cs := #[.string (⟨#[]⟩ : ByteArray)]) (t := 38) ?hr ?_; (case hd => rfl); (case hg => rfl); (case hr => first | (go_simp; done) | (go_simp; rfl)); intro gb460 hg w10 hbox hb; have n0_ := am (blk_below (g := gb452) (o := .cells #[.string (⟨#[]⟩ : ByteArray)] 38 (0, 0)) (rk BK452) hb); have n1_ := am (IsS83.below (by repeat (first | (with_reducible first | exact HI456.out | apply IsS83.alloc | apply IsS83.drewN | apply IsS83.drew | apply IsS83.set_1 | apply IsS83.set_2 | refine IsS83.far ?_ NB456_452.out _) | exact HI456.out)) hb); have n2_ := am (below_step (by repeat (first | (with_reducible first | exact HB.out | apply b1 | apply b2 | apply b3 | refine below_set ?_ (IsS83.ge HI456.out) | refine below_set ?_ GE452.out) | exact HB.out)) hb); have n3_ := am (hbox); have n4_ := am ((by rw [hg]; exact (below_size (by repeat (first | (with_reducible first | exact HB.out | apply b1 | apply b2 | apply b3 | refine below_set ?_ (IsS83.ge HI456.out) | refine below_set ?_ GE452.out) | exact HB.out))) : w.heap.size ≤ gb460)); have n5_ := am ((by rw [hg]; exact (below_size (by repeat (first | (with_reducible first | exact HB.out | apply b1 | apply b2 | apply b3 | refine below_set ?_ (IsS83.ge HI456.out) | refine below_set ?_ GE452.out) | exact HB.out))) : w.heap.size ≤ gb460)); have n6_ := am ((by rw [hg]; exact Nat.ne_of_lt (blk_lt (g := gb452) (o := .cells #[.string (⟨#[]⟩ : ByteArray)] 38 (0, 0)) (rk BK452)) : gb452 ≠ gb460)); have n7_ := am ((by rw [hg]; exact Nat.ne_of_gt (blk_lt (g := gb452) (o := .cells #[.string (⟨#[]⟩ : ByteArray)] 38 (0, 0)) (rk BK452)) : gb460 ≠ gb452)); have n8_ := am ((by rw [hg]; exact Nat.ne_of_lt (IsS83.lt (show IsS83 w _ g456 t453 t458 t459 from by repeat (first | (with_reducible first | exact HI456.out | apply IsS83.alloc | apply IsS83.drewN | apply IsS83.drew | apply IsS83.set_1 | apply IsS83.set_2 | refine IsS83.far ?_ NB456_452.out _) | exact HI456.out))) : g456 ≠ gb460)); have n9_ := am ((by rw [hg]; exact Nat.ne_of_gt (IsS83.lt (show IsS83 w _ g456 t453 t458 t459 from by repeat (first | (with_reducible first | exact HI456.out | apply IsS83.alloc | apply IsS83.drewN | apply IsS83.drew | apply IsS83.set_1 | apply IsS83.set_2 | refine IsS83.far ?_ NB456_452.out _) | exact HI456.out))) : gb460 ≠ g456)); clear BK452; clear HI456; clear HB; have BK452 := n0_; have HI456 := n1_; have HB := n2_; have BK460 := n3_; have GW460 := n4_; have GE460 := n5_; have NB452_460 := n6_; have NB460_452 := n7_; have NB456_460 := n8_; have NB460_456 := n9_; clear n0_ n1_ n2_ n3_ n4_ n5_ n6_ n7_ n8_ n9_; clear hb hbox hg; have hnb11 := NB460_452.out; have hnc11 := NB452_460.out; have hnb12 := NB460_456.out; have hnc12 := NB456_460.out; have hcz13_0 : w10.cell? ⟨gb460, 0, none⟩ = some (.string (⟨#[]⟩ : ByteArray)) := (blk_cell BK460.out 0).trans rfl; have hfz13_0 := blk_frozen BK460.out 0))
  have pi467 : (0 ≤ (t464 : Int)) = True := eq_true dt_
  have qi467 : (t464 < (y461.length : Int)) = True := eq_true dt_
  have n0_ : Aside0 ((w10.setCell ⟨gb460, 0, none⟩ (.string t457)).heap[gb452]? = some (.cells #[.string (⟨#[]⟩ : ByteArray)] 38 (0, 0))) := ⟨by (with_reducible repeat (first | apply k1 | apply k2 | apply k3)); refine blk_far ?_ NB452_460.out _; (with_reducible repeat (first | apply k1 | apply k2 | apply k3)); exact BK452.out⟩
  have n1_ : Aside0 ((w10.setCell ⟨gb460, 0, none⟩ (.string t457)).heap[gb460]? = some (.cells #[.string t457] 38 (0, 0))) := ⟨by (with_reducible repeat (first | apply k1 | apply k2 | apply k3)); refine blk_put (cs := #[.string (⟨#[]⟩ : ByteArray)]) ?_ 0 _ rfl; (with_reducible repeat (first | apply k1 | apply k2 | apply k3)); exact BK460.out⟩
  have n2_ : Aside0 (IsS83 w (w10.setCell ⟨gb460, 0, none⟩ (.string t457)) g456 t453 t458 t459) := ⟨by repeat (first | (with_reducible first | exact HI456.out | apply IsS83.alloc | apply IsS83.drewN | apply IsS83.drew | apply IsS83.set_1 | apply IsS83.set_2 | refine IsS83.far ?_ NB456_452.out _ | refine IsS83.far ?_ NB456_460.out _) | exact HI456.out)⟩
  have n3_ : Aside0 (Below w.heap.size w (w10.setCell ⟨gb460, 0, none⟩ (.string t457))) := ⟨by repeat (first | (with_reducible first | exact HB.out | apply b1 | apply b2 | apply b3 | refine below_set ?_ (IsS83.ge HI456.out) | refine below_set ?_ GE452.out | refine below_set ?_ GE460.out) | exact HB.out)⟩
  (try clear BK452)
  (try clear BK460)
  (try clear HI456)
  (try clear HB)
  generalize (w10.setCell ⟨gb460, 0, none⟩ (.string t457)) = w14 at n0_ n1_ n2_ n3_ ⊢
  have BK452 := n0_
  have BK460 := n1_
  have HI456 := n2_
  have HB := n3_
  clear n0_ n1_ n2_ n3_
  have n0_ := am (blk_drew BK452.out)
  have n1_ := am (blk_drew BK460.out)
  have n2_ := am (IsS83.drew HI456.out)
  have n3_ := am (below_drew1 HB.out)
  clear BK452
  clear BK460
  clear HI456
  clear HB
  have BK452 := n0_
  have BK460 := n1_
  have HI456 := n2_
  have HB := n3_
  clear n0_ n1_ n2_ n3_
  refine start_ (n := 8) (S := fun w' => True) (ds := []) (bm 8 0) (by kernel_rfl) rfl rfl trivial (fun hHeld => ?_); refine with_tabW spec_DrawFeed.tab3 spec_DrawFeed.bits3 (fun HT_ HW_ => ?_)
  generalize w14.drew = w15 at BK452 BK460 HI456 HB hHeld ⊢
  refine pu_ 2 12 (bm 8 4) HT_.out ?_
  refine inv_at [0, 1, 3, 4, 5, 6, 7] (fun a0_ b a w' => ∃ (v462 : Value) (adz_v462 : Addr) (m4_ : Value), a = putSel a0_ b [(0, 10, .agg #[.string t457]), (1, 11, v462), (3, 13, .int .i64 t464), (4, 14, m4_), (5, 15, .int .u8 (rd y461 t464)), (7, 3, .int .u8 (rd y461 t464))] ∧ (b 6 = false → w'.heap[gb452]? = some (.cells #[.string (⟨#[]⟩ : ByteArray)] 38 (0, 0))) ∧ (w'.heap[gb460]? = some (.cells #[.string t457] 38 (0, 0))) ∧ (b 3 = false → IsS83 w w' g456 t453 t458 t459) ∧ (Below w.heap.size w w') ∧ (b 1 = true → Kd.R (Kd.int .u8) 5 w' w.heap.size (fun _ => True) v462 y461) ∧ (b 1 = true → ∃ c_, (v462 : Value) = .slice (some adz_v462) y461.length c_) ∧ (b 3 = true → IsS83 w w' g456 t453 t465 t466) ∧ (b 6 = true → w'.heap[gb452]? = some (.cells #[.string t457] 38 (0, 0))) ∧ (b 4 = true → (m4_ : Value) = .pointer (some (adz_v462.add (t464).toNat)))) HT_.out HW_.out (by kernel_rfl) (by kernel_rfl) ?_ ?_ ?_
  ·exact ⟨.bool false, ⟨0, 0, none⟩, .bool false, by simp only [putSel, Bool.false_eq_true, if_false], fun _ => BK452.out, BK460.out, fun _ => HI456.out, HB.out, fun h_ => absurd h_ (by decide), fun h_ => absurd h_ (by decide), fun h_ => absurd h_ (by decide), fun h_ => absurd h_ (by decide), fun h_ => absurd h_ (by decide)⟩
  ·skip
   clear BK452 BK460 HB HI456
   refine steps_cons ?_ ?_
   ·rintro b a w' ⟨v462, adz_v462, m4_, ha, Q_BK452, Q_BK460, Q_HI456, Q_HB, Q_HO463, Q_HA_HO463, Q_HI456_e3, Q_BK452_e6, Q_X4_⟩ hb_ hon hoff
    refine ⟨_, rfl, fun K hK => ?_⟩
    have e5 : a.tmps[5]? = some (.pointer (some ⟨gb460, 0, none⟩)) := by rw [ha]; exact (putSel_off rfl).trans rfl
    replace ha := am ha
    have BK452 := am (Q_BK452 (hoff 6 (by kernel_rfl)))
    have BK460 := am Q_BK460
    have HB := am Q_HB
    have hc0_ : w'.cell? ⟨gb460, 0, none⟩ = some (.string t457) := (blk_cell BK460.out 0).trans rfl
    refine value_ (w1 := w') (v := .agg #[.string t457]) (by rfl) rfl ?_ ?_
    ·go_simp
     (try simp only [i64_w])
     try rfl
    refine hK.out _ _ ⟨v462, adz_v462, m4_, (by rw [ha.out]; exact putSel_upk 0 hb_ rfl rfl rfl), Q_BK452, Q_BK460, Q_HI456, Q_HB, Q_HO463, Q_HA_HO463, Q_HI456_e3, fun h0_ => absurd ((hoff 6 (by kernel_rfl)).symm.trans h0_) (by decide), Q_X4_⟩
   refine steps_cons ?_ ?_
   ·rintro b a w' ⟨v462, adz_v462, m4_, ha, Q_BK452, Q_BK460, Q_HI456, Q_HB, Q_HO463, Q_HA_HO463, Q_HI456_e3, Q_BK452_e6, Q_X4_⟩ hb_ hon hoff
    refine ⟨_, rfl, fun K hK => ?_⟩
    replace ha := am ha
    have BK460 := am Q_BK460
    have HB := am Q_HB
    refine Kd.R_lit_step (Kd.int .u8) _ 5 ?hg (N := 11) ?hd (xs := ([97, 128, 191, 159, 195, 228, 240, 255, 160] : List Int)) (inner := [.int .u8 97, .int .u8 128, .int .u8 191, .int .u8 159, .int .u8 195, .int .u8 228, .int .u8 240, .int .u8 255, .int .u8 160]) (ok := fun _ => True) (okp := fun _ => True) ?hr ?hp (fun _ hk => hk) trivial (Below.refl _ _) (Nat.le_refl _) (by simp) ?_; (case hd => rfl); (case hg => rfl); (case hr => first | (go_simp; done) | (go_simp; rfl)); (case hp => exact (Reps.one (show Kd.M (Kd.int .u8) _ _ _ 97 [.int .u8 97] from rfl) (Reps.one (show Kd.M (Kd.int .u8) _ _ _ 128 [.int .u8 128] from rfl) (Reps.one (show Kd.M (Kd.int .u8) _ _ _ 191 [.int .u8 191] from rfl) (Reps.one (show Kd.M (Kd.int .u8) _ _ _ 159 [.int .u8 159] from rfl) (Reps.one (show Kd.M (Kd.int .u8) _ _ _ 195 [.int .u8 195] from rfl) (Reps.one (show Kd.M (Kd.int .u8) _ _ _ 228 [.int .u8 228] from rfl) (Reps.one (show Kd.M (Kd.int .u8) _ _ _ 240 [.int .u8 240] from rfl) (Reps.one (show Kd.M (Kd.int .u8) _ _ _ 255 [.int .u8 255] from rfl) (Reps.one (show Kd.M (Kd.int .u8) _ _ _ 160 [.int .u8 160] from rfl) (Reps.none _ _)))))))))))
    intro v462 w16 ho17 hb hg_ hnew_
    clear hg_ hnew_
    (first | rw [← Ny461.out] at ho17 | (simp only [Int.reduceToNat] at ho17; rw [← Ny461.out] at ho17))
    have n0_ := am (Kd.R_lower ho17 (below_size (rb2 HB GE452 GE460)))
    have n3_ := am (blk_below (g := gb460) (o := .cells #[.string t457] 38 (0, 0)) (rk BK460) hb)
    have n4_ := am (below_step (rb2 HB GE452 GE460) hb)
    have z_BK452 := fun (h0_ : b 6 = false) => (show w16.heap[gb452]? = some (.cells #[.string (⟨#[]⟩ : ByteArray)] 38 (0, 0)) from by first | exact (blk_below (g := gb452) (o := .cells #[.string (⟨#[]⟩ : ByteArray)] 38 (0, 0)) (by (with_reducible repeat (first | apply k1 | apply k2 | apply k3)); exact (Q_BK452 h0_)) hb))
    have z_HI456 := fun (h0_ : b 3 = false) => (show IsS83 w w16 g456 t453 t458 t459 from by first | exact (IsS83.below (by repeat (first | (with_reducible first | exact (Q_HI456 h0_) | apply IsS83.alloc | apply IsS83.drewN | apply IsS83.drew | apply IsS83.set_1 | apply IsS83.set_2 | refine IsS83.far ?_ NB456_452.out _ | refine IsS83.far ?_ NB456_460.out _) | exact (Q_HI456 h0_))) hb))
    have z_HI456_e3 := fun (h0_ : b 3 = true) => (show IsS83 w w16 g456 t453 t465 t466 from by first | exact (IsS83.below (by repeat (first | (with_reducible first | exact (Q_HI456_e3 h0_) | apply IsS83.alloc | apply IsS83.drewN | apply IsS83.drew | apply IsS83.set_1 | apply IsS83.set_2 | refine IsS83.far ?_ NB456_452.out _ | refine IsS83.far ?_ NB456_460.out _) | exact (Q_HI456_e3 h0_))) hb))
    have z_BK452_e6 := fun (h0_ : b 6 = true) => (show w16.heap[gb452]? = some (.cells #[.string t457] 38 (0, 0)) from by first | exact (blk_below (g := gb452) (o := .cells #[.string t457] 38 (0, 0)) (by (with_reducible repeat (first | apply k1 | apply k2 | apply k3)); exact (Q_BK452_e6 h0_)) hb))
    clear BK460
    clear HB
    have HO463 := n0_
    have BK460 := n3_
    have HB := n4_
    clear n0_ n3_ n4_
    clear hb ho17
    obtain ⟨Ao18, co18, eo18⟩ := Kd.R_slice HO463.out
    subst eo18
    obtain ⟨ado18, fo18, _⟩ := Kd.at_int (Kd.R_reads' HO463.out).2.2 0 (by decide) (by rw [Ny461.out]; simp)
    cases fo18
    refine hK.out _ _ ⟨.slice (some ado18) y461.length co18, ado18, m4_, (by rw [ha.out]; exact putSel_upk 1 hb_ rfl rfl rfl), z_BK452, (rk BK460), z_HI456, (rb2 HB GE452 GE460), fun _ => (rr HO463), fun _ => ⟨_, rfl⟩, z_HI456_e3, z_BK452_e6, fun h0_ => absurd ((hoff 4 (by kernel_rfl)).symm.trans h0_) (by decide)⟩
   refine steps_cons ?_ ?_
   ·rintro b a w' ⟨v462, adz_v462, m4_, ha, Q_BK452, Q_BK460, Q_HI456, Q_HB, Q_HO463, Q_HA_HO463, Q_HI456_e3, Q_BK452_e6, Q_X4_⟩ hb_ hon hoff
    refine ⟨_, rfl, fun K hK => ?_⟩
    have e12 : a.tmps[12]? = some (.pointer (some ⟨g456, 0, none⟩)) := by rw [ha]; exact (putSel_off rfl).trans rfl
    replace ha := am ha
    have BK452 := am (Q_BK452 (hoff 6 (by kernel_rfl)))
    have BK460 := am Q_BK460
    have HI456 := am (Q_HI456 hb_)
    have HB := am Q_HB
    refine goes_ Tryd.func53 (by kernel_rfl) rfl #[.pointer (some ⟨g456, 0, none⟩), .int .i64 9] (by rfl) rfl rfl (by first | (simp only [List.map_toArray, List.map_cons, List.map_nil, Act.eval, Array.getD_eq_getD_getElem?, Option.getD_some, e12]; done) | (simp only [List.map_toArray, List.map_cons, List.map_nil, Act.eval, Array.getD_eq_getD_getElem?, Option.getD_some, e12]; rfl)) ?_
    with_reducible refine (spec_l1Below.calls g456 t453 t458 t459 9 t464 t465 t466 w _ ?side1 ?side2 A4.out).mono ?_
    (case side1 => repeat (first | (with_reducible first | exact HI456.out | apply IsS83.alloc | apply IsS83.drewN | apply IsS83.drew | apply IsS83.set_1 | apply IsS83.set_2 | refine IsS83.far ?_ NB456_452.out _ | refine IsS83.far ?_ NB456_460.out _) | exact HI456.out))
    (case side2 => repeat (first | (with_reducible first | exact HB.out | apply b1 | apply b2 | apply b3 | refine below_set ?_ (IsS83.ge HI456.out) | refine below_set ?_ GE452.out | refine below_set ?_ GE460.out) | exact HB.out))
    rintro e w16 ⟨rfl, hi, hb, hk⟩
    refine ⟨_, rfl, ?_⟩
    have n0_ := am (KeepBut.blk hk (g' := gb452) (o := .cells #[.string (⟨#[]⟩ : ByteArray)] 38 (0, 0)) (rk BK452) NB452_456.out (by simp))
    have n1_ := am (KeepBut.blk hk (g' := gb460) (o := .cells #[.string t457] 38 (0, 0)) (rk BK460) NB460_456.out (by simp))
    have n2_ := am (hb)
    have n3_ := am (hi)
    have z_HO463 := fun (h0_ : b 1 = true) => (show Kd.R (Kd.int .u8) 5 w16 w.heap.size (fun _ => True) v462 y461 from by first | exact (Kd.R_mono (Kd.R_keep (IsS83.apart (show IsS83 w _ g456 t453 t458 t459 from by repeat (first | (with_reducible first | exact HI456.out | apply IsS83.alloc | apply IsS83.drewN | apply IsS83.drew | apply IsS83.set_1 | apply IsS83.set_2 | refine IsS83.far ?_ NB456_452.out _ | refine IsS83.far ?_ NB456_460.out _) | exact HI456.out)) (by (with_reducible repeat (first | apply r1 | apply r2 | apply r3)); exact (Q_HO463 h0_)) (by decide)) hk (fun _ h => h.2)) (fun _ h => h.1)) | exact Kd.R_mono (Kd.R_mono (Kd.R_keep (IsS83.apart (show IsS83 w _ g456 t453 t458 t459 from by repeat (first | (with_reducible first | exact HI456.out | apply IsS83.alloc | apply IsS83.drewN | apply IsS83.drew | apply IsS83.set_1 | apply IsS83.set_2 | refine IsS83.far ?_ NB456_452.out _ | refine IsS83.far ?_ NB456_460.out _) | exact HI456.out)) (by (with_reducible repeat (first | apply r1 | apply r2 | apply r3)); exact (Q_HO463 h0_)) (by decide)) hk (fun _ h => h.2)) (fun _ h => h.1)) (fun _ h_ => by first | trivial | exact h_ | exact h_.1))
    clear BK452
    clear BK460
    clear HB
    clear HI456
    have BK452 := n0_
    have BK460 := n1_
    have HB := n2_
    have HI456 := n3_
    clear n0_ n1_ n2_ n3_
    (try clear hb)
    (try clear hb2)
    (try clear hk)
    (try clear hi)
    refine hK.out _ _ ⟨v462, adz_v462, m4_, (by rw [ha.out]; exact putSel_upk 2 hb_ rfl rfl rfl), fun _ => (rk BK452), (rk BK460), fun h0_ => absurd ((up_self b 3).symm.trans h0_) (by decide), (by repeat (first | (with_reducible first | exact HB.out | apply b1 | apply b2 | apply b3 | refine below_set ?_ (IsS83.ge HI456.out) | refine below_set ?_ GE452.out | refine below_set ?_ GE460.out) | exact HB.out)), z_HO463, Q_HA_HO463, fun _ => (by repeat (first | (with_reducible first | exact HI456.out | apply IsS83.alloc | apply IsS83.drewN | apply IsS83.drew | apply IsS83.set_1 | apply IsS83.set_2 | refine IsS83.far ?_ NB456_452.out _ | refine IsS83.far ?_ NB456_460.out _) | exact HI456.out)), fun h0_ => absurd ((hoff 6 (by kernel_rfl)).symm.trans h0_) (by decide), fun h0_ => absurd ((hoff 4 (by kernel_rfl)).symm.trans h0_) (by decide)⟩
   refine steps_cons ?_ ?_
   ·rintro b a w' ⟨v462, adz_v462, m4_, ha, Q_BK452, Q_BK460, Q_HI456, Q_HB, Q_HO463, Q_HA_HO463, Q_HI456_e3, Q_BK452_e6, Q_X4_⟩ hb_ hon hoff
    refine ⟨_, rfl, fun K hK => ?_⟩
    have e11 : a.tmps[11]? = some (v462) := by rw [ha]; exact putSel_on (e := (1, 11, v462)) 1 rfl rfl (hon 1 (by kernel_rfl)) rfl
    have e13 : a.tmps[13]? = some (.int .i64 t464) := by rw [ha]; exact putSel_on (e := (3, 13, .int .i64 t464)) 2 rfl rfl (hon 3 (by kernel_rfl)) rfl
    replace ha := am ha
    have BK460 := am Q_BK460
    have HB := am Q_HB
    have HO463 := am (Q_HO463 (hon 1 (by kernel_rfl)))
    have HA_HO463 := am (Q_HA_HO463 (hon 1 (by kernel_rfl)))
    have HI456 := am (Q_HI456_e3 (hon 3 (by kernel_rfl)))
    obtain ⟨c_, hv_⟩ := HA_HO463.out
    rw [hv_] at e11
    refine value_ (w1 := w') (v := .pointer (some (adz_v462.add (t464).toNat))) (by rfl) rfl ?_ ?_
    ·go_simp
     (try simp only [i64_w])
     try rfl
    refine hK.out _ _ ⟨v462, adz_v462, (.pointer (some (adz_v462.add (t464).toNat))), (by rw [ha.out]; exact putSel_upk 3 hb_ rfl rfl rfl), Q_BK452, Q_BK460, fun h0_ => absurd ((hon 3 (by kernel_rfl)).symm.trans h0_) (by decide), Q_HB, Q_HO463, Q_HA_HO463, Q_HI456_e3, Q_BK452_e6, fun _ => rfl⟩
   refine steps_cons ?_ ?_
   ·rintro b a w' ⟨v462, adz_v462, m4_, ha, Q_BK452, Q_BK460, Q_HI456, Q_HB, Q_HO463, Q_HA_HO463, Q_HI456_e3, Q_BK452_e6, Q_X4_⟩ hb_ hon hoff
    refine ⟨_, rfl, fun K hK => ?_⟩
    have e14 : a.tmps[14]? = some (m4_) := by rw [ha]; exact putSel_on (e := (4, 14, m4_)) 3 rfl rfl (hon 4 (by kernel_rfl)) rfl
    rw [Q_X4_ (hon 4 (by kernel_rfl))] at e14
    replace ha := am ha
    have BK460 := am Q_BK460
    have HB := am Q_HB
    have HO463 := am (Q_HO463 (hon 1 (by kernel_rfl)))
    have HA_HO463 := am (Q_HA_HO463 (hon 1 (by kernel_rfl)))
    have HI456 := am (Q_HI456_e3 (hon 3 (by kernel_rfl)))
    obtain ⟨c_, hv_⟩ := HA_HO463.out
    have hF_ := HO463.out
    rw [hv_] at hF_
    obtain ⟨ad_, ea_, hx_⟩ := Kd.at_int (Kd.R_reads' hF_).2.2 t464 (of_eq_true pi467) (of_eq_true qi467)
    cases ea_
    refine value_ (w1 := w') (v := .int .u8 (rd y461 t464)) (by rfl) rfl ?_ ?_
    ·go_simp
     (try simp only [i64_w])
     try rfl
    refine hK.out _ _ ⟨v462, adz_v462, m4_, (by rw [ha.out]; exact putSel_upk 4 hb_ rfl rfl rfl), Q_BK452, Q_BK460, fun h0_ => absurd ((hon 3 (by kernel_rfl)).symm.trans h0_) (by decide), Q_HB, Q_HO463, Q_HA_HO463, Q_HI456_e3, Q_BK452_e6, Q_X4_⟩
   refine steps_cons ?_ ?_
   ·rintro b a w' ⟨v462, adz_v462, m4_, ha, Q_BK452, Q_BK460, Q_HI456, Q_HB, Q_HO463, Q_HA_HO463, Q_HI456_e3, Q_BK452_e6, Q_X4_⟩ hb_ hon hoff
    refine ⟨_, rfl, fun K hK => ?_⟩
    have e2 : a.tmps[2]? = some (.pointer (some ⟨gb452, 0, none⟩)) := by rw [ha]; exact (putSel_off rfl).trans rfl
    have e10 : a.tmps[10]? = some (.agg #[.string t457]) := by rw [ha]; exact putSel_on (e := (0, 10, .agg #[.string t457])) 0 rfl rfl (hon 0 (by kernel_rfl)) rfl
    replace ha := am ha
    have BK452 := am (Q_BK452 hb_)
    have BK460 := am Q_BK460
    have HB := am Q_HB
    have HI456 := am (Q_HI456_e3 (hon 3 (by kernel_rfl)))
    have hs18 : w'.cell? ⟨gb452, 0, none⟩ = some (.string (⟨#[]⟩ : ByteArray)) := (blk_cell BK452.out 0).trans rfl
    have hfs18 := blk_frozen BK452.out 0
    have hns18_1 := NB460_452.out
    have hms18_1 := NB452_460.out
    refine skip_ (w1 := ?_) (by rfl) rfl ?_ ?_
    rotate_left
    ·go_simp
     rfl
    refine hK.out _ _ ⟨v462, adz_v462, m4_, (by rw [ha.out]; exact putSel_none (v := undef) rfl), fun h0_ => absurd ((up_self b 6).symm.trans h0_) (by decide), (by (with_reducible repeat (first | apply k1 | apply k2 | apply k3)); refine blk_far ?_ NB460_452.out _; (with_reducible repeat (first | apply k1 | apply k2 | apply k3)); exact BK460.out), fun h0_ => absurd ((hon 3 (by kernel_rfl)).symm.trans h0_) (by decide), (by repeat (first | (with_reducible first | exact HB.out | apply b1 | apply b2 | apply b3 | refine below_set ?_ (IsS83.ge HI456.out) | refine below_set ?_ GE452.out | refine below_set ?_ GE460.out) | exact HB.out)), fun h0_ => (by (with_reducible repeat (first | apply r1 | apply r2 | apply r3)); exact Kd.R_mono (Kd.R_far (p := ⟨gb452, 0, none⟩) (Kd.R_types (Q_HO463 h0_) BK452.out (by decide)) (fun _ hk => hk.2) (.string t457)) (fun _ hk => trivial)), Q_HA_HO463, fun _ => (by repeat (first | (with_reducible first | exact HI456.out | apply IsS83.alloc | apply IsS83.drewN | apply IsS83.drew | apply IsS83.set_1 | apply IsS83.set_2 | refine IsS83.far ?_ NB456_452.out _ | refine IsS83.far ?_ NB456_460.out _) | exact HI456.out)), fun _ => (by (with_reducible repeat (first | apply k1 | apply k2 | apply k3)); refine blk_put (cs := #[.string (⟨#[]⟩ : ByteArray)]) ?_ 0 _ rfl; (with_reducible repeat (first | apply k1 | apply k2 | apply k3)); exact BK452.out), Q_X4_⟩
   refine steps_cons ?_ ?_
   ·rintro b a w' ⟨v462, adz_v462, m4_, ha, Q_BK452, Q_BK460, Q_HI456, Q_HB, Q_HO463, Q_HA_HO463, Q_HI456_e3, Q_BK452_e6, Q_X4_⟩ hb_ hon hoff
    refine ⟨_, rfl, fun K hK => ?_⟩
    have e15 : a.tmps[15]? = some (.int .u8 (rd y461 t464)) := by rw [ha]; exact putSel_on (e := (5, 15, .int .u8 (rd y461 t464))) 4 rfl rfl (hon 5 (by kernel_rfl)) rfl
    replace ha := am ha
    have BK460 := am Q_BK460
    have HB := am Q_HB
    have HO463 := am (Q_HO463 (hon 1 (by kernel_rfl)))
    have HA_HO463 := am (Q_HA_HO463 (hon 1 (by kernel_rfl)))
    have HI456 := am (Q_HI456_e3 (hon 3 (by kernel_rfl)))
    have BK452 := am (Q_BK452_e6 (hon 6 (by kernel_rfl)))
    refine value_ (w1 := w') (v := .int .u8 (rd y461 t464)) (by rfl) rfl ?_ ?_
    ·go_simp
     (try simp only [i64_w])
     try rfl
    refine hK.out _ _ ⟨v462, adz_v462, m4_, (by rw [ha.out]; exact putSel_upk 5 hb_ rfl rfl rfl), fun h0_ => absurd ((hon 6 (by kernel_rfl)).symm.trans h0_) (by decide), Q_BK460, fun h0_ => absurd ((hon 3 (by kernel_rfl)).symm.trans h0_) (by decide), Q_HB, Q_HO463, Q_HA_HO463, Q_HI456_e3, Q_BK452_e6, Q_X4_⟩
   exact steps_nil
  rintro b a w21 hall ⟨v462, adz_v462, m4_, ha, Q_BK452, Q_BK460, Q_HI456, Q_HB, Q_HO463, Q_HA_HO463, Q_HI456_e3, Q_BK452_e6, Q_X4_⟩
  clear BK452 BK460 HB HI456
  have hb0_ := hall 0 (by kernel_rfl)
  have hb1_ := hall 1 (by kernel_rfl)
  have hb3_ := hall 3 (by kernel_rfl)
  have hb4_ := hall 4 (by kernel_rfl)
  have hb5_ := hall 5 (by kernel_rfl)
  have hb6_ := hall 6 (by kernel_rfl)
  have hb7_ := hall 7 (by kernel_rfl)
  subst ha
  obtain rfl := Q_X4_ hb4_
  simp only [putSel, hb0_, hb1_, hb3_, hb4_, hb5_, hb6_, hb7_, if_true, Act.put, List.setIfInBounds_toArray, List.set_cons_zero, List.set_cons_succ]
  clear Q_BK452
  have BK460 := am Q_BK460
  clear Q_BK460
  clear Q_HI456
  have HB := am Q_HB
  clear Q_HB
  have HO463 := am (Q_HO463 hb1_)
  clear Q_HO463
  have HA_HO463 := am (Q_HA_HO463 hb1_)
  clear Q_HA_HO463
  have HI456 := am (Q_HI456_e3 hb3_)
  clear Q_HI456_e3
  have BK452 := am (Q_BK452_e6 hb6_)
  clear Q_BK452_e6
  clear hall hb0_ hb1_ hb3_ hb4_ hb5_ hb6_ hb7_
  obtain ⟨co22, eo22⟩ := HA_HO463.out
  clear HA_HO463
  subst eo22
  try go_wp2
  refine bodyPost_ret (results_ct rfl _ _ gb452 38 #[.string t457] (0, 0) _ rfl (rk BK452) Tryd.underlying38 rfl (by kernel_rfl)) rfl ?_
  exact ⟨by first | rfl | (simp [errW_none, errW_some] <;> rfl) | (simp [*, errW_none, errW_some] <;> rfl), by repeat (first | (with_reducible first | exact HB.out | apply b1 | apply b2 | apply b3 | refine below_set ?_ (IsS83.ge HI456.out) | refine below_set ?_ GE452.out | refine below_set ?_ GE460.out) | exact HB.out)⟩

end Go.Proofs.YtfhkpneffmcdbaaDoor.QB
