/- Contracts of Go functions that laws of this seat reach: each Lean function answers as its Go function does. No condition. Written by wip/tools/inj.py, over the kit's print. -/
import Derived.Test.YtepeanpoicefdaaDoorPBx0
import Derived.Test.YtepeanpoicefdaaDoorPBx3
import Derived.Test.YtepeanpoicefdaaDoorPBx4
namespace Go.Proofs.YtepeanpoicefdaaDoor.PB
open Go.RowKit Go.Proofs.YtepeanpoicefdaaDoorW.PrintWords Go.Proofs.YtepeanpoicefdaaDoorW.PrintLast Go.Proofs.YtepeanpoicefdaaDoorW.PrintMore
attribute [local go_sem] max2_int min2_int max_two min_two max_three min_three max_four min_four   -- for this text's walks alone
set_option linter.unusedVariables false
set_option linter.unusedSimpArgs false

/-! ### spec_DrawBlank: function 15 -/
def spec_DrawBlank.f (k : Nat) (l0 : List Int) : Option (Int × Int × Int × Bool × Bool × Bool) := (spec_l1New.f k l0).bind fun bt524 => ((some (([0, 1, 5, 60, 61, (-9223372036854775808)] : List Int) : List Int)).bind fun y528 => ((spec_l1Below.f bt524.1 bt524.2.1 bt524.2.2 6).bind fun bt531 => (if 0 ≤ bt531.1 then (if bt531.1 < (y528.length : Int) then ((spec_l3DrawAny.f bt524.1 bt531.2.1 bt531.2.2).bind fun bt535 => (some (rd y528 bt531.1, bt535.1, bt535.2.1, bt535.2.2.1, bt535.2.2.2.1, bt535.2.2.2.2.1))) else (none)) else (none))))
theorem spec_DrawBlank.mono : ∀ a0 k, LeO (spec_DrawBlank.f k a0) (spec_DrawBlank.f (k + 1) a0) := by
 intro a0 k
 unfold spec_DrawBlank.f
 repeat' first
   | (with_reducible exact spec_l1New.mono _ _)
   | (with_reducible exact LeO.refl _)
   | (with_reducible exact LeO.none _)
   | (with_reducible refine LeO.ite ?_ ?_)
   | (with_reducible refine LeO.bind ?_ (fun _ => ?_))
def spec_DrawBlank.T2 : Bool × List (List Nat × List Nat) := (true, [([], []), ([], []), ([1], [1]), ([0, 2], [0, 2]), ([3], [3]), ([], []), ([5, 2], [5]), ([4, 6, 0, 1, 2, 3, 4], [4]), ([6, 7, 0, 1, 2, 3, 4, 5, 6, 7], [6])])
def spec_DrawBlank.B2 : List Nat := [0, 0, 2, 7, 15, 0, 38, 127, 255]
theorem spec_DrawBlank.tab2 : rtab .any (opsOf Tryd.f15 2) = spec_DrawBlank.T2 := by kernel_rfl
theorem spec_DrawBlank.bits2 : waitsOk spec_DrawBlank.T2.2 spec_DrawBlank.B2 = true := by kernel_rfl
set_option maxHeartbeats 8000000 in
set_option maxRecDepth 100000 in
theorem spec_DrawBlank.calls (k : Nat) (A0 : Option Addr) (c0 : Nat) (l0 : List Int) (r1 : Int) (r2 : Int) (r3 : Int) (r4 : Bool) (r5 : Bool) (r6 : Bool) (w : World) (hr0 : Kd.C (Kd.int .u8) w A0 l0.length l0) (hc0 : l0.length ≤ c0) (h : spec_DrawBlank.f k l0 = some (r1, r2, r3, r4, r5, r6)) :
  Calls Tryd.prog 15 #[.slice A0 l0.length c0] w fun e w' => e = .returned (.tuple #[.int .i64 r1, .agg #[.int .i64 r2, .int .i64 r3, .bool r4, .bool r5, .bool r6]]) ∧ Below w.heap.size w w' := by
 have hu37 := Tryd.underlying37
 have HR0 := am hr0
 have HC0 := am hc0
 clear hr0 hc0
 have HB := am (Below.refl w.heap.size w)
 have H := h
 unfold spec_DrawBlank.f at H
 clear h
 replace H := Option.bind_eq_some_iff.mp H
 obtain ⟨⟨t524, t525, t526⟩, A20, H⟩ := H
 (try dsimp only at H)
 have A2 := am A20
 clear A20
 obtain ⟨y528, hy528⟩ : ∃ y_ : List Int, y_ = (([0, 1, 5, 60, 61, (-9223372036854775808)] : List Int)) := ⟨_, rfl⟩
 replace H : ((spec_l1Below.f t524 t525 t526 6).bind fun bt531 => (if 0 ≤ bt531.1 then (if bt531.1 < (y528.length : Int) then ((spec_l3DrawAny.f t524 bt531.2.1 bt531.2.2).bind fun bt535 => (some (rd y528 bt531.1, bt535.1, bt535.2.1, bt535.2.2.1, bt535.2.2.2.1, bt535.2.2.2.2.1))) else (none)) else (none))) = some (r1, r2, r3, r4, r5, r6) := by first | (rw [hy528]; with_reducible exact H) | (rw [hy528]; exact H) | exact H
 have Ny528 := am hy528
 clear hy528
 replace H := Option.bind_eq_some_iff.mp H
 obtain ⟨⟨t531, t532, t533⟩, A30, H⟩ := H
 (try dsimp only at H)
 have A3 := am A30
 clear A30
 refine em_ (p := 0 ≤ t531) (fun c4 => ?g1p) (fun c4 => ?g1n)
 case' g1p =>
  rw [if_pos c4] at H
  have c4b0 : decide (0 ≤ t531) = true := decide_eq_true c4
  clear c4
  refine em_ (p := t531 < (y528.length : Int)) (fun c5 => ?g0p) (fun c5 => ?g0n)
  case' g0p =>
   rw [if_pos c5] at H
   have c5b0 : decide (t531 < (y528.length : Int)) = true := decide_eq_true c5
   clear c5
   replace H := Option.bind_eq_some_iff.mp H
   obtain ⟨⟨t535, t536, t537, t538, t539, t540, t541⟩, A60, H⟩ := H
   (try dsimp only at H)
   have A6 := am A60
   clear A60
   simp only [Option.some.injEq, Prod.mk.injEq] at H
   obtain ⟨rfl, rfl, rfl, rfl, rfl, rfl⟩ := H
   have lf1_ := trivial
  case g0n =>
   rw [if_neg c5] at H
   exact absurd H (by simp)
 case g1n =>
  rw [if_neg c4] at H
  exact absurd H (by simp)
 all_goals
  go_enter Tryd.func15, Tryd.ntmps15
  try go_wp2_with (first | ((with_reducible refine gate_dst (N := 3) rfl ?_); refine box_event ?hg (N := 3) ?hd (cs := #[.int .i64 0, .int .i64 0, .bool false, .bool false, .bool false]) (t := 37) ?hr ?_; (case hd => rfl); (case hg => rfl); (case hr => first | (go_simp; done) | (go_simp; rfl)); intro gb523 hg w7 hbox hb; have n0_ := am (below_step (rb HB) hb); have n1_ := am (hbox); have n2_ := am ((by rw [hg]; exact (below_size (rb HB)) : w.heap.size ≤ gb523)); have n3_ := am ((by rw [hg]; exact (below_size (rb HB)) : w.heap.size ≤ gb523)); clear HB; have HB := n0_; have BK523 := n1_; have GW523 := n2_; have GE523 := n3_; clear n0_ n1_ n2_ n3_; clear hb hbox hg) | ((with_reducible refine gate_callee (f := 34) rfl ?_); refine gl_ (some 6) Tryd.func34 #[.slice A0 l0.length c0] ?_; (with_reducible refine (spec_l1New.calls k _ _ l0 t524 t525 t526 w _ ?side1 ?side2 ?side3 A2.out).mono ?_); (case side1 => repeat (first | (with_reducible first | exact HB.out | apply b1 | apply b2 | apply b3 | refine below_set ?_ GE523.out) | exact HB.out)); (case side2 => exact HR0.out); (case side3 => exact HC0.out); rintro e w8 ⟨g527, rfl, hi, hb, hb2⟩; refine ⟨_, rfl, ?_⟩; have n0_ := am (blk_below (g := gb523) (o := .cells #[.int .i64 0, .int .i64 0, .bool false, .bool false, .bool false] 37 (0, 0)) (rk BK523) hb2); have n1_ := am (hb); have n2_ := am (hi); have n3_ := am (IsS87.ne_blk hi (blk_below (g := gb523) (o := .cells #[.int .i64 0, .int .i64 0, .bool false, .bool false, .bool false] 37 (0, 0)) (rk BK523) hb2) (by decide)); have n4_ := am (Ne.symm (IsS87.ne_blk hi (blk_below (g := gb523) (o := .cells #[.int .i64 0, .int .i64 0, .bool false, .bool false, .bool false] 37 (0, 0)) (rk BK523) hb2) (by decide))); clear BK523; clear HB; have BK523 := n0_; have HB := n1_; have HI527 := n2_; have NB527_523 := n3_; have NB523_527 := n4_; clear n0_ n1_ n2_ n3_ n4_; (try clear hb); (try clear hb2); (try clear hk); (try clear hi)))
  have pi534 : (0 ≤ (t531 : Int)) = True := eq_true dt_
  have qi534 : (t531 < (y528.length : Int)) = True := eq_true dt_
  have n0_ := am (blk_drew BK523.out)
  have n1_ := am (IsS87.drew HI527.out)
  have n2_ := am (below_drew1 HB.out)
  clear BK523
  clear HI527
  clear HB
  have BK523 := n0_
  have HI527 := n1_
  have HB := n2_
  clear n0_ n1_ n2_
  refine start_ (n := 9) (S := fun w' => True) (ds := []) (bm 9 0) (by kernel_rfl) rfl rfl trivial (fun hHeld => ?_); refine with_tabW spec_DrawBlank.tab2 spec_DrawBlank.bits2 (fun HT_ HW_ => ?_)
  generalize w8.drew = w9 at BK523 HI527 HB hHeld ⊢
  refine pu_ 1 8 (bm 9 2) HT_.out ?_
  refine pu_ 5 12 (bm 9 34) HT_.out ?_
  refine inv_at [0, 2, 3, 4, 6, 7, 8] (fun a0_ b a w' => ∃ (v529 : Value) (adz_v529 : Addr) (m3_ : Value), a = putSel a0_ b [(0, 7, v529), (2, 9, .int .i64 t531), (3, 10, m3_), (4, 11, .int .i64 (rd y528 t531)), (6, 13, .agg #[.int .i64 t535, .int .i64 t536, .bool t537, .bool t538, .bool t539]), (7, 2, .int .i64 (rd y528 t531))] ∧ (b 8 = false → w'.heap[gb523]? = some (.cells #[.int .i64 0, .int .i64 0, .bool false, .bool false, .bool false] 37 (0, 0))) ∧ (b 2 = false → IsS87 w w' g527 t524 t525 t526) ∧ (Below w.heap.size w w') ∧ (b 0 = true → Kd.R (Kd.int .i64) 2 w' w.heap.size (fun _ => True) v529 y528) ∧ (b 0 = true → ∃ c_, (v529 : Value) = .slice (some adz_v529) y528.length c_) ∧ (b 2 = true → b 6 = false → IsS87 w w' g527 t524 t532 t533) ∧ (b 6 = true → IsS87 w w' g527 t524 t540 t541) ∧ (b 8 = true → w'.heap[gb523]? = some (.cells #[.int .i64 t535, .int .i64 t536, .bool t537, .bool t538, .bool t539] 37 (0, 0))) ∧ (b 3 = true → (m3_ : Value) = .pointer (some (adz_v529.add (t531).toNat)))) HT_.out HW_.out (by kernel_rfl) (by kernel_rfl) ?_ ?_ ?_
  ·exact ⟨.bool false, ⟨0, 0, none⟩, .bool false, by simp only [putSel, Bool.false_eq_true, if_false], fun _ => BK523.out, fun _ => HI527.out, HB.out, fun h_ => absurd h_ (by decide), fun h_ => absurd h_ (by decide), fun h_ => absurd h_ (by decide), fun h_ => absurd h_ (by decide), fun h_ => absurd h_ (by decide), fun h_ => absurd h_ (by decide)⟩
  ·skip
   clear BK523 HB HI527
   refine steps_cons ?_ ?_
   ·rintro b a w' ⟨v529, adz_v529, m3_, ha, Q_BK523, Q_HI527, Q_HB, Q_HO530, Q_HA_HO530, Q_HI527_e2, Q_HI527_e6, Q_BK523_e8, Q_X3_⟩ hb_ hon hoff
    refine ⟨_, rfl, fun K hK => ?_⟩
    replace ha := am ha
    have BK523 := am (Q_BK523 (hoff 8 (by kernel_rfl)))
    have HB := am Q_HB
    refine Kd.R_lit_step (Kd.int .i64) _ 2 ?hg (N := 7) ?hd (xs := ([0, 1, 5, 60, 61, (-9223372036854775808)] : List Int)) (inner := [.int .i64 0, .int .i64 1, .int .i64 5, .int .i64 60, .int .i64 61, .int .i64 (-9223372036854775808)]) (ok := fun _ => True) (okp := fun _ => True) ?hr ?hp (fun _ hk => hk) trivial (Below.refl _ _) (Nat.le_refl _) (by simp) ?_; (case hd => rfl); (case hg => rfl); (case hr => first | (go_simp; done) | (go_simp; rfl)); (case hp => exact (Reps.one (show Kd.M (Kd.int .i64) _ _ _ 0 [.int .i64 0] from rfl) (Reps.one (show Kd.M (Kd.int .i64) _ _ _ 1 [.int .i64 1] from rfl) (Reps.one (show Kd.M (Kd.int .i64) _ _ _ 5 [.int .i64 5] from rfl) (Reps.one (show Kd.M (Kd.int .i64) _ _ _ 60 [.int .i64 60] from rfl) (Reps.one (show Kd.M (Kd.int .i64) _ _ _ 61 [.int .i64 61] from rfl) (Reps.one (show Kd.M (Kd.int .i64) _ _ _ (-9223372036854775808) [.int .i64 (-9223372036854775808)] from rfl) (Reps.none _ _))))))))
    intro v529 w10 ho11 hb hg_ hnew_
    clear hg_ hnew_
    (first | rw [← Ny528.out] at ho11 | (simp only [Int.reduceToNat] at ho11; rw [← Ny528.out] at ho11))
    have n0_ := am (Kd.R_lower ho11 (below_size (rb1 HB GE523)))
    have n1_ := am (blk_below (g := gb523) (o := .cells #[.int .i64 0, .int .i64 0, .bool false, .bool false, .bool false] 37 (0, 0)) (rk BK523) hb)
    have n3_ := am (below_step (rb1 HB GE523) hb)
    have z_HI527 := fun (h0_ : b 2 = false) => (show IsS87 w w10 g527 t524 t525 t526 from by first | exact (IsS87.below (by repeat (first | (with_reducible first | exact (Q_HI527 h0_) | apply IsS87.alloc | apply IsS87.drewN | apply IsS87.drew | apply IsS87.set_1 | apply IsS87.set_2 | refine IsS87.far ?_ NB527_523.out _) | exact (Q_HI527 h0_))) hb))
    have z_HI527_e2 := fun (h0_ : b 2 = true) (h1_ : b 6 = false) => (show IsS87 w w10 g527 t524 t532 t533 from by first | exact (IsS87.below (by repeat (first | (with_reducible first | exact (Q_HI527_e2 h0_ h1_) | apply IsS87.alloc | apply IsS87.drewN | apply IsS87.drew | apply IsS87.set_1 | apply IsS87.set_2 | refine IsS87.far ?_ NB527_523.out _) | exact (Q_HI527_e2 h0_ h1_))) hb))
    have z_HI527_e6 := fun (h0_ : b 6 = true) => (show IsS87 w w10 g527 t524 t540 t541 from by first | exact (IsS87.below (by repeat (first | (with_reducible first | exact (Q_HI527_e6 h0_) | apply IsS87.alloc | apply IsS87.drewN | apply IsS87.drew | apply IsS87.set_1 | apply IsS87.set_2 | refine IsS87.far ?_ NB527_523.out _) | exact (Q_HI527_e6 h0_))) hb))
    clear BK523
    clear HB
    have HO530 := n0_
    have BK523 := n1_
    have HB := n3_
    clear n0_ n1_ n3_
    clear hb ho11
    obtain ⟨Ao12, co12, eo12⟩ := Kd.R_slice HO530.out
    subst eo12
    obtain ⟨ado12, fo12, _⟩ := Kd.at_int (Kd.R_reads' HO530.out).2.2 0 (by decide) (by rw [Ny528.out]; simp)
    cases fo12
    refine hK.out _ _ ⟨.slice (some ado12) y528.length co12, ado12, m3_, (by rw [ha.out]; exact putSel_upk 0 hb_ rfl rfl rfl), fun _ => (rk BK523), z_HI527, (rb1 HB GE523), fun _ => (rr HO530), fun _ => ⟨_, rfl⟩, z_HI527_e2, z_HI527_e6, fun h0_ => absurd ((hoff 8 (by kernel_rfl)).symm.trans h0_) (by decide), fun h0_ => absurd ((hoff 3 (by kernel_rfl)).symm.trans h0_) (by decide)⟩
   refine steps_cons ?_ ?_
   ·rintro b a w' ⟨v529, adz_v529, m3_, ha, Q_BK523, Q_HI527, Q_HB, Q_HO530, Q_HA_HO530, Q_HI527_e2, Q_HI527_e6, Q_BK523_e8, Q_X3_⟩ hb_ hon hoff
    refine ⟨_, rfl, fun K hK => ?_⟩
    have e8 : a.tmps[8]? = some (.pointer (some ⟨g527, 0, none⟩)) := by rw [ha]; exact (putSel_off rfl).trans rfl
    replace ha := am ha
    have BK523 := am (Q_BK523 (hoff 8 (by kernel_rfl)))
    have HI527 := am (Q_HI527 hb_)
    have HB := am Q_HB
    refine goes_ Tryd.func46 (by kernel_rfl) rfl #[.pointer (some ⟨g527, 0, none⟩), .int .i64 6] (by rfl) rfl rfl (by first | (simp only [List.map_toArray, List.map_cons, List.map_nil, Act.eval, Array.getD_eq_getD_getElem?, Option.getD_some, e8]; done) | (simp only [List.map_toArray, List.map_cons, List.map_nil, Act.eval, Array.getD_eq_getD_getElem?, Option.getD_some, e8]; rfl)) ?_
    with_reducible refine (spec_l1Below.calls g527 t524 t525 t526 6 t531 t532 t533 w _ ?side1 ?side2 A3.out).mono ?_
    (case side1 => repeat (first | (with_reducible first | exact HI527.out | apply IsS87.alloc | apply IsS87.drewN | apply IsS87.drew | apply IsS87.set_1 | apply IsS87.set_2 | refine IsS87.far ?_ NB527_523.out _) | exact HI527.out))
    (case side2 => repeat (first | (with_reducible first | exact HB.out | apply b1 | apply b2 | apply b3 | refine below_set ?_ (IsS87.ge HI527.out) | refine below_set ?_ GE523.out) | exact HB.out))
    rintro e w10 ⟨rfl, hi, hb, hk⟩
    refine ⟨_, rfl, ?_⟩
    have n0_ := am (KeepBut.blk hk (g' := gb523) (o := .cells #[.int .i64 0, .int .i64 0, .bool false, .bool false, .bool false] 37 (0, 0)) (rk BK523) NB523_527.out (by simp))
    have n1_ := am (hb)
    have n2_ := am (hi)
    have z_HO530 := fun (h0_ : b 0 = true) => (show Kd.R (Kd.int .i64) 2 w10 w.heap.size (fun _ => True) v529 y528 from by first | exact (Kd.R_mono (Kd.R_keep (IsS87.apart (show IsS87 w _ g527 t524 t525 t526 from by repeat (first | (with_reducible first | exact HI527.out | apply IsS87.alloc | apply IsS87.drewN | apply IsS87.drew | apply IsS87.set_1 | apply IsS87.set_2 | refine IsS87.far ?_ NB527_523.out _) | exact HI527.out)) (by (with_reducible repeat (first | apply r1 | apply r2 | apply r3)); exact (Q_HO530 h0_)) (by decide)) hk (fun _ h => h.2)) (fun _ h => h.1)) | exact Kd.R_mono (Kd.R_mono (Kd.R_keep (IsS87.apart (show IsS87 w _ g527 t524 t525 t526 from by repeat (first | (with_reducible first | exact HI527.out | apply IsS87.alloc | apply IsS87.drewN | apply IsS87.drew | apply IsS87.set_1 | apply IsS87.set_2 | refine IsS87.far ?_ NB527_523.out _) | exact HI527.out)) (by (with_reducible repeat (first | apply r1 | apply r2 | apply r3)); exact (Q_HO530 h0_)) (by decide)) hk (fun _ h => h.2)) (fun _ h => h.1)) (fun _ h_ => by first | trivial | exact h_ | exact h_.1))
    clear BK523
    clear HB
    clear HI527
    have BK523 := n0_
    have HB := n1_
    have HI527 := n2_
    clear n0_ n1_ n2_
    (try clear hb)
    (try clear hb2)
    (try clear hk)
    (try clear hi)
    refine hK.out _ _ ⟨v529, adz_v529, m3_, (by rw [ha.out]; exact putSel_upk 1 hb_ rfl rfl rfl), fun _ => (rk BK523), fun h0_ => absurd ((up_self b 2).symm.trans h0_) (by decide), (by repeat (first | (with_reducible first | exact HB.out | apply b1 | apply b2 | apply b3 | refine below_set ?_ (IsS87.ge HI527.out) | refine below_set ?_ GE523.out) | exact HB.out)), z_HO530, Q_HA_HO530, fun _ _ => (by repeat (first | (with_reducible first | exact HI527.out | apply IsS87.alloc | apply IsS87.drewN | apply IsS87.drew | apply IsS87.set_1 | apply IsS87.set_2 | refine IsS87.far ?_ NB527_523.out _) | exact HI527.out)), fun h0_ => absurd ((hoff 6 (by kernel_rfl)).symm.trans h0_) (by decide), fun h0_ => absurd ((hoff 8 (by kernel_rfl)).symm.trans h0_) (by decide), fun h0_ => absurd ((hoff 3 (by kernel_rfl)).symm.trans h0_) (by decide)⟩
   refine steps_cons ?_ ?_
   ·rintro b a w' ⟨v529, adz_v529, m3_, ha, Q_BK523, Q_HI527, Q_HB, Q_HO530, Q_HA_HO530, Q_HI527_e2, Q_HI527_e6, Q_BK523_e8, Q_X3_⟩ hb_ hon hoff
    refine ⟨_, rfl, fun K hK => ?_⟩
    have e7 : a.tmps[7]? = some (v529) := by rw [ha]; exact putSel_on (e := (0, 7, v529)) 0 rfl rfl (hon 0 (by kernel_rfl)) rfl
    have e9 : a.tmps[9]? = some (.int .i64 t531) := by rw [ha]; exact putSel_on (e := (2, 9, .int .i64 t531)) 1 rfl rfl (hon 2 (by kernel_rfl)) rfl
    replace ha := am ha
    have BK523 := am (Q_BK523 (hoff 8 (by kernel_rfl)))
    have HB := am Q_HB
    have HO530 := am (Q_HO530 (hon 0 (by kernel_rfl)))
    have HA_HO530 := am (Q_HA_HO530 (hon 0 (by kernel_rfl)))
    obtain ⟨c_, hv_⟩ := HA_HO530.out
    rw [hv_] at e7
    refine value_ (w1 := w') (v := .pointer (some (adz_v529.add (t531).toNat))) (by rfl) rfl ?_ ?_
    ·go_simp
     (try simp only [i64_w])
     try rfl
    refine hK.out _ _ ⟨v529, adz_v529, (.pointer (some (adz_v529.add (t531).toNat))), (by rw [ha.out]; exact putSel_upk 2 hb_ rfl rfl rfl), Q_BK523, fun h0_ => absurd ((hon 2 (by kernel_rfl)).symm.trans h0_) (by decide), Q_HB, Q_HO530, Q_HA_HO530, Q_HI527_e2, Q_HI527_e6, fun h0_ => absurd ((hoff 8 (by kernel_rfl)).symm.trans h0_) (by decide), fun _ => rfl⟩
   refine steps_cons ?_ ?_
   ·rintro b a w' ⟨v529, adz_v529, m3_, ha, Q_BK523, Q_HI527, Q_HB, Q_HO530, Q_HA_HO530, Q_HI527_e2, Q_HI527_e6, Q_BK523_e8, Q_X3_⟩ hb_ hon hoff
    refine ⟨_, rfl, fun K hK => ?_⟩
    have e10 : a.tmps[10]? = some (m3_) := by rw [ha]; exact putSel_on (e := (3, 10, m3_)) 2 rfl rfl (hon 3 (by kernel_rfl)) rfl
    rw [Q_X3_ (hon 3 (by kernel_rfl))] at e10
    replace ha := am ha
    have BK523 := am (Q_BK523 (hoff 8 (by kernel_rfl)))
    have HB := am Q_HB
    have HO530 := am (Q_HO530 (hon 0 (by kernel_rfl)))
    have HA_HO530 := am (Q_HA_HO530 (hon 0 (by kernel_rfl)))
    obtain ⟨c_, hv_⟩ := HA_HO530.out
    have hF_ := HO530.out
    rw [hv_] at hF_
    obtain ⟨ad_, ea_, hx_⟩ := Kd.at_int (Kd.R_reads' hF_).2.2 t531 (of_eq_true pi534) (of_eq_true qi534)
    cases ea_
    refine value_ (w1 := w') (v := .int .i64 (rd y528 t531)) (by rfl) rfl ?_ ?_
    ·go_simp
     (try simp only [i64_w])
     try rfl
    refine hK.out _ _ ⟨v529, adz_v529, m3_, (by rw [ha.out]; exact putSel_upk 3 hb_ rfl rfl rfl), Q_BK523, fun h0_ => absurd ((hon 2 (by kernel_rfl)).symm.trans h0_) (by decide), Q_HB, Q_HO530, Q_HA_HO530, Q_HI527_e2, Q_HI527_e6, fun h0_ => absurd ((hoff 8 (by kernel_rfl)).symm.trans h0_) (by decide), Q_X3_⟩
   refine steps_cons ?_ ?_
   ·rintro b a w' ⟨v529, adz_v529, m3_, ha, Q_BK523, Q_HI527, Q_HB, Q_HO530, Q_HA_HO530, Q_HI527_e2, Q_HI527_e6, Q_BK523_e8, Q_X3_⟩ hb_ hon hoff
    refine ⟨_, rfl, fun K hK => ?_⟩
    have e12 : a.tmps[12]? = some (.pointer (some ⟨g527, 0, none⟩)) := by rw [ha]; exact (putSel_off rfl).trans rfl
    replace ha := am ha
    have BK523 := am (Q_BK523 (hoff 8 (by kernel_rfl)))
    have HB := am Q_HB
    have HI527 := am (Q_HI527_e2 (hon 2 (by kernel_rfl)) hb_)
    refine goes_ Tryd.func40 (by kernel_rfl) rfl #[.pointer (some ⟨g527, 0, none⟩)] (by rfl) rfl rfl (by first | (simp only [List.map_toArray, List.map_cons, List.map_nil, Act.eval, Array.getD_eq_getD_getElem?, Option.getD_some, e12]; done) | (simp only [List.map_toArray, List.map_cons, List.map_nil, Act.eval, Array.getD_eq_getD_getElem?, Option.getD_some, e12]; rfl)) ?_
    with_reducible refine (spec_l3DrawAny.calls g527 t524 t532 t533 t535 t536 t537 t538 t539 t540 t541 w _ ?side1 ?side2 A6.out).mono ?_
    (case side1 => repeat (first | (with_reducible first | exact HI527.out | apply IsS87.alloc | apply IsS87.drewN | apply IsS87.drew | apply IsS87.set_1 | apply IsS87.set_2 | refine IsS87.far ?_ NB527_523.out _) | exact HI527.out))
    (case side2 => repeat (first | (with_reducible first | exact HB.out | apply b1 | apply b2 | apply b3 | refine below_set ?_ (IsS87.ge HI527.out) | refine below_set ?_ GE523.out) | exact HB.out))
    rintro e w12 ⟨rfl, hi, hb, hk⟩
    refine ⟨_, rfl, ?_⟩
    have n0_ := am (KeepBut.blk hk (g' := gb523) (o := .cells #[.int .i64 0, .int .i64 0, .bool false, .bool false, .bool false] 37 (0, 0)) (rk BK523) NB523_527.out (by simp))
    have n1_ := am (hb)
    have n2_ := am (hi)
    have z_HO530 := fun (h0_ : b 0 = true) => (show Kd.R (Kd.int .i64) 2 w12 w.heap.size (fun _ => True) v529 y528 from by first | exact (Kd.R_mono (Kd.R_keep (IsS87.apart (show IsS87 w _ g527 t524 t532 t533 from by repeat (first | (with_reducible first | exact HI527.out | apply IsS87.alloc | apply IsS87.drewN | apply IsS87.drew | apply IsS87.set_1 | apply IsS87.set_2 | refine IsS87.far ?_ NB527_523.out _) | exact HI527.out)) (by (with_reducible repeat (first | apply r1 | apply r2 | apply r3)); exact (Q_HO530 h0_)) (by decide)) hk (fun _ h => h.2)) (fun _ h => h.1)) | exact Kd.R_mono (Kd.R_mono (Kd.R_keep (IsS87.apart (show IsS87 w _ g527 t524 t532 t533 from by repeat (first | (with_reducible first | exact HI527.out | apply IsS87.alloc | apply IsS87.drewN | apply IsS87.drew | apply IsS87.set_1 | apply IsS87.set_2 | refine IsS87.far ?_ NB527_523.out _) | exact HI527.out)) (by (with_reducible repeat (first | apply r1 | apply r2 | apply r3)); exact (Q_HO530 h0_)) (by decide)) hk (fun _ h => h.2)) (fun _ h => h.1)) (fun _ h_ => by first | trivial | exact h_ | exact h_.1))
    clear BK523
    clear HB
    clear HI527
    have BK523 := n0_
    have HB := n1_
    have HI527 := n2_
    clear n0_ n1_ n2_
    (try clear hb)
    (try clear hb2)
    (try clear hk)
    (try clear hi)
    refine hK.out _ _ ⟨v529, adz_v529, m3_, (by rw [ha.out]; exact putSel_upk 4 hb_ rfl rfl rfl), fun _ => (rk BK523), fun h0_ => absurd ((hon 2 (by kernel_rfl)).symm.trans h0_) (by decide), (by repeat (first | (with_reducible first | exact HB.out | apply b1 | apply b2 | apply b3 | refine below_set ?_ (IsS87.ge HI527.out) | refine below_set ?_ GE523.out) | exact HB.out)), z_HO530, Q_HA_HO530, fun _ h1_ => absurd ((up_self b 6).symm.trans h1_) (by decide), fun _ => (by repeat (first | (with_reducible first | exact HI527.out | apply IsS87.alloc | apply IsS87.drewN | apply IsS87.drew | apply IsS87.set_1 | apply IsS87.set_2 | refine IsS87.far ?_ NB527_523.out _) | exact HI527.out)), fun h0_ => absurd ((hoff 8 (by kernel_rfl)).symm.trans h0_) (by decide), Q_X3_⟩
   refine steps_cons ?_ ?_
   ·rintro b a w' ⟨v529, adz_v529, m3_, ha, Q_BK523, Q_HI527, Q_HB, Q_HO530, Q_HA_HO530, Q_HI527_e2, Q_HI527_e6, Q_BK523_e8, Q_X3_⟩ hb_ hon hoff
    refine ⟨_, rfl, fun K hK => ?_⟩
    have e11 : a.tmps[11]? = some (.int .i64 (rd y528 t531)) := by rw [ha]; exact putSel_on (e := (4, 11, .int .i64 (rd y528 t531))) 3 rfl rfl (hon 4 (by kernel_rfl)) rfl
    replace ha := am ha
    have BK523 := am (Q_BK523 (hoff 8 (by kernel_rfl)))
    have HB := am Q_HB
    have HO530 := am (Q_HO530 (hon 0 (by kernel_rfl)))
    have HA_HO530 := am (Q_HA_HO530 (hon 0 (by kernel_rfl)))
    have HI527 := am (Q_HI527_e6 (hon 6 (by kernel_rfl)))
    refine value_ (w1 := w') (v := .int .i64 (rd y528 t531)) (by rfl) rfl ?_ ?_
    ·go_simp
     (try simp only [i64_w])
     try rfl
    refine hK.out _ _ ⟨v529, adz_v529, m3_, (by rw [ha.out]; exact putSel_upk 5 hb_ rfl rfl rfl), Q_BK523, fun h0_ => absurd ((hon 2 (by kernel_rfl)).symm.trans h0_) (by decide), Q_HB, Q_HO530, Q_HA_HO530, fun _ h1_ => absurd ((hon 6 (by kernel_rfl)).symm.trans h1_) (by decide), Q_HI527_e6, fun h0_ => absurd ((hoff 8 (by kernel_rfl)).symm.trans h0_) (by decide), Q_X3_⟩
   refine steps_cons ?_ ?_
   ·rintro b a w' ⟨v529, adz_v529, m3_, ha, Q_BK523, Q_HI527, Q_HB, Q_HO530, Q_HA_HO530, Q_HI527_e2, Q_HI527_e6, Q_BK523_e8, Q_X3_⟩ hb_ hon hoff
    refine ⟨_, rfl, fun K hK => ?_⟩
    have e3 : a.tmps[3]? = some (.pointer (some ⟨gb523, 0, none⟩)) := by rw [ha]; exact (putSel_off rfl).trans rfl
    have e13 : a.tmps[13]? = some (.agg #[.int .i64 t535, .int .i64 t536, .bool t537, .bool t538, .bool t539]) := by rw [ha]; exact putSel_on (e := (6, 13, .agg #[.int .i64 t535, .int .i64 t536, .bool t537, .bool t538, .bool t539])) 4 rfl rfl (hon 6 (by kernel_rfl)) rfl
    replace ha := am ha
    have BK523 := am (Q_BK523 hb_)
    have HB := am Q_HB
    have HO530 := am (Q_HO530 (hon 0 (by kernel_rfl)))
    have HA_HO530 := am (Q_HA_HO530 (hon 0 (by kernel_rfl)))
    have HI527 := am (Q_HI527_e6 (hon 6 (by kernel_rfl)))
    obtain ⟨co16, eo16⟩ := HA_HO530.out
    clear HA_HO530
    subst eo16
    have hs17 : w'.cell? ⟨gb523, 0, none⟩ = some (.int .i64 0) := (blk_cell BK523.out 0).trans rfl
    have hfs17 := blk_frozen BK523.out 0
    have hs18 : w'.cell? ⟨gb523, 1, none⟩ = some (.int .i64 0) := (blk_cell BK523.out 1).trans rfl
    have hfs18 := blk_frozen BK523.out 1
    have hs19 : w'.cell? ⟨gb523, 2, none⟩ = some (.bool false) := (blk_cell BK523.out 2).trans rfl
    have hfs19 := blk_frozen BK523.out 2
    have hs20 : w'.cell? ⟨gb523, 3, none⟩ = some (.bool false) := (blk_cell BK523.out 3).trans rfl
    have hfs20 := blk_frozen BK523.out 3
    have hs21 : w'.cell? ⟨gb523, 4, none⟩ = some (.bool false) := (blk_cell BK523.out 4).trans rfl
    have hfs21 := blk_frozen BK523.out 4
    refine skip_ (w1 := ?_) (by rfl) rfl ?_ ?_
    rotate_left
    ·go_simp
     rfl
    refine hK.out _ _ ⟨.slice (some adz_v529) y528.length co16, adz_v529, m3_, (by rw [ha.out]; exact putSel_none (v := undef) rfl), fun h0_ => absurd ((up_self b 8).symm.trans h0_) (by decide), fun h0_ => absurd ((hon 2 (by kernel_rfl)).symm.trans h0_) (by decide), (by repeat (first | (with_reducible first | exact HB.out | apply b1 | apply b2 | apply b3 | refine below_set ?_ (IsS87.ge HI527.out) | refine below_set ?_ GE523.out) | exact HB.out)), fun _ => (by (with_reducible repeat (first | apply r1 | apply r2 | apply r3)); exact Kd.R_mono (Kd.R_far (p := ⟨gb523, 4, none⟩) (Kd.R_far (p := ⟨gb523, 3, none⟩) (Kd.R_far (p := ⟨gb523, 2, none⟩) (Kd.R_far (p := ⟨gb523, 1, none⟩) (Kd.R_far (p := ⟨gb523, 0, none⟩) (Kd.R_types HO530.out BK523.out (by decide)) (fun _ hk => hk.2) (.int .i64 t535)) (fun _ hk => hk.2) (.int .i64 t536)) (fun _ hk => hk.2) (.bool t537)) (fun _ hk => hk.2) (.bool t538)) (fun _ hk => hk.2) (.bool t539)) (fun _ hk => trivial)), fun _ => ⟨_, rfl⟩, fun _ h1_ => absurd ((hon 6 (by kernel_rfl)).symm.trans h1_) (by decide), fun _ => (by repeat (first | (with_reducible first | exact HI527.out | apply IsS87.alloc | apply IsS87.drewN | apply IsS87.drew | apply IsS87.set_1 | apply IsS87.set_2 | refine IsS87.far ?_ NB527_523.out _) | exact HI527.out)), fun _ => (by (with_reducible repeat (first | apply k1 | apply k2 | apply k3)); refine blk_put (cs := #[.int .i64 t535, .int .i64 t536, .bool t537, .bool t538, .bool false]) ?_ 4 _ rfl; (with_reducible repeat (first | apply k1 | apply k2 | apply k3)); refine blk_put (cs := #[.int .i64 t535, .int .i64 t536, .bool t537, .bool false, .bool false]) ?_ 3 _ rfl; (with_reducible repeat (first | apply k1 | apply k2 | apply k3)); refine blk_put (cs := #[.int .i64 t535, .int .i64 t536, .bool false, .bool false, .bool false]) ?_ 2 _ rfl; (with_reducible repeat (first | apply k1 | apply k2 | apply k3)); refine blk_put (cs := #[.int .i64 t535, .int .i64 0, .bool false, .bool false, .bool false]) ?_ 1 _ rfl; (with_reducible repeat (first | apply k1 | apply k2 | apply k3)); refine blk_put (cs := #[.int .i64 0, .int .i64 0, .bool false, .bool false, .bool false]) ?_ 0 _ rfl; (with_reducible repeat (first | apply k1 | apply k2 | apply k3)); exact BK523.out), Q_X3_⟩
   exact steps_nil
  rintro b a w20 hall ⟨v529, adz_v529, m3_, ha, Q_BK523, Q_HI527, Q_HB, Q_HO530, Q_HA_HO530, Q_HI527_e2, Q_HI527_e6, Q_BK523_e8, Q_X3_⟩
  clear BK523 HB HI527
  have hb0_ := hall 0 (by kernel_rfl)
  have hb2_ := hall 2 (by kernel_rfl)
  have hb3_ := hall 3 (by kernel_rfl)
  have hb4_ := hall 4 (by kernel_rfl)
  have hb6_ := hall 6 (by kernel_rfl)
  have hb7_ := hall 7 (by kernel_rfl)
  have hb8_ := hall 8 (by kernel_rfl)
  subst ha
  obtain rfl := Q_X3_ hb3_
  simp only [putSel, hb0_, hb2_, hb3_, hb4_, hb6_, hb7_, hb8_, if_true, Act.put, List.setIfInBounds_toArray, List.set_cons_zero, List.set_cons_succ]
  clear Q_BK523
  clear Q_HI527
  have HB := am Q_HB
  clear Q_HB
  have HO530 := am (Q_HO530 hb0_)
  clear Q_HO530
  have HA_HO530 := am (Q_HA_HO530 hb0_)
  clear Q_HA_HO530
  clear Q_HI527_e2
  have HI527 := am (Q_HI527_e6 hb6_)
  clear Q_HI527_e6
  have BK523 := am (Q_BK523_e8 hb8_)
  clear Q_BK523_e8
  clear hall hb0_ hb2_ hb3_ hb4_ hb6_ hb7_ hb8_
  obtain ⟨co21, eo21⟩ := HA_HO530.out
  clear HA_HO530
  subst eo21
  try go_wp2
  refine bodyPost_ret (results_tc rfl _ _ gb523 37 #[.int .i64 t535, .int .i64 t536, .bool t537, .bool t538, .bool t539] (0, 0) _ rfl (rk BK523) Tryd.underlying37 rfl (by kernel_rfl)) rfl ?_
  exact ⟨by first | rfl | (simp [errW_none, errW_some] <;> rfl) | (simp [*, errW_none, errW_some] <;> rfl), by repeat (first | (with_reducible first | exact HB.out | apply b1 | apply b2 | apply b3 | refine below_set ?_ (IsS87.ge HI527.out) | refine below_set ?_ GE523.out) | exact HB.out)⟩

/-! ### bits_Mul64: function 88 -/
def bits_Mul64.f (a0 : Int) (a1 : Int) : Option (Int × Int) := some (IntKind.u64.wrap ((IntKind.u64.wrap ((IntKind.u64.wrap ((a0 / 4294967296) * (a1 / 4294967296))) + ((IntKind.u64.wrap ((IntKind.u64.wrap ((a0 / 4294967296) * (Go.bits .and .u64 a1 4294967295))) + ((IntKind.u64.wrap ((Go.bits .and .u64 a0 4294967295) * (Go.bits .and .u64 a1 4294967295))) / 4294967296))) / 4294967296))) + ((IntKind.u64.wrap ((Go.bits .and .u64 (IntKind.u64.wrap ((IntKind.u64.wrap ((a0 / 4294967296) * (Go.bits .and .u64 a1 4294967295))) + ((IntKind.u64.wrap ((Go.bits .and .u64 a0 4294967295) * (Go.bits .and .u64 a1 4294967295))) / 4294967296))) 4294967295) + (IntKind.u64.wrap ((Go.bits .and .u64 a0 4294967295) * (a1 / 4294967296))))) / 4294967296)), IntKind.u64.wrap (a0 * a1))
set_option maxHeartbeats 8000000 in
set_option maxRecDepth 100000 in
theorem bits_Mul64.calls (a0 : Int) (a1 : Int) (r1 : Int) (r2 : Int) (w : World) (h : bits_Mul64.f a0 a1 = some (r1, r2)) :
  Calls Tryd.prog 88 #[.int .u64 a0, .int .u64 a1] w fun e w' => e = .returned (.tuple #[.int .u64 r1, .int .u64 r2]) ∧ Drawn0 w w' := by
 have H := h
 unfold bits_Mul64.f at H
 clear h
 simp only [Option.some.injEq, Prod.mk.injEq] at H
 obtain ⟨rfl, rfl⟩ := H
 go_enter Tryd.func88, Tryd.ntmps88
 go_wp2
 go_ret2
 exact ⟨by first | rfl | (simp; done) | (simp [*]; done), by repeat (first | exact Drawn0.refl _ | apply Drawn0.step)⟩

/-! ### bits_Mul: function 74 -/
def bits_Mul.f (a0 : Int) (a1 : Int) : Option (Int × Int) := (bits_Mul64.f a0 a1).bind fun bt542 => (some (bt542.1, bt542.2))
set_option maxHeartbeats 8000000 in
set_option maxRecDepth 100000 in
theorem bits_Mul.calls (a0 : Int) (a1 : Int) (r1 : Int) (r2 : Int) (w : World) (h : bits_Mul.f a0 a1 = some (r1, r2)) :
  Calls Tryd.prog 74 #[.int .u64 a0, .int .u64 a1] w fun e w' => e = .returned (.tuple #[.int .u64 r1, .int .u64 r2]) ∧ Drawn0 w w' := by
 have H : ((bits_Mul64.f a0 a1).bind fun bt542 => (some (bt542.1, bt542.2))) = some (r1, r2) := h
 clear h
 replace H := Option.bind_eq_some_iff.mp H
 obtain ⟨⟨t542, t543⟩, A30, H⟩ := H
 replace H : (some (t542, t543)) = some (r1, r2) := H
 have A3 := am A30
 clear A30
 simp only [Option.some.injEq, Prod.mk.injEq] at H
 obtain ⟨rfl, rfl⟩ := H
 go_enter Tryd.func74, Tryd.ntmps74
 go_wp2_with (first | ((with_reducible refine gate_callee (f := 88) rfl ?_); refine gl_ (some 25) Tryd.func88 #[.int .u64 a0, .int .u64 a1] ?_; (with_reducible refine (bits_Mul64.calls a0 a1 t542 t543 _ A3.out).mono ?_); rintro e w' ⟨rfl, ⟨nd, rfl⟩⟩; refine ⟨_, rfl, ?_⟩))
 go_ret2
 exact ⟨by first | rfl | (simp; done) | (simp [*]; done), by repeat (first | exact Drawn0.refl _ | apply Drawn0.step)⟩

end Go.Proofs.YtepeanpoicefdaaDoor.PB
