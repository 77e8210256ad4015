/- Contracts of Go functions that laws of this seat reach: each Lean function answers as its Go function does. No condition. Written by wip/tools/inj.py, over the kit's print. -/
import Derived.Test.YtfhkpneffmcdbaaDoorQCx0
import Derived.Test.YtfhkpneffmcdbaaDoorQCx7
import Derived.Test.YtfhkpneffmcdbaaDoorQCx11
import Derived.Test.YtfhkpneffmcdbaaDoorQCx12
namespace Go.Proofs.YtfhkpneffmcdbaaDoor.QC
open Go.RowKit Go.Proofs.YtfhkpneffmcdbaaDoorW.PrintWords Go.Proofs.YtfhkpneffmcdbaaDoorW.PrintLast Go.Proofs.YtfhkpneffmcdbaaDoorW.PrintMore
attribute [local go_sem] max2_int min2_int max_two min_two max_three min_three max_four min_four   -- for this text's walks alone
set_option linter.unusedVariables false
set_option linter.unusedSimpArgs false

/-! ### impl_Pressed: function 42 -/
def impl_Pressed.l0 : Nat → ByteArray → List (S50) → Option ((List (S50)) × ByteArray)
 | 0, _, _ => none
 | k + 1, x0, x4 => (impl_pressed.f k x0).bind fun bt352 => (if bt352.2.2.2 = true then (if x4.length < 5864062014805 then ((impl_Sent.f k bt352.1 bt352.2.1 bt352.2.2.1).bind fun t360 => (if 0 ≤ (t360.size : Int) then (if (t360.size : Int) ≤ (x0.size : Int) then (impl_Pressed.l0 k (x0.extract ((t360.size : Int) : Int).toNat x0.size) (x4 ++ [(⟨bt352.1, bt352.2.1, bt352.2.2.1⟩ : S50)])) else (none)) else (none))) else (none)) else (some (x4, x0)))
def impl_Pressed.f (k : Nat) (a0 : ByteArray) : Option ((List (S50)) × ByteArray) := impl_Pressed.l0 k a0 (([] : List (S50)))
theorem impl_Pressed.mono_l : ∀ k, (∀ y0 y1, LeO (impl_Pressed.l0 k y0 y1) (impl_Pressed.l0 (k + 1) y0 y1))
 | 0 => fun _ _ r h => by simp [impl_Pressed.l0] at h
 | k + 1 => by
  have ih0 := impl_Pressed.mono_l k
  ·intro y0 y1
   unfold impl_Pressed.l0
   repeat' first
   | (with_reducible exact ih0 _ _)
   | (with_reducible exact impl_Sent.mono _ _ _ _)
   | (with_reducible exact impl_pressed.mono _ _)
   | (with_reducible exact LeO.refl _)
   | (with_reducible exact LeO.none _)
   | (with_reducible refine LeO.ite ?_ ?_)
   | (with_reducible refine LeO.bind ?_ (fun _ => ?_))
theorem impl_Pressed.mono : ∀ a0 k, LeO (impl_Pressed.f k a0) (impl_Pressed.f (k + 1) a0) := by
 intro a0 k
 have ih0 := impl_Pressed.mono_l k
 unfold impl_Pressed.f
 repeat' first
   | (with_reducible exact ih0 _ _)
   | (with_reducible exact impl_Sent.mono _ _ _ _)
   | (with_reducible exact impl_pressed.mono _ _)
   | (with_reducible exact LeO.refl _)
   | (with_reducible exact LeO.none _)
   | (with_reducible refine LeO.ite ?_ ?_)
   | (with_reducible refine LeO.bind ?_ (fun _ => ?_))
def impl_Pressed.T5 : Bool × List (List Nat × List Nat) := (true, [([], []), ([], []), ([1], [1]), ([0, 2], [0, 2]), ([], []), ([], []), ([5, 3], [5]), ([6], [6]), ([4, 7], [4, 7]), ([3, 6, 0, 1, 2, 3], [0, 3]), ([8, 9, 0, 1, 2, 3, 4, 5, 6, 7, 8, 9], [4, 8])])
def impl_Pressed.B5 : List Nat := [0, 0, 2, 7, 0, 0, 47, 111, 255, 111, 1023]
theorem impl_Pressed.tab5 : rtab .any (opsOf Tryd.f42 5) = impl_Pressed.T5 := by kernel_rfl
theorem impl_Pressed.bits5 : waitsOk impl_Pressed.T5.2 impl_Pressed.B5 = true := by kernel_rfl
set_option maxHeartbeats 8000000 in
set_option maxRecDepth 100000 in
theorem impl_Pressed.calls (k : Nat) (a0 : ByteArray) (r1 : List (S50)) (r2 : ByteArray) (w : World) (h : impl_Pressed.f k a0 = some (r1, r2)) (hT : TB w) :
  Calls Tryd.prog 42 #[.string a0] w fun e w' => ∃ v0_ : Value, e = .returned (.tuple #[v0_, .string r2]) ∧ Kd.R k50 50 w' w.heap.size (fun _ => True) v0_ r1 ∧ Below w.heap.size w w' := by
 have HT := am hT
 clear hT
 have hu50 := Tryd.underlying50
 have HB := am (Below.refl w.heap.size w)
 have H : (impl_Pressed.l0 k a0 (([] : List (S50)))) = some (r1, r2) := h
 clear h
 obtain ⟨y349, hy349⟩ : ∃ y_ : List (S50), y_ = (([] : List (S50))) := ⟨_, rfl⟩
 replace H : (impl_Pressed.l0 k a0 y349) = some (r1, r2) := by first | (rw [hy349]; with_reducible exact H) | (rw [hy349]; exact H) | exact H
 have Ny349 := am hy349
 clear hy349
 have H' := am H
 clear H
 go_enter Tryd.func42, Tryd.ntmps42
 go_wp2_with (first | ((with_reducible refine gate_dst (N := 7) rfl ?_); refine Kd.R_lit k50 _ 50 ?hg (N := 7) ?hd (xs := ([] : List (S50))) (inner := []) (ok := fun _ => True) (okp := fun _ => True) ?hr ?hp (fun _ hk => hk) trivial (Below.refl _ _) (Nat.le_refl _) (by simp) ?_; (case hd => rfl); (case hg => rfl); (case hr => first | (go_simp; done) | (go_simp; rfl)); (case hp => exact (Reps.none _ _)); intro v350 w2 ho3 hb hg_ hnew_; clear hg_ hnew_; (first | rw [← Ny349.out] at ho3 | (simp only [Int.reduceToNat] at ho3; rw [← Ny349.out] at ho3)); have n0_ := am (Kd.R_lower ho3 (below_size (rb HB))); have n1_ := am (below_step (rb HB) hb); clear HB; have HO351 := n0_; have HB := n1_; clear n0_ n1_; clear hb ho3))
 go_loopg [0, 4] k (fun kq v0 v4 w' => ∃ (x0_1 : ByteArray) (x4_1 : List (S50)), v0 = .string x0_1 ∧ Aside0 (impl_Pressed.l0 kq x0_1 x4_1 = some (r1, r2)) ∧ Aside0 (kq ≤ k) ∧ Aside0 (Kd.R k50 50 w' w.heap.size (fun _ => True) v4 x4_1) ∧ Aside0 (Below w.heap.size w w'))
 case atStart => exact ⟨(a0), (y349), (by first | rfl | (simp; done) | (simp [*]; done)), H', ⟨Nat.le_refl _⟩, ⟨rr HO351⟩, ⟨rb HB⟩⟩
 case round =>
  clear H'
  try clear p2
  obtain ⟨x0_1, x4_1, rfl, HA, HK1, HO_4, HB⟩ := hrel
  cases gk with
  | zero => exact absurd HA.out (by simp [impl_Pressed.l0])
  | succ k1 =>
   have H := HA.out
   clear HA
   simp only [impl_Pressed.l0] at H
   replace H := Option.bind_eq_some_iff.mp H
   obtain ⟨⟨t352, t353, t354, t355⟩, A40, H⟩ := H
   (try dsimp only at H)
   have A4 := am A40
   clear A40
   by_cases c5 : t355 = true
   ·subst c5
    rw [if_pos rfl] at H
    refine em_ (p := x4_1.length < 5864062014805) (fun c6 => ?g2p) (fun c6 => ?g2n)
    case' g2p =>
     rw [if_pos c6] at H
     have LMc6 := am c6
     clear c6
     obtain ⟨y357, hy357⟩ : ∃ y_ : List (S50), y_ = (x4_1 ++ [(⟨t352, t353, t354⟩ : S50)]) := ⟨_, rfl⟩
     replace H : ((impl_Sent.f k1 t352 t353 t354).bind fun t360 => (if 0 ≤ (t360.size : Int) then (if (t360.size : Int) ≤ (x0_1.size : Int) then (impl_Pressed.l0 k1 (x0_1.extract ((t360.size : Int) : Int).toNat x0_1.size) y357) else (none)) else (none))) = some (r1, r2) := by first | (rw [hy357]; with_reducible exact H) | (rw [hy357]; exact H) | exact H
     have Ny357 := am hy357
     clear hy357
     replace H := Option.bind_eq_some_iff.mp H
     obtain ⟨t360, A70, H⟩ := H
     (try dsimp only at H)
     have A7 := am A70
     clear A70
     refine em_ (p := 0 ≤ (t360.size : Int)) (fun c8 => ?g1p) (fun c8 => ?g1n)
     case' g1p =>
      rw [if_pos c8] at H
      have c8b0 := eq_true c8
      have c8b1 : decide (0 ≤ (t360.size : Int)) = true := decide_eq_true c8
      clear c8
      refine em_ (p := (t360.size : Int) ≤ (x0_1.size : Int)) (fun c9 => ?g0p) (fun c9 => ?g0n)
      case' g0p =>
       rw [if_pos c9] at H
       have c9b0 := eq_true c9
       have c9b1 : decide ((t360.size : Int) ≤ (x0_1.size : Int)) = true := decide_eq_true c9
       clear c9
       have H' := am H
       clear H
       have lf1_ := trivial
      case g0n =>
       rw [if_neg c9] at H
       exact absurd H (by simp)
     case g1n =>
      rw [if_neg c8] at H
      exact absurd H (by simp)
    case g2n =>
     rw [if_neg c6] at H
     exact absurd H (by simp)
    all_goals
     try go_wp2_with (first | ((with_reducible refine gate_callee (f := 69) rfl ?_); refine gl_ (some 10) Tryd.func69 #[.string x0_1] ?_; (with_reducible refine (impl_pressed.calls k1 x0_1 t352 t353 t354 true _ A4.out ?sideT).mono ?_); (case sideT => exact TB.below HT.out (rb HB)); rintro e w10 ⟨rfl, hb⟩; refine ⟨_, rfl, ?_⟩; have n0_ := am (Kd.R_below (rr HO_4) hb); have n1_ := am (below_step (rb HB) hb); clear HO_4; clear HB; have HO_4 := n0_; have HB := n1_; clear n0_ n1_; (try clear hb); (try clear hb2); (try clear hk); (try clear hi)) | ((with_reducible refine gate_dst (N := 5) rfl ?_); refine box_event ?hg (N := 5) ?hd (cs := #[.int .i64 0, .int .i64 0, .bool false]) (t := 50) ?hr ?_; (case hd => rfl); (case hg => rfl); (case hr => first | (go_simp; done) | (go_simp; rfl)); intro gb356 hg w11 hbox hb; have n0_ := am (Kd.R_below (Kd.R_elderB (rr HO_4) gb356 (Nat.le_of_eq hg.symm)) hb); have n1_ := am (below_step (rb HB) hb); have n2_ := am (hbox); have n3_ := am ((by rw [hg]; exact (below_size (rb HB)) : w.heap.size ≤ gb356)); have n4_ := am ((by rw [hg]; exact (below_size (rb HB)) : w.heap.size ≤ gb356)); clear HO_4; clear HB; have HO_4 := n0_; have HB := n1_; have BK356 := n2_; have GW356 := n3_; have GE356 := n4_; clear n0_ n1_ n2_ n3_ n4_; clear hb hbox hg; have hcz12_0 : w11.cell? ⟨gb356, 0, none⟩ = some (.int .i64 0) := (blk_cell BK356.out 0).trans rfl; have hcz12_1 : w11.cell? ⟨gb356, 1, none⟩ = some (.int .i64 0) := (blk_cell BK356.out 1).trans rfl; have hcz12_2 : w11.cell? ⟨gb356, 2, none⟩ = some (.bool false) := (blk_cell BK356.out 2).trans rfl; have hfz12_0 := blk_frozen BK356.out 0; have hfz12_1 := blk_frozen BK356.out 1; have hfz12_2 := blk_frozen BK356.out 2))
     have n0_ : Aside0 (Kd.R k50 50 (((w11.setCell ⟨gb356, 0, none⟩ (.int .i64 t352)).setCell ⟨gb356, 1, none⟩ (.int .i64 t353)).setCell ⟨gb356, 2, none⟩ (.bool t354)) w.heap.size (fun k_ => k_ ≠ gb356) u4 x4_1) := ⟨by (with_reducible repeat (first | apply r1 | apply r2 | apply r3)); exact Kd.R_mono (Kd.R_far (p := ⟨gb356, 2, none⟩) (Kd.R_far (p := ⟨gb356, 1, none⟩) (Kd.R_far (p := ⟨gb356, 0, none⟩) (Kd.R_mono HO_4.out (fun k_ hk => (⟨hk, hk.2⟩ : _ ∧ k_ ≠ gb356))) (fun _ hk => hk.2) (.int .i64 t352)) (fun _ hk => hk.2) (.int .i64 t353)) (fun _ hk => hk.2) (.bool t354)) (fun _ hk => hk.1.2)⟩
     have n1_ : Aside0 ((((w11.setCell ⟨gb356, 0, none⟩ (.int .i64 t352)).setCell ⟨gb356, 1, none⟩ (.int .i64 t353)).setCell ⟨gb356, 2, none⟩ (.bool t354)).heap[gb356]? = some (.cells #[.int .i64 t352, .int .i64 t353, .bool t354] 50 (0, 0))) := ⟨by (with_reducible repeat (first | apply k1 | apply k2 | apply k3)); refine blk_put (cs := #[.int .i64 t352, .int .i64 t353, .bool false]) ?_ 2 _ rfl; (with_reducible repeat (first | apply k1 | apply k2 | apply k3)); refine blk_put (cs := #[.int .i64 t352, .int .i64 0, .bool false]) ?_ 1 _ rfl; (with_reducible repeat (first | apply k1 | apply k2 | apply k3)); refine blk_put (cs := #[.int .i64 0, .int .i64 0, .bool false]) ?_ 0 _ rfl; (with_reducible repeat (first | apply k1 | apply k2 | apply k3)); exact BK356.out⟩
     have n2_ : Aside0 (Below w.heap.size w (((w11.setCell ⟨gb356, 0, none⟩ (.int .i64 t352)).setCell ⟨gb356, 1, none⟩ (.int .i64 t353)).setCell ⟨gb356, 2, none⟩ (.bool t354))) := ⟨by repeat (first | (with_reducible first | exact HB.out | apply b1 | apply b2 | apply b3 | refine below_set ?_ GE356.out) | exact HB.out)⟩
     (try clear HO_4)
     (try clear BK356)
     (try clear HB)
     generalize (((w11.setCell ⟨gb356, 0, none⟩ (.int .i64 t352)).setCell ⟨gb356, 1, none⟩ (.int .i64 t353)).setCell ⟨gb356, 2, none⟩ (.bool t354)) = w13 at n0_ n1_ n2_ ⊢
     have HO_4 := n0_
     have BK356 := n1_
     have HB := n2_
     clear n0_ n1_ n2_
     have n0_ := am (Kd.R_drew HO_4.out)
     have n1_ := am (blk_drew BK356.out)
     have n2_ := am (below_drew1 HB.out)
     clear HO_4
     clear BK356
     clear HB
     have HO_4 := n0_
     have BK356 := n1_
     have HB := n2_
     clear n0_ n1_ n2_
     refine start_ (n := 11) (S := fun w' => w'.cell? ⟨gb356, 0, none⟩ = some (.int .i64 t352) ∧ w'.cell? ⟨gb356, 1, none⟩ = some (.int .i64 t353) ∧ w'.cell? ⟨gb356, 2, none⟩ = some (.bool t354)) (ds := []) (bm 11 0) (by kernel_rfl) rfl rfl ⟨(blk_cell BK356.out 0).trans rfl, (blk_cell BK356.out 1).trans rfl, (blk_cell BK356.out 2).trans rfl⟩ (fun hHeld => ?_); refine with_tabW impl_Pressed.tab5 impl_Pressed.bits5 (fun HT_ HW_ => ?_)
     generalize w13.drew = w14 at HO_4 BK356 HB hHeld ⊢
     refine pu_ 0 17 (bm 11 1) HT_.out ?_
     refine pu_ 4 21 (bm 11 17) HT_.out ?_
     refine take_ (i := 1) (N := some 18) (v := ?_) (a' := ?_) (bm 11 19) rfl rfl (take_ofW HT_.out HW_.out (by kernel_rfl)) (fun _ _ _ h => h) (Or.inl ⟨by rfl, ?_⟩) hHeld ?_ ?_
     rotate_left
     ·rintro w' ⟨s0, s1, s2⟩
      go_simp
      with_reducible rfl
     rotate_left
     ·simp only [Act.put, List.setIfInBounds_toArray, List.set_cons_zero, List.set_cons_succ, i64_w, i32_w]
      rfl
     refine take_ (i := 5) (N := some 22) (v := ?_) (a' := ?_) (bm 11 51) rfl rfl (take_ofW HT_.out HW_.out (by kernel_rfl)) (fun _ _ _ h => h) (Or.inl ⟨by rfl, ?_⟩) hHeld ?_ ?_
     rotate_left
     ·rintro w' ⟨s0, s1, s2⟩
      go_simp
      with_reducible rfl
     rotate_left
     ·simp only [Act.put, List.setIfInBounds_toArray, List.set_cons_zero, List.set_cons_succ, i64_w, i32_w]
      rfl
     refine one_ (i := 2) (N := some 19) (bm 11 55) rfl rfl (one_of HT_.out (by kernel_rfl)) (by decide) (fun K hK => ?_)
     refine value_ (w1 := ?_) (v := ?_) (by rfl) rfl ?_ ?_
     rotate_left 2
     ·go_simp
      constructor
      ·rfl
      ·rfl
     refine hK.out _ _ ⟨(blk_cell (blk_alloc BK356.out _) 0).trans rfl, (blk_cell (blk_alloc BK356.out _) 1).trans rfl, (blk_cell (blk_alloc BK356.out _) 2).trans rfl⟩ (fun hHeld => ?_)
     clear hK K
     refine norm_ (a' := ?_) ?_ ?_
     rotate_left
     ·show Act.put _ (some 19) _ = _
      simp only [Act.put, List.setIfInBounds_toArray, List.set_cons_zero, List.set_cons_succ, i64_w, i32_w]
      rfl
     refine one_ (i := 3) (N := some 20) (bm 11 63) rfl rfl (one_of HT_.out (by kernel_rfl)) (by decide) (fun K hK => ?_)
     refine Kd.R_append_step k50 (w0 := w) w.heap.size (by rfl) (.tmp 17) (.tmp 19) 53 50 (.agg #[(.int .i64 0), (.int .i64 0), (.bool false)]) 24 rfl Tryd.underlying53 info50 rfl (by decide) (by omega) u4 x4_1 (⟨t352, t353, t354⟩ : S50) [.int .i64 t352, .int .i64 t353, .bool t354] (fun k_ => k_ ≠ gb356) (fun _ => False) rfl rfl ?aP (fun _ hk => hk.elim) ?aF ?aO ?aB ?aS ?aL ?_
     (case aP => exact k50_mkM _ _ _ (⟨t352, t353, t354⟩ : S50))
     (case aB => exact (rb1 HB GE356))
     (case aF => exact (fun k_ hk => Kd.freshB (g := gb356) (o := .cells #[.int .i64 t352, .int .i64 t353, .bool t354] 50 (0, 0)) (rk BK356) k_ hk))
     (case aO => exact (rr HO_4))
     (case aS => exact (below_size (rb1 HB GE356)))
     (case aL => have := LMc6.out; omega)
     intro v358 w15 ho hb hg hat
     rw [← Ny357.out] at ho
     have n0_ := am (blk_grown (g := gb356) (o := .cells #[.int .i64 t352, .int .i64 t353, .bool t354] 50 (0, 0)) (rk BK356) hg (Kd.R_away HO_4.out (fun _ hk => hk)))
     have n1_ := am (hb)
     have n2_ := am (ho)
     clear BK356
     clear HB
     clear HO_4
     have BK356 := n0_
     have HB := n1_
     have HO359 := n2_
     clear n0_ n1_ n2_
     clear ho hb hg hat
     refine hK.out _ _ ⟨(blk_cell BK356.out 0).trans rfl, (blk_cell BK356.out 1).trans rfl, (blk_cell BK356.out 2).trans rfl⟩ (fun hHeld => ?_)
     clear hK K
     refine norm_ (a' := ?_) ?_ ?_
     rotate_left
     ·show Act.put _ (some 20) _ = _
      simp only [Act.put, List.setIfInBounds_toArray, List.set_cons_zero, List.set_cons_succ, i64_w, i32_w]
      rfl
     refine one_ (i := 6) (N := some 23) (bm 11 127) rfl rfl (one_of HT_.out (by kernel_rfl)) (by decide) (fun K hK => ?_)
     refine goes_ Tryd.func40 (by kernel_rfl) rfl #[.agg #[.int .i64 t352, .int .i64 t353, .bool t354]] (by rfl) rfl rfl (by (try simp only [List.map_toArray, List.map_cons, List.map_nil]); first | done | rfl | (simp only [List.length_drop, List.length_take]; rfl)) ?_
     with_reducible refine (impl_Sent.calls k1 t352 t353 t354 t360 _ A7.out).mono ?_
     rintro e w16 ⟨rfl, hb⟩
     refine ⟨_, rfl, ?_⟩
     have n0_ := am (Kd.R_below (rr HO359) hb)
     have n1_ := am (blk_below (g := gb356) (o := .cells #[.int .i64 t352, .int .i64 t353, .bool t354] 50 (0, 0)) (rk BK356) hb)
     have n2_ := am (below_step (rb1 HB GE356) hb)
     clear HO359
     clear BK356
     clear HB
     have HO359 := n0_
     have BK356 := n1_
     have HB := n2_
     clear n0_ n1_ n2_
     (try clear hb)
     (try clear hb2)
     (try clear hk)
     (try clear hi)
     refine hK.out _ _ ⟨(blk_cell BK356.out 0).trans rfl, (blk_cell BK356.out 1).trans rfl, (blk_cell BK356.out 2).trans rfl⟩ (fun hHeld => ?_)
     clear hK K
     refine norm_ (a' := ?_) ?_ ?_
     rotate_left
     ·show Act.put _ (some 23) _ = _
      simp only [Act.put, List.setIfInBounds_toArray, List.set_cons_zero, List.set_cons_succ, i64_w, i32_w]
      rfl
     refine pu_ 7 24 (bm 11 255) HT_.out ?_
     refine pu_ 8 25 (bm 11 511) HT_.out ?_
     refine pu_ 9 4 (bm 11 1023) HT_.out ?_
     refine pu_ 10 0 (bm 11 2047) HT_.out ?_
     refine done_ (done_of HT_.out (by kernel_rfl)) ?_
     try go_wp2
     go_roundg k1
     case measure => have := HK1.out; omega
     case rel => exact ⟨(x0_1.extract ((t360.size : Int) : Int).toNat x0_1.size), (y357), (by first | rfl | (simp; done) | (simp [*]; done)), H', ⟨by have := HK1.out; omega⟩, ⟨by (with_reducible repeat (first | apply r1 | apply r2 | apply r3)); exact Kd.R_mono HO359.out (fun _ hk => trivial)⟩, ⟨by repeat (first | (with_reducible first | exact HB.out | apply b1 | apply b2 | apply b3 | refine below_set ?_ GE356.out) | exact HB.out)⟩⟩
   ·replace c5 := Bool.eq_false_iff.mpr c5
    subst c5
    have H1 : (some (x4_1, x0_1)) = some (r1, r2) := by rw [if_neg (show ¬ (false = true) by decide)] at H; exact H
    clear H
    have H := H1
    clear H1
    simp only [Option.some.injEq, Prod.mk.injEq] at H
    obtain ⟨rfl, rfl⟩ := H
    go_wp2_with (first | ((with_reducible refine gate_callee (f := 69) rfl ?_); refine gl_ (some 10) Tryd.func69 #[.string x0_1] ?_; (with_reducible refine (impl_pressed.calls k1 x0_1 t352 t353 t354 false _ A4.out ?sideT).mono ?_); (case sideT => exact TB.below HT.out (rb HB)); rintro e w17 ⟨rfl, hb⟩; refine ⟨_, rfl, ?_⟩; have n0_ := am (Kd.R_below (rr HO_4) hb); have n1_ := am (below_step (rb HB) hb); clear HO_4; clear HB; have HO_4 := n0_; have HB := n1_; clear n0_ n1_; (try clear hb); (try clear hb2); (try clear hk); (try clear hi)) | ((with_reducible refine gate_dst (N := 5) rfl ?_); refine box_event ?hg (N := 5) ?hd (cs := #[.int .i64 0, .int .i64 0, .bool false]) (t := 50) ?hr ?_; (case hd => rfl); (case hg => rfl); (case hr => first | (go_simp; done) | (go_simp; rfl)); intro gb356 hg w18 hbox hb; have n0_ := am (Kd.R_below (Kd.R_elderB (rr HO_4) gb356 (Nat.le_of_eq hg.symm)) hb); have n1_ := am (below_step (rb HB) hb); have n2_ := am (hbox); have n3_ := am ((by rw [hg]; exact (below_size (rb HB)) : w.heap.size ≤ gb356)); have n4_ := am ((by rw [hg]; exact (below_size (rb HB)) : w.heap.size ≤ gb356)); clear HO_4; clear HB; have HO_4 := n0_; have HB := n1_; have BK356 := n2_; have GW356 := n3_; have GE356 := n4_; clear n0_ n1_ n2_ n3_ n4_; clear hb hbox hg; have hcz19_0 : w18.cell? ⟨gb356, 0, none⟩ = some (.int .i64 0) := (blk_cell BK356.out 0).trans rfl; have hcz19_1 : w18.cell? ⟨gb356, 1, none⟩ = some (.int .i64 0) := (blk_cell BK356.out 1).trans rfl; have hcz19_2 : w18.cell? ⟨gb356, 2, none⟩ = some (.bool false) := (blk_cell BK356.out 2).trans rfl; have hfz19_0 := blk_frozen BK356.out 0; have hfz19_1 := blk_frozen BK356.out 1; have hfz19_2 := blk_frozen BK356.out 2))
    go_ret2
    exact ⟨_, by first | rfl | (simp [errW_none, errW_some] <;> rfl) | (simp [*, errW_none, errW_some] <;> rfl), by (with_reducible repeat (first | apply r1 | apply r2 | apply r3)); exact Kd.R_mono (Kd.R_far (p := ⟨gb356, 2, none⟩) (Kd.R_far (p := ⟨gb356, 1, none⟩) (Kd.R_far (p := ⟨gb356, 0, none⟩) (Kd.R_mono HO_4.out (fun k_ hk => (⟨hk, hk.2⟩ : _ ∧ k_ ≠ gb356))) (fun _ hk => hk.2) (.int .i64 t352)) (fun _ hk => hk.2) (.int .i64 t353)) (fun _ hk => hk.2) (.bool t354)) (fun _ hk => trivial), by repeat (first | (with_reducible first | exact HB.out | apply b1 | apply b2 | apply b3 | refine below_set ?_ GE356.out) | exact HB.out)⟩

end Go.Proofs.YtfhkpneffmcdbaaDoor.QC
