/- Contracts of Go functions that laws of this seat reach: each Lean function answers as its Go function does. No condition. Written by wip/tools/inj.py, over the kit's print. -/
import Derived.Test.YtfhkpneffmcdbaaDoorQBx0
import Derived.Test.YtfhkpneffmcdbaaDoorQBx2
import Derived.Test.YtfhkpneffmcdbaaDoorQBx8
import Derived.Test.YtfhkpneffmcdbaaDoorQBx18
namespace Go.Proofs.YtfhkpneffmcdbaaDoor.QB
open Go.RowKit Go.Proofs.YtfhkpneffmcdbaaDoorW.PrintWords Go.Proofs.YtfhkpneffmcdbaaDoorW.PrintLast Go.Proofs.YtfhkpneffmcdbaaDoorW.PrintMore
attribute [local go_sem] max2_int min2_int max_two min_two max_three min_three max_four min_four   -- for this text's walks alone
set_option linter.unusedVariables false
set_option linter.unusedSimpArgs false

/-! ### impl_Feed: function 26 -/
def impl_Feed.l0 : Nat → ByteArray → List Int → Option (ByteArray × List Int)
 | 0, _, _ => none
 | k + 1, s, o => (impl_isBegun.f s).bind fun t => if t = true then some (s, o) else (impl_Get.f s).bind fun g => if o.length < 17592186044416 then (if 0 ≤ g.2 then (if g.2 ≤ (s.size : Int) then impl_Feed.l0 k (s.extract g.2.toNat s.size) (o ++ [g.1]) else none) else none) else none
def impl_Feed.f (k : Nat) (a0_0 : ByteArray) (a1 : Int) : Option (ByteArray × List Int) :=
 (impl_FeederOk.f a0_0).bind fun t => if t = true then (if a0_0.size + (strOfNums [a1]).size ≤ 9223372036854775807 then impl_Feed.l0 k (a0_0 ++ strOfNums [a1]) [] else none) else some ((⟨#[]⟩ : ByteArray), [])
theorem impl_Feed.mono_l : ∀ k y0 y1, LeO (impl_Feed.l0 k y0 y1) (impl_Feed.l0 (k + 1) y0 y1)
 | 0, _, _ => fun r h => by simp [impl_Feed.l0] at h
 | k + 1, y0, y1 => by
  have ih := impl_Feed.mono_l k
  unfold impl_Feed.l0
  exact LeO.bind (LeO.refl _) (fun _ => LeO.ite (LeO.refl _) (LeO.bind (LeO.refl _) (fun _ => LeO.ite (LeO.ite (LeO.ite (ih _ _) (LeO.refl _)) (LeO.refl _)) (LeO.refl _))))
theorem impl_Feed.mono : ∀ a0 a1 k, LeO (impl_Feed.f k a0 a1) (impl_Feed.f (k + 1) a0 a1) := by
 intro a0 a1 k
 unfold impl_Feed.f
 exact LeO.bind (LeO.refl _) (fun _ => LeO.ite (LeO.ite (impl_Feed.mono_l _ _ _) (LeO.refl _)) (LeO.refl _))
set_option maxHeartbeats 8000000 in
set_option maxRecDepth 100000 in
theorem impl_Feed.feed (k g : Nat) (s : ByteArray) (b : Int) (r1 : ByteArray) (r2 : List Int) (w0 w : World) (hbk : w.heap[g]? = some (.cells #[.string s] 38 (0, 0))) (hge : w0.heap.size ≤ g) (hB : Below w0.heap.size w0 w)
  (hsz : s.size + (strOfNums [b]).size ≤ 9223372036854775807) (h : impl_Feed.l0 k (s ++ strOfNums [b]) [] = some (r1, r2)) (hT : TB w0) :
  Calls Tryd.prog 61 #[.pointer (some ⟨g, 0, none⟩), .int .u8 b] w fun e w' => ∃ v, e = .returned v ∧ Kd.R (Kd.int .i64) 2 w' w0.heap.size (fun _ => True) v r2 ∧ w'.heap[g]? = some (.cells #[.string r1] 38 (0, 0)) ∧ Below w0.heap.size w0 w' ∧ Kept w w' (fun k_ => k_ = g) := by
 have hu26 := Tryd.underlying38
 have HT := am hT
 have BK := am hbk
 have GE := am hge
 have HB := am hB
 have HK := am (Kept.refl w (fun k_ => k_ = g))
 have HW := am hB.size
 have H' := am h
 clear hT hbk hge hB h
 have c5b0 := eq_true hsz
 have c5b1 : decide (s.size + (strOfNums [b]).size ≤ 9223372036854775807) = true := decide_eq_true hsz
 have c5b2 : (9223372036854775807 < s.size + (strOfNums [b]).size) = False := eq_false (Nat.not_lt.2 hsz)
 go_enter Tryd.func61, Tryd.ntmps61
 go_wp2_with ((with_reducible refine gate_dst (N := 8) rfl ?_); refine Kd.R_lit (Kd.int .i64) _ 2 ?hg (N := 8) ?hd (xs := ([] : List Int)) (inner := []) (ok := fun k_ => w.heap.size ≤ k_) (okp := fun k_ => w.heap.size ≤ k_) ?hr ?hp (fun _ hk => hk) (Nat.le_refl _) (Below.refl _ _) (Nat.le_refl _) (by simp) ?_; (case hd => rfl); (case hg => rfl); (case hr => first | (go_simp; done) | (go_simp; rfl)); (case hp => exact (Reps.none _ _)); intro v5 w2 ho3 hb hg_ hnew_; clear hg_ hnew_; have n0_ := am (Kd.R_lower ho3 (below_size HB.out)); have n1_ := am (below_step HB.out hb); have n2_ := am (blk_below BK.out hb); have n3_ := am (Kept.below HK.out hb); clear HB BK HK hb ho3; have HO := n0_; have HB := n1_; have BK := n2_; have HK := n3_; clear n0_ n1_ n2_ n3_)
 have n0_ := am (Kd.R_drew HO.out)
 have n1_ := am (blk_drew BK.out)
 have n2_ := am (below_drew1 HB.out)
 clear HO BK HB
 have HO := n0_
 have BK := n1_
 have HB := n2_
 clear n0_ n1_ n2_
 refine start_ (n := 11) (S := fun w' => w'.cell? ⟨g, 0, none⟩ = some (.string s)) (ds := [10]) (bm 11 0) (by kernel_rfl) rfl rfl ((blk_cell BK.out 0).trans rfl) (fun hHeld => ?_)
 have n0_ := am (Kept.drew HK.out)
 clear HK
 have HK := n0_
 clear n0_
 generalize w2.drew = w3 at HO BK HB HK hHeld ⊢
 refine pure_ (i := 0) (N := some 9) (v := ?_) (a' := ?_) (bm 11 1) rfl rfl (by kernel_rfl) (fun _ _ _ h => h) (Or.inl ⟨by rfl, ?_⟩) ?_ ?_
 rotate_left
 ·intro w'
  go_simp
  with_reducible rfl
 rotate_left
 ·simp only [Act.put, List.setIfInBounds_toArray, List.set_cons_zero, List.set_cons_succ, i64_w, i32_w]
  rfl
 refine pure_ (i := 1) (N := some 10) (v := ?_) (a' := ?_) (bm 11 3) rfl rfl (by kernel_rfl) (fun _ _ _ h => h) (Or.inl ⟨by rfl, ?_⟩) ?_ ?_
 rotate_left
 ·intro w'
  go_simp
  with_reducible rfl
 rotate_left
 ·simp only [Act.put, List.setIfInBounds_toArray, List.set_cons_zero, List.set_cons_succ, i64_w, i32_w]
  rfl
 refine pure_ (i := 2) (N := some 11) (v := ?_) (a' := ?_) (bm 11 7) rfl rfl (by kernel_rfl) (fun _ _ _ h => h) (Or.inl ⟨by rfl, ?_⟩) ?_ ?_
 rotate_left
 ·intro w'
  go_simp
  with_reducible rfl
 rotate_left
 ·simp only [Act.put, List.setIfInBounds_toArray, List.set_cons_zero, List.set_cons_succ, i64_w, i32_w]
  rfl
 refine pure_ (i := 4) (N := some 13) (v := ?_) (a' := ?_) (bm 11 23) rfl rfl (by kernel_rfl) (fun _ _ _ h => h) (Or.inl ⟨by rfl, ?_⟩) ?_ ?_
 rotate_left
 ·intro w'
  go_simp
  with_reducible rfl
 rotate_left
 ·simp only [Act.put, List.setIfInBounds_toArray, List.set_cons_zero, List.set_cons_succ, i64_w, i32_w]
  rfl
 refine take_ (i := 3) (N := some 12) (v := ?_) (a' := ?_) (bm 11 31) rfl rfl (by kernel_rfl) (fun _ _ _ h => h) (Or.inl ⟨by rfl, ?_⟩) hHeld ?_ ?_
 rotate_left
 ·rintro w' s0
  go_simp
  with_reducible rfl
 rotate_left
 ·simp only [Act.put, List.setIfInBounds_toArray, List.set_cons_zero, List.set_cons_succ, i64_w, i32_w]
  rfl
 refine one_ (i := 5) (N := some 14) (bm 11 63) rfl rfl (by kernel_rfl) (by decide) (fun K hK => ?_)
 refine Kd.R_lit_step (Kd.int .u8) (w0 := w0) w0.heap.size 5 (by rfl) (N := 14) rfl (xs := ([b] : List Int)) (inner := [.int .u8 b]) (ok := fun _ => True) (okp := fun _ => True) ?hr ?hp (fun _ hk => hk) trivial HB.out (below_size HB.out) (by simp) ?_
 (case hr => first | (go_simp; done) | (go_simp; rfl))
 (case hp => exact (Reps.one (show Kd.M (Kd.int .u8) _ _ _ b [.int .u8 b] from rfl) (Reps.none _ _)))
 intro v6 w4 ho hb hg hat
 have hb3 : Below w3.heap.size w3 w4 := ⟨hg.os, hg.tape, hg.output, hg.size, fun i hi => hg.block i hi (by simp)⟩
 have n0_ := am (Kd.R_below HO.out hb3)
 have n1_ := am (blk_below BK.out hb3)
 have n2_ := am hb
 have n3_ := am (Kept.below HK.out hb3)
 have hcv := own_string (P := Tryd.prog) Tryd.underlying22 Tryd.underlying5 Tryd.underlying9 (Kd.own_of_R ho)
 clear HO BK HB HK ho hb hg hat hb3
 have HO := n0_
 have BK := n1_
 have HB := n2_
 have HK := n3_
 clear n0_ n1_ n2_ n3_
 have hHeld2 : w4.cell? ⟨g, 0, none⟩ = some (.string s) := (blk_cell BK.out 0).trans rfl
 refine hK.out _ _ hHeld2 (fun _ => ?_)
 clear hK K
 refine norm_ (a' := ?_) ?_ ?_
 rotate_left
 ·show Act.put _ (some 14) _ = _
  simp only [Act.put, List.setIfInBounds_toArray, List.set_cons_zero, List.set_cons_succ, i64_w, i32_w]
  rfl
 refine one_ (i := 6) (N := some 15) (bm 11 127) rfl rfl (by kernel_rfl) (by decide) (fun K hK => ?_)
 refine value_ (w1 := ?_) (v := ?_) (by rfl) rfl ?_ ?_
 rotate_left 2
 ·first | exact hcv | (go_simp; exact hcv) | (go_simp; constructor <;> rfl) | (go_simp; rfl)
 refine hK.out _ _ hHeld2 (fun _ => ?_)
 clear hK K
 refine norm_ (a' := ?_) ?_ ?_
 rotate_left
 ·show Act.put _ (some 15) _ = _
  simp only [Act.put, List.setIfInBounds_toArray, List.set_cons_zero, List.set_cons_succ, i64_w, i32_w]
  rfl
 refine pure_ (i := 7) (N := some 16) (v := ?_) (a' := ?_) (bm 11 255) rfl rfl (by kernel_rfl) (fun _ _ _ h => h) (Or.inl ⟨by rfl, ?_⟩) ?_ ?_
 rotate_left
 ·intro w'
  go_simp
  with_reducible rfl
 rotate_left
 ·simp only [Act.put, List.setIfInBounds_toArray, List.set_cons_zero, List.set_cons_succ, i64_w, i32_w]
  rfl
 refine pure_ (i := 8) (N := some 17) (v := ?_) (a' := ?_) (bm 11 511) rfl rfl (by kernel_rfl) (fun _ _ _ h => h) (Or.inl ⟨by rfl, ?_⟩) ?_ ?_
 rotate_left
 ·intro w'
  go_simp
  with_reducible rfl
 rotate_left
 ·simp only [Act.put, List.setIfInBounds_toArray, List.set_cons_zero, List.set_cons_succ, i64_w, i32_w]
  rfl
 refine pure_ (i := 9) (N := some 18) (v := ?_) (a' := ?_) (bm 11 1023) rfl rfl (by kernel_rfl) (fun _ _ _ h => h) (Or.inl ⟨by rfl, ?_⟩) ?_ ?_
 rotate_left
 ·intro w'
  go_simp
  with_reducible rfl
 rotate_left
 ·simp only [Act.put, List.setIfInBounds_toArray, List.set_cons_zero, List.set_cons_succ, i64_w, i32_w]
  rfl
 refine last_ (i := 10) (N := none) (bm 11 2047) rfl rfl (by kernel_rfl) (by decide) (fun K hK => ?_)
 have hcz := hHeld2
 have hfz := blk_frozen BK.out 0
 refine skip_ (w1 := ?_) (by rfl) rfl ?_ ?_
 rotate_left
 ·go_simp
  rfl
 refine hK.out _ _ ?_
 clear hK K
 have n0_ := am (Kd.R_set HO.out BK.out (by decide) 0 (.string (s ++ strOfNums [b])))
 have n1_ := am (show (w4.setCell ⟨g, 0, none⟩ (.string (s ++ strOfNums [b]))).heap[g]? = some (.cells #[.string (s ++ strOfNums [b])] 38 (0, 0)) from (blk_set BK.out 0 _).trans rfl)
 have n2_ := am (show Below w0.heap.size w0 (w4.setCell ⟨g, 0, none⟩ (.string (s ++ strOfNums [b]))) from below_set HB.out GE.out)
 have n3_ := am (Kept.setCell (p := ⟨g, 0, none⟩) HK.out (.inl rfl) (.string (s ++ strOfNums [b])))
 clear HO BK HB HK hHeld hHeld2 hcz hfz hcv
 have HO := n0_
 have BK := n1_
 have HB := n2_
 have HK := n3_
 clear n0_ n1_ n2_ n3_
 generalize (w4.setCell ⟨g, 0, none⟩ (.string (s ++ strOfNums [b]))) = w5 at HO BK HB HK ⊢
 refine done_ (by kernel_rfl) ?_
 try go_wp2
 go_loopg [5] k (fun kq v5 w' => ∃ (x0_1 : ByteArray) (x3_1 : List Int), Aside0 (impl_Feed.l0 kq x0_1 x3_1 = some (r1, r2)) ∧ Aside0 (kq ≤ k) ∧ Aside0 (Kd.R (Kd.int .i64) 2 w' w0.heap.size (fun k_ => w.heap.size ≤ k_) v5 x3_1) ∧ Aside0 (w'.heap[g]? = some (.cells #[.string x0_1] 38 (0, 0))) ∧ Aside0 (Below w0.heap.size w0 w') ∧ Aside0 (Kept w w' (fun k_ => k_ = g)))
 case atStart => exact ⟨s ++ strOfNums [b], [], H', ⟨Nat.le_refl _⟩, HO, BK, HB, HK⟩
 case round =>
  clear H' HO BK HB HK c5b0 c5b1 c5b2 hsz
  obtain ⟨x0_1, x3_1, HA, HK1, HO, BK, HB, HK⟩ := hrel
  cases gk with
  | zero => exact absurd HA.out (by simp [impl_Feed.l0])
  | succ k1 =>
   have H := HA.out
   clear HA
   simp only [impl_Feed.l0] at H
   obtain ⟨t, A1, H⟩ := Option.bind_eq_some_iff.mp H
   have A1' := am A1
   clear A1
   have hcz : wr.cell? ⟨g, 0, none⟩ = some (.string x0_1) := (blk_cell BK.out 0).trans rfl
   by_cases c1 : t = true
   ·subst c1
    rw [if_pos rfl] at H
    simp only [Option.some.injEq, Prod.mk.injEq] at H
    obtain ⟨rfl, rfl⟩ := H
    go_wp2_with ((with_reducible refine gate_callee (f := 63) rfl ?_); refine goesL_ (some 23) rfl rfl Tryd.func63 (by kernel_rfl) rfl #[.string x0_1] rfl (by (try simp only [List.map_toArray, List.map_cons, List.map_nil]); first | done | rfl) ?_; (with_reducible refine (impl_isBegun.calls x0_1 true _ A1'.out (TB.below HT.out HB.out)).mono ?_); rintro e w6 ⟨rfl, hb⟩; refine ⟨_, rfl, ?_⟩; have n0_ := am (Kd.R_below HO.out hb); have n1_ := am (blk_below BK.out hb); have n2_ := am (below_step HB.out hb); have n3_ := am (Kept.below HK.out hb); clear HO BK HB HK hb; have HO := n0_; have BK := n1_; have HB := n2_; have HK := n3_; clear n0_ n1_ n2_ n3_)
    go_ret
    exact ⟨_, rfl, Kd.R_mono HO.out (fun _ _ => trivial), BK.out, HB.out, HK.out⟩
   ·replace c1 := Bool.eq_false_iff.mpr c1
    subst c1
    rw [if_neg (by decide)] at H
    obtain ⟨⟨t1, t2⟩, A2, H⟩ := Option.bind_eq_some_iff.mp H
    have A2' := am A2
    clear A2
    by_cases c6 : x3_1.length < 17592186044416
    ·rw [if_pos c6] at H
     have LM := am c6
     clear c6
     by_cases c7 : 0 ≤ t2
     ·rw [if_pos c7] at H
      have c7b0 := eq_true c7
      have c7b1 : decide (0 ≤ t2) = true := decide_eq_true c7
      by_cases c8 : t2 ≤ (x0_1.size : Int)
      ·rw [if_pos c8] at H
       have c8b0 := eq_true c8
       have c8b1 : decide (t2 ≤ (x0_1.size : Int)) = true := decide_eq_true c8
       clear c7 c8
       have H' := am H
       clear H
       go_wp2_with (first | ((with_reducible refine gate_callee (f := 63) rfl ?_); refine goesL_ (some 23) rfl rfl Tryd.func63 (by kernel_rfl) rfl #[.string x0_1] rfl (by (try simp only [List.map_toArray, List.map_cons, List.map_nil]); first | done | rfl) ?_; (with_reducible refine (impl_isBegun.calls x0_1 false _ A1'.out (TB.below HT.out HB.out)).mono ?_); rintro e w6 ⟨rfl, hb⟩; refine ⟨_, rfl, ?_⟩; have n0_ := am (Kd.R_below HO.out hb); have n1_ := am (blk_below BK.out hb); have n2_ := am (below_step HB.out hb); have n3_ := am (Kept.below HK.out hb); clear HO BK HB HK hb hcz; have HO := n0_; have BK := n1_; have HB := n2_; have HK := n3_; clear n0_ n1_ n2_ n3_; have hcz : w6.cell? ⟨g, 0, none⟩ = some (.string x0_1) := (blk_cell BK.out 0).trans rfl) | ((with_reducible refine gate_callee (f := 14) rfl ?_); refine goesL_ (some 30) rfl rfl Tryd.func14 (by kernel_rfl) rfl #[.string x0_1] rfl (by (try simp only [List.map_toArray, List.map_cons, List.map_nil]); first | done | rfl) ?_; (with_reducible refine (impl_Get.calls x0_1 t1 t2 _ A2'.out (TB.below HT.out HB.out)).mono ?_); rintro e w7 ⟨rfl, hb⟩; refine ⟨_, rfl, ?_⟩; have n0_ := am (Kd.R_below HO.out hb); have n1_ := am (blk_below BK.out hb); have n2_ := am (below_step HB.out hb); have n3_ := am (Kept.below HK.out hb); clear HO BK HB HK hb hcz; have HO := n0_; have BK := n1_; have HB := n2_; have HK := n3_; clear n0_ n1_ n2_ n3_))
       have n0_ := am (Kd.R_drew HO.out)
       have n1_ := am (blk_drew BK.out)
       have n2_ := am (below_drew1 HB.out)
       clear HO BK HB
       have HO := n0_
       have BK := n1_
       have HB := n2_
       clear n0_ n1_ n2_
       refine start_ (n := 15) (S := fun w' => w'.cell? ⟨g, 0, none⟩ = some (.string x0_1)) (ds := [14]) (bm 15 0) (by kernel_rfl) rfl rfl ((blk_cell BK.out 0).trans rfl) (fun hHeld => ?_)
       have n0_ := am (Kept.drew HK.out)
       clear HK
       have HK := n0_
       clear n0_
       generalize w7.drew = w8 at HO BK HB HK hHeld ⊢
       refine pure_ (i := 0) (N := some 33) (v := ?_) (a' := ?_) (bm 15 1) rfl rfl (by kernel_rfl) (fun _ _ _ h => h) (Or.inl ⟨by rfl, ?_⟩) ?_ ?_
       rotate_left
       ·intro w'
        go_simp
        with_reducible rfl
       rotate_left
       ·simp only [Act.put, List.setIfInBounds_toArray, List.set_cons_zero, List.set_cons_succ, i64_w, i32_w]
        rfl
       refine pure_ (i := 1) (N := some 34) (v := ?_) (a' := ?_) (bm 15 3) rfl rfl (by kernel_rfl) (fun _ _ _ h => h) (Or.inl ⟨by rfl, ?_⟩) ?_ ?_
       rotate_left
       ·intro w'
        go_simp
        with_reducible rfl
       rotate_left
       ·simp only [Act.put, List.setIfInBounds_toArray, List.set_cons_zero, List.set_cons_succ, i64_w, i32_w]
        rfl
       refine pure_ (i := 2) (N := some 35) (v := ?_) (a' := ?_) (bm 15 7) rfl rfl (by kernel_rfl) (fun _ _ _ h => h) (Or.inl ⟨by rfl, ?_⟩) ?_ ?_
       rotate_left
       ·intro w'
        go_simp
        with_reducible rfl
       rotate_left
       ·simp only [Act.put, List.setIfInBounds_toArray, List.set_cons_zero, List.set_cons_succ, i64_w, i32_w]
        rfl
       refine pure_ (i := 5) (N := some 38) (v := ?_) (a' := ?_) (bm 15 39) rfl rfl (by kernel_rfl) (fun _ _ _ h => h) (Or.inl ⟨by rfl, ?_⟩) ?_ ?_
       rotate_left
       ·intro w'
        go_simp
        with_reducible rfl
       rotate_left
       ·simp only [Act.put, List.setIfInBounds_toArray, List.set_cons_zero, List.set_cons_succ, i64_w, i32_w]
        rfl
       refine pure_ (i := 6) (N := some 39) (v := ?_) (a' := ?_) (bm 15 103) rfl rfl (by kernel_rfl) (fun _ _ _ h => h) (Or.inl ⟨by rfl, ?_⟩) ?_ ?_
       rotate_left
       ·intro w'
        go_simp
        with_reducible rfl
       rotate_left
       ·simp only [Act.put, List.setIfInBounds_toArray, List.set_cons_zero, List.set_cons_succ, i64_w, i32_w]
        rfl
       refine pure_ (i := 7) (N := some 40) (v := ?_) (a' := ?_) (bm 15 231) rfl rfl (by kernel_rfl) (fun _ _ _ h => h) (Or.inl ⟨by rfl, ?_⟩) ?_ ?_
       rotate_left
       ·intro w'
        go_simp
        with_reducible rfl
       rotate_left
       ·simp only [Act.put, List.setIfInBounds_toArray, List.set_cons_zero, List.set_cons_succ, i64_w, i32_w]
        rfl
       refine pure_ (i := 9) (N := some 42) (v := ?_) (a' := ?_) (bm 15 743) rfl rfl (by kernel_rfl) (fun _ _ _ h => h) (Or.inl ⟨by rfl, ?_⟩) ?_ ?_
       rotate_left
       ·intro w'
        go_simp
        with_reducible rfl
       rotate_left
       ·simp only [Act.put, List.setIfInBounds_toArray, List.set_cons_zero, List.set_cons_succ, i64_w, i32_w]
        rfl
       refine take_ (i := 8) (N := some 41) (v := ?_) (a' := ?_) (bm 15 999) rfl rfl (by kernel_rfl) (fun _ _ _ h => h) (Or.inl ⟨by rfl, ?_⟩) hHeld ?_ ?_
       rotate_left
       ·rintro w' s0
        go_simp
        with_reducible rfl
       rotate_left
       ·simp only [Act.put, List.setIfInBounds_toArray, List.set_cons_zero, List.set_cons_succ, i64_w, i32_w]
        rfl
       refine pure_ (i := 10) (N := some 43) (v := ?_) (a' := ?_) (bm 15 2023) rfl rfl (by kernel_rfl) (fun _ _ _ h => h) (Or.inl ⟨by rfl, ?_⟩) ?_ ?_
       rotate_left
       ·intro w'
        go_simp
        with_reducible rfl
       rotate_left
       ·simp only [Act.put, List.setIfInBounds_toArray, List.set_cons_zero, List.set_cons_succ, i64_w, i32_w]
        rfl
       refine one_ (i := 3) (N := some 36) (bm 15 2031) rfl rfl (by kernel_rfl) (by decide) (fun K hK => ?_)
       refine value_ (w1 := ?_) (v := ?_) (by rfl) rfl ?_ ?_
       rotate_left 2
       ·go_simp
        constructor
        ·rfl
        ·rfl
       refine hK.out _ _ ((blk_cell (blk_alloc BK.out _) 0).trans rfl) (fun _ => ?_)
       clear hK K
       refine norm_ (a' := ?_) ?_ ?_
       rotate_left
       ·show Act.put _ (some 36) _ = _
        simp only [Act.put, List.setIfInBounds_toArray, List.set_cons_zero, List.set_cons_succ, i64_w, i32_w]
        rfl
       refine one_ (i := 4) (N := some 37) (bm 15 2047) rfl rfl (by kernel_rfl) (by decide) (fun K hK => ?_)
       refine Kd.R_append_step (Kd.int .i64) (w0 := w0) w0.heap.size (by rfl) (.tmp 34) (.tmp 36) 26 2 (.int .i64 0) 8 rfl Tryd.underlying26 (by kernel_rfl) rfl (by decide) (by omega) _ x3_1 t1 [.int .i64 t1] (fun k_ => w.heap.size ≤ k_) (fun _ => False) rfl rfl ?aP (fun _ hk => hk.elim) ?aF ?aO ?aB ?aS ?aL ?_
       (case aP => exact rfl)
       (case aB => exact HB.out)
       (case aF => exact (fun k_ hk => Nat.le_trans HK.out.1 hk))
       (case aO => exact HO.out)
       (case aS => exact (below_size HB.out))
       (case aL => have := LM.out; omega)
       intro v9 w10 ho hb hg hat
       have hne : some g ≠ _ := Kd.R_ne HO.out BK.out (by decide)
       have n0_ := am hb
       have n1_ := am ho
       have n2_ := am (blk_grown BK.out hg hne)
       have n3_ := am (Kept.of_grown hg HK.out (fun k_ e_ => .inr (HO.out.1 k_ e_)))
       clear HB HO BK HK
       have HB := n0_
       have HO := n1_
       have BK := n2_
       have HK := n3_
       clear n0_ n1_ n2_ n3_
       clear ho hb hg hat hne
       have hHeld2 : w10.cell? ⟨g, 0, none⟩ = some (.string x0_1) := (blk_cell BK.out 0).trans rfl
       refine hK.out _ _ hHeld2 (fun _ => ?_)
       clear hK K
       refine norm_ (a' := ?_) ?_ ?_
       rotate_left
       ·show Act.put _ (some 37) _ = _
        simp only [Act.put, List.setIfInBounds_toArray, List.set_cons_zero, List.set_cons_succ, i64_w, i32_w]
        rfl
       refine pure_ (i := 11) (N := some 5) (v := ?_) (a' := ?_) (bm 15 4095) rfl rfl (by kernel_rfl) (fun _ _ _ h => h) (Or.inl ⟨by rfl, ?_⟩) ?_ ?_
       rotate_left
       ·intro w'
        go_simp
        with_reducible rfl
       rotate_left
       ·simp only [Act.put, List.setIfInBounds_toArray, List.set_cons_zero, List.set_cons_succ, i64_w, i32_w]
        rfl
       refine pure_ (i := 12) (N := some 44) (v := ?_) (a' := ?_) (bm 15 8191) rfl rfl (by kernel_rfl) (fun _ _ _ h => h) (Or.inl ⟨by rfl, ?_⟩) ?_ ?_
       rotate_left
       ·intro w'
        go_simp
        with_reducible rfl
       rotate_left
       ·simp only [Act.put, List.setIfInBounds_toArray, List.set_cons_zero, List.set_cons_succ, i64_w, i32_w]
        rfl
       refine pure_ (i := 13) (N := some 45) (v := ?_) (a' := ?_) (bm 15 16383) rfl rfl (by kernel_rfl) (fun _ _ _ h => h) (Or.inl ⟨by rfl, ?_⟩) ?_ ?_
       rotate_left
       ·intro w'
        go_simp
        with_reducible rfl
       rotate_left
       ·simp only [Act.put, List.setIfInBounds_toArray, List.set_cons_zero, List.set_cons_succ, i64_w, i32_w]
        rfl
       refine last_ (i := 14) (N := none) (bm 15 32767) rfl rfl (by kernel_rfl) (by decide) (fun K hK => ?_)
       have hcz := hHeld2
       have hfz := blk_frozen BK.out 0
       refine skip_ (w1 := ?_) (by rfl) rfl ?_ ?_
       rotate_left
       ·go_simp
        rfl
       refine hK.out _ _ ?_
       clear hK K
       have n0_ := am (Kd.R_set HO.out BK.out (by decide) 0 (.string (x0_1.extract t2.toNat x0_1.size)))
       have n1_ := am (show (w10.setCell ⟨g, 0, none⟩ (.string (x0_1.extract t2.toNat x0_1.size))).heap[g]? = some (.cells #[.string (x0_1.extract t2.toNat x0_1.size)] 38 (0, 0)) from (blk_set BK.out 0 _).trans rfl)
       have n2_ := am (show Below w0.heap.size w0 (w10.setCell ⟨g, 0, none⟩ (.string (x0_1.extract t2.toNat x0_1.size))) from below_set HB.out GE.out)
       have n3_ := am (Kept.setCell (p := ⟨g, 0, none⟩) HK.out (.inl rfl) (.string (x0_1.extract t2.toNat x0_1.size)))
       clear HO BK HB HK hHeld hHeld2 hcz hfz
       have HO := n0_
       have BK := n1_
       have HB := n2_
       have HK := n3_
       clear n0_ n1_ n2_ n3_
       generalize (w10.setCell ⟨g, 0, none⟩ (.string (x0_1.extract t2.toNat x0_1.size))) = w11 at HO BK HB HK ⊢
       refine done_ (by kernel_rfl) ?_
       try go_wp2
       go_roundg k1
       case measure => have := HK1.out; omega
       case rel => exact ⟨x0_1.extract t2.toNat x0_1.size, x3_1 ++ [t1], H', ⟨by have := HK1.out; omega⟩, HO, BK, HB, HK⟩
      ·rw [if_neg c8] at H
       exact absurd H (by simp)
     ·rw [if_neg c7] at H
      exact absurd H (by simp)
    ·rw [if_neg c6] at H
     exact absurd H (by simp)
set_option maxHeartbeats 8000000 in
set_option maxRecDepth 100000 in
theorem impl_Feed.calls (k : Nat) (a0_0 : ByteArray) (a1 : Int) (r1 : ByteArray) (r2 : List Int) (w : World) (h : impl_Feed.f k a0_0 a1 = some (r1, r2)) (hT : TB w) :
  Calls Tryd.prog 26 #[.agg #[.string a0_0], .int .u8 a1] w fun e w' => ∃ v1_ : Value, e = .returned (.tuple #[.agg #[.string r1], v1_]) ∧ Kd.R (Kd.int .i64) 2 w' w.heap.size (fun _ => True) v1_ r2 ∧ Below w.heap.size w w' := by
 have hu26 := Tryd.underlying38
 have HT := am hT
 have HB := am (Below.refl w.heap.size w)
 clear hT
 obtain ⟨t, A1, H⟩ := Option.bind_eq_some_iff.mp h
 have A1' := am A1
 clear h A1
 by_cases c1 : t = true
 ·subst c1
  rw [if_pos rfl] at H
  by_cases c5 : a0_0.size + (strOfNums [a1]).size ≤ 9223372036854775807
  ·rw [if_pos c5] at H
   have H' := am H
   have C5 := am c5
   clear H c5
   go_enter Tryd.func26, Tryd.ntmps26
   go_wp2_with (first | ((with_reducible refine gate_dst (N := 2) rfl ?_); refine box_event ?hg (N := 2) ?hd (cs := #[.string a0_0]) (t := 38) ?hr ?_; (case hd => rfl); (case hg => rfl); (case hr => first | (go_simp; done) | (go_simp; rfl)); intro g1 hg w2 hbox hb; have n0_ := am (below_step HB.out hb); have BK1 := am hbox; have GE1 := am ((by rw [hg]; exact below_size HB.out) : w.heap.size ≤ g1); clear HB; have HB := n0_; clear n0_ hb hbox hg) | ((with_reducible refine gate_dst (N := 4) rfl ?_); refine box_event ?hg (N := 4) ?hd (cs := #[.string (⟨#[]⟩ : ByteArray)]) (t := 38) ?hr ?_; (case hd => rfl); (case hg => rfl); (case hr => first | (go_simp; done) | (go_simp; rfl)); intro g2 hg w3 hbox hb; have n0_ := am (below_step HB.out hb); have BK2 := am hbox; have GE2 := am ((by rw [hg]; exact below_size HB.out) : w.heap.size ≤ g2); have NB := am ((by rw [hg]; exact Nat.ne_of_gt (blk_lt BK1.out)) : g2 ≠ g1); have n1_ := am (blk_below BK1.out hb); clear HB BK1; have HB := n0_; have BK1 := n1_; clear n0_ n1_ hb hbox hg; have hc1 : w3.cell? ⟨g1, 0, none⟩ = some (.string a0_0) := (blk_cell BK1.out 0).trans rfl; have hc2 : w3.cell? ⟨g2, 0, none⟩ = some (.string (⟨#[]⟩ : ByteArray)) := (blk_cell BK2.out 0).trans rfl; have hf2 := blk_frozen BK2.out 0) | ((with_reducible refine gate_callee (f := 28) rfl ?_); refine goesL_ (some 8) rfl rfl Tryd.func28 (by kernel_rfl) rfl #[.agg #[.string a0_0]] rfl (by (try simp only [List.map_toArray, List.map_cons, List.map_nil]); first | done | rfl) ?_; (with_reducible refine (impl_FeederOk.calls a0_0 true _ A1'.out (TB.below HT.out HB.out)).mono ?_); rintro e w5 ⟨rfl, hb⟩; refine ⟨_, rfl, ?_⟩; have n0_ := am (below_step HB.out hb); have n1_ := am (blk_below BK1.out hb); have n2_ := am (blk_below BK2.out hb); clear HB BK1 BK2 hb hc1 hc2 hf2; have HB := n0_; have BK1 := n1_; have BK2 := n2_; clear n0_ n1_ n2_; have hc2 : w5.cell? ⟨g2, 0, none⟩ = some (.string (⟨#[]⟩ : ByteArray)) := (blk_cell BK2.out 0).trans rfl; have hf2 := blk_frozen BK2.out 0) | ((with_reducible refine gate_callee (f := 61) rfl ?_); refine goesL_ (some 12) rfl rfl Tryd.func61 (by kernel_rfl) rfl #[.pointer (some ⟨g1, 0, none⟩), .int .u8 a1] rfl (by (try simp only [List.map_toArray, List.map_cons, List.map_nil]); first | done | rfl) ?_; (with_reducible refine (impl_Feed.feed k g1 a0_0 a1 r1 r2 w _ BK1.out GE1.out HB.out C5.out H'.out HT.out).mono ?_); rintro e w6 ⟨v6, rfl, ho, hbk, hb, hk⟩; refine ⟨_, rfl, ?_⟩; have n0_ := am (blk_kept BK2.out hk NB.out); have HO := am ho; have n1_ := am hbk; have n2_ := am hb; clear BK1 BK2 HB ho hbk hb hk hc2 hf2; have BK2 := n0_; have BK1 := n1_; have HB := n2_; clear n0_ n1_ n2_; have hc1 : w6.cell? ⟨g1, 0, none⟩ = some (.string r1) := (blk_cell BK1.out 0).trans rfl; have hc2 : w6.cell? ⟨g2, 0, none⟩ = some (.string (⟨#[]⟩ : ByteArray)) := (blk_cell BK2.out 0).trans rfl; have hf2 := blk_frozen BK2.out 0))
   refine bodyPost_ret (results_ct rfl _ _ g2 38 #[.string r1] (0, 0) _ rfl (by refine blk_put (cs := #[.string (⟨#[]⟩ : ByteArray)]) ?_ 0 _ rfl; exact BK2.out) Tryd.underlying38 rfl (by kernel_rfl)) rfl ?_
   exact ⟨_, rfl, Kd.R_mono (Kd.R_far (p := ⟨g2, 0, none⟩) (Kd.R_types HO.out BK2.out (by decide)) (fun _ hk => hk.2) (.string r1)) (fun _ _ => trivial), below_set HB.out GE2.out⟩
  ·rw [if_neg c5] at H
   exact absurd H (by simp)
 ·replace c1 := Bool.eq_false_iff.mpr c1
  subst c1
  rw [if_neg (by decide)] at H
  simp only [Option.some.injEq, Prod.mk.injEq] at H
  obtain ⟨rfl, rfl⟩ := H
  go_enter Tryd.func26, Tryd.ntmps26
  go_wp2_with (first | ((with_reducible refine gate_dst (N := 2) rfl ?_); refine box_event ?hg (N := 2) ?hd (cs := #[.string a0_0]) (t := 38) ?hr ?_; (case hd => rfl); (case hg => rfl); (case hr => first | (go_simp; done) | (go_simp; rfl)); intro g1 hg w2 hbox hb; have n0_ := am (below_step HB.out hb); have BK1 := am hbox; have GE1 := am ((by rw [hg]; exact below_size HB.out) : w.heap.size ≤ g1); clear HB; have HB := n0_; clear n0_ hb hbox hg) | ((with_reducible refine gate_dst (N := 4) rfl ?_); refine box_event ?hg (N := 4) ?hd (cs := #[.string (⟨#[]⟩ : ByteArray)]) (t := 38) ?hr ?_; (case hd => rfl); (case hg => rfl); (case hr => first | (go_simp; done) | (go_simp; rfl)); intro g2 hg w3 hbox hb; have n0_ := am (below_step HB.out hb); have BK2 := am hbox; have GE2 := am ((by rw [hg]; exact below_size HB.out) : w.heap.size ≤ g2); have NB := am ((by rw [hg]; exact Nat.ne_of_gt (blk_lt BK1.out)) : g2 ≠ g1); have n1_ := am (blk_below BK1.out hb); clear HB BK1; have HB := n0_; have BK1 := n1_; clear n0_ n1_ hb hbox hg; have hc1 : w3.cell? ⟨g1, 0, none⟩ = some (.string a0_0) := (blk_cell BK1.out 0).trans rfl; have hc2 : w3.cell? ⟨g2, 0, none⟩ = some (.string (⟨#[]⟩ : ByteArray)) := (blk_cell BK2.out 0).trans rfl; have hf2 := blk_frozen BK2.out 0) | ((with_reducible refine gate_callee (f := 28) rfl ?_); refine goesL_ (some 8) rfl rfl Tryd.func28 (by kernel_rfl) rfl #[.agg #[.string a0_0]] rfl (by (try simp only [List.map_toArray, List.map_cons, List.map_nil]); first | done | rfl) ?_; (with_reducible refine (impl_FeederOk.calls a0_0 false _ A1'.out (TB.below HT.out HB.out)).mono ?_); rintro e w5 ⟨rfl, hb⟩; refine ⟨_, rfl, ?_⟩; have n0_ := am (below_step HB.out hb); have n1_ := am (blk_below BK1.out hb); have n2_ := am (blk_below BK2.out hb); clear HB BK1 BK2 hb hc1 hc2 hf2; have HB := n0_; have BK1 := n1_; have BK2 := n2_; clear n0_ n1_ n2_; have hc2 : w5.cell? ⟨g2, 0, none⟩ = some (.string (⟨#[]⟩ : ByteArray)) := (blk_cell BK2.out 0).trans rfl; have hf2 := blk_frozen BK2.out 0))
  refine bodyPost_ret (results_ct rfl _ _ g2 38 #[.string (⟨#[]⟩ : ByteArray)] (0, 0) _ rfl (by refine blk_put (cs := #[.string (⟨#[]⟩ : ByteArray)]) ?_ 0 _ rfl; exact BK2.out) Tryd.underlying38 rfl (by kernel_rfl)) rfl ?_
  exact ⟨_, rfl, Kd.R_nil _ _ _ _ _, below_set HB.out GE2.out⟩

end Go.Proofs.YtfhkpneffmcdbaaDoor.QB
