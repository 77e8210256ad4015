/- Contracts of Go functions that laws of this seat reach: each Lean function answers as its Go function does. No condition. Written by wip/tools/inj.py, over the kit's print. -/
import Derived.Test.YtepeanpoicefdaaDoorPBx0
import Derived.Test.YtepeanpoicefdaaDoorPBx9
import Derived.Test.YtepeanpoicefdaaDoorPBx14
namespace Go.Proofs.YtepeanpoicefdaaDoor.PB
open Go.RowKit Go.Proofs.YtepeanpoicefdaaDoorW.PrintWords Go.Proofs.YtepeanpoicefdaaDoorW.PrintLast Go.Proofs.YtepeanpoicefdaaDoorW.PrintMore
attribute [local go_sem] max2_int min2_int max_two min_two max_three min_three max_four min_four   -- for this text's walks alone
set_option linter.unusedVariables false
set_option linter.unusedSimpArgs false

/-! ### impl_write: function 45 -/
def impl_write.f (k : Nat) (l0 : List (S48)) (a1 : Int) (a2 : Int) (a3_0 : Int) (a3_1 : Int) (a3_2 : Bool) (a3_3 : Bool) (a3_4 : Bool) : Option ((List (S48))) := (impl_Width.f k a2).bind fun t477 => (if t477 = 2 then ((impl_clearCells.f k l0 a1 (wrap64 (a1 + 2)) a3_0 a3_1 a3_2 a3_3 a3_4).bind fun t478 => (if 0 ≤ a1 then (if a1 < (l0.length : Int) then (if 0 ≤ (wrap64 (a1 + 1)) then (if (wrap64 (a1 + 1)) < (l0.length : Int) then (some ((t478.set (a1 : Int).toNat (⟨a2, (⟨a3_0, a3_1, a3_2, a3_3, a3_4⟩ : S37), 1⟩ : S48)).set ((wrap64 (a1 + 1)) : Int).toNat (⟨0, (⟨a3_0, a3_1, a3_2, a3_3, a3_4⟩ : S37), 2⟩ : S48))) else (none)) else (none)) else (none)) else (none))) else ((impl_clearCells.f k l0 a1 (wrap64 (a1 + 1)) a3_0 a3_1 a3_2 a3_3 a3_4).bind fun t481 => (if 0 ≤ a1 then (if a1 < (l0.length : Int) then (some (t481.set (a1 : Int).toNat (⟨a2, (⟨a3_0, a3_1, a3_2, a3_3, a3_4⟩ : S37), 0⟩ : S48))) else (none)) else (none))))
theorem impl_write.mono : ∀ a0 a1 a2 a3 a4 a5 a6 a7 k, LeO (impl_write.f k a0 a1 a2 a3 a4 a5 a6 a7) (impl_write.f (k + 1) a0 a1 a2 a3 a4 a5 a6 a7) := by
 intro a0 a1 a2 a3 a4 a5 a6 a7 k
 unfold impl_write.f
 repeat' first
   | (with_reducible exact impl_Width.mono _ _)
   | (with_reducible exact impl_clearCells.mono _ _ _ _ _ _ _ _ _)
   | (with_reducible exact LeO.refl _)
   | (with_reducible exact LeO.none _)
   | (with_reducible refine LeO.ite ?_ ?_)
   | (with_reducible refine LeO.bind ?_ (fun _ => ?_))
def impl_write.T4 : Bool × List (List Nat × List Nat) := (true, [([], []), ([], []), ([], []), ([], []), ([3], [3]), ([], []), ([], []), ([5, 6], [5, 6]), ([], []), ([8], [8]), ([0, 1, 0, 1, 5, 6, 7], [0, 1]), ([10, 7, 0, 1, 5, 6, 7], [7, 10]), ([2, 4, 0, 1, 2, 3, 4, 5, 6, 7, 8, 9, 10, 11], [2, 4]), ([12, 9, 11, 0, 1, 2, 3, 4, 5, 6, 7, 8, 9, 10, 11], [9, 12])])
def impl_write.B4 : List Nat := [0, 0, 0, 0, 8, 0, 0, 96, 0, 256, 227, 1251, 4095, 8191]
theorem impl_write.tab4 : rtab .any (opsOf Tryd.f45 4) = impl_write.T4 := by kernel_rfl
theorem impl_write.bits4 : waitsOk impl_write.T4.2 impl_write.B4 = true := by kernel_rfl
theorem impl_write.bset {w0 w : World} {g : Nat} (hg : w0.heap.size ≤ g) : ∀ (vs : List Value) (o : Nat), Below w0.heap.size w0 w → Below w0.heap.size w0 (w.setCells g o vs)
 | [], _, h => h
 | v :: r, o, h => impl_write.bset (w := w.setCell ⟨g, o, none⟩ v) hg r (o + 1) (below_set h hg)
theorem impl_write.lw {f : World → Prop} {w' w : World} (e : w' = w) (h : f w) : f w' := e ▸ h
theorem impl_write.kset {w0 w : World} {S : Nat → Prop} {g : Nat} (hg : S g ∨ w0.heap.size ≤ g) : ∀ (vs : List Value) (o : Nat), Kept w0 w S → Kept w0 (w.setCells g o vs) S
 | [], _, h => h
 | v :: r, o, h => impl_write.kset (w := w.setCell ⟨g, o, none⟩ v) hg r (o + 1) (Kept.setCell h hg v)
theorem impl_write.held {w : World} {g g2 : Nat} {v0 v1 v2 v3 v4 : Value} (hne : g ≠ g2) (vs : List Value) (o : Nat) (h : w.cell? ⟨g, 0, none⟩ = some v0 ∧ w.cell? ⟨g, 1, none⟩ = some v1 ∧ w.cell? ⟨g, 2, none⟩ = some v2 ∧ w.cell? ⟨g, 3, none⟩ = some v3 ∧ w.cell? ⟨g, 4, none⟩ = some v4) :
  (w.setCells g2 o vs).cell? ⟨g, 0, none⟩ = some v0 ∧ (w.setCells g2 o vs).cell? ⟨g, 1, none⟩ = some v1 ∧ (w.setCells g2 o vs).cell? ⟨g, 2, none⟩ = some v2 ∧ (w.setCells g2 o vs).cell? ⟨g, 3, none⟩ = some v3 ∧ (w.setCells g2 o vs).cell? ⟨g, 4, none⟩ = some v4 := by
 have key : ∀ i, (w.setCells g2 o vs).cell? ⟨g, i, none⟩ = w.cell? ⟨g, i, none⟩ := fun i => by
  have := setCells_far (w := w) vs o g hne
  simp [World.cell?, this]
 rw [key, key, key, key, key]
 exact h
set_option maxHeartbeats 8000000 in
set_option maxRecDepth 100000 in
theorem impl_write.calls (k : Nat) (P0_ : Nat → Prop) (u9000_ : Value) (l0 : List (S48)) (a1 : Int) (a2 : Int) (a3_0 : Int) (a3_1 : Int) (a3_2 : Bool) (a3_3 : Bool) (a3_4 : Bool) (r : List (S48)) (w0 w : World) (hB : Below w0.heap.size w0 w) (ho0 : Kd.R k48 48 w w0.heap.size P0_ u9000_ l0) (h : impl_write.f k l0 a1 a2 a3_0 a3_1 a3_2 a3_3 a3_4 = some r) :
  Calls Tryd.prog 45 #[u9000_, .int .i64 a1, .int .i64 a2, .agg #[.int .i64 a3_0, .int .i64 a3_1, .bool a3_2, .bool a3_3, .bool a3_4]] w fun e w' => e = .returned (.tuple #[]) ∧ Kd.R k48 48 w' w0.heap.size (fun k_ => (P0_ k_ ∨ w.heap.size ≤ k_)) u9000_ r ∧ Below w0.heap.size w0 w' ∧ Kept w w' (fun k_ => P0_ k_) := by
 have hu37 := Tryd.underlying37
 have hu48 := Tryd.underlying48
 have HO0 := am (show Kd.R k48 48 w w0.heap.size (fun k_ => (P0_ k_ ∨ w.heap.size ≤ k_)) u9000_ l0 from Kd.R_mono ho0 (fun k_ hk => (.inl hk)))
 have HK := am (Kept.refl w (fun k_ => P0_ k_))
 have HW0 := am hB.size
 have HB := am hB
 clear hB
 have H := h
 unfold impl_write.f at H
 clear h
 replace H := Option.bind_eq_some_iff.mp H
 obtain ⟨t477, A50, H⟩ := H
 (try dsimp only at H)
 have A5 := am A50
 clear A50
 by_cases c6 : t477 = 2
 ·rw [if_pos c6] at H
  have c6b0 : (t477 == 2) = true := beq_iff_eq.mpr c6
  have c6b1 : (t477 != 2) = false := bne_eq_false_iff_eq.mpr c6
  clear c6
  replace H := Option.bind_eq_some_iff.mp H
  obtain ⟨t478, A70, H⟩ := H
  (try dsimp only at H)
  have A7 := am A70
  clear A70
  refine em_ (p := 0 ≤ a1) (fun c8 => ?g3p) (fun c8 => ?g3n)
  case' g3p =>
   rw [if_pos c8] at H
   have c8b0 : decide (0 ≤ a1) = true := decide_eq_true c8
   clear c8
   refine em_ (p := a1 < (l0.length : Int)) (fun c9 => ?g2p) (fun c9 => ?g2n)
   case' g2p =>
    rw [if_pos c9] at H
    have c9b0 : decide (a1 < (l0.length : Int)) = true := decide_eq_true c9
    clear c9
    obtain ⟨y479, hy479⟩ : ∃ y_ : List (S48), y_ = (t478.set (a1 : Int).toNat (⟨a2, (⟨a3_0, a3_1, a3_2, a3_3, a3_4⟩ : S37), 1⟩ : S48)) := ⟨_, rfl⟩
    replace H : (if 0 ≤ (wrap64 (a1 + 1)) then (if (wrap64 (a1 + 1)) < (l0.length : Int) then (some (y479.set ((wrap64 (a1 + 1)) : Int).toNat (⟨0, (⟨a3_0, a3_1, a3_2, a3_3, a3_4⟩ : S37), 2⟩ : S48))) else (none)) else (none)) = some r := by first | (rw [hy479]; with_reducible exact H) | (rw [hy479]; exact H) | exact H
    have Ny479 := am hy479
    clear hy479
    obtain ⟨ji11, hji11⟩ : ∃ j_ : Int, (wrap64 (a1 + 1)) = j_ := ⟨_, rfl⟩
    replace H : (if 0 ≤ (ji11) then (if (ji11) < (l0.length : Int) then (some (y479.set ((ji11) : Int).toNat (⟨0, (⟨a3_0, a3_1, a3_2, a3_3, a3_4⟩ : S37), 2⟩ : S48))) else (none)) else (none)) = some r := by first | (rw [hji11] at H; exact H) | (simp only [hji11] at H ⊢; exact H)
    (try rw [hji11] at A5)
    (try rw [hji11] at A7)
    have hji11w : (IntKind.i64.wrap (a1 + 1)) = ji11 := (i64_w _).trans hji11
    refine em_ (p := 0 ≤ (ji11)) (fun c12 => ?g1p) (fun c12 => ?g1n)
    case' g1p =>
     rw [if_pos c12] at H
     have c12b0 : decide (0 ≤ (ji11)) = true := decide_eq_true c12
     clear c12
     refine em_ (p := (ji11) < (l0.length : Int)) (fun c13 => ?g0p) (fun c13 => ?g0n)
     case' g0p =>
      rw [if_pos c13] at H
      have c13b0 : decide ((ji11) < (l0.length : Int)) = true := decide_eq_true c13
      clear c13
      obtain ⟨y480, hy480⟩ : ∃ y_ : List (S48), y_ = (y479.set ((ji11) : Int).toNat (⟨0, (⟨a3_0, a3_1, a3_2, a3_3, a3_4⟩ : S37), 2⟩ : S48)) := ⟨_, rfl⟩
      replace H : (some y480) = some r := by first | (rw [hy480]; with_reducible exact H) | (rw [hy480]; exact H) | exact H
      have Ny480 := am hy480
      clear hy480
      obtain rfl := Option.some.inj H
      have lf1_ := trivial
     case g0n =>
      rw [if_neg c13] at H
      exact absurd H (by simp)
    case g1n =>
     rw [if_neg c12] at H
     exact absurd H (by simp)
   case g2n =>
    rw [if_neg c9] at H
    exact absurd H (by simp)
  case g3n =>
   rw [if_neg c8] at H
   exact absurd H (by simp)
  all_goals
   go_enter Tryd.func45, Tryd.ntmps45
   try go_wp2_with (first | ((with_reducible refine gate_dst (N := 7) rfl ?_); refine box_event ?hg (N := 7) ?hd (cs := #[.int .i64 a3_0, .int .i64 a3_1, .bool a3_2, .bool a3_3, .bool a3_4]) (t := 37) ?hr ?_; (case hd => rfl); (case hg => rfl); (case hr => first | (go_simp; done) | (go_simp; rfl)); intro gb476 hg w15 hbox hb; have n0_ := am (Kd.R_below (rr HO0) hb); have n1_ := am (Kept.below (S := (fun k_ => P0_ k_)) (by repeat (first | (with_reducible first | exact HK.out | apply Kept.alloc | apply Kept.drewN | apply Kept.drew) | exact HK.out)) hb); have n2_ := am (below_step (rb HB) hb); have n3_ := am (hbox); have n4_ := am ((by rw [hg]; exact (by first | exact HK.out.1 | exact (show Kept w _ (fun k_ => P0_ k_) from by repeat (first | (with_reducible first | exact HK.out | apply Kept.alloc | apply Kept.drewN | apply Kept.drew) | exact HK.out)).1) : w.heap.size ≤ gb476)); have n5_ := am ((by rw [hg]; exact (below_size (rb HB)) : w0.heap.size ≤ gb476)); clear HO0; clear HK; clear HB; have HO0 := n0_; have HK := n1_; have HB := n2_; have BK476 := n3_; have GW476 := n4_; have GE476 := n5_; clear n0_ n1_ n2_ n3_ n4_ n5_; clear hb hbox hg) | ((with_reducible refine gate_callee (f := 41) rfl ?_); refine gl_ (some 10) Tryd.func41 #[.int .i64 a2] ?_; (with_reducible refine (impl_Width.calls k a2 t477 _ A5.out).mono ?_); rintro e w' ⟨rfl, ⟨nd, rfl⟩⟩; refine ⟨_, rfl, ?_⟩; (try (rw [drewN_self w15]; generalize hq_ : World.drewN w15 _ = w15; have n0_ : Aside0 (Kd.R k48 48 w15 w0.heap.size (fun k_ => (P0_ k_ ∨ w.heap.size ≤ k_)) u9000_ l0) := ⟨by rw [← hq_]; exact (rr HO0)⟩; have n1_ : Aside0 (w15.heap[gb476]? = some (.cells #[.int .i64 a3_0, .int .i64 a3_1, .bool a3_2, .bool a3_3, .bool a3_4] 37 (0, 0))) := ⟨by rw [← hq_]; exact (rk BK476)⟩; have n2_ : Aside0 (Kept w w15 (fun k_ => P0_ k_)) := ⟨by rw [← hq_]; exact (by repeat (first | (with_reducible first | exact HK.out | apply Kept.alloc | apply Kept.drewN | apply Kept.drew | refine Kept.setCell ?_ (.inr GW476.out) _) | exact HK.out))⟩; have n3_ : Aside0 (Below w0.heap.size w0 w15) := ⟨by rw [← hq_]; exact (rb1 HB GE476)⟩; clear HO0 BK476 HK HB hq_; have HO0 := n0_; have BK476 := n1_; have HK := n2_; have HB := n3_; clear n0_ n1_ n2_ n3_)); have hcz16_0 : w15.cell? ⟨gb476, 0, none⟩ = some (.int .i64 a3_0) := (blk_cell BK476.out 0).trans rfl; have hcz16_1 : w15.cell? ⟨gb476, 1, none⟩ = some (.int .i64 a3_1) := (blk_cell BK476.out 1).trans rfl; have hcz16_2 : w15.cell? ⟨gb476, 2, none⟩ = some (.bool a3_2) := (blk_cell BK476.out 2).trans rfl; have hcz16_3 : w15.cell? ⟨gb476, 3, none⟩ = some (.bool a3_3) := (blk_cell BK476.out 3).trans rfl; have hcz16_4 : w15.cell? ⟨gb476, 4, none⟩ = some (.bool a3_4) := (blk_cell BK476.out 4).trans rfl; have hfz16_0 := blk_frozen BK476.out 0; have hfz16_1 := blk_frozen BK476.out 1; have hfz16_2 := blk_frozen BK476.out 2; have hfz16_3 := blk_frozen BK476.out 3; have hfz16_4 := blk_frozen BK476.out 4; obtain ⟨Ao17, co17, eo17⟩ := Kd.R_slice HO0.out; subst eo17) | ((with_reducible refine gate_callee (f := 48) rfl ?_); refine gl_ (some 18) Tryd.func48 #[.slice Ao17 l0.length co17, .int .i64 a1, .int .i64 (wrap64 (a1 + 2)), .agg #[.int .i64 a3_0, .int .i64 a3_1, .bool a3_2, .bool a3_3, .bool a3_4]] ?_; (with_reducible refine (impl_clearCells.calls k (fun k_ => some k_ = (.slice Ao17 l0.length co17 : Value).ownBlock) (.slice Ao17 l0.length co17) l0 a1 (wrap64 (a1 + 2)) a3_0 a3_1 a3_2 a3_3 a3_4 t478 w0 _ ?side1 ?side2 A7.out).mono ?_); (case side1 => repeat (first | (with_reducible first | exact HB.out | apply b1 | apply b2 | apply b3 | refine below_set ?_ GE476.out) | exact HB.out)); (case side2 => exact Kd.R_tight rfl HO0.out); rintro e w18 ⟨rfl, hy0, hb, hkp⟩; refine ⟨_, rfl, ?_⟩; have n0_ := am (Kd.R_reok rfl hy0 (fun k_ e_ => HO0.out.1 k_ e_)); have n1_ := am (blk_kept (rk BK476) hkp (fun hs_ => (fun e_ => (Kd.R_ne HO0.out BK476.out (by decide)) e_) hs_)); have n2_ := am (Kept.then_ (S := (fun k_ => P0_ k_)) (by repeat (first | (with_reducible first | exact HK.out | apply Kept.alloc | apply Kept.drewN | apply Kept.drew | refine Kept.setCell ?_ (.inr GW476.out) _) | exact HK.out)) hkp (fun k_ hs_ => (fun e_ => (HO0.out.1 k_ e_.symm)) hs_)); have n3_ := am (hb); clear HO0; clear BK476; clear HK; clear HB; have HO0 := n0_; have BK476 := n1_; have HK := n2_; have HB := n3_; clear n0_ n1_ n2_ n3_; (try clear hb); (try clear hkp); (try clear hy0)))
   have n0_ := am (Kd.R_drew HO0.out)
   have n1_ := am (blk_drew BK476.out)
   have n2_ := am (Kept.drew HK.out)
   have n3_ := am (below_drew1 HB.out)
   clear HO0
   clear BK476
   clear HK
   clear HB
   have HO0 := n0_
   have BK476 := n1_
   have HK := n2_
   have HB := n3_
   clear n0_ n1_ n2_ n3_
   have p10 : 0 ≤ (a1 : Int) := dt_
   have q10 : (a1 : Int) < ((l0.length : Int) : Int) := dt_
   obtain ⟨go10, co10, eo10, gb10, gl10, cl10, HG10⟩ := Kd.R_form HO0.out (by first | omega | (have e_ := (Kd.R_reads' HO0.out).1; omega))
   (first | cases eo10 | (injection eo10 with ea_ en_ ec_; (first | subst ea_ | (injection ea_ with ea_; subst ea_)); subst ec_; clear en_))
   have GB10 := am gb10
   have GG10 := am HG10
   clear gb10 gl10 HG10
   have HMgo10 := am (show (P0_ go10 ∨ w.heap.size ≤ go10) from (HO0.out.1 _ rfl))
   obtain ⟨ce10, hcl10, hM10, hcc10, hfr10⟩ := Kd.R_elem HO0.out z48 (a1 : Int) p10 q10
   obtain rfl := k48_openM hM10
   have hx10_0 : World.cell? _ ⟨go10, (a1 : Int).toNat * 7, none⟩ = some (.int .i64 ((rd_T48 t478 a1).f0)) := hcc10 0 _ rfl
   have hx10_1 : World.cell? _ ⟨go10, (a1 : Int).toNat * 7 + 1, none⟩ = some (.int .i64 ((rd_T48 t478 a1).f1.f0)) := hcc10 1 _ rfl
   have hx10_2 : World.cell? _ ⟨go10, (a1 : Int).toNat * 7 + 2, none⟩ = some (.int .i64 ((rd_T48 t478 a1).f1.f1)) := hcc10 2 _ rfl
   have hx10_3 : World.cell? _ ⟨go10, (a1 : Int).toNat * 7 + 3, none⟩ = some (.bool ((rd_T48 t478 a1).f1.f2)) := hcc10 3 _ rfl
   have hx10_4 : World.cell? _ ⟨go10, (a1 : Int).toNat * 7 + 4, none⟩ = some (.bool ((rd_T48 t478 a1).f1.f3)) := hcc10 4 _ rfl
   have hx10_5 : World.cell? _ ⟨go10, (a1 : Int).toNat * 7 + 5, none⟩ = some (.bool ((rd_T48 t478 a1).f1.f4)) := hcc10 5 _ rfl
   have hx10_6 : World.cell? _ ⟨go10, (a1 : Int).toNat * 7 + 6, none⟩ = some (.int .i64 ((rd_T48 t478 a1).f2)) := hcc10 6 _ rfl
   have hf10_0 : World.frozen? _ ⟨go10, (a1 : Int).toNat * 7, none⟩ = false := hfr10 0
   have hf10_1 : World.frozen? _ ⟨go10, (a1 : Int).toNat * 7 + 1, none⟩ = false := hfr10 1
   have hf10_2 : World.frozen? _ ⟨go10, (a1 : Int).toNat * 7 + 2, none⟩ = false := hfr10 2
   have hf10_3 : World.frozen? _ ⟨go10, (a1 : Int).toNat * 7 + 3, none⟩ = false := hfr10 3
   have hf10_4 : World.frozen? _ ⟨go10, (a1 : Int).toNat * 7 + 4, none⟩ = false := hfr10 4
   have hf10_5 : World.frozen? _ ⟨go10, (a1 : Int).toNat * 7 + 5, none⟩ = false := hfr10 5
   have hf10_6 : World.frozen? _ ⟨go10, (a1 : Int).toNat * 7 + 6, none⟩ = false := hfr10 6
   clear hcl10 hcc10 hfr10 hM10
   replace p10 := eq_true p10
   replace q10 := eq_true q10
   obtain ⟨ce20, hcl20, hM20, hcc20, hfr20⟩ := Kd.R_elem HO0.out z48 (a1 : Int) dt_ (by have h_ : (a1 : Int) < ((l0.length : Int) : Int) := dt_; first | exact h_ | (have e_ := (Kd.R_reads' HO0.out).1; omega) | simpa using h_)
   obtain rfl := k48_openM hM20
   have HP20 := (Kd.R_seg HO0.out (a1 : Int) dt_ (by have h_ : (a1 : Int) < ((l0.length : Int) : Int) := dt_; first | exact h_ | (have e_ := (Kd.R_reads' HO0.out).1; omega) | simpa using h_) (seg := [.int .i64 a2, .int .i64 a3_0, .int .i64 a3_1, .bool a3_2, .bool a3_3, .bool a3_4, .int .i64 1]) (j := 0) hcl20 hcc20 (show 7 ≤ 7 from by decide) (x' := (⟨a2, (⟨a3_0, a3_1, a3_2, a3_3, a3_4⟩ : S37), 1⟩ : S48)) (k48_mkM _ _ _ (⟨a2, (⟨a3_0, a3_1, a3_2, a3_3, a3_4⟩ : S37), 1⟩ : S48) ) (fun _ hk => hk)).1
   rw [← Ny479.out] at HP20
   have HQ20 := am HP20
   clear hcl20 hcc20 hfr20 hM20 HP20
   have p14 : 0 ≤ ((ji11) : Int) := dt_
   have q14 : ((ji11) : Int) < ((l0.length : Int) : Int) := dt_
   obtain ⟨ce14, hcl14, hM14, hcc14, hfr14⟩ := Kd.R_elem HQ20.out z48 ((ji11) : Int) p14 q14
   obtain rfl := k48_openM hM14
   have hx14_0 : World.cell? _ ⟨go10, ((ji11) : Int).toNat * 7, none⟩ = some (.int .i64 ((rd_T48 y479 (ji11)).f0)) := hcc14 0 _ rfl
   have hx14_1 : World.cell? _ ⟨go10, ((ji11) : Int).toNat * 7 + 1, none⟩ = some (.int .i64 ((rd_T48 y479 (ji11)).f1.f0)) := hcc14 1 _ rfl
   have hx14_2 : World.cell? _ ⟨go10, ((ji11) : Int).toNat * 7 + 2, none⟩ = some (.int .i64 ((rd_T48 y479 (ji11)).f1.f1)) := hcc14 2 _ rfl
   have hx14_3 : World.cell? _ ⟨go10, ((ji11) : Int).toNat * 7 + 3, none⟩ = some (.bool ((rd_T48 y479 (ji11)).f1.f2)) := hcc14 3 _ rfl
   have hx14_4 : World.cell? _ ⟨go10, ((ji11) : Int).toNat * 7 + 4, none⟩ = some (.bool ((rd_T48 y479 (ji11)).f1.f3)) := hcc14 4 _ rfl
   have hx14_5 : World.cell? _ ⟨go10, ((ji11) : Int).toNat * 7 + 5, none⟩ = some (.bool ((rd_T48 y479 (ji11)).f1.f4)) := hcc14 5 _ rfl
   have hx14_6 : World.cell? _ ⟨go10, ((ji11) : Int).toNat * 7 + 6, none⟩ = some (.int .i64 ((rd_T48 y479 (ji11)).f2)) := hcc14 6 _ rfl
   have hf14_0 : World.frozen? _ ⟨go10, ((ji11) : Int).toNat * 7, none⟩ = false := hfr14 0
   have hf14_1 : World.frozen? _ ⟨go10, ((ji11) : Int).toNat * 7 + 1, none⟩ = false := hfr14 1
   have hf14_2 : World.frozen? _ ⟨go10, ((ji11) : Int).toNat * 7 + 2, none⟩ = false := hfr14 2
   have hf14_3 : World.frozen? _ ⟨go10, ((ji11) : Int).toNat * 7 + 3, none⟩ = false := hfr14 3
   have hf14_4 : World.frozen? _ ⟨go10, ((ji11) : Int).toNat * 7 + 4, none⟩ = false := hfr14 4
   have hf14_5 : World.frozen? _ ⟨go10, ((ji11) : Int).toNat * 7 + 5, none⟩ = false := hfr14 5
   have hf14_6 : World.frozen? _ ⟨go10, ((ji11) : Int).toNat * 7 + 6, none⟩ = false := hfr14 6
   clear hcl14 hcc14 hfr14 hM14
   replace p14 := eq_true p14
   replace q14 := eq_true q14
   obtain ⟨ce21, hcl21, hM21, hcc21, hfr21⟩ := Kd.R_elem HQ20.out z48 ((ji11) : Int) dt_ (by have h_ : ((ji11) : Int) < ((l0.length : Int) : Int) := dt_; first | exact h_ | (have e_ := (Kd.R_reads' HO0.out).1; omega) | simpa using h_)
   obtain rfl := k48_openM hM21
   have HP21 := (Kd.R_seg HQ20.out ((ji11) : Int) dt_ (by have h_ : ((ji11) : Int) < ((l0.length : Int) : Int) := dt_; first | exact h_ | (have e_ := (Kd.R_reads' HO0.out).1; omega) | simpa using h_) (seg := [.int .i64 0, .int .i64 a3_0, .int .i64 a3_1, .bool a3_2, .bool a3_3, .bool a3_4, .int .i64 2]) (j := 0) hcl21 hcc21 (show 7 ≤ 7 from by decide) (x' := (⟨0, (⟨a3_0, a3_1, a3_2, a3_3, a3_4⟩ : S37), 2⟩ : S48)) (k48_mkM _ _ _ (⟨0, (⟨a3_0, a3_1, a3_2, a3_3, a3_4⟩ : S37), 2⟩ : S48) ) (fun _ hk => hk)).1
   rw [← Ny480.out] at HP21
   have HQ21 := am HP21
   clear hcl21 hcc21 hfr21 hM21 HP21
   refine start_ (n := 14) (S := fun w' => w'.cell? ⟨gb476, 0, none⟩ = some (.int .i64 a3_0) ∧ w'.cell? ⟨gb476, 1, none⟩ = some (.int .i64 a3_1) ∧ w'.cell? ⟨gb476, 2, none⟩ = some (.bool a3_2) ∧ w'.cell? ⟨gb476, 3, none⟩ = some (.bool a3_3) ∧ w'.cell? ⟨gb476, 4, none⟩ = some (.bool a3_4)) (ds := [13]) (bm 14 0) (by kernel_rfl) rfl rfl ⟨(blk_cell BK476.out 0).trans rfl, (blk_cell BK476.out 1).trans rfl, (blk_cell BK476.out 2).trans rfl, (blk_cell BK476.out 3).trans rfl, (blk_cell BK476.out 4).trans rfl⟩ (fun hHeld => ?_); refine with_tabW impl_write.tab4 impl_write.bits4 (fun HT_ HW_ => ?_)
   generalize w18.drew = w19 at HO0 BK476 HK HB GG10 HQ20 HQ21 hf10_0 hf10_1 hf10_2 hf10_3 hf10_4 hf10_5 hf10_6 hf14_0 hf14_1 hf14_2 hf14_3 hf14_4 hf14_5 hf14_6 hx10_0 hx10_1 hx10_2 hx10_3 hx10_4 hx10_5 hx10_6 hx14_0 hx14_1 hx14_2 hx14_3 hx14_4 hx14_5 hx14_6 hHeld ⊢
   refine pu_ 0 19 (bm 14 1) HT_.out ?_
   refine pu_ 1 20 (bm 14 3) HT_.out ?_
   refine pu_ 2 21 (bm 14 7) HT_.out ?_
   refine pu_ 3 22 (bm 14 15) HT_.out ?_
   refine pu_ 4 23 (bm 14 31) HT_.out ?_
   refine pu_ 5 24 (bm 14 63) HT_.out ?_
   refine take_ (i := 6) (N := some 25) (v := ?_) (a' := ?_) (bm 14 127) rfl rfl (take_ofW HT_.out HW_.out (by kernel_rfl)) (fun _ _ _ h => h) (Or.inl ⟨by rfl, ?_⟩) hHeld ?_ ?_
   rotate_left
   ·rintro w' ⟨s0, s1, s2, s3, s4⟩
    go_simp
    with_reducible rfl
   rotate_left
   ·simp only [Act.put, List.setIfInBounds_toArray, List.set_cons_zero, List.set_cons_succ, i64_w, i32_w]
    rfl
   refine pu_ 7 26 (bm 14 255) HT_.out ?_
   refine pu_ 10 29 (bm 14 1279) HT_.out ?_
   have NBW : gb476 ≠ go10 := fun e_ => (Kd.R_ne HO0.out BK476.out (by decide)) (by rw [e_]; simp [Value.ownBlock])
   have HSW := am (impl_write.held (g := gb476) (w := w19) NBW [.int .i64 a2, .int .i64 a3_0, .int .i64 a3_1, .bool a3_2, .bool a3_3, .bool a3_4, .int .i64 1] (((a1 : Int).toNat * (k48).sz + 0)) hHeld)
   clear NBW
   obtain ⟨s0, s1, s2, s3, s4⟩ := hHeld
   refine join_ (σ := Unit) 2 (bm 14 4095) (fun _ => [(27, .agg #[.int .i64 a3_0, .int .i64 a3_1, .bool a3_2, .bool a3_3, .bool a3_4]), (28, .agg #[.int .i64 0, .int .i64 a3_0, .int .i64 a3_1, .bool a3_2, .bool a3_3, .bool a3_4, .int .i64 2])]) (fun _ w' => w' = (w19.setCells go10 ((a1 : Int).toNat * (k48).sz + 0) [.int .i64 a2, .int .i64 a3_0, .int .i64 a3_1, .bool a3_2, .bool a3_3, .bool a3_4, .int .i64 1])) ?hcont (fun hc => ?orders)
   case orders =>
    refine two_ (i := 8) (j := 11) (Ni := some 27) (Nj := none) (bm 14 1535) (bm 14 3327) rfl rfl rfl rfl (two_of HT_.out (by kernel_rfl)) (by decide) (by decide) (fun K hK => ?_) (fun K hK => ?_)
    ·refine value_ (w1 := ?_) (v := ?_) (by rfl) rfl ?_ ?_
     rotate_left 2
     ·go_simp
      constructor
      ·rfl
      ·rfl
     refine hK.out _ _ ⟨s0, s1, s2, s3, s4⟩ (fun _ => ?_)
     clear hK K
     refine norm_ (a' := ?_) ?_ ?_
     rotate_left
     ·show Act.put _ (some 27) _ = _
      simp only [Act.put, List.setIfInBounds_toArray, List.set_cons_zero, List.set_cons_succ, i64_w, i32_w]
      rfl
     refine pu_ 9 28 (bm 14 2047) HT_.out ?_
     refine one_ (i := 11) (N := none) (bm 14 4095) rfl rfl (one_of HT_.out (by kernel_rfl)) (by decide) (fun K hK => ?_)
     refine skip_ (w1 := ?_) (by rfl) rfl ?_ ?_
     rotate_left
     ·go_simp
      rfl
     refine hK.out _ _ HSW.out (fun _ => ?_)
     clear hK K
     refine impl_write.lw (w := (w19.setCells go10 ((a1 : Int).toNat * (k48).sz + 0) [.int .i64 a2, .int .i64 a3_0, .int .i64 a3_1, .bool a3_2, .bool a3_3, .bool a3_4, .int .i64 1])) rfl ?_
     refine norm_ ?_ (hc () _ rfl)
     rfl
    ·refine skip_ (w1 := ?_) (by rfl) rfl ?_ ?_
     rotate_left
     ·go_simp
      rfl
     refine hK.out _ _ HSW.out (fun _ => ?_)
     clear hK K s0 s1 s2 s3 s4
     obtain ⟨s0, s1, s2, s3, s4⟩ := HSW.out
     refine impl_write.lw (w := (w19.setCells go10 ((a1 : Int).toNat * (k48).sz + 0) [.int .i64 a2, .int .i64 a3_0, .int .i64 a3_1, .bool a3_2, .bool a3_3, .bool a3_4, .int .i64 1])) rfl ?_
     generalize hwz_ : (w19.setCells go10 ((a1 : Int).toNat * (k48).sz + 0) [.int .i64 a2, .int .i64 a3_0, .int .i64 a3_1, .bool a3_2, .bool a3_3, .bool a3_4, .int .i64 1]) = wz_ at s0 s1 s2 s3 s4 ⊢
     refine one_ (i := 8) (N := some 27) (bm 14 3583) rfl rfl (one_of HT_.out (by kernel_rfl)) (by decide) (fun K hK => ?_)
     refine value_ (w1 := ?_) (v := ?_) (by rfl) rfl ?_ ?_
     rotate_left 2
     ·go_simp
      constructor
      ·rfl
      ·rfl
     refine hK.out _ _ ⟨s0, s1, s2, s3, s4⟩ (fun _ => ?_)
     clear hK K
     refine norm_ (a' := ?_) ?_ ?_
     rotate_left
     ·show Act.put _ (some 27) _ = _
      simp only [Act.put, List.setIfInBounds_toArray, List.set_cons_zero, List.set_cons_succ, i64_w, i32_w]
      rfl
     refine pu_ 9 28 (bm 14 4095) HT_.out ?_
     refine norm_ ?_ (hc () _ hwz_.symm)
     rfl
   case hcont =>
    rintro _ _ rfl
    clear s0 s1 s2 s3 s4
    refine norm_ (a' := ?_) ?_ ?_
    rotate_left
    ·simp only [putAll, Act.put, List.setIfInBounds_toArray, List.set_cons_zero, List.set_cons_succ]
     rfl
    have HBa_ := am (impl_write.bset GB10.out [.int .i64 a2, .int .i64 a3_0, .int .i64 a3_1, .bool a3_2, .bool a3_3, .bool a3_4, .int .i64 1] ((a1 : Int).toNat * (k48).sz + 0) HB.out)
    have HKa_ := am (impl_write.kset HMgo10.out [.int .i64 a2, .int .i64 a3_0, .int .i64 a3_1, .bool a3_2, .bool a3_3, .bool a3_4, .int .i64 1] ((a1 : Int).toNat * (k48).sz + 0) HK.out)
    clear HB HK
    have HB := HBa_
    have HK := HKa_
    clear HBa_ HKa_
    generalize (w19.setCells go10 ((a1 : Int).toNat * (k48).sz + 0) [.int .i64 a2, .int .i64 a3_0, .int .i64 a3_1, .bool a3_2, .bool a3_3, .bool a3_4, .int .i64 1]) = wz_ at HB HK HQ20 HQ21 hx14_0 hx14_1 hx14_2 hx14_3 hx14_4 hx14_5 hx14_6 hf14_0 hf14_1 hf14_2 hf14_3 hf14_4 hf14_5 hf14_6 ⊢
    refine pu_ 12 30 (bm 14 8191) HT_.out ?_
    refine last_ (i := 13) (N := none) (bm 14 16383) rfl rfl (one_of HT_.out (by kernel_rfl)) (by decide) (fun K hK => ?_)
    refine skip_ (w1 := ?_) (by rfl) rfl ?_ ?_
    rotate_left
    ·go_simp
     rfl
    refine hK.out _ _ ?_
    clear hK K
    refine done_ (done_of HT_.out (by kernel_rfl)) ?_
    try go_wp2
    first | go_end0 | ((try simp only [Exit.inBlock, Exit.then]); refine bodyPost_ret (results_none rfl _ _ _) rfl ?_)
    exact ⟨by first | rfl | (simp [errW_none, errW_some] <;> rfl) | (simp only [← hji11]; first | rfl | (simp [errW_none, errW_some] <;> rfl)) | (simp [*, errW_none, errW_some] <;> rfl), by (with_reducible repeat (first | apply r1 | apply r2 | apply r3)); exact HQ21.out, by repeat (first | (with_reducible first | exact HB.out | apply b1 | apply b2 | apply b3 | refine below_set ?_ GB10.out | refine below_set ?_ GB10.out | refine below_set ?_ GB10.out | refine below_set ?_ GB10.out | refine below_set ?_ GB10.out | refine below_set ?_ GB10.out | refine below_set ?_ GB10.out | refine below_set ?_ GB10.out | refine below_set ?_ GB10.out | refine below_set ?_ GB10.out | refine below_set ?_ GB10.out | refine below_set ?_ GB10.out | refine below_set ?_ GB10.out | refine below_set ?_ GB10.out | refine below_set ?_ GE476.out) | exact HB.out), by repeat (first | (with_reducible first | exact HK.out | apply Kept.alloc | apply Kept.drewN | apply Kept.drew | refine Kept.setCell ?_ HMgo10.out _ | refine Kept.setCell ?_ HMgo10.out _ | refine Kept.setCell ?_ HMgo10.out _ | refine Kept.setCell ?_ HMgo10.out _ | refine Kept.setCell ?_ HMgo10.out _ | refine Kept.setCell ?_ HMgo10.out _ | refine Kept.setCell ?_ HMgo10.out _ | refine Kept.setCell ?_ HMgo10.out _ | refine Kept.setCell ?_ HMgo10.out _ | refine Kept.setCell ?_ HMgo10.out _ | refine Kept.setCell ?_ HMgo10.out _ | refine Kept.setCell ?_ HMgo10.out _ | refine Kept.setCell ?_ HMgo10.out _ | refine Kept.setCell ?_ HMgo10.out _ | refine Kept.setCell ?_ (.inr GW476.out) _) | exact HK.out)⟩
 ·rw [if_neg c6] at H
  have c6b0 : (t477 == 2) = false := beq_eq_false_iff_ne.mpr c6
  have c6b1 : (t477 != 2) = true := bne_iff_ne.mpr c6
  replace H := Option.bind_eq_some_iff.mp H
  obtain ⟨t481, A220, H⟩ := H
  (try dsimp only at H)
  have A22 := am A220
  clear A220
  refine em_ (p := 0 ≤ a1) (fun c23 => ?g5p) (fun c23 => ?g5n)
  case' g5p =>
   rw [if_pos c23] at H
   have c23b0 : decide (0 ≤ a1) = true := decide_eq_true c23
   clear c23
   refine em_ (p := a1 < (l0.length : Int)) (fun c24 => ?g4p) (fun c24 => ?g4n)
   case' g4p =>
    rw [if_pos c24] at H
    have c24b0 : decide (a1 < (l0.length : Int)) = true := decide_eq_true c24
    clear c24
    obtain ⟨y482, hy482⟩ : ∃ y_ : List (S48), y_ = (t481.set (a1 : Int).toNat (⟨a2, (⟨a3_0, a3_1, a3_2, a3_3, a3_4⟩ : S37), 0⟩ : S48)) := ⟨_, rfl⟩
    replace H : (some y482) = some r := by first | (rw [hy482]; with_reducible exact H) | (rw [hy482]; exact H) | exact H
    have Ny482 := am hy482
    clear hy482
    obtain rfl := Option.some.inj H
    have lf2_ := trivial
   case g4n =>
    rw [if_neg c24] at H
    exact absurd H (by simp)
  case g5n =>
   rw [if_neg c23] at H
   exact absurd H (by simp)
  all_goals
   go_enter Tryd.func45, Tryd.ntmps45
   go_wp2_with (first | ((with_reducible refine gate_dst (N := 7) rfl ?_); refine box_event ?hg (N := 7) ?hd (cs := #[.int .i64 a3_0, .int .i64 a3_1, .bool a3_2, .bool a3_3, .bool a3_4]) (t := 37) ?hr ?_; (case hd => rfl); (case hg => rfl); (case hr => first | (go_simp; done) | (go_simp; rfl)); intro gb476 hg w26 hbox hb; have n0_ := am (Kd.R_below (rr HO0) hb); have n1_ := am (Kept.below (S := (fun k_ => P0_ k_)) (by repeat (first | (with_reducible first | exact HK.out | apply Kept.alloc | apply Kept.drewN | apply Kept.drew) | exact HK.out)) hb); have n2_ := am (below_step (rb HB) hb); have n3_ := am (hbox); have n4_ := am ((by rw [hg]; exact (by first | exact HK.out.1 | exact (show Kept w _ (fun k_ => P0_ k_) from by repeat (first | (with_reducible first | exact HK.out | apply Kept.alloc | apply Kept.drewN | apply Kept.drew) | exact HK.out)).1) : w.heap.size ≤ gb476)); have n5_ := am ((by rw [hg]; exact (below_size (rb HB)) : w0.heap.size ≤ gb476)); clear HO0; clear HK; clear HB; have HO0 := n0_; have HK := n1_; have HB := n2_; have BK476 := n3_; have GW476 := n4_; have GE476 := n5_; clear n0_ n1_ n2_ n3_ n4_ n5_; clear hb hbox hg) | ((with_reducible refine gate_callee (f := 41) rfl ?_); refine gl_ (some 10) Tryd.func41 #[.int .i64 a2] ?_; (with_reducible refine (impl_Width.calls k a2 t477 _ A5.out).mono ?_); rintro e w' ⟨rfl, ⟨nd, rfl⟩⟩; refine ⟨_, rfl, ?_⟩; (try (rw [drewN_self w26]; generalize hq_ : World.drewN w26 _ = w26; have n0_ : Aside0 (Kd.R k48 48 w26 w0.heap.size (fun k_ => (P0_ k_ ∨ w.heap.size ≤ k_)) u9000_ l0) := ⟨by rw [← hq_]; exact (rr HO0)⟩; have n1_ : Aside0 (w26.heap[gb476]? = some (.cells #[.int .i64 a3_0, .int .i64 a3_1, .bool a3_2, .bool a3_3, .bool a3_4] 37 (0, 0))) := ⟨by rw [← hq_]; exact (rk BK476)⟩; have n2_ : Aside0 (Kept w w26 (fun k_ => P0_ k_)) := ⟨by rw [← hq_]; exact (by repeat (first | (with_reducible first | exact HK.out | apply Kept.alloc | apply Kept.drewN | apply Kept.drew | refine Kept.setCell ?_ (.inr GW476.out) _) | exact HK.out))⟩; have n3_ : Aside0 (Below w0.heap.size w0 w26) := ⟨by rw [← hq_]; exact (rb1 HB GE476)⟩; clear HO0 BK476 HK HB hq_; have HO0 := n0_; have BK476 := n1_; have HK := n2_; have HB := n3_; clear n0_ n1_ n2_ n3_)); have hcz27_0 : w26.cell? ⟨gb476, 0, none⟩ = some (.int .i64 a3_0) := (blk_cell BK476.out 0).trans rfl; have hcz27_1 : w26.cell? ⟨gb476, 1, none⟩ = some (.int .i64 a3_1) := (blk_cell BK476.out 1).trans rfl; have hcz27_2 : w26.cell? ⟨gb476, 2, none⟩ = some (.bool a3_2) := (blk_cell BK476.out 2).trans rfl; have hcz27_3 : w26.cell? ⟨gb476, 3, none⟩ = some (.bool a3_3) := (blk_cell BK476.out 3).trans rfl; have hcz27_4 : w26.cell? ⟨gb476, 4, none⟩ = some (.bool a3_4) := (blk_cell BK476.out 4).trans rfl; have hfz27_0 := blk_frozen BK476.out 0; have hfz27_1 := blk_frozen BK476.out 1; have hfz27_2 := blk_frozen BK476.out 2; have hfz27_3 := blk_frozen BK476.out 3; have hfz27_4 := blk_frozen BK476.out 4; obtain ⟨Ao28, co28, eo28⟩ := Kd.R_slice HO0.out; subst eo28) | ((with_reducible refine gate_callee (f := 48) rfl ?_); refine gl_ (some 36) Tryd.func48 #[.slice Ao28 l0.length co28, .int .i64 a1, .int .i64 (wrap64 (a1 + 1)), .agg #[.int .i64 a3_0, .int .i64 a3_1, .bool a3_2, .bool a3_3, .bool a3_4]] ?_; (with_reducible refine (impl_clearCells.calls k (fun k_ => some k_ = (.slice Ao28 l0.length co28 : Value).ownBlock) (.slice Ao28 l0.length co28) l0 a1 (wrap64 (a1 + 1)) a3_0 a3_1 a3_2 a3_3 a3_4 t481 w0 _ ?side1 ?side2 A22.out).mono ?_); (case side1 => repeat (first | (with_reducible first | exact HB.out | apply b1 | apply b2 | apply b3 | refine below_set ?_ GE476.out) | exact HB.out)); (case side2 => exact Kd.R_tight rfl HO0.out); rintro e w29 ⟨rfl, hy0, hb, hkp⟩; refine ⟨_, rfl, ?_⟩; have n0_ := am (Kd.R_reok rfl hy0 (fun k_ e_ => HO0.out.1 k_ e_)); have n1_ := am (blk_kept (rk BK476) hkp (fun hs_ => (fun e_ => (Kd.R_ne HO0.out BK476.out (by decide)) e_) hs_)); have n2_ := am (Kept.then_ (S := (fun k_ => P0_ k_)) (by repeat (first | (with_reducible first | exact HK.out | apply Kept.alloc | apply Kept.drewN | apply Kept.drew | refine Kept.setCell ?_ (.inr GW476.out) _) | exact HK.out)) hkp (fun k_ hs_ => (fun e_ => (HO0.out.1 k_ e_.symm)) hs_)); have n3_ := am (hb); clear HO0; clear BK476; clear HK; clear HB; have HO0 := n0_; have BK476 := n1_; have HK := n2_; have HB := n3_; clear n0_ n1_ n2_ n3_; (try clear hb); (try clear hkp); (try clear hy0); have hcz30_0 : w29.cell? ⟨gb476, 0, none⟩ = some (.int .i64 a3_0) := (blk_cell BK476.out 0).trans rfl; have hcz30_1 : w29.cell? ⟨gb476, 1, none⟩ = some (.int .i64 a3_1) := (blk_cell BK476.out 1).trans rfl; have hcz30_2 : w29.cell? ⟨gb476, 2, none⟩ = some (.bool a3_2) := (blk_cell BK476.out 2).trans rfl; have hcz30_3 : w29.cell? ⟨gb476, 3, none⟩ = some (.bool a3_3) := (blk_cell BK476.out 3).trans rfl; have hcz30_4 : w29.cell? ⟨gb476, 4, none⟩ = some (.bool a3_4) := (blk_cell BK476.out 4).trans rfl; have hfz30_0 := blk_frozen BK476.out 0; have hfz30_1 := blk_frozen BK476.out 1; have hfz30_2 := blk_frozen BK476.out 2; have hfz30_3 := blk_frozen BK476.out 3; have hfz30_4 := blk_frozen BK476.out 4; have p25 : 0 ≤ (a1 : Int) := dt_; have q25 : (a1 : Int) < ((l0.length : Int) : Int) := dt_; obtain ⟨go25, co25, eo25, gb25, gl25, cl25, HG25⟩ := Kd.R_form HO0.out (by first | omega | (have e_ := (Kd.R_reads' HO0.out).1; omega)); (first | cases eo25 | (injection eo25 with ea_ en_ ec_; (first | subst ea_ | (injection ea_ with ea_; subst ea_)); subst ec_; clear en_)); have GB25 := am gb25; have GG25 := am HG25; clear gb25 gl25 HG25; have HMgo25 := am (show (P0_ go25 ∨ w.heap.size ≤ go25) from (HO0.out.1 _ rfl)); obtain ⟨ce25, hcl25, hM25, hcc25, hfr25⟩ := Kd.R_elem HO0.out z48 (a1 : Int) p25 q25; obtain rfl := k48_openM hM25; have hx25_0 : w29.cell? ⟨go25, (a1 : Int).toNat * 7, none⟩ = some (.int .i64 ((rd_T48 t481 a1).f0)) := hcc25 0 _ rfl; have hx25_1 : w29.cell? ⟨go25, (a1 : Int).toNat * 7 + 1, none⟩ = some (.int .i64 ((rd_T48 t481 a1).f1.f0)) := hcc25 1 _ rfl; have hx25_2 : w29.cell? ⟨go25, (a1 : Int).toNat * 7 + 2, none⟩ = some (.int .i64 ((rd_T48 t481 a1).f1.f1)) := hcc25 2 _ rfl; have hx25_3 : w29.cell? ⟨go25, (a1 : Int).toNat * 7 + 3, none⟩ = some (.bool ((rd_T48 t481 a1).f1.f2)) := hcc25 3 _ rfl; have hx25_4 : w29.cell? ⟨go25, (a1 : Int).toNat * 7 + 4, none⟩ = some (.bool ((rd_T48 t481 a1).f1.f3)) := hcc25 4 _ rfl; have hx25_5 : w29.cell? ⟨go25, (a1 : Int).toNat * 7 + 5, none⟩ = some (.bool ((rd_T48 t481 a1).f1.f4)) := hcc25 5 _ rfl; have hx25_6 : w29.cell? ⟨go25, (a1 : Int).toNat * 7 + 6, none⟩ = some (.int .i64 ((rd_T48 t481 a1).f2)) := hcc25 6 _ rfl; have hf25_0 : w29.frozen? ⟨go25, (a1 : Int).toNat * 7, none⟩ = false := hfr25 0; have hf25_1 : w29.frozen? ⟨go25, (a1 : Int).toNat * 7 + 1, none⟩ = false := hfr25 1; have hf25_2 : w29.frozen? ⟨go25, (a1 : Int).toNat * 7 + 2, none⟩ = false := hfr25 2; have hf25_3 : w29.frozen? ⟨go25, (a1 : Int).toNat * 7 + 3, none⟩ = false := hfr25 3; have hf25_4 : w29.frozen? ⟨go25, (a1 : Int).toNat * 7 + 4, none⟩ = false := hfr25 4; have hf25_5 : w29.frozen? ⟨go25, (a1 : Int).toNat * 7 + 5, none⟩ = false := hfr25 5; have hf25_6 : w29.frozen? ⟨go25, (a1 : Int).toNat * 7 + 6, none⟩ = false := hfr25 6; clear hcl25 hcc25 hfr25 hM25; replace p25 := eq_true p25; replace q25 := eq_true q25; have HX31 := am (show Kd.R k48 48 w29 w0.heap.size (fun k_ => (P0_ k_ ∨ w.heap.size ≤ k_)) (.slice (some ⟨go25, 0, none⟩) l0.length co28) t481 from (rr HO0)); obtain ⟨ce31, hcl31, hM31, hcc31, hfr31⟩ := Kd.R_elem HX31.out z48 (a1 : Int) dt_ (by have h_ : (a1 : Int) < ((l0.length : Int) : Int) := dt_; first | exact h_ | (have e_ := (Kd.R_reads' HO0.out).1; omega) | simpa using h_); obtain rfl := k48_openM hM31; have HP31 := Kd.R_seg HX31.out (a1 : Int) dt_ (by have h_ : (a1 : Int) < ((l0.length : Int) : Int) := dt_; first | exact h_ | (have e_ := (Kd.R_reads' HO0.out).1; omega) | simpa using h_) (seg := [.int .i64 a2, .int .i64 a3_0, .int .i64 a3_1, .bool a3_2, .bool a3_3, .bool a3_4, .int .i64 0]) (j := 0) hcl31 hcc31 (show 7 ≤ 7 from by decide) (x' := (⟨a2, (⟨a3_0, a3_1, a3_2, a3_3, a3_4⟩ : S37), 0⟩ : S48)) (k48_mkM _ _ _ (⟨a2, (⟨a3_0, a3_1, a3_2, a3_3, a3_4⟩ : S37), 0⟩ : S48) ) (fun _ hk => hk); have hx31_0 := hcc31 0 _ rfl; (try simp only [show (k48).sz = 7 from rfl, Nat.mul_one, Nat.add_zero] at hx31_0); have hf31_0 := hfr31 0; (try simp only [show (k48).sz = 7 from rfl, Nat.mul_one, Nat.add_zero] at hf31_0); have hx31_1 := hcc31 1 _ rfl; (try simp only [show (k48).sz = 7 from rfl, Nat.mul_one, Nat.add_zero] at hx31_1); have hf31_1 := hfr31 1; (try simp only [show (k48).sz = 7 from rfl, Nat.mul_one, Nat.add_zero] at hf31_1); have hx31_2 := hcc31 2 _ rfl; (try simp only [show (k48).sz = 7 from rfl, Nat.mul_one, Nat.add_zero] at hx31_2); have hf31_2 := hfr31 2; (try simp only [show (k48).sz = 7 from rfl, Nat.mul_one, Nat.add_zero] at hf31_2); have hx31_3 := hcc31 3 _ rfl; (try simp only [show (k48).sz = 7 from rfl, Nat.mul_one, Nat.add_zero] at hx31_3); have hf31_3 := hfr31 3; (try simp only [show (k48).sz = 7 from rfl, Nat.mul_one, Nat.add_zero] at hf31_3); have hx31_4 := hcc31 4 _ rfl; (try simp only [show (k48).sz = 7 from rfl, Nat.mul_one, Nat.add_zero] at hx31_4); have hf31_4 := hfr31 4; (try simp only [show (k48).sz = 7 from rfl, Nat.mul_one, Nat.add_zero] at hf31_4); have hx31_5 := hcc31 5 _ rfl; (try simp only [show (k48).sz = 7 from rfl, Nat.mul_one, Nat.add_zero] at hx31_5); have hf31_5 := hfr31 5; (try simp only [show (k48).sz = 7 from rfl, Nat.mul_one, Nat.add_zero] at hf31_5); have hx31_6 := hcc31 6 _ rfl; (try simp only [show (k48).sz = 7 from rfl, Nat.mul_one, Nat.add_zero] at hx31_6); have hf31_6 := hfr31 6; (try simp only [show (k48).sz = 7 from rfl, Nat.mul_one, Nat.add_zero] at hf31_6); clear hcl31 hcc31 hfr31 hM31) | ((with_reducible refine gate_store (t := 48) (p := 42) rfl ?_); refine store_event (t := 48) (p := 42) (v := ?vo_w32) (w1 := (((((((w29.setCell ⟨go25, (a1 : Int).toNat * 7, none⟩ (.int .i64 a2)).setCell ⟨go25, (a1 : Int).toNat * 7 + 1, none⟩ (.int .i64 a3_0)).setCell ⟨go25, (a1 : Int).toNat * 7 + 2, none⟩ (.int .i64 a3_1)).setCell ⟨go25, (a1 : Int).toNat * 7 + 3, none⟩ (.bool a3_2)).setCell ⟨go25, (a1 : Int).toNat * 7 + 4, none⟩ (.bool a3_3)).setCell ⟨go25, (a1 : Int).toNat * 7 + 5, none⟩ (.bool a3_4)).setCell ⟨go25, (a1 : Int).toNat * 7 + 6, none⟩ (.int .i64 0))) ?hg ?ho ?hn ?hr ?_; (case ho => rfl); (case hg => rfl); (case hn => rfl); (case hr => first | (go_simp; done) | (go_simp; rfl)); intro w32 hw; have hg : w29.grownBy w32 (some go25) := (by rw [hw]; exact HP31.2); have hp_ : Kd.R k48 48 w32 w0.heap.size (fun k_ => (P0_ k_ ∨ w.heap.size ≤ k_)) (.slice (some ⟨go25, 0, none⟩) l0.length co28) y482 := (by rw [hw, Ny482.out]; exact HP31.1); clear HP31; have n0_ := am (hp_); have n1_ := am (blk_grown (g := gb476) (o := .cells #[.int .i64 a3_0, .int .i64 a3_1, .bool a3_2, .bool a3_3, .bool a3_4] 37 (0, 0)) (rk BK476) hg (Kd.R_ne HO0.out BK476.out (by decide))); have n2_ := am ((by rw [hw]; exact below_set (below_set (below_set (below_set (below_set (below_set (below_set (HB.out) GB25.out) GB25.out) GB25.out) GB25.out) GB25.out) GB25.out) GB25.out : Below w0.heap.size w0 w32)); have n3_ := am (Kept.of_grown (S := (fun k_ => P0_ k_)) hg (by repeat (first | (with_reducible first | exact HK.out | apply Kept.alloc | apply Kept.drewN | apply Kept.drew | refine Kept.setCell ?_ (.inr GW476.out) _) | exact HK.out)) (fun k_ e_ => (HO0.out.1 k_ e_))); clear HO0; clear BK476; clear HB; clear HK; have HO0 := n0_; have BK476 := n1_; have HB := n2_; have HK := n3_; clear n0_ n1_ n2_ n3_; clear hg hw hp_))
   first | go_end0 | ((try simp only [Exit.inBlock, Exit.then]); refine bodyPost_ret (results_none rfl _ _ _) rfl ?_)
   exact ⟨by first | rfl | (simp [errW_none, errW_some] <;> rfl) | (simp [*, errW_none, errW_some] <;> rfl), by (with_reducible repeat (first | apply r1 | apply r2 | apply r3)); exact HO0.out, by repeat (first | (with_reducible first | exact HB.out | apply b1 | apply b2 | apply b3 | refine below_set ?_ GE476.out) | exact HB.out), by repeat (first | (with_reducible first | exact HK.out | apply Kept.alloc | apply Kept.drewN | apply Kept.drew | refine Kept.setCell ?_ (.inr GW476.out) _) | exact HK.out)⟩

end Go.Proofs.YtepeanpoicefdaaDoor.PB
