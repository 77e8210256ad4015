/- Contracts of Go functions that laws of this seat reach: each Lean function answers as its Go function does. No condition. Written by wip/tools/inj.py, over the kit's print. -/
import Derived.Test.YtfhkpneffmcdbaaQDx0
import Derived.Test.YtfhkpneffmcdbaaQDx3
import Derived.Test.YtfhkpneffmcdbaaQDx7
import Derived.Test.YtfhkpneffmcdbaaQDx8
import Derived.Test.YtfhkpneffmcdbaaQDx16
import Derived.Test.YtfhkpneffmcdbaaQDx17
import Derived.Test.YtfhkpneffmcdbaaQDx18
import Derived.Test.YtfhkpneffmcdbaaQDx20
import Derived.Test.YtfhkpneffmcdbaaQDx23
namespace Go.Proofs.Ytfhkpneffmcdbaa.QD
open Go.RowKit Go.Proofs.YtfhkpneffmcdbaaW.PrintWords Go.Proofs.YtfhkpneffmcdbaaW.PrintLast Go.Proofs.YtfhkpneffmcdbaaW.PrintMore
attribute [local go_sem] max2_int min2_int max_two min_two max_three min_three max_four min_four   -- for this text's walks alone
set_option linter.unusedVariables false
set_option linter.unusedSimpArgs false

/-! ### laws_FnExactPushed: function 4 -/
def laws_FnExactPushed.j0 : Nat → List (S60) → Int → Int → List (S40) → List (S40) → Bool → Int → Int → Bool → Bool → Bool → Option (Bool)
 | 0, _, _, _, _, _, _, _, _, _, _, _ => none
 | k + 1, x0, x1, x2, x10, x12, x56, x536000, x536001, x536002, x536003, x536004 => if x56 = true then (some false) else ((laws_markCellS.f k x12 1).bind fun bt567 => ((laws_heldCellS.f k bt567.2 1).bind fun t569 => (if t569 < 0 then (some false) else (if t569 = bt567.1 then ((laws_toCellS.f k x0).bind fun t570 => ((laws_toStyle.f x536000 x536001 x536002 x536003 x536004).bind fun bt573 => ((impl_Pushed.f k t570 x1 x2 bt573.1 bt573.2.1 bt573.2.2.1 bt573.2.2.2.1 bt573.2.2.2.2).bind fun t578 => ((laws_eqCellS.f k t578 x10).bind fun t581 => (if t581 = true then ((laws_heldCellS.f k bt567.2 1).bind fun t582 => (if t582 < 0 then (some false) else (if t582 = bt567.1 then (some true) else (some false)))) else (some false)))))) else (some false)))))
def laws_FnExactPushed.f (k : Nat) (l0 : List (S60)) (a1 : Int) (a2 : Int) (a3_0 : Int) (a3_1 : Int) (a3_2 : Bool) (a3_3 : Bool) (a3_4 : Bool) : Option (Bool) := (laws_szCellS.f l0 1048576).bind fun t536 => (if t536 < 0 then (some true) else ((laws_toCellS.f k l0).bind fun t537 => ((laws_toStyle.f a3_0 a3_1 a3_2 a3_3 a3_4).bind fun bt540 => ((spec_Pushed.f k t537 a1 a2 bt540.1 bt540.2.1 bt540.2.2.1 bt540.2.2.2.1 bt540.2.2.2.2).bind fun t545 => ((laws_toCellS.f k l0).bind fun t548 => ((laws_toStyle.f a3_0 a3_1 a3_2 a3_3 a3_4).bind fun bt551 => ((impl_Pushed.f k t548 a1 a2 bt551.1 bt551.2.1 bt551.2.2.1 bt551.2.2.2.1 bt551.2.2.2.2).bind fun t556 => ((laws_eqCellS.f k t556 t545).bind fun t559 => (if t559 = true then ((laws_toCellS.f k l0).bind fun t560 => ((laws_eqCellS.f k t548 t560).bind fun t563 => (if t563 = true then ((laws_markCellS.f k t548 1).bind fun bt564 => (if bt564.1 < 0 then (laws_FnExactPushed.j0 k l0 a1 a2 t545 t556 true a3_0 a3_1 a3_2 a3_3 a3_4) else ((laws_eqCellS.f k t556 t545).bind fun t566 => (laws_FnExactPushed.j0 k l0 a1 a2 t545 t556 (!t566) a3_0 a3_1 a3_2 a3_3 a3_4)))) else (some false)))) else (some false))))))))))
theorem laws_FnExactPushed.mono_l : ∀ k, (∀ y0 y1 y2 y3 y4 y5 y6 y7 y8 y9 y10, LeO (laws_FnExactPushed.j0 k y0 y1 y2 y3 y4 y5 y6 y7 y8 y9 y10) (laws_FnExactPushed.j0 (k + 1) y0 y1 y2 y3 y4 y5 y6 y7 y8 y9 y10))
 | 0 => fun _ _ _ _ _ _ _ _ _ _ _ r h => by simp [laws_FnExactPushed.j0] at h
 | k + 1 => by
  have ih0 := laws_FnExactPushed.mono_l k
  ·intro y0 y1 y2 y3 y4 y5 y6 y7 y8 y9 y10
   unfold laws_FnExactPushed.j0
   repeat' first
   | (with_reducible exact ih0 _ _ _ _ _ _ _ _ _ _ _)
   | (with_reducible exact impl_Pushed.mono _ _ _ _ _ _ _ _ _)
   | (with_reducible exact laws_eqCellS.mono _ _ _)
   | (with_reducible exact laws_heldCellS.mono _ _ _)
   | (with_reducible exact laws_markCellS.mono _ _ _)
   | (with_reducible exact laws_toCellS.mono _ _)
   | (with_reducible exact spec_Pushed.mono _ _ _ _ _ _ _ _ _)
   | (with_reducible exact LeO.refl _)
   | (with_reducible exact LeO.none _)
   | (with_reducible refine LeO.ite ?_ ?_)
   | (with_reducible refine LeO.bind ?_ (fun _ => ?_))
theorem laws_FnExactPushed.mono : ∀ a0 a1 a2 a3 a4 a5 a6 a7 k, LeO (laws_FnExactPushed.f k a0 a1 a2 a3 a4 a5 a6 a7) (laws_FnExactPushed.f (k + 1) a0 a1 a2 a3 a4 a5 a6 a7) := by
 intro a0 a1 a2 a3 a4 a5 a6 a7 k
 have ih0 := laws_FnExactPushed.mono_l k
 unfold laws_FnExactPushed.f
 repeat' first
   | (with_reducible exact ih0 _ _ _ _ _ _ _ _ _ _ _)
   | (with_reducible exact impl_Pushed.mono _ _ _ _ _ _ _ _ _)
   | (with_reducible exact laws_eqCellS.mono _ _ _)
   | (with_reducible exact laws_heldCellS.mono _ _ _)
   | (with_reducible exact laws_markCellS.mono _ _ _)
   | (with_reducible exact laws_toCellS.mono _ _)
   | (with_reducible exact spec_Pushed.mono _ _ _ _ _ _ _ _ _)
   | (with_reducible exact LeO.refl _)
   | (with_reducible exact LeO.none _)
   | (with_reducible refine LeO.ite ?_ ?_)
   | (with_reducible refine LeO.bind ?_ (fun _ => ?_))
def laws_FnExactPushed.T5 : Bool × List (List Nat × List Nat) := (true, [([], []), ([0], [0]), ([], []), ([], []), ([], []), ([4, 1], [4]), ([1, 2, 3, 5, 5], [1, 2, 3, 5]), ([6, 6, 0, 1, 2, 3, 4, 5, 6], [6])])
def laws_FnExactPushed.B5 : List Nat := [0, 1, 0, 0, 0, 19, 63, 127]
theorem laws_FnExactPushed.tab5 : rtab .any (opsOf Try.f4 5) = laws_FnExactPushed.T5 := by kernel_rfl
theorem laws_FnExactPushed.bits5 : waitsOk laws_FnExactPushed.T5.2 laws_FnExactPushed.B5 = true := by kernel_rfl
def laws_FnExactPushed.T24 : Bool × List (List Nat × List Nat) := (true, [([], []), ([0], [0]), ([], []), ([], []), ([], []), ([4, 1], [4]), ([1, 2, 3, 5, 5], [1, 2, 3, 5]), ([6, 6, 0, 1, 2, 3, 4, 5, 6], [6])])
def laws_FnExactPushed.B24 : List Nat := [0, 1, 0, 0, 0, 19, 63, 127]
theorem laws_FnExactPushed.tab24 : rtab .any (opsOf Try.f4 24) = laws_FnExactPushed.T24 := by kernel_rfl
theorem laws_FnExactPushed.bits24 : waitsOk laws_FnExactPushed.T24.2 laws_FnExactPushed.B24 = true := by kernel_rfl
set_option maxHeartbeats 8000000 in
set_option maxRecDepth 100000 in
theorem laws_FnExactPushed.calls (k : Nat) (A0 : Option Addr) (c0 : Nat) (l0 : List (S60)) (a1 : Int) (a2 : Int) (a3_0 : Int) (a3_1 : Int) (a3_2 : Bool) (a3_3 : Bool) (a3_4 : Bool) (r : Bool) (w : World) (hr0 : Kd.C k60 w A0 l0.length l0) (hc0 : l0.length ≤ c0) (h : laws_FnExactPushed.f k l0 a1 a2 a3_0 a3_1 a3_2 a3_3 a3_4 = some r) (hT_ : r = true) :
  Calls Try.prog 4 #[.slice A0 l0.length c0, .int .i64 a1, .int .i64 a2, .agg #[.int .i64 a3_0, .int .i64 a3_1, .bool a3_2, .bool a3_3, .bool a3_4]] w fun e w' => e = .returned (.bool r) ∧ Below w.heap.size w w' := by
 have hu24 := Try.underlying24
 have HR0 := am hr0
 have HC0 := am hc0
 clear hr0 hc0
 have HB := am (Below.refl w.heap.size w)
 have H := h
 unfold laws_FnExactPushed.f at H
 clear h
 replace H := Option.bind_eq_some_iff.mp H
 obtain ⟨t536, A50, H⟩ := H
 (try dsimp only at H)
 have A5 := am A50
 clear A50
 by_cases c6 : t536 < 0
 ·rw [if_pos c6] at H
  have c6b0 : decide (t536 < 0) = true := decide_eq_true c6
  clear c6
  obtain rfl := Option.some.inj H
  go_enter Try.func4, Try.ntmps4
  go_wp2_with (first | ((with_reducible refine gate_dst (N := 7) rfl ?_); refine box_event ?hg (N := 7) ?hd (cs := #[.int .i64 a3_0, .int .i64 a3_1, .bool a3_2, .bool a3_3, .bool a3_4]) (t := 24) ?hr ?_; (case hd => rfl); (case hg => rfl); (case hr => first | (go_simp; done) | (go_simp; rfl)); intro gb535 hg w7 hbox hb; have n0_ := am (below_step (rb HB) hb); have n1_ := am (hbox); have n2_ := am ((by rw [hg]; exact (below_size (rb HB)) : w.heap.size ≤ gb535)); have n3_ := am ((by rw [hg]; exact (below_size (rb HB)) : w.heap.size ≤ gb535)); clear HB; have HB := n0_; have BK535 := n1_; have GW535 := n2_; have GE535 := n3_; clear n0_ n1_ n2_ n3_; clear hb hbox hg) | ((with_reducible refine gate_callee (f := 8) rfl ?_); refine gl_ (some 19) Try.func8 #[.slice A0 l0.length c0, .int .i64 1048576] ?_; (with_reducible refine (laws_szCellS.calls _ _ l0 1048576 t536 _ ?side1 ?side2 A5.out).mono ?_); (case side1 => exact rc ((Kd.C_below HR0.out HB.out))); (case side2 => exact HC0.out); rintro e w' ⟨rfl, ⟨nd, rfl⟩⟩; refine ⟨_, rfl, ?_⟩))
  go_ret
  exact ⟨by first | rfl | (simp [errW_none, errW_some] <;> rfl) | (simp [*, errW_none, errW_some] <;> rfl), by repeat (first | (with_reducible first | exact HB.out | apply b1 | apply b2 | apply b3 | refine below_set ?_ GE535.out) | exact HB.out)⟩
 ·rw [if_neg c6] at H
  have c6b0 : decide (t536 < 0) = false := decide_eq_false c6
  clear c6
  replace H := Option.bind_eq_some_iff.mp H
  obtain ⟨t537, A80, H⟩ := H
  (try dsimp only at H)
  have A8 := am A80
  clear A80
  replace H := Option.bind_eq_some_iff.mp H
  obtain ⟨⟨t540, t541, t542, t543, t544⟩, A90, H⟩ := H
  (try dsimp only at H)
  have A9 := am A90
  clear A90
  replace H := Option.bind_eq_some_iff.mp H
  obtain ⟨t545, A100, H⟩ := H
  (try dsimp only at H)
  have A10 := am A100
  clear A100
  replace H := Option.bind_eq_some_iff.mp H
  obtain ⟨t548, A110, H⟩ := H
  (try dsimp only at H)
  have A11 := am A110
  clear A110
  replace H := Option.bind_eq_some_iff.mp H
  obtain ⟨⟨t551, t552, t553, t554, t555⟩, A120, H⟩ := H
  (try dsimp only at H)
  have A12 := am A120
  clear A120
  replace H := Option.bind_eq_some_iff.mp H
  obtain ⟨t556, A130, H⟩ := H
  (try dsimp only at H)
  have A13 := am A130
  clear A130
  replace H := Option.bind_eq_some_iff.mp H
  obtain ⟨t559, A140, H⟩ := H
  (try dsimp only at H)
  have A14 := am A140
  clear A140
  refine em_ (p := t559 = true) (fun c15 => ?g1p) (fun c15 => ?g1n)
  case' g1p =>
   subst c15
   rw [if_pos rfl] at H
   replace H := Option.bind_eq_some_iff.mp H
   obtain ⟨t560, A160, H⟩ := H
   (try dsimp only at H)
   have A16 := am A160
   clear A160
   replace H := Option.bind_eq_some_iff.mp H
   obtain ⟨t563, A170, H⟩ := H
   (try dsimp only at H)
   have A17 := am A170
   clear A170
   refine em_ (p := t563 = true) (fun c18 => ?g0p) (fun c18 => ?g0n)
   case' g0p =>
    subst c18
    rw [if_pos rfl] at H
    replace H := Option.bind_eq_some_iff.mp H
    obtain ⟨⟨t564, t565⟩, A190, H⟩ := H
    (try dsimp only at H)
    have A19 := am A190
    clear A190
    have HC20 := am H
    clear H
    have lf2_ := trivial
   case g0n =>
    replace c18 := Bool.eq_false_iff.mpr c18
    subst c18
    have H1 : (some false) = some r := by rw [if_neg (show ¬ (false = true) by decide)] at H; exact H
    clear H
    have H := H1
    clear H1
    exact absurd (Option.some.inj (H.trans (congrArg some hT_))) Bool.false_ne_true
  case g1n =>
   replace c15 := Bool.eq_false_iff.mpr c15
   subst c15
   have H1 : (some false) = some r := by rw [if_neg (show ¬ (false = true) by decide)] at H; exact H
   clear H
   have H := H1
   clear H1
   exact absurd (Option.some.inj (H.trans (congrArg some hT_))) Bool.false_ne_true
  all_goals
   go_enter Try.func4, Try.ntmps4
   try go_wp2_with (first | ((with_reducible refine gate_dst (N := 7) rfl ?_); refine box_event ?hg (N := 7) ?hd (cs := #[.int .i64 a3_0, .int .i64 a3_1, .bool a3_2, .bool a3_3, .bool a3_4]) (t := 24) ?hr ?_; (case hd => rfl); (case hg => rfl); (case hr => first | (go_simp; done) | (go_simp; rfl)); intro gb535 hg w21 hbox hb; have n0_ := am (below_step (rb HB) hb); have n1_ := am (hbox); have n2_ := am ((by rw [hg]; exact (below_size (rb HB)) : w.heap.size ≤ gb535)); have n3_ := am ((by rw [hg]; exact (below_size (rb HB)) : w.heap.size ≤ gb535)); clear HB; have HB := n0_; have BK535 := n1_; have GW535 := n2_; have GE535 := n3_; clear n0_ n1_ n2_ n3_; clear hb hbox hg) | ((with_reducible refine gate_callee (f := 8) rfl ?_); refine gl_ (some 19) Try.func8 #[.slice A0 l0.length c0, .int .i64 1048576] ?_; (with_reducible refine (laws_szCellS.calls _ _ l0 1048576 t536 _ ?side1 ?side2 A5.out).mono ?_); (case side1 => exact rc ((Kd.C_below HR0.out HB.out))); (case side2 => exact HC0.out); rintro e w' ⟨rfl, ⟨nd, rfl⟩⟩; refine ⟨_, rfl, ?_⟩))
   (try (rw [drewN_self w21]; generalize hq_ : World.drewN w21 _ = w21; have n0_ : Aside0 (w21.heap[gb535]? = some (.cells #[.int .i64 a3_0, .int .i64 a3_1, .bool a3_2, .bool a3_3, .bool a3_4] 24 (0, 0))) := ⟨by rw [← hq_]; exact (rk BK535)⟩; have n1_ : Aside0 (Below w.heap.size w w21) := ⟨by rw [← hq_]; exact (rb1 HB GE535)⟩; clear BK535 HB hq_; have BK535 := n0_; have HB := n1_; clear n0_ n1_))
   have n0_ := am (blk_drew BK535.out)
   have n1_ := am (below_drew1 HB.out)
   clear BK535
   clear HB
   have BK535 := n0_
   have HB := n1_
   clear n0_ n1_
   refine start_ (n := 8) (S := fun w' => w'.cell? ⟨gb535, 0, none⟩ = some (.int .i64 a3_0) ∧ w'.cell? ⟨gb535, 1, none⟩ = some (.int .i64 a3_1) ∧ w'.cell? ⟨gb535, 2, none⟩ = some (.bool a3_2) ∧ w'.cell? ⟨gb535, 3, none⟩ = some (.bool a3_3) ∧ w'.cell? ⟨gb535, 4, none⟩ = some (.bool a3_4)) (ds := []) (bm 8 0) (by kernel_rfl) rfl rfl ⟨(blk_cell BK535.out 0).trans rfl, (blk_cell BK535.out 1).trans rfl, (blk_cell BK535.out 2).trans rfl, (blk_cell BK535.out 3).trans rfl, (blk_cell BK535.out 4).trans rfl⟩ (fun hHeld => ?_); refine with_tabW laws_FnExactPushed.tab5 laws_FnExactPushed.bits5 (fun HT_ HW_ => ?_)
   generalize w21.drew = w22 at BK535 HB hHeld ⊢
   refine pu_ 0 22 (bm 8 1) HT_.out ?_
   refine pu_ 2 24 (bm 8 5) HT_.out ?_
   refine pu_ 3 25 (bm 8 13) HT_.out ?_
   refine take_ (i := 4) (N := some 26) (v := ?_) (a' := ?_) (bm 8 29) rfl rfl (take_ofW HT_.out HW_.out (by kernel_rfl)) (fun _ _ _ h => h) (Or.inl ⟨by rfl, ?_⟩) hHeld ?_ ?_
   rotate_left
   ·rintro w' ⟨s0, s1, s2, s3, s4⟩
    go_simp
    with_reducible rfl
   rotate_left
   ·simp only [Act.put, List.setIfInBounds_toArray, List.set_cons_zero, List.set_cons_succ, i64_w, i32_w]
    rfl
   refine one_ (i := 1) (N := some 23) (bm 8 31) rfl rfl (one_of HT_.out (by kernel_rfl)) (by decide) (fun K hK => ?_)
   refine goes_ Try.func10 (by kernel_rfl) rfl #[.slice A0 l0.length c0] (by rfl) rfl rfl (by (try simp only [List.map_toArray, List.map_cons, List.map_nil]); first | done | rfl | (simp only [List.length_drop, List.length_take]; rfl)) ?_
   with_reducible refine (laws_toCellS.calls k _ _ l0 t537 _ ?side1 ?side2 A8.out).mono ?_
   (case side1 => exact rc ((Kd.C_below HR0.out HB.out)))
   (case side2 => exact HC0.out)
   rintro e w23 ⟨v538, rfl, ho0, hb⟩
   refine ⟨_, rfl, ?_⟩
   have n0_ := am (Kd.R_lower ho0 (below_size (rb1 HB GE535)))
   have n1_ := am (blk_below (g := gb535) (o := .cells #[.int .i64 a3_0, .int .i64 a3_1, .bool a3_2, .bool a3_3, .bool a3_4] 24 (0, 0)) (rk BK535) hb)
   have n2_ := am (below_step (rb1 HB GE535) hb)
   clear BK535
   clear HB
   have HO539 := n0_
   have BK535 := n1_
   have HB := n2_
   clear n0_ n1_ n2_
   (try clear hb)
   (try clear hb2)
   (try clear hk)
   (try clear hi)
   (try clear ho0)
   refine hK.out _ _ ⟨(blk_cell BK535.out 0).trans rfl, (blk_cell BK535.out 1).trans rfl, (blk_cell BK535.out 2).trans rfl, (blk_cell BK535.out 3).trans rfl, (blk_cell BK535.out 4).trans rfl⟩ (fun hHeld => ?_)
   clear hK K
   refine norm_ (a' := ?_) ?_ ?_
   rotate_left
   ·show Act.put _ (some 23) _ = _
    simp only [Act.put, List.setIfInBounds_toArray, List.set_cons_zero, List.set_cons_succ, i64_w, i32_w]
    rfl
   refine one_ (i := 5) (N := some 27) (bm 8 63) rfl rfl (one_of HT_.out (by kernel_rfl)) (by decide) (fun K hK => ?_)
   refine goes_ Try.func11 (by kernel_rfl) rfl #[.agg #[.int .i64 a3_0, .int .i64 a3_1, .bool a3_2, .bool a3_3, .bool a3_4]] (by rfl) rfl rfl (by (try simp only [List.map_toArray, List.map_cons, List.map_nil]); first | done | rfl | (simp only [List.length_drop, List.length_take]; rfl)) ?_
   with_reducible refine (laws_toStyle.calls a3_0 a3_1 a3_2 a3_3 a3_4 t540 t541 t542 t543 t544 _ A9.out).mono ?_
   rintro e w24 ⟨rfl, hb⟩
   refine ⟨_, rfl, ?_⟩
   have n0_ := am (Kd.R_below (rr HO539) hb)
   have n1_ := am (blk_below (g := gb535) (o := .cells #[.int .i64 a3_0, .int .i64 a3_1, .bool a3_2, .bool a3_3, .bool a3_4] 24 (0, 0)) (rk BK535) hb)
   have n2_ := am (below_step (rb1 HB GE535) hb)
   clear HO539
   clear BK535
   clear HB
   have HO539 := n0_
   have BK535 := n1_
   have HB := n2_
   clear n0_ n1_ n2_
   (try clear hb)
   (try clear hb2)
   (try clear hk)
   (try clear hi)
   obtain ⟨Ao25, co25, eo25⟩ := Kd.R_slice HO539.out
   (first | subst eo25 | (injection eo25 with f1_ f2_ f3_; have f4_ := f1_.symm; have f5_ := f3_.symm; clear f1_ f2_ f3_; subst f4_; subst f5_))
   refine hK.out _ _ ⟨(blk_cell BK535.out 0).trans rfl, (blk_cell BK535.out 1).trans rfl, (blk_cell BK535.out 2).trans rfl, (blk_cell BK535.out 3).trans rfl, (blk_cell BK535.out 4).trans rfl⟩ (fun hHeld => ?_)
   clear hK K
   refine norm_ (a' := ?_) ?_ ?_
   rotate_left
   ·show Act.put _ (some 27) _ = _
    simp only [Act.put, List.setIfInBounds_toArray, List.set_cons_zero, List.set_cons_succ, i64_w, i32_w]
    rfl
   refine one_ (i := 6) (N := some 28) (bm 8 127) rfl rfl (one_of HT_.out (by kernel_rfl)) (by decide) (fun K hK => ?_)
   refine goes_ Try.func16 (by kernel_rfl) rfl #[.slice Ao25 t537.length co25, .int .i64 a1, .int .i64 a2, .agg #[.int .i64 t540, .int .i64 t541, .bool t542, .bool t543, .bool t544]] (by rfl) rfl rfl (by (try simp only [List.map_toArray, List.map_cons, List.map_nil]); first | done | rfl | (simp only [List.length_drop, List.length_take]; rfl)) ?_
   with_reducible refine (spec_Pushed.calls k _ _ t537 a1 a2 t540 t541 t542 t543 t544 t545 _ ?side1 ?side2 A10.out).mono ?_
   (case side1 => repeat (first | exact (Kd.R_reads' HO539.out).2.2 | (with_reducible refine Kd.C_alloc ?_ _) | (with_reducible refine Kd.C_drewN ?_ _) | (with_reducible refine Kd.C_drew ?_)))
   (case side2 => exact (Kd.R_reads' HO539.out).2.1)
   rintro e w26 ⟨v546, rfl, ho0, hb⟩
   refine ⟨_, rfl, ?_⟩
   have n0_ := am (Kd.R_elder' (rr HO539) (Kd.R_base ho0) hb)
   have n1_ := am (Kd.R_lower (Kd.R_new' ho0 (Kd.R_lt (rr HO539))) (below_size (rb1 HB GE535)))
   have n2_ := am (blk_below (g := gb535) (o := .cells #[.int .i64 a3_0, .int .i64 a3_1, .bool a3_2, .bool a3_3, .bool a3_4] 24 (0, 0)) (rk BK535) hb)
   have n3_ := am (below_step (rb1 HB GE535) hb)
   clear HO539
   clear BK535
   clear HB
   have HO539 := n0_
   have HO547 := n1_
   have BK535 := n2_
   have HB := n3_
   clear n0_ n1_ n2_ n3_
   (try clear hb)
   (try clear hb2)
   (try clear hk)
   (try clear hi)
   (try clear ho0)
   refine hK.out _ _ ⟨(blk_cell BK535.out 0).trans rfl, (blk_cell BK535.out 1).trans rfl, (blk_cell BK535.out 2).trans rfl, (blk_cell BK535.out 3).trans rfl, (blk_cell BK535.out 4).trans rfl⟩ (fun hHeld => ?_)
   clear hK K
   refine norm_ (a' := ?_) ?_ ?_
   rotate_left
   ·show Act.put _ (some 28) _ = _
    simp only [Act.put, List.setIfInBounds_toArray, List.set_cons_zero, List.set_cons_succ, i64_w, i32_w]
    rfl
   refine pu_ 7 10 (bm 8 255) HT_.out ?_
   refine done_ (done_of HT_.out (by kernel_rfl)) ?_
   go_upto_region 14 with (first | ((with_reducible refine gate_callee (f := 10) rfl ?_); refine gl_ (some 30) Try.func10 #[.slice A0 l0.length c0] ?_; (with_reducible refine (laws_toCellS.calls k _ _ l0 t548 _ ?side1 ?side2 A11.out).mono ?_); (case side1 => exact rc ((Kd.C_below HR0.out HB.out))); (case side2 => exact HC0.out); rintro e w27 ⟨v549, rfl, ho0, hb⟩; refine ⟨_, rfl, ?_⟩; have n0_ := am (Kd.R_elder' (rr HO539) (Kd.R_base ho0) hb); have n1_ := am (Kd.R_elder' (rr HO547) (Kd.R_base ho0) hb); have n2_ := am (Kd.R_lower (Kd.R_new' (Kd.R_new' ho0 (Kd.R_lt (rr HO539))) (Kd.R_lt (rr HO547))) (below_size (rb1 HB GE535))); have n3_ := am (blk_below (g := gb535) (o := .cells #[.int .i64 a3_0, .int .i64 a3_1, .bool a3_2, .bool a3_3, .bool a3_4] 24 (0, 0)) (rk BK535) hb); have n4_ := am (below_step (rb1 HB GE535) hb); clear HO539; clear HO547; clear BK535; clear HB; have HO539 := n0_; have HO547 := n1_; have HO550 := n2_; have BK535 := n3_; have HB := n4_; clear n0_ n1_ n2_ n3_ n4_; (try clear hb); (try clear hb2); (try clear hk); (try clear hi); (try clear ho0); have hcz28_0 : w27.cell? ⟨gb535, 0, none⟩ = some (.int .i64 a3_0) := (blk_cell BK535.out 0).trans rfl; have hcz28_1 : w27.cell? ⟨gb535, 1, none⟩ = some (.int .i64 a3_1) := (blk_cell BK535.out 1).trans rfl; have hcz28_2 : w27.cell? ⟨gb535, 2, none⟩ = some (.bool a3_2) := (blk_cell BK535.out 2).trans rfl; have hcz28_3 : w27.cell? ⟨gb535, 3, none⟩ = some (.bool a3_3) := (blk_cell BK535.out 3).trans rfl; have hcz28_4 : w27.cell? ⟨gb535, 4, none⟩ = some (.bool a3_4) := (blk_cell BK535.out 4).trans rfl; have hfz28_0 := blk_frozen BK535.out 0; have hfz28_1 := blk_frozen BK535.out 1; have hfz28_2 := blk_frozen BK535.out 2; have hfz28_3 := blk_frozen BK535.out 3; have hfz28_4 := blk_frozen BK535.out 4) | ((with_reducible refine gate_callee (f := 11) rfl ?_); refine gl_ (some 35) Try.func11 #[.agg #[.int .i64 a3_0, .int .i64 a3_1, .bool a3_2, .bool a3_3, .bool a3_4]] ?_; (with_reducible refine (laws_toStyle.calls a3_0 a3_1 a3_2 a3_3 a3_4 t551 t552 t553 t554 t555 _ A12.out).mono ?_); rintro e w29 ⟨rfl, hb⟩; refine ⟨_, rfl, ?_⟩; have n0_ := am (Kd.R_below (rr HO539) hb); have n1_ := am (Kd.R_below (rr HO547) hb); have n2_ := am (Kd.R_below (rr HO550) hb); have n3_ := am (blk_below (g := gb535) (o := .cells #[.int .i64 a3_0, .int .i64 a3_1, .bool a3_2, .bool a3_3, .bool a3_4] 24 (0, 0)) (rk BK535) hb); have n4_ := am (below_step (rb1 HB GE535) hb); clear HO539; clear HO547; clear HO550; clear BK535; clear HB; have HO539 := n0_; have HO547 := n1_; have HO550 := n2_; have BK535 := n3_; have HB := n4_; clear n0_ n1_ n2_ n3_ n4_; (try clear hb); (try clear hb2); (try clear hk); (try clear hi); obtain ⟨Ao30, co30, eo30⟩ := Kd.R_slice HO550.out; subst eo30) | ((with_reducible refine gate_callee (f := 17) rfl ?_); refine gl_ (some 36) Try.func17 #[.slice Ao30 t548.length co30, .int .i64 a1, .int .i64 a2, .agg #[.int .i64 t551, .int .i64 t552, .bool t553, .bool t554, .bool t555]] ?_; (with_reducible refine (impl_Pushed.calls k _ _ t548 a1 a2 t551 t552 t553 t554 t555 t556 _ ?side1 ?side2 A13.out).mono ?_); (case side1 => repeat (first | exact (Kd.R_reads' HO550.out).2.2 | (with_reducible refine Kd.C_alloc ?_ _) | (with_reducible refine Kd.C_drewN ?_ _) | (with_reducible refine Kd.C_drew ?_))); (case side2 => exact (Kd.R_reads' HO550.out).2.1); rintro e w31 ⟨v557, rfl, ho0, hb⟩; refine ⟨_, rfl, ?_⟩; have n0_ := am (Kd.R_elder' (rr HO539) (Kd.R_base ho0) hb); have n1_ := am (Kd.R_elder' (rr HO547) (Kd.R_base ho0) hb); have n2_ := am (Kd.R_elder' (rr HO550) (Kd.R_base ho0) hb); have n3_ := am (Kd.R_lower (Kd.R_new' (Kd.R_new' (Kd.R_new' ho0 (Kd.R_lt (rr HO539))) (Kd.R_lt (rr HO547))) (Kd.R_lt (rr HO550))) (below_size (rb1 HB GE535))); have n4_ := am (blk_below (g := gb535) (o := .cells #[.int .i64 a3_0, .int .i64 a3_1, .bool a3_2, .bool a3_3, .bool a3_4] 24 (0, 0)) (rk BK535) hb); have n5_ := am (below_step (rb1 HB GE535) hb); clear HO539; clear HO547; clear HO550; clear BK535; clear HB; have HO539 := n0_; have HO547 := n1_; have HO550 := n2_; have HO558 := n3_; have BK535 := n4_; have HB := n5_; clear n0_ n1_ n2_ n3_ n4_ n5_; (try clear hb); (try clear hb2); (try clear hk); (try clear hi); (try clear ho0); obtain ⟨Ao32, co32, eo32⟩ := Kd.R_slice HO558.out; subst eo32; obtain ⟨Ao33, co33, eo33⟩ := Kd.R_slice HO547.out; subst eo33) | ((with_reducible refine gate_callee (f := 13) rfl ?_); refine gl_ (some 39) Try.func13 #[.slice Ao32 t556.length co32, .slice Ao33 t545.length co33] ?_; (with_reducible refine (laws_eqCellS.calls k _ _ t556 _ _ t545 true _ ?side1 ?side2 ?side3 ?side4 A14.out).mono ?_); (case side1 => repeat (first | exact (Kd.R_reads' HO558.out).2.2 | (with_reducible refine Kd.C_alloc ?_ _) | (with_reducible refine Kd.C_drewN ?_ _) | (with_reducible refine Kd.C_drew ?_))); (case side2 => exact (Kd.R_reads' HO558.out).2.1); (case side3 => repeat (first | exact (Kd.R_reads' HO547.out).2.2 | (with_reducible refine Kd.C_alloc ?_ _) | (with_reducible refine Kd.C_drewN ?_ _) | (with_reducible refine Kd.C_drew ?_))); (case side4 => exact (Kd.R_reads' HO547.out).2.1); rintro e w34 ⟨rfl, hb⟩; refine ⟨_, rfl, ?_⟩; have n0_ := am (Kd.R_below (rr HO539) hb); have n1_ := am (Kd.R_below (rr HO547) hb); have n2_ := am (Kd.R_below (rr HO550) hb); have n3_ := am (Kd.R_below (rr HO558) hb); have n4_ := am (blk_below (g := gb535) (o := .cells #[.int .i64 a3_0, .int .i64 a3_1, .bool a3_2, .bool a3_3, .bool a3_4] 24 (0, 0)) (rk BK535) hb); have n5_ := am (below_step (rb1 HB GE535) hb); clear HO539; clear HO547; clear HO550; clear HO558; clear BK535; clear HB; have HO539 := n0_; have HO547 := n1_; have HO550 := n2_; have HO558 := n3_; have BK535 := n4_; have HB := n5_; clear n0_ n1_ n2_ n3_ n4_ n5_; (try clear hb); (try clear hb2); (try clear hk); (try clear hi)) | ((with_reducible refine gate_callee (f := 10) rfl ?_); refine gl_ (some 43) Try.func10 #[.slice A0 l0.length c0] ?_; (with_reducible refine (laws_toCellS.calls k _ _ l0 t560 _ ?side1 ?side2 A16.out).mono ?_); (case side1 => exact rc ((Kd.C_below HR0.out HB.out))); (case side2 => exact HC0.out); rintro e w35 ⟨v561, rfl, ho0, hb⟩; refine ⟨_, rfl, ?_⟩; have n0_ := am (Kd.R_elder' (rr HO539) (Kd.R_base ho0) hb); have n1_ := am (Kd.R_elder' (rr HO547) (Kd.R_base ho0) hb); have n2_ := am (Kd.R_elder' (rr HO550) (Kd.R_base ho0) hb); have n3_ := am (Kd.R_elder' (rr HO558) (Kd.R_base ho0) hb); have n4_ := am (Kd.R_lower (Kd.R_new' (Kd.R_new' (Kd.R_new' (Kd.R_new' ho0 (Kd.R_lt (rr HO539))) (Kd.R_lt (rr HO547))) (Kd.R_lt (rr HO550))) (Kd.R_lt (rr HO558))) (below_size (rb1 HB GE535))); have n5_ := am (blk_below (g := gb535) (o := .cells #[.int .i64 a3_0, .int .i64 a3_1, .bool a3_2, .bool a3_3, .bool a3_4] 24 (0, 0)) (rk BK535) hb); have n6_ := am (below_step (rb1 HB GE535) hb); clear HO539; clear HO547; clear HO550; clear HO558; clear BK535; clear HB; have HO539 := n0_; have HO547 := n1_; have HO550 := n2_; have HO558 := n3_; have HO562 := n4_; have BK535 := n5_; have HB := n6_; clear n0_ n1_ n2_ n3_ n4_ n5_ n6_; (try clear hb); (try clear hb2); (try clear hk); (try clear hi); (try clear ho0); obtain ⟨Ao36, co36, eo36⟩ := Kd.R_slice HO562.out; subst eo36) | ((with_reducible refine gate_callee (f := 13) rfl ?_); refine gl_ (some 44) Try.func13 #[.slice Ao30 t548.length co30, .slice Ao36 t560.length co36] ?_; (with_reducible refine (laws_eqCellS.calls k _ _ t548 _ _ t560 true _ ?side1 ?side2 ?side3 ?side4 A17.out).mono ?_); (case side1 => repeat (first | exact (Kd.R_reads' HO550.out).2.2 | (with_reducible refine Kd.C_alloc ?_ _) | (with_reducible refine Kd.C_drewN ?_ _) | (with_reducible refine Kd.C_drew ?_))); (case side2 => exact (Kd.R_reads' HO550.out).2.1); (case side3 => repeat (first | exact (Kd.R_reads' HO562.out).2.2 | (with_reducible refine Kd.C_alloc ?_ _) | (with_reducible refine Kd.C_drewN ?_ _) | (with_reducible refine Kd.C_drew ?_))); (case side4 => exact (Kd.R_reads' HO562.out).2.1); rintro e w37 ⟨rfl, hb⟩; refine ⟨_, rfl, ?_⟩; have n0_ := am (Kd.R_below (rr HO539) hb); have n1_ := am (Kd.R_below (rr HO547) hb); have n2_ := am (Kd.R_below (rr HO550) hb); have n3_ := am (Kd.R_below (rr HO558) hb); have n4_ := am (Kd.R_below (rr HO562) hb); have n5_ := am (blk_below (g := gb535) (o := .cells #[.int .i64 a3_0, .int .i64 a3_1, .bool a3_2, .bool a3_3, .bool a3_4] 24 (0, 0)) (rk BK535) hb); have n6_ := am (below_step (rb1 HB GE535) hb); clear HO539; clear HO547; clear HO550; clear HO558; clear HO562; clear BK535; clear HB; have HO539 := n0_; have HO547 := n1_; have HO550 := n2_; have HO558 := n3_; have HO562 := n4_; have BK535 := n5_; have HB := n6_; clear n0_ n1_ n2_ n3_ n4_ n5_ n6_; (try clear hb); (try clear hb2); (try clear hk); (try clear hi)) | ((with_reducible refine gate_callee (f := 14) rfl ?_); refine gl_ (some 48) Try.func14 #[.slice Ao30 t548.length co30, .int .i64 1] ?_; (with_reducible refine (laws_markCellS.calls k (fun k_ => some k_ = (.slice Ao30 t548.length co30 : Value).ownBlock) (.slice Ao30 t548.length co30) t548 1 t564 t565 w _ ?side1 ?side2 A19.out).mono ?_); (case side1 => repeat (first | (with_reducible first | exact HB.out | apply b1 | apply b2 | apply b3 | refine below_set ?_ GE535.out) | exact HB.out)); (case side2 => exact Kd.R_tight rfl HO550.out); rintro e w38 ⟨rfl, hy0, hb, hkp⟩; refine ⟨_, rfl, ?_⟩; have n0_ := am (blk_kept (rk BK535) hkp (fun hs_ => (fun e_ => (Kd.R_ne HO550.out BK535.out (by decide)) e_) hs_)); have n1_ := am (Kd.R_mono (ok' := fun k_ => some k_ ≠ (.slice Ao33 t545.length co33 : Value).ownBlock ∧ some k_ ≠ (.slice Ao30 t548.length co30 : Value).ownBlock ∧ some k_ ≠ (.slice Ao32 t556.length co32 : Value).ownBlock ∧ some k_ ≠ (.slice Ao36 t560.length co36 : Value).ownBlock) (Kd.R_keptB (HO539.out) hkp (fun k_ hk_ hs_ => (hk_.1.1.2) hs_)) (fun k_ hk_ => ⟨hk_.1.1.1.1.2, hk_.1.1.1.2, hk_.1.1.2, hk_.1.2⟩)); have n2_ := am (Kd.R_mono (ok' := fun k_ => some k_ ≠ (.slice Ao25 t537.length co25 : Value).ownBlock ∧ some k_ ≠ (.slice Ao30 t548.length co30 : Value).ownBlock ∧ some k_ ≠ (.slice Ao32 t556.length co32 : Value).ownBlock ∧ some k_ ≠ (.slice Ao36 t560.length co36 : Value).ownBlock) (Kd.R_keptB (HO547.out) hkp (fun k_ hk_ hs_ => (hk_.1.1.2) hs_)) (fun k_ hk_ => ⟨hk_.1.1.1.1.2, hk_.1.1.1.2, hk_.1.1.2, hk_.1.2⟩)); have n3_ := am (Kd.R_reok rfl hy0 (fun k_ e_ => HO550.out.1 k_ e_)); have n4_ := am (Kd.R_mono (ok' := fun k_ => some k_ ≠ (.slice Ao25 t537.length co25 : Value).ownBlock ∧ some k_ ≠ (.slice Ao33 t545.length co33 : Value).ownBlock ∧ some k_ ≠ (.slice Ao30 t548.length co30 : Value).ownBlock ∧ some k_ ≠ (.slice Ao36 t560.length co36 : Value).ownBlock) (Kd.R_keptB (HO558.out) hkp (fun k_ hk_ hs_ => (hk_.1.2) hs_)) (fun k_ hk_ => ⟨hk_.1.1.1.1.2, hk_.1.1.1.2, hk_.1.1.2, hk_.1.2⟩)); have n5_ := am (Kd.R_mono (ok' := fun k_ => some k_ ≠ (.slice Ao25 t537.length co25 : Value).ownBlock ∧ some k_ ≠ (.slice Ao33 t545.length co33 : Value).ownBlock ∧ some k_ ≠ (.slice Ao30 t548.length co30 : Value).ownBlock ∧ some k_ ≠ (.slice Ao32 t556.length co32 : Value).ownBlock) (Kd.R_keptB (HO562.out) hkp (fun k_ hk_ hs_ => (hk_.1.2) hs_)) (fun k_ hk_ => ⟨hk_.1.1.1.1.2, hk_.1.1.1.2, hk_.1.1.2, hk_.1.2⟩)); have n6_ := am (hb); clear BK535; clear HO539; clear HO547; clear HO550; clear HO558; clear HO562; clear HB; have BK535 := n0_; have HO539 := n1_; have HO547 := n2_; have HO550 := n3_; have HO558 := n4_; have HO562 := n5_; have HB := n6_; clear n0_ n1_ n2_ n3_ n4_ n5_ n6_; (try clear hb); (try clear hkp); (try clear hy0)))
   (try simp only [Act.put, List.setIfInBounds_toArray, List.set_cons_zero, List.set_cons_succ])
   go_cut [56] (fun v56 wc => ∃ (kq : Nat) (x56_19 : Bool), v56 = .bool x56_19 ∧ Aside0 (laws_FnExactPushed.j0 kq l0 a1 a2 t545 t556 x56_19 a3_0 a3_1 a3_2 a3_3 a3_4 = some r) ∧ Aside0 (kq ≤ k) ∧ Aside0 (Kd.R k40 40 wc w.heap.size (fun k_ => some k_ ≠ ((.slice Ao32 t556.length co32) : Value).ownBlock) (.slice Ao33 t545.length co33) t545) ∧ Aside0 (Kd.R k40 40 wc w.heap.size (fun k_ => some k_ ≠ ((.slice Ao33 t545.length co33) : Value).ownBlock) (.slice Ao32 t556.length co32) t556) ∧ Aside0 (wc.heap[gb535]? = some (.cells #[.int .i64 a3_0, .int .i64 a3_1, .bool a3_2, .bool a3_3, .bool a3_4] 24 (0, 0))) ∧ Aside0 (Below w.heap.size w wc))
   case first =>
    have H := HC20.out
    clear HC20
    by_cases c39 : t564 < 0
    ·rw [if_pos c39] at H
     have c39b0 : decide (t564 < 0) = true := decide_eq_true c39
     clear c39
     (first | rw [c39b0] | (simp only [i64_w, i32_w]; rw [c39b0]) | skip)
     have H' := am H
     clear H
     go_wp2
     go_meet
     case rel => exact ⟨_, (true), (by first | rfl | (simp; done) | (simp [*]; done)), H', ⟨by first | omega | exact Nat.le_refl _⟩, ⟨by (with_reducible repeat (first | apply r1 | apply r2 | apply r3)); exact Kd.R_mono HO547.out (fun _ hk => hk.2.2.1)⟩, ⟨by (with_reducible repeat (first | apply r1 | apply r2 | apply r3)); exact Kd.R_mono HO558.out (fun _ hk => hk.2.1)⟩, ⟨rk BK535⟩, ⟨by repeat (first | (with_reducible first | exact HB.out | apply b1 | apply b2 | apply b3 | refine below_set ?_ GE535.out) | exact HB.out)⟩⟩
    ·rw [if_neg c39] at H
     have c39b0 : decide (t564 < 0) = false := decide_eq_false c39
     clear c39
     (first | rw [c39b0] | (simp only [i64_w, i32_w]; rw [c39b0]) | skip)
     replace H := Option.bind_eq_some_iff.mp H
     obtain ⟨t566, A400, H⟩ := H
     (try dsimp only at H)
     have A40 := am A400
     clear A400
     have H' := am H
     clear H
     go_wp2_with (first | (go_at_call 13; (with_reducible refine (laws_eqCellS.calls k _ _ t556 _ _ t545 t566 _ ?side1 ?side2 ?side3 ?side4 A40.out).mono ?_); (case side1 => repeat (first | exact (Kd.R_reads' HO558.out).2.2 | (with_reducible refine Kd.C_alloc ?_ _) | (with_reducible refine Kd.C_drewN ?_ _) | (with_reducible refine Kd.C_drew ?_))); (case side2 => exact (Kd.R_reads' HO558.out).2.1); (case side3 => repeat (first | exact (Kd.R_reads' HO547.out).2.2 | (with_reducible refine Kd.C_alloc ?_ _) | (with_reducible refine Kd.C_drewN ?_ _) | (with_reducible refine Kd.C_drew ?_))); (case side4 => exact (Kd.R_reads' HO547.out).2.1); rintro e w41 ⟨rfl, hb⟩; have n0_ := am (Kd.R_below (rr HO539) hb); have n1_ := am (Kd.R_below (rr HO547) hb); have n2_ := am (Kd.R_below (rr HO550) hb); have n3_ := am (Kd.R_below (rr HO558) hb); have n4_ := am (Kd.R_below (rr HO562) hb); have n5_ := am (blk_below (g := gb535) (o := .cells #[.int .i64 a3_0, .int .i64 a3_1, .bool a3_2, .bool a3_3, .bool a3_4] 24 (0, 0)) (rk BK535) hb); have n6_ := am (below_step (rb1 HB GE535) hb); clear HO539; clear HO547; clear HO550; clear HO558; clear HO562; clear BK535; clear HB; have HO539 := n0_; have HO547 := n1_; have HO550 := n2_; have HO558 := n3_; have HO562 := n4_; have BK535 := n5_; have HB := n6_; clear n0_ n1_ n2_ n3_ n4_ n5_ n6_; (try clear hb); (try clear hb2); (try clear hk); (try clear hi)))
     go_meet
     case rel => exact ⟨_, (!t566), (by first | rfl | (simp; done) | (simp [*]; done)), H', ⟨by first | omega | exact Nat.le_refl _⟩, ⟨by (with_reducible repeat (first | apply r1 | apply r2 | apply r3)); exact Kd.R_mono HO547.out (fun _ hk => hk.2.2.1)⟩, ⟨by (with_reducible repeat (first | apply r1 | apply r2 | apply r3)); exact Kd.R_mono HO558.out (fun _ hk => hk.2.1)⟩, ⟨rk BK535⟩, ⟨by repeat (first | (with_reducible first | exact HB.out | apply b1 | apply b2 | apply b3 | refine below_set ?_ GE535.out) | exact HB.out)⟩⟩
   case rest =>
    clear HC20
    try clear c1
    try clear p2
    try clear c3
    try clear c4
    try clear c6
    try clear c6b0
    try clear c8
    try clear c10
    try clear c11
    try clear c13
    try clear c14
    try clear c15
    try clear c16
    try clear c17
    try clear c18
    try clear c39
    try clear c39b0
    try clear hcz28_0
    try clear hcz28_1
    try clear hcz28_2
    try clear hcz28_3
    try clear hcz28_4
    try clear hfz28_0
    try clear hfz28_1
    try clear hfz28_2
    try clear hfz28_3
    try clear hfz28_4
    obtain ⟨kq, x56_19, rfl, HA, HJ19, HO_10, HO_12, BK535, HB⟩ := hcut
    cases kq with
    | zero => exact absurd HA.out (by simp [laws_FnExactPushed.j0])
    | succ kj19 =>
     have H := HA.out
     clear HA
     simp only [laws_FnExactPushed.j0] at H
     refine em_ (p := x56_19 = true) (fun c42 => ?g7p) (fun c42 => ?g7n)
     case g7p =>
      subst c42
      have H1 : (some false) = some r := by rw [if_pos rfl] at H; exact H
      clear H
      have H := H1
      clear H1
      exact absurd (Option.some.inj (H.trans (congrArg some hT_))) Bool.false_ne_true
     case' g7n =>
      replace c42 := Bool.eq_false_iff.mpr c42
      subst c42
      rw [if_neg (show ¬ (false = true) by decide)] at H
      replace H := Option.bind_eq_some_iff.mp H
      obtain ⟨⟨t567, t568⟩, A430, H⟩ := H
      (try dsimp only at H)
      have A43 := am A430
      clear A430
      replace H := Option.bind_eq_some_iff.mp H
      obtain ⟨t569, A440, H⟩ := H
      (try dsimp only at H)
      have A44 := am A440
      clear A440
      refine em_ (p := t569 < 0) (fun c45 => ?g6p) (fun c45 => ?g6n)
      case g6p =>
       rw [if_pos c45] at H
       have c45b0 : decide (t569 < 0) = true := decide_eq_true c45
       clear c45
       exact absurd (Option.some.inj (H.trans (congrArg some hT_))) Bool.false_ne_true
      case' g6n =>
       rw [if_neg c45] at H
       have c45b0 : decide (t569 < 0) = false := decide_eq_false c45
       clear c45
       refine em_ (p := t569 = t567) (fun c47 => ?g5p) (fun c47 => ?g5n)
       case' g5p =>
        rw [if_pos c47] at H
        have c47b0 : (t569 == t567) = true := beq_iff_eq.mpr c47
        have c47b1 : (t569 != t567) = false := bne_eq_false_iff_eq.mpr c47
        clear c47
        replace H := Option.bind_eq_some_iff.mp H
        obtain ⟨t570, A480, H⟩ := H
        (try dsimp only at H)
        have A48 := am A480
        clear A480
        replace H := Option.bind_eq_some_iff.mp H
        obtain ⟨⟨t573, t574, t575, t576, t577⟩, A490, H⟩ := H
        (try dsimp only at H)
        have A49 := am A490
        clear A490
        replace H := Option.bind_eq_some_iff.mp H
        obtain ⟨t578, A500, H⟩ := H
        (try dsimp only at H)
        have A50 := am A500
        clear A500
        replace H := Option.bind_eq_some_iff.mp H
        obtain ⟨t581, A510, H⟩ := H
        (try dsimp only at H)
        have A51 := am A510
        clear A510
        refine em_ (p := t581 = true) (fun c52 => ?g4p) (fun c52 => ?g4n)
        case' g4p =>
         subst c52
         rw [if_pos rfl] at H
         replace H := Option.bind_eq_some_iff.mp H
         obtain ⟨t582, A530, H⟩ := H
         (try dsimp only at H)
         have A53 := am A530
         clear A530
         refine em_ (p := t582 < 0) (fun c54 => ?g3p) (fun c54 => ?g3n)
         case g3p =>
          rw [if_pos c54] at H
          have c54b0 : decide (t582 < 0) = true := decide_eq_true c54
          clear c54
          exact absurd (Option.some.inj (H.trans (congrArg some hT_))) Bool.false_ne_true
         case' g3n =>
          rw [if_neg c54] at H
          have c54b0 : decide (t582 < 0) = false := decide_eq_false c54
          clear c54
          refine em_ (p := t582 = t567) (fun c63 => ?g2p) (fun c63 => ?g2n)
          case' g2p =>
           rw [if_pos c63] at H
           have c63b0 : (t582 == t567) = true := beq_iff_eq.mpr c63
           have c63b1 : (t582 != t567) = false := bne_eq_false_iff_eq.mpr c63
           clear c63
           obtain rfl := Option.some.inj H
           have lf5_ := trivial
          case g2n =>
           rw [if_neg c63] at H
           have c63b0 : (t582 == t567) = false := beq_eq_false_iff_ne.mpr c63
           have c63b1 : (t582 != t567) = true := bne_iff_ne.mpr c63
           exact absurd (Option.some.inj (H.trans (congrArg some hT_))) Bool.false_ne_true
        case g4n =>
         replace c52 := Bool.eq_false_iff.mpr c52
         subst c52
         have H1 : (some false) = some r := by rw [if_neg (show ¬ (false = true) by decide)] at H; exact H
         clear H
         have H := H1
         clear H1
         exact absurd (Option.some.inj (H.trans (congrArg some hT_))) Bool.false_ne_true
       case g5n =>
        rw [if_neg c47] at H
        have c47b0 : (t569 == t567) = false := beq_eq_false_iff_ne.mpr c47
        have c47b1 : (t569 != t567) = true := bne_iff_ne.mpr c47
        exact absurd (Option.some.inj (H.trans (congrArg some hT_))) Bool.false_ne_true
     all_goals
      try go_wp2_with (first | ((with_reducible refine gate_callee (f := 14) rfl ?_); refine gl_ (some 59) Try.func14 #[.slice Ao32 t556.length co32, .int .i64 1] ?_; (with_reducible refine (laws_markCellS.calls kj19 (fun k_ => some k_ = (.slice Ao32 t556.length co32 : Value).ownBlock) (.slice Ao32 t556.length co32) t556 1 t567 t568 w _ ?side1 ?side2 A43.out).mono ?_); (case side1 => repeat (first | (with_reducible first | exact HB.out | apply b1 | apply b2 | apply b3 | refine below_set ?_ GE535.out) | exact HB.out)); (case side2 => exact Kd.R_tight rfl HO_12.out); rintro e w64 ⟨rfl, hy0, hb, hkp⟩; refine ⟨_, rfl, ?_⟩; have n0_ := am (Kd.R_mono (ok' := fun k_ => some k_ ≠ (.slice Ao32 t556.length co32 : Value).ownBlock) (Kd.R_keptB (HO_10.out) hkp (fun k_ hk_ hs_ => (hk_) hs_)) (fun k_ hk_ => hk_.1)); have n1_ := am (Kd.R_reok rfl hy0 (fun k_ e_ => HO_12.out.1 k_ e_)); have n2_ := am (blk_kept (rk BK535) hkp (fun hs_ => (fun e_ => (Kd.R_ne HO_12.out BK535.out (by decide)) e_) hs_)); have n3_ := am (hb); clear HO_10; clear HO_12; clear BK535; clear HB; have HO_10 := n0_; have HO_12 := n1_; have BK535 := n2_; have HB := n3_; clear n0_ n1_ n2_ n3_; (try clear hb); (try clear hkp); (try clear hy0)) | ((with_reducible refine gate_callee (f := 15) rfl ?_); refine goesL_ (some 62) rfl rfl Try.func15 (by kernel_rfl) rfl #[.slice Ao32 t568.length co32, .int .i64 1] rfl (by (try simp only [List.map_toArray, List.map_cons, List.map_nil]); first | done | (rw [show t568.length = t556.length from (Kd.R_reads' HO_12.out).1.symm] <;> rfl) | rfl | (simp only [List.length_drop, List.length_take]; rfl)) ?_; (with_reducible refine (laws_heldCellS.calls kj19 _ _ t568 1 t569 _ ?side1 ?side2 A44.out).mono ?_); (case side1 => repeat (first | exact (Kd.R_reads' HO_12.out).2.2 | (with_reducible refine Kd.C_alloc ?_ _) | (with_reducible refine Kd.C_drewN ?_ _) | (with_reducible refine Kd.C_drew ?_))); (case side2 => rw [show t568.length = t556.length from (Kd.R_reads' HO_12.out).1.symm]; exact (Kd.R_reads' HO_12.out).2.1); rintro e w' ⟨rfl, ⟨nd, rfl⟩⟩; refine ⟨_, rfl, ?_⟩))
      (try (rw [drewN_self w64]; generalize hq_ : World.drewN w64 _ = w64; have n0_ : Aside0 (Kd.R k40 40 w64 w.heap.size (fun k_ => some k_ ≠ (.slice Ao32 t556.length co32 : Value).ownBlock) (.slice Ao33 t545.length co33) t545) := ⟨by rw [← hq_]; exact (rr HO_10)⟩; have n1_ : Aside0 (Kd.R k40 40 w64 w.heap.size (fun k_ => some k_ ≠ (.slice Ao33 t545.length co33 : Value).ownBlock) (.slice Ao32 t556.length co32) t568) := ⟨by rw [← hq_]; exact (rr HO_12)⟩; have n2_ : Aside0 (w64.heap[gb535]? = some (.cells #[.int .i64 a3_0, .int .i64 a3_1, .bool a3_2, .bool a3_3, .bool a3_4] 24 (0, 0))) := ⟨by rw [← hq_]; exact (rk BK535)⟩; have n3_ : Aside0 (Below w.heap.size w w64) := ⟨by rw [← hq_]; exact (rb1 HB GE535)⟩; clear HO_10 HO_12 BK535 HB hq_; have HO_10 := n0_; have HO_12 := n1_; have BK535 := n2_; have HB := n3_; clear n0_ n1_ n2_ n3_))
      have n0_ := am (Kd.R_drew HO_10.out)
      have n1_ := am (Kd.R_drew HO_12.out)
      have n2_ := am (blk_drew BK535.out)
      have n3_ := am (below_drew1 HB.out)
      clear HO_10
      clear HO_12
      clear BK535
      clear HB
      have HO_10 := n0_
      have HO_12 := n1_
      have BK535 := n2_
      have HB := n3_
      clear n0_ n1_ n2_ n3_
      refine start_ (n := 8) (S := fun w' => w'.cell? ⟨gb535, 0, none⟩ = some (.int .i64 a3_0) ∧ w'.cell? ⟨gb535, 1, none⟩ = some (.int .i64 a3_1) ∧ w'.cell? ⟨gb535, 2, none⟩ = some (.bool a3_2) ∧ w'.cell? ⟨gb535, 3, none⟩ = some (.bool a3_3) ∧ w'.cell? ⟨gb535, 4, none⟩ = some (.bool a3_4)) (ds := []) (bm 8 0) (by kernel_rfl) rfl rfl ⟨(blk_cell BK535.out 0).trans rfl, (blk_cell BK535.out 1).trans rfl, (blk_cell BK535.out 2).trans rfl, (blk_cell BK535.out 3).trans rfl, (blk_cell BK535.out 4).trans rfl⟩ (fun hHeld => ?_); refine with_tabW laws_FnExactPushed.tab24 laws_FnExactPushed.bits24 (fun HT_ HW_ => ?_)
      generalize w64.drew = w65 at HO_10 HO_12 BK535 HB hHeld ⊢
      refine pu_ 0 68 (bm 8 1) HT_.out ?_
      refine pu_ 2 70 (bm 8 5) HT_.out ?_
      refine pu_ 3 71 (bm 8 13) HT_.out ?_
      refine take_ (i := 4) (N := some 72) (v := ?_) (a' := ?_) (bm 8 29) rfl rfl (take_ofW HT_.out HW_.out (by kernel_rfl)) (fun _ _ _ h => h) (Or.inl ⟨by rfl, ?_⟩) hHeld ?_ ?_
      rotate_left
      ·rintro w' ⟨s0, s1, s2, s3, s4⟩
       go_simp
       with_reducible rfl
      rotate_left
      ·simp only [Act.put, List.setIfInBounds_toArray, List.set_cons_zero, List.set_cons_succ, i64_w, i32_w]
       rfl
      refine one_ (i := 1) (N := some 69) (bm 8 31) rfl rfl (one_of HT_.out (by kernel_rfl)) (by decide) (fun K hK => ?_)
      refine goes_ Try.func10 (by kernel_rfl) rfl #[.slice A0 l0.length c0] (by rfl) rfl rfl (by (try simp only [List.map_toArray, List.map_cons, List.map_nil]); first | done | rfl | (simp only [List.length_drop, List.length_take]; rfl)) ?_
      with_reducible refine (laws_toCellS.calls kj19 _ _ l0 t570 _ ?side1 ?side2 A48.out).mono ?_
      (case side1 => exact rc ((Kd.C_below HR0.out HB.out)))
      (case side2 => exact HC0.out)
      rintro e w66 ⟨v571, rfl, ho0, hb⟩
      refine ⟨_, rfl, ?_⟩
      have n0_ := am (Kd.R_elder' (rr HO_10) (Kd.R_base ho0) hb)
      have n1_ := am (Kd.R_elder' (rr HO_12) (Kd.R_base ho0) hb)
      have n2_ := am (Kd.R_lower (Kd.R_new' (Kd.R_new' ho0 (Kd.R_lt (rr HO_10))) (Kd.R_lt (rr HO_12))) (below_size (rb1 HB GE535)))
      have n3_ := am (blk_below (g := gb535) (o := .cells #[.int .i64 a3_0, .int .i64 a3_1, .bool a3_2, .bool a3_3, .bool a3_4] 24 (0, 0)) (rk BK535) hb)
      have n4_ := am (below_step (rb1 HB GE535) hb)
      clear HO_10
      clear HO_12
      clear BK535
      clear HB
      have HO_10 := n0_
      have HO_12 := n1_
      have HO572 := n2_
      have BK535 := n3_
      have HB := n4_
      clear n0_ n1_ n2_ n3_ n4_
      (try clear hb)
      (try clear hb2)
      (try clear hk)
      (try clear hi)
      (try clear ho0)
      refine hK.out _ _ ⟨(blk_cell BK535.out 0).trans rfl, (blk_cell BK535.out 1).trans rfl, (blk_cell BK535.out 2).trans rfl, (blk_cell BK535.out 3).trans rfl, (blk_cell BK535.out 4).trans rfl⟩ (fun hHeld => ?_)
      clear hK K
      refine norm_ (a' := ?_) ?_ ?_
      rotate_left
      ·show Act.put _ (some 69) _ = _
       simp only [Act.put, List.setIfInBounds_toArray, List.set_cons_zero, List.set_cons_succ, i64_w, i32_w]
       rfl
      refine one_ (i := 5) (N := some 73) (bm 8 63) rfl rfl (one_of HT_.out (by kernel_rfl)) (by decide) (fun K hK => ?_)
      refine goes_ Try.func11 (by kernel_rfl) rfl #[.agg #[.int .i64 a3_0, .int .i64 a3_1, .bool a3_2, .bool a3_3, .bool a3_4]] (by rfl) rfl rfl (by (try simp only [List.map_toArray, List.map_cons, List.map_nil]); first | done | rfl | (simp only [List.length_drop, List.length_take]; rfl)) ?_
      with_reducible refine (laws_toStyle.calls a3_0 a3_1 a3_2 a3_3 a3_4 t573 t574 t575 t576 t577 _ A49.out).mono ?_
      rintro e w67 ⟨rfl, hb⟩
      refine ⟨_, rfl, ?_⟩
      have n0_ := am (Kd.R_below (rr HO_10) hb)
      have n1_ := am (Kd.R_below (rr HO_12) hb)
      have n2_ := am (Kd.R_below (rr HO572) hb)
      have n3_ := am (blk_below (g := gb535) (o := .cells #[.int .i64 a3_0, .int .i64 a3_1, .bool a3_2, .bool a3_3, .bool a3_4] 24 (0, 0)) (rk BK535) hb)
      have n4_ := am (below_step (rb1 HB GE535) hb)
      clear HO_10
      clear HO_12
      clear HO572
      clear BK535
      clear HB
      have HO_10 := n0_
      have HO_12 := n1_
      have HO572 := n2_
      have BK535 := n3_
      have HB := n4_
      clear n0_ n1_ n2_ n3_ n4_
      (try clear hb)
      (try clear hb2)
      (try clear hk)
      (try clear hi)
      obtain ⟨Ao68, co68, eo68⟩ := Kd.R_slice HO572.out
      (first | subst eo68 | (injection eo68 with f1_ f2_ f3_; have f4_ := f1_.symm; have f5_ := f3_.symm; clear f1_ f2_ f3_; subst f4_; subst f5_))
      refine hK.out _ _ ⟨(blk_cell BK535.out 0).trans rfl, (blk_cell BK535.out 1).trans rfl, (blk_cell BK535.out 2).trans rfl, (blk_cell BK535.out 3).trans rfl, (blk_cell BK535.out 4).trans rfl⟩ (fun hHeld => ?_)
      clear hK K
      refine norm_ (a' := ?_) ?_ ?_
      rotate_left
      ·show Act.put _ (some 73) _ = _
       simp only [Act.put, List.setIfInBounds_toArray, List.set_cons_zero, List.set_cons_succ, i64_w, i32_w]
       rfl
      refine one_ (i := 6) (N := some 74) (bm 8 127) rfl rfl (one_of HT_.out (by kernel_rfl)) (by decide) (fun K hK => ?_)
      refine goes_ Try.func17 (by kernel_rfl) rfl #[.slice Ao68 t570.length co68, .int .i64 a1, .int .i64 a2, .agg #[.int .i64 t573, .int .i64 t574, .bool t575, .bool t576, .bool t577]] (by rfl) rfl rfl (by (try simp only [List.map_toArray, List.map_cons, List.map_nil]); first | done | rfl | (simp only [List.length_drop, List.length_take]; rfl)) ?_
      with_reducible refine (impl_Pushed.calls kj19 _ _ t570 a1 a2 t573 t574 t575 t576 t577 t578 _ ?side1 ?side2 A50.out).mono ?_
      (case side1 => repeat (first | exact (Kd.R_reads' HO572.out).2.2 | (with_reducible refine Kd.C_alloc ?_ _) | (with_reducible refine Kd.C_drewN ?_ _) | (with_reducible refine Kd.C_drew ?_)))
      (case side2 => exact (Kd.R_reads' HO572.out).2.1)
      rintro e w69 ⟨v579, rfl, ho0, hb⟩
      refine ⟨_, rfl, ?_⟩
      have n0_ := am (Kd.R_elder' (rr HO_10) (Kd.R_base ho0) hb)
      have n1_ := am (Kd.R_elder' (rr HO_12) (Kd.R_base ho0) hb)
      have n2_ := am (Kd.R_elder' (rr HO572) (Kd.R_base ho0) hb)
      have n3_ := am (Kd.R_lower (Kd.R_new' (Kd.R_new' (Kd.R_new' ho0 (Kd.R_lt (rr HO_10))) (Kd.R_lt (rr HO_12))) (Kd.R_lt (rr HO572))) (below_size (rb1 HB GE535)))
      have n4_ := am (blk_below (g := gb535) (o := .cells #[.int .i64 a3_0, .int .i64 a3_1, .bool a3_2, .bool a3_3, .bool a3_4] 24 (0, 0)) (rk BK535) hb)
      have n5_ := am (below_step (rb1 HB GE535) hb)
      clear HO_10
      clear HO_12
      clear HO572
      clear BK535
      clear HB
      have HO_10 := n0_
      have HO_12 := n1_
      have HO572 := n2_
      have HO580 := n3_
      have BK535 := n4_
      have HB := n5_
      clear n0_ n1_ n2_ n3_ n4_ n5_
      (try clear hb)
      (try clear hb2)
      (try clear hk)
      (try clear hi)
      (try clear ho0)
      refine hK.out _ _ ⟨(blk_cell BK535.out 0).trans rfl, (blk_cell BK535.out 1).trans rfl, (blk_cell BK535.out 2).trans rfl, (blk_cell BK535.out 3).trans rfl, (blk_cell BK535.out 4).trans rfl⟩ (fun hHeld => ?_)
      clear hK K
      refine norm_ (a' := ?_) ?_ ?_
      rotate_left
      ·show Act.put _ (some 74) _ = _
       simp only [Act.put, List.setIfInBounds_toArray, List.set_cons_zero, List.set_cons_succ, i64_w, i32_w]
       rfl
      refine pu_ 7 16 (bm 8 255) HT_.out ?_
      refine done_ (done_of HT_.out (by kernel_rfl)) ?_
      obtain ⟨Ao70, co70, eo70⟩ := Kd.R_slice HO580.out
      subst eo70
      try go_wp2_with (first | ((with_reducible refine gate_callee (f := 13) rfl ?_); refine gl_ (some 77) Try.func13 #[.slice Ao70 t578.length co70, .slice Ao33 t545.length co33] ?_; (with_reducible refine (laws_eqCellS.calls kj19 _ _ t578 _ _ t545 true _ ?side1 ?side2 ?side3 ?side4 A51.out).mono ?_); (case side1 => repeat (first | exact (Kd.R_reads' HO580.out).2.2 | (with_reducible refine Kd.C_alloc ?_ _) | (with_reducible refine Kd.C_drewN ?_ _) | (with_reducible refine Kd.C_drew ?_))); (case side2 => exact (Kd.R_reads' HO580.out).2.1); (case side3 => repeat (first | exact (Kd.R_reads' HO_10.out).2.2 | (with_reducible refine Kd.C_alloc ?_ _) | (with_reducible refine Kd.C_drewN ?_ _) | (with_reducible refine Kd.C_drew ?_))); (case side4 => exact (Kd.R_reads' HO_10.out).2.1); rintro e w71 ⟨rfl, hb⟩; refine ⟨_, rfl, ?_⟩; have n0_ := am (Kd.R_below (rr HO_10) hb); have n1_ := am (Kd.R_below (rr HO_12) hb); have n2_ := am (Kd.R_below (rr HO572) hb); have n3_ := am (Kd.R_below (rr HO580) hb); have n4_ := am (blk_below (g := gb535) (o := .cells #[.int .i64 a3_0, .int .i64 a3_1, .bool a3_2, .bool a3_3, .bool a3_4] 24 (0, 0)) (rk BK535) hb); have n5_ := am (below_step (rb1 HB GE535) hb); clear HO_10; clear HO_12; clear HO572; clear HO580; clear BK535; clear HB; have HO_10 := n0_; have HO_12 := n1_; have HO572 := n2_; have HO580 := n3_; have BK535 := n4_; have HB := n5_; clear n0_ n1_ n2_ n3_ n4_ n5_; (try clear hb); (try clear hb2); (try clear hk); (try clear hi)) | ((with_reducible refine gate_callee (f := 15) rfl ?_); refine goesL_ (some 81) rfl rfl Try.func15 (by kernel_rfl) rfl #[.slice Ao32 t568.length co32, .int .i64 1] rfl (by (try simp only [List.map_toArray, List.map_cons, List.map_nil]); first | done | (rw [show t568.length = t556.length from (Kd.R_reads' HO_12.out).1.symm] <;> rfl) | rfl | (simp only [List.length_drop, List.length_take]; rfl)) ?_; (with_reducible refine (laws_heldCellS.calls kj19 _ _ t568 1 t582 _ ?side1 ?side2 A53.out).mono ?_); (case side1 => repeat (first | exact (Kd.R_reads' HO_12.out).2.2 | (with_reducible refine Kd.C_alloc ?_ _) | (with_reducible refine Kd.C_drewN ?_ _) | (with_reducible refine Kd.C_drew ?_))); (case side2 => rw [show t568.length = t556.length from (Kd.R_reads' HO_12.out).1.symm]; exact (Kd.R_reads' HO_12.out).2.1); rintro e w' ⟨rfl, ⟨nd, rfl⟩⟩; refine ⟨_, rfl, ?_⟩))
      go_ret
      exact ⟨by first | rfl | (simp [errW_none, errW_some] <;> rfl) | (simp [*, errW_none, errW_some] <;> rfl), by repeat (first | (with_reducible first | exact HB.out | apply b1 | apply b2 | apply b3 | refine below_set ?_ GE535.out) | exact HB.out)⟩

end Go.Proofs.Ytfhkpneffmcdbaa.QD
