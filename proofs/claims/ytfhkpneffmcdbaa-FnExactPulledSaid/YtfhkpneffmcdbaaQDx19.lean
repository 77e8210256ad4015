/- Contracts of Go functions that laws of this seat reach: each Lean function answers as its Go function does. No condition. Written by wip/tools/inj.py, over the kit's print. -/
import Derived.Test.YtfhkpneffmcdbaaQDx0
import Derived.Test.YtfhkpneffmcdbaaQDx3
import Derived.Test.YtfhkpneffmcdbaaQDx7
import Derived.Test.YtfhkpneffmcdbaaQDx8
import Derived.Test.YtfhkpneffmcdbaaQDx14
import Derived.Test.YtfhkpneffmcdbaaQDx16
import Derived.Test.YtfhkpneffmcdbaaQDx17
import Derived.Test.YtfhkpneffmcdbaaQDx18
namespace Go.Proofs.Ytfhkpneffmcdbaa.QD
open Go.RowKit Go.Proofs.YtfhkpneffmcdbaaW.PrintWords Go.Proofs.YtfhkpneffmcdbaaW.PrintLast Go.Proofs.YtfhkpneffmcdbaaW.PrintMore
attribute [local go_sem] max2_int min2_int max_two min_two max_three min_three max_four min_four   -- for this text's walks alone
set_option linter.unusedVariables false
set_option linter.unusedSimpArgs false

/-! ### laws_FnExactPulled: function 3 -/
def laws_FnExactPulled.j0 : Nat → List (S60) → Int → Int → List (S40) → List (S40) → Bool → Int → Int → Bool → Bool → Bool → Option (Bool)
 | 0, _, _, _, _, _, _, _, _, _, _, _ => none
 | k + 1, x0, x1, x2, x10, x12, x56, x389000, x389001, x389002, x389003, x389004 => if x56 = true then (some false) else ((laws_markCellS.f k x12 1).bind fun bt420 => ((laws_heldCellS.f k bt420.2 1).bind fun t422 => (if t422 < 0 then (some false) else (if t422 = bt420.1 then ((laws_toCellS.f k x0).bind fun t423 => ((laws_toStyle.f x389000 x389001 x389002 x389003 x389004).bind fun bt426 => ((impl_Pulled.f k t423 x1 x2 bt426.1 bt426.2.1 bt426.2.2.1 bt426.2.2.2.1 bt426.2.2.2.2).bind fun t431 => ((laws_eqCellS.f k t431 x10).bind fun t434 => (if t434 = true then ((laws_heldCellS.f k bt420.2 1).bind fun t435 => (if t435 < 0 then (some false) else (if t435 = bt420.1 then (some true) else (some false)))) else (some false)))))) else (some false)))))
def laws_FnExactPulled.f (k : Nat) (l0 : List (S60)) (a1 : Int) (a2 : Int) (a3_0 : Int) (a3_1 : Int) (a3_2 : Bool) (a3_3 : Bool) (a3_4 : Bool) : Option (Bool) := (laws_szCellS.f l0 1048576).bind fun t389 => (if t389 < 0 then (some true) else ((laws_toCellS.f k l0).bind fun t390 => ((laws_toStyle.f a3_0 a3_1 a3_2 a3_3 a3_4).bind fun bt393 => ((spec_Pulled.f k t390 a1 a2 bt393.1 bt393.2.1 bt393.2.2.1 bt393.2.2.2.1 bt393.2.2.2.2).bind fun t398 => ((laws_toCellS.f k l0).bind fun t401 => ((laws_toStyle.f a3_0 a3_1 a3_2 a3_3 a3_4).bind fun bt404 => ((impl_Pulled.f k t401 a1 a2 bt404.1 bt404.2.1 bt404.2.2.1 bt404.2.2.2.1 bt404.2.2.2.2).bind fun t409 => ((laws_eqCellS.f k t409 t398).bind fun t412 => (if t412 = true then ((laws_toCellS.f k l0).bind fun t413 => ((laws_eqCellS.f k t401 t413).bind fun t416 => (if t416 = true then ((laws_markCellS.f k t401 1).bind fun bt417 => (if bt417.1 < 0 then (laws_FnExactPulled.j0 k l0 a1 a2 t398 t409 true a3_0 a3_1 a3_2 a3_3 a3_4) else ((laws_eqCellS.f k t409 t398).bind fun t419 => (laws_FnExactPulled.j0 k l0 a1 a2 t398 t409 (!t419) a3_0 a3_1 a3_2 a3_3 a3_4)))) else (some false)))) else (some false))))))))))
theorem laws_FnExactPulled.mono_l : ∀ k, (∀ y0 y1 y2 y3 y4 y5 y6 y7 y8 y9 y10, LeO (laws_FnExactPulled.j0 k y0 y1 y2 y3 y4 y5 y6 y7 y8 y9 y10) (laws_FnExactPulled.j0 (k + 1) y0 y1 y2 y3 y4 y5 y6 y7 y8 y9 y10))
 | 0 => fun _ _ _ _ _ _ _ _ _ _ _ r h => by simp [laws_FnExactPulled.j0] at h
 | k + 1 => by
  have ih0 := laws_FnExactPulled.mono_l k
  ·intro y0 y1 y2 y3 y4 y5 y6 y7 y8 y9 y10
   unfold laws_FnExactPulled.j0
   repeat' first
   | (with_reducible exact ih0 _ _ _ _ _ _ _ _ _ _ _)
   | (with_reducible exact impl_Pulled.mono _ _ _ _ _ _ _ _ _)
   | (with_reducible exact laws_eqCellS.mono _ _ _)
   | (with_reducible exact laws_heldCellS.mono _ _ _)
   | (with_reducible exact laws_markCellS.mono _ _ _)
   | (with_reducible exact laws_toCellS.mono _ _)
   | (with_reducible exact spec_Pulled.mono _ _ _ _ _ _ _ _ _)
   | (with_reducible exact LeO.refl _)
   | (with_reducible exact LeO.none _)
   | (with_reducible refine LeO.ite ?_ ?_)
   | (with_reducible refine LeO.bind ?_ (fun _ => ?_))
theorem laws_FnExactPulled.mono : ∀ a0 a1 a2 a3 a4 a5 a6 a7 k, LeO (laws_FnExactPulled.f k a0 a1 a2 a3 a4 a5 a6 a7) (laws_FnExactPulled.f (k + 1) a0 a1 a2 a3 a4 a5 a6 a7) := by
 intro a0 a1 a2 a3 a4 a5 a6 a7 k
 have ih0 := laws_FnExactPulled.mono_l k
 unfold laws_FnExactPulled.f
 repeat' first
   | (with_reducible exact ih0 _ _ _ _ _ _ _ _ _ _ _)
   | (with_reducible exact impl_Pulled.mono _ _ _ _ _ _ _ _ _)
   | (with_reducible exact laws_eqCellS.mono _ _ _)
   | (with_reducible exact laws_heldCellS.mono _ _ _)
   | (with_reducible exact laws_markCellS.mono _ _ _)
   | (with_reducible exact laws_toCellS.mono _ _)
   | (with_reducible exact spec_Pulled.mono _ _ _ _ _ _ _ _ _)
   | (with_reducible exact LeO.refl _)
   | (with_reducible exact LeO.none _)
   | (with_reducible refine LeO.ite ?_ ?_)
   | (with_reducible refine LeO.bind ?_ (fun _ => ?_))
def laws_FnExactPulled.T5 : Bool × List (List Nat × List Nat) := (true, [([], []), ([0], [0]), ([], []), ([], []), ([], []), ([4, 1], [4]), ([1, 2, 3, 5, 5], [1, 2, 3, 5]), ([6, 6, 0, 1, 2, 3, 4, 5, 6], [6])])
def laws_FnExactPulled.B5 : List Nat := [0, 1, 0, 0, 0, 19, 63, 127]
theorem laws_FnExactPulled.tab5 : rtab .any (opsOf Try.f3 5) = laws_FnExactPulled.T5 := by kernel_rfl
theorem laws_FnExactPulled.bits5 : waitsOk laws_FnExactPulled.T5.2 laws_FnExactPulled.B5 = true := by kernel_rfl
def laws_FnExactPulled.T24 : Bool × List (List Nat × List Nat) := (true, [([], []), ([0], [0]), ([], []), ([], []), ([], []), ([4, 1], [4]), ([1, 2, 3, 5, 5], [1, 2, 3, 5]), ([6, 6, 0, 1, 2, 3, 4, 5, 6], [6])])
def laws_FnExactPulled.B24 : List Nat := [0, 1, 0, 0, 0, 19, 63, 127]
theorem laws_FnExactPulled.tab24 : rtab .any (opsOf Try.f3 24) = laws_FnExactPulled.T24 := by kernel_rfl
theorem laws_FnExactPulled.bits24 : waitsOk laws_FnExactPulled.T24.2 laws_FnExactPulled.B24 = true := by kernel_rfl
set_option maxHeartbeats 8000000 in
set_option maxRecDepth 100000 in
theorem laws_FnExactPulled.calls (k : Nat) (A0 : Option Addr) (c0 : Nat) (l0 : List (S60)) (a1 : Int) (a2 : Int) (a3_0 : Int) (a3_1 : Int) (a3_2 : Bool) (a3_3 : Bool) (a3_4 : Bool) (r : Bool) (w : World) (hr0 : Kd.C k60 w A0 l0.length l0) (hc0 : l0.length ≤ c0) (h : laws_FnExactPulled.f k l0 a1 a2 a3_0 a3_1 a3_2 a3_3 a3_4 = some r) (hT_ : r = true) :
  Calls Try.prog 3 #[.slice A0 l0.length c0, .int .i64 a1, .int .i64 a2, .agg #[.int .i64 a3_0, .int .i64 a3_1, .bool a3_2, .bool a3_3, .bool a3_4]] w fun e w' => e = .returned (.bool r) ∧ Below w.heap.size w w' := by
 have hu24 := Try.underlying24
 have HR0 := am hr0
 have HC0 := am hc0
 clear hr0 hc0
 have HB := am (Below.refl w.heap.size w)
 have H := h
 unfold laws_FnExactPulled.f at H
 clear h
 replace H := Option.bind_eq_some_iff.mp H
 obtain ⟨t389, A50, H⟩ := H
 (try dsimp only at H)
 have A5 := am A50
 clear A50
 by_cases c6 : t389 < 0
 ·rw [if_pos c6] at H
  have c6b0 : decide (t389 < 0) = true := decide_eq_true c6
  clear c6
  obtain rfl := Option.some.inj H
  go_enter Try.func3, Try.ntmps3
  go_wp2_with (first | ((with_reducible refine gate_dst (N := 7) rfl ?_); refine box_event ?hg (N := 7) ?hd (cs := #[.int .i64 a3_0, .int .i64 a3_1, .bool a3_2, .bool a3_3, .bool a3_4]) (t := 24) ?hr ?_; (case hd => rfl); (case hg => rfl); (case hr => first | (go_simp; done) | (go_simp; rfl)); intro gb388 hg w7 hbox hb; have n0_ := am (below_step (rb HB) hb); have n1_ := am (hbox); have n2_ := am ((by rw [hg]; exact (below_size (rb HB)) : w.heap.size ≤ gb388)); have n3_ := am ((by rw [hg]; exact (below_size (rb HB)) : w.heap.size ≤ gb388)); clear HB; have HB := n0_; have BK388 := n1_; have GW388 := n2_; have GE388 := n3_; clear n0_ n1_ n2_ n3_; clear hb hbox hg) | ((with_reducible refine gate_callee (f := 8) rfl ?_); refine gl_ (some 19) Try.func8 #[.slice A0 l0.length c0, .int .i64 1048576] ?_; (with_reducible refine (laws_szCellS.calls _ _ l0 1048576 t389 _ ?side1 ?side2 A5.out).mono ?_); (case side1 => exact rc ((Kd.C_below HR0.out HB.out))); (case side2 => exact HC0.out); rintro e w' ⟨rfl, ⟨nd, rfl⟩⟩; refine ⟨_, rfl, ?_⟩))
  go_ret
  exact ⟨by first | rfl | (simp [errW_none, errW_some] <;> rfl) | (simp [*, errW_none, errW_some] <;> rfl), by repeat (first | (with_reducible first | exact HB.out | apply b1 | apply b2 | apply b3 | refine below_set ?_ GE388.out) | exact HB.out)⟩
 ·rw [if_neg c6] at H
  have c6b0 : decide (t389 < 0) = false := decide_eq_false c6
  clear c6
  replace H := Option.bind_eq_some_iff.mp H
  obtain ⟨t390, A80, H⟩ := H
  (try dsimp only at H)
  have A8 := am A80
  clear A80
  replace H := Option.bind_eq_some_iff.mp H
  obtain ⟨⟨t393, t394, t395, t396, t397⟩, A90, H⟩ := H
  (try dsimp only at H)
  have A9 := am A90
  clear A90
  replace H := Option.bind_eq_some_iff.mp H
  obtain ⟨t398, A100, H⟩ := H
  (try dsimp only at H)
  have A10 := am A100
  clear A100
  replace H := Option.bind_eq_some_iff.mp H
  obtain ⟨t401, A110, H⟩ := H
  (try dsimp only at H)
  have A11 := am A110
  clear A110
  replace H := Option.bind_eq_some_iff.mp H
  obtain ⟨⟨t404, t405, t406, t407, t408⟩, A120, H⟩ := H
  (try dsimp only at H)
  have A12 := am A120
  clear A120
  replace H := Option.bind_eq_some_iff.mp H
  obtain ⟨t409, A130, H⟩ := H
  (try dsimp only at H)
  have A13 := am A130
  clear A130
  replace H := Option.bind_eq_some_iff.mp H
  obtain ⟨t412, A140, H⟩ := H
  (try dsimp only at H)
  have A14 := am A140
  clear A140
  refine em_ (p := t412 = true) (fun c15 => ?g1p) (fun c15 => ?g1n)
  case' g1p =>
   subst c15
   rw [if_pos rfl] at H
   replace H := Option.bind_eq_some_iff.mp H
   obtain ⟨t413, A160, H⟩ := H
   (try dsimp only at H)
   have A16 := am A160
   clear A160
   replace H := Option.bind_eq_some_iff.mp H
   obtain ⟨t416, A170, H⟩ := H
   (try dsimp only at H)
   have A17 := am A170
   clear A170
   refine em_ (p := t416 = true) (fun c18 => ?g0p) (fun c18 => ?g0n)
   case' g0p =>
    subst c18
    rw [if_pos rfl] at H
    replace H := Option.bind_eq_some_iff.mp H
    obtain ⟨⟨t417, t418⟩, A190, H⟩ := H
    (try dsimp only at H)
    have A19 := am A190
    clear A190
    have HC20 := am H
    clear H
    have lf2_ := trivial
   case g0n =>
    replace c18 := Bool.eq_false_iff.mpr c18
    subst c18
    have H1 : (some false) = some r := by rw [if_neg (show ¬ (false = true) by decide)] at H; exact H
    clear H
    have H := H1
    clear H1
    exact absurd (Option.some.inj (H.trans (congrArg some hT_))) Bool.false_ne_true
  case g1n =>
   replace c15 := Bool.eq_false_iff.mpr c15
   subst c15
   have H1 : (some false) = some r := by rw [if_neg (show ¬ (false = true) by decide)] at H; exact H
   clear H
   have H := H1
   clear H1
   exact absurd (Option.some.inj (H.trans (congrArg some hT_))) Bool.false_ne_true
  all_goals
   go_enter Try.func3, Try.ntmps3
   try go_wp2_with (first | ((with_reducible refine gate_dst (N := 7) rfl ?_); refine box_event ?hg (N := 7) ?hd (cs := #[.int .i64 a3_0, .int .i64 a3_1, .bool a3_2, .bool a3_3, .bool a3_4]) (t := 24) ?hr ?_; (case hd => rfl); (case hg => rfl); (case hr => first | (go_simp; done) | (go_simp; rfl)); intro gb388 hg w21 hbox hb; have n0_ := am (below_step (rb HB) hb); have n1_ := am (hbox); have n2_ := am ((by rw [hg]; exact (below_size (rb HB)) : w.heap.size ≤ gb388)); have n3_ := am ((by rw [hg]; exact (below_size (rb HB)) : w.heap.size ≤ gb388)); clear HB; have HB := n0_; have BK388 := n1_; have GW388 := n2_; have GE388 := n3_; clear n0_ n1_ n2_ n3_; clear hb hbox hg) | ((with_reducible refine gate_callee (f := 8) rfl ?_); refine gl_ (some 19) Try.func8 #[.slice A0 l0.length c0, .int .i64 1048576] ?_; (with_reducible refine (laws_szCellS.calls _ _ l0 1048576 t389 _ ?side1 ?side2 A5.out).mono ?_); (case side1 => exact rc ((Kd.C_below HR0.out HB.out))); (case side2 => exact HC0.out); rintro e w' ⟨rfl, ⟨nd, rfl⟩⟩; refine ⟨_, rfl, ?_⟩))
   (try (rw [drewN_self w21]; generalize hq_ : World.drewN w21 _ = w21; have n0_ : Aside0 (w21.heap[gb388]? = some (.cells #[.int .i64 a3_0, .int .i64 a3_1, .bool a3_2, .bool a3_3, .bool a3_4] 24 (0, 0))) := ⟨by rw [← hq_]; exact (rk BK388)⟩; have n1_ : Aside0 (Below w.heap.size w w21) := ⟨by rw [← hq_]; exact (rb1 HB GE388)⟩; clear BK388 HB hq_; have BK388 := n0_; have HB := n1_; clear n0_ n1_))
   have n0_ := am (blk_drew BK388.out)
   have n1_ := am (below_drew1 HB.out)
   clear BK388
   clear HB
   have BK388 := n0_
   have HB := n1_
   clear n0_ n1_
   refine start_ (n := 8) (S := fun w' => w'.cell? ⟨gb388, 0, none⟩ = some (.int .i64 a3_0) ∧ w'.cell? ⟨gb388, 1, none⟩ = some (.int .i64 a3_1) ∧ w'.cell? ⟨gb388, 2, none⟩ = some (.bool a3_2) ∧ w'.cell? ⟨gb388, 3, none⟩ = some (.bool a3_3) ∧ w'.cell? ⟨gb388, 4, none⟩ = some (.bool a3_4)) (ds := []) (bm 8 0) (by kernel_rfl) rfl rfl ⟨(blk_cell BK388.out 0).trans rfl, (blk_cell BK388.out 1).trans rfl, (blk_cell BK388.out 2).trans rfl, (blk_cell BK388.out 3).trans rfl, (blk_cell BK388.out 4).trans rfl⟩ (fun hHeld => ?_); refine with_tabW laws_FnExactPulled.tab5 laws_FnExactPulled.bits5 (fun HT_ HW_ => ?_)
   generalize w21.drew = w22 at BK388 HB hHeld ⊢
   refine pu_ 0 22 (bm 8 1) HT_.out ?_
   refine pu_ 2 24 (bm 8 5) HT_.out ?_
   refine pu_ 3 25 (bm 8 13) HT_.out ?_
   refine take_ (i := 4) (N := some 26) (v := ?_) (a' := ?_) (bm 8 29) rfl rfl (take_ofW HT_.out HW_.out (by kernel_rfl)) (fun _ _ _ h => h) (Or.inl ⟨by rfl, ?_⟩) hHeld ?_ ?_
   rotate_left
   ·rintro w' ⟨s0, s1, s2, s3, s4⟩
    go_simp
    with_reducible rfl
   rotate_left
   ·simp only [Act.put, List.setIfInBounds_toArray, List.set_cons_zero, List.set_cons_succ, i64_w, i32_w]
    rfl
   refine one_ (i := 1) (N := some 23) (bm 8 31) rfl rfl (one_of HT_.out (by kernel_rfl)) (by decide) (fun K hK => ?_)
   refine goes_ Try.func10 (by kernel_rfl) rfl #[.slice A0 l0.length c0] (by rfl) rfl rfl (by (try simp only [List.map_toArray, List.map_cons, List.map_nil]); first | done | rfl | (simp only [List.length_drop, List.length_take]; rfl)) ?_
   with_reducible refine (laws_toCellS.calls k _ _ l0 t390 _ ?side1 ?side2 A8.out).mono ?_
   (case side1 => exact rc ((Kd.C_below HR0.out HB.out)))
   (case side2 => exact HC0.out)
   rintro e w23 ⟨v391, rfl, ho0, hb⟩
   refine ⟨_, rfl, ?_⟩
   have n0_ := am (Kd.R_lower ho0 (below_size (rb1 HB GE388)))
   have n1_ := am (blk_below (g := gb388) (o := .cells #[.int .i64 a3_0, .int .i64 a3_1, .bool a3_2, .bool a3_3, .bool a3_4] 24 (0, 0)) (rk BK388) hb)
   have n2_ := am (below_step (rb1 HB GE388) hb)
   clear BK388
   clear HB
   have HO392 := n0_
   have BK388 := n1_
   have HB := n2_
   clear n0_ n1_ n2_
   (try clear hb)
   (try clear hb2)
   (try clear hk)
   (try clear hi)
   (try clear ho0)
   refine hK.out _ _ ⟨(blk_cell BK388.out 0).trans rfl, (blk_cell BK388.out 1).trans rfl, (blk_cell BK388.out 2).trans rfl, (blk_cell BK388.out 3).trans rfl, (blk_cell BK388.out 4).trans rfl⟩ (fun hHeld => ?_)
   clear hK K
   refine norm_ (a' := ?_) ?_ ?_
   rotate_left
   ·show Act.put _ (some 23) _ = _
    simp only [Act.put, List.setIfInBounds_toArray, List.set_cons_zero, List.set_cons_succ, i64_w, i32_w]
    rfl
   refine one_ (i := 5) (N := some 27) (bm 8 63) rfl rfl (one_of HT_.out (by kernel_rfl)) (by decide) (fun K hK => ?_)
   refine goes_ Try.func11 (by kernel_rfl) rfl #[.agg #[.int .i64 a3_0, .int .i64 a3_1, .bool a3_2, .bool a3_3, .bool a3_4]] (by rfl) rfl rfl (by (try simp only [List.map_toArray, List.map_cons, List.map_nil]); first | done | rfl | (simp only [List.length_drop, List.length_take]; rfl)) ?_
   with_reducible refine (laws_toStyle.calls a3_0 a3_1 a3_2 a3_3 a3_4 t393 t394 t395 t396 t397 _ A9.out).mono ?_
   rintro e w24 ⟨rfl, hb⟩
   refine ⟨_, rfl, ?_⟩
   have n0_ := am (Kd.R_below (rr HO392) hb)
   have n1_ := am (blk_below (g := gb388) (o := .cells #[.int .i64 a3_0, .int .i64 a3_1, .bool a3_2, .bool a3_3, .bool a3_4] 24 (0, 0)) (rk BK388) hb)
   have n2_ := am (below_step (rb1 HB GE388) hb)
   clear HO392
   clear BK388
   clear HB
   have HO392 := n0_
   have BK388 := n1_
   have HB := n2_
   clear n0_ n1_ n2_
   (try clear hb)
   (try clear hb2)
   (try clear hk)
   (try clear hi)
   obtain ⟨Ao25, co25, eo25⟩ := Kd.R_slice HO392.out
   (first | subst eo25 | (injection eo25 with f1_ f2_ f3_; have f4_ := f1_.symm; have f5_ := f3_.symm; clear f1_ f2_ f3_; subst f4_; subst f5_))
   refine hK.out _ _ ⟨(blk_cell BK388.out 0).trans rfl, (blk_cell BK388.out 1).trans rfl, (blk_cell BK388.out 2).trans rfl, (blk_cell BK388.out 3).trans rfl, (blk_cell BK388.out 4).trans rfl⟩ (fun hHeld => ?_)
   clear hK K
   refine norm_ (a' := ?_) ?_ ?_
   rotate_left
   ·show Act.put _ (some 27) _ = _
    simp only [Act.put, List.setIfInBounds_toArray, List.set_cons_zero, List.set_cons_succ, i64_w, i32_w]
    rfl
   refine one_ (i := 6) (N := some 28) (bm 8 127) rfl rfl (one_of HT_.out (by kernel_rfl)) (by decide) (fun K hK => ?_)
   refine goes_ Try.func9 (by kernel_rfl) rfl #[.slice Ao25 t390.length co25, .int .i64 a1, .int .i64 a2, .agg #[.int .i64 t393, .int .i64 t394, .bool t395, .bool t396, .bool t397]] (by rfl) rfl rfl (by (try simp only [List.map_toArray, List.map_cons, List.map_nil]); first | done | rfl | (simp only [List.length_drop, List.length_take]; rfl)) ?_
   with_reducible refine (spec_Pulled.calls k _ _ t390 a1 a2 t393 t394 t395 t396 t397 t398 _ ?side1 ?side2 A10.out).mono ?_
   (case side1 => repeat (first | exact (Kd.R_reads' HO392.out).2.2 | (with_reducible refine Kd.C_alloc ?_ _) | (with_reducible refine Kd.C_drewN ?_ _) | (with_reducible refine Kd.C_drew ?_)))
   (case side2 => exact (Kd.R_reads' HO392.out).2.1)
   rintro e w26 ⟨v399, rfl, ho0, hb⟩
   refine ⟨_, rfl, ?_⟩
   have n0_ := am (Kd.R_elder' (rr HO392) (Kd.R_base ho0) hb)
   have n1_ := am (Kd.R_lower (Kd.R_new' ho0 (Kd.R_lt (rr HO392))) (below_size (rb1 HB GE388)))
   have n2_ := am (blk_below (g := gb388) (o := .cells #[.int .i64 a3_0, .int .i64 a3_1, .bool a3_2, .bool a3_3, .bool a3_4] 24 (0, 0)) (rk BK388) hb)
   have n3_ := am (below_step (rb1 HB GE388) hb)
   clear HO392
   clear BK388
   clear HB
   have HO392 := n0_
   have HO400 := n1_
   have BK388 := n2_
   have HB := n3_
   clear n0_ n1_ n2_ n3_
   (try clear hb)
   (try clear hb2)
   (try clear hk)
   (try clear hi)
   (try clear ho0)
   refine hK.out _ _ ⟨(blk_cell BK388.out 0).trans rfl, (blk_cell BK388.out 1).trans rfl, (blk_cell BK388.out 2).trans rfl, (blk_cell BK388.out 3).trans rfl, (blk_cell BK388.out 4).trans rfl⟩ (fun hHeld => ?_)
   clear hK K
   refine norm_ (a' := ?_) ?_ ?_
   rotate_left
   ·show Act.put _ (some 28) _ = _
    simp only [Act.put, List.setIfInBounds_toArray, List.set_cons_zero, List.set_cons_succ, i64_w, i32_w]
    rfl
   refine pu_ 7 10 (bm 8 255) HT_.out ?_
   refine done_ (done_of HT_.out (by kernel_rfl)) ?_
   go_upto_region 14 with (first | ((with_reducible refine gate_callee (f := 10) rfl ?_); refine gl_ (some 30) Try.func10 #[.slice A0 l0.length c0] ?_; (with_reducible refine (laws_toCellS.calls k _ _ l0 t401 _ ?side1 ?side2 A11.out).mono ?_); (case side1 => exact rc ((Kd.C_below HR0.out HB.out))); (case side2 => exact HC0.out); rintro e w27 ⟨v402, rfl, ho0, hb⟩; refine ⟨_, rfl, ?_⟩; have n0_ := am (Kd.R_elder' (rr HO392) (Kd.R_base ho0) hb); have n1_ := am (Kd.R_elder' (rr HO400) (Kd.R_base ho0) hb); have n2_ := am (Kd.R_lower (Kd.R_new' (Kd.R_new' ho0 (Kd.R_lt (rr HO392))) (Kd.R_lt (rr HO400))) (below_size (rb1 HB GE388))); have n3_ := am (blk_below (g := gb388) (o := .cells #[.int .i64 a3_0, .int .i64 a3_1, .bool a3_2, .bool a3_3, .bool a3_4] 24 (0, 0)) (rk BK388) hb); have n4_ := am (below_step (rb1 HB GE388) hb); clear HO392; clear HO400; clear BK388; clear HB; have HO392 := n0_; have HO400 := n1_; have HO403 := n2_; have BK388 := n3_; have HB := n4_; clear n0_ n1_ n2_ n3_ n4_; (try clear hb); (try clear hb2); (try clear hk); (try clear hi); (try clear ho0); have hcz28_0 : w27.cell? ⟨gb388, 0, none⟩ = some (.int .i64 a3_0) := (blk_cell BK388.out 0).trans rfl; have hcz28_1 : w27.cell? ⟨gb388, 1, none⟩ = some (.int .i64 a3_1) := (blk_cell BK388.out 1).trans rfl; have hcz28_2 : w27.cell? ⟨gb388, 2, none⟩ = some (.bool a3_2) := (blk_cell BK388.out 2).trans rfl; have hcz28_3 : w27.cell? ⟨gb388, 3, none⟩ = some (.bool a3_3) := (blk_cell BK388.out 3).trans rfl; have hcz28_4 : w27.cell? ⟨gb388, 4, none⟩ = some (.bool a3_4) := (blk_cell BK388.out 4).trans rfl; have hfz28_0 := blk_frozen BK388.out 0; have hfz28_1 := blk_frozen BK388.out 1; have hfz28_2 := blk_frozen BK388.out 2; have hfz28_3 := blk_frozen BK388.out 3; have hfz28_4 := blk_frozen BK388.out 4) | ((with_reducible refine gate_callee (f := 11) rfl ?_); refine gl_ (some 35) Try.func11 #[.agg #[.int .i64 a3_0, .int .i64 a3_1, .bool a3_2, .bool a3_3, .bool a3_4]] ?_; (with_reducible refine (laws_toStyle.calls a3_0 a3_1 a3_2 a3_3 a3_4 t404 t405 t406 t407 t408 _ A12.out).mono ?_); rintro e w29 ⟨rfl, hb⟩; refine ⟨_, rfl, ?_⟩; have n0_ := am (Kd.R_below (rr HO392) hb); have n1_ := am (Kd.R_below (rr HO400) hb); have n2_ := am (Kd.R_below (rr HO403) hb); have n3_ := am (blk_below (g := gb388) (o := .cells #[.int .i64 a3_0, .int .i64 a3_1, .bool a3_2, .bool a3_3, .bool a3_4] 24 (0, 0)) (rk BK388) hb); have n4_ := am (below_step (rb1 HB GE388) hb); clear HO392; clear HO400; clear HO403; clear BK388; clear HB; have HO392 := n0_; have HO400 := n1_; have HO403 := n2_; have BK388 := n3_; have HB := n4_; clear n0_ n1_ n2_ n3_ n4_; (try clear hb); (try clear hb2); (try clear hk); (try clear hi); obtain ⟨Ao30, co30, eo30⟩ := Kd.R_slice HO403.out; subst eo30) | ((with_reducible refine gate_callee (f := 12) rfl ?_); refine gl_ (some 36) Try.func12 #[.slice Ao30 t401.length co30, .int .i64 a1, .int .i64 a2, .agg #[.int .i64 t404, .int .i64 t405, .bool t406, .bool t407, .bool t408]] ?_; (with_reducible refine (impl_Pulled.calls k _ _ t401 a1 a2 t404 t405 t406 t407 t408 t409 _ ?side1 ?side2 A13.out).mono ?_); (case side1 => repeat (first | exact (Kd.R_reads' HO403.out).2.2 | (with_reducible refine Kd.C_alloc ?_ _) | (with_reducible refine Kd.C_drewN ?_ _) | (with_reducible refine Kd.C_drew ?_))); (case side2 => exact (Kd.R_reads' HO403.out).2.1); rintro e w31 ⟨v410, rfl, ho0, hb⟩; refine ⟨_, rfl, ?_⟩; have n0_ := am (Kd.R_elder' (rr HO392) (Kd.R_base ho0) hb); have n1_ := am (Kd.R_elder' (rr HO400) (Kd.R_base ho0) hb); have n2_ := am (Kd.R_elder' (rr HO403) (Kd.R_base ho0) hb); have n3_ := am (Kd.R_lower (Kd.R_new' (Kd.R_new' (Kd.R_new' ho0 (Kd.R_lt (rr HO392))) (Kd.R_lt (rr HO400))) (Kd.R_lt (rr HO403))) (below_size (rb1 HB GE388))); have n4_ := am (blk_below (g := gb388) (o := .cells #[.int .i64 a3_0, .int .i64 a3_1, .bool a3_2, .bool a3_3, .bool a3_4] 24 (0, 0)) (rk BK388) hb); have n5_ := am (below_step (rb1 HB GE388) hb); clear HO392; clear HO400; clear HO403; clear BK388; clear HB; have HO392 := n0_; have HO400 := n1_; have HO403 := n2_; have HO411 := n3_; have BK388 := n4_; have HB := n5_; clear n0_ n1_ n2_ n3_ n4_ n5_; (try clear hb); (try clear hb2); (try clear hk); (try clear hi); (try clear ho0); obtain ⟨Ao32, co32, eo32⟩ := Kd.R_slice HO411.out; subst eo32; obtain ⟨Ao33, co33, eo33⟩ := Kd.R_slice HO400.out; subst eo33) | ((with_reducible refine gate_callee (f := 13) rfl ?_); refine gl_ (some 39) Try.func13 #[.slice Ao32 t409.length co32, .slice Ao33 t398.length co33] ?_; (with_reducible refine (laws_eqCellS.calls k _ _ t409 _ _ t398 true _ ?side1 ?side2 ?side3 ?side4 A14.out).mono ?_); (case side1 => repeat (first | exact (Kd.R_reads' HO411.out).2.2 | (with_reducible refine Kd.C_alloc ?_ _) | (with_reducible refine Kd.C_drewN ?_ _) | (with_reducible refine Kd.C_drew ?_))); (case side2 => exact (Kd.R_reads' HO411.out).2.1); (case side3 => repeat (first | exact (Kd.R_reads' HO400.out).2.2 | (with_reducible refine Kd.C_alloc ?_ _) | (with_reducible refine Kd.C_drewN ?_ _) | (with_reducible refine Kd.C_drew ?_))); (case side4 => exact (Kd.R_reads' HO400.out).2.1); rintro e w34 ⟨rfl, hb⟩; refine ⟨_, rfl, ?_⟩; have n0_ := am (Kd.R_below (rr HO392) hb); have n1_ := am (Kd.R_below (rr HO400) hb); have n2_ := am (Kd.R_below (rr HO403) hb); have n3_ := am (Kd.R_below (rr HO411) hb); have n4_ := am (blk_below (g := gb388) (o := .cells #[.int .i64 a3_0, .int .i64 a3_1, .bool a3_2, .bool a3_3, .bool a3_4] 24 (0, 0)) (rk BK388) hb); have n5_ := am (below_step (rb1 HB GE388) hb); clear HO392; clear HO400; clear HO403; clear HO411; clear BK388; clear HB; have HO392 := n0_; have HO400 := n1_; have HO403 := n2_; have HO411 := n3_; have BK388 := n4_; have HB := n5_; clear n0_ n1_ n2_ n3_ n4_ n5_; (try clear hb); (try clear hb2); (try clear hk); (try clear hi)) | ((with_reducible refine gate_callee (f := 10) rfl ?_); refine gl_ (some 43) Try.func10 #[.slice A0 l0.length c0] ?_; (with_reducible refine (laws_toCellS.calls k _ _ l0 t413 _ ?side1 ?side2 A16.out).mono ?_); (case side1 => exact rc ((Kd.C_below HR0.out HB.out))); (case side2 => exact HC0.out); rintro e w35 ⟨v414, rfl, ho0, hb⟩; refine ⟨_, rfl, ?_⟩; have n0_ := am (Kd.R_elder' (rr HO392) (Kd.R_base ho0) hb); have n1_ := am (Kd.R_elder' (rr HO400) (Kd.R_base ho0) hb); have n2_ := am (Kd.R_elder' (rr HO403) (Kd.R_base ho0) hb); have n3_ := am (Kd.R_elder' (rr HO411) (Kd.R_base ho0) hb); have n4_ := am (Kd.R_lower (Kd.R_new' (Kd.R_new' (Kd.R_new' (Kd.R_new' ho0 (Kd.R_lt (rr HO392))) (Kd.R_lt (rr HO400))) (Kd.R_lt (rr HO403))) (Kd.R_lt (rr HO411))) (below_size (rb1 HB GE388))); have n5_ := am (blk_below (g := gb388) (o := .cells #[.int .i64 a3_0, .int .i64 a3_1, .bool a3_2, .bool a3_3, .bool a3_4] 24 (0, 0)) (rk BK388) hb); have n6_ := am (below_step (rb1 HB GE388) hb); clear HO392; clear HO400; clear HO403; clear HO411; clear BK388; clear HB; have HO392 := n0_; have HO400 := n1_; have HO403 := n2_; have HO411 := n3_; have HO415 := n4_; have BK388 := n5_; have HB := n6_; clear n0_ n1_ n2_ n3_ n4_ n5_ n6_; (try clear hb); (try clear hb2); (try clear hk); (try clear hi); (try clear ho0); obtain ⟨Ao36, co36, eo36⟩ := Kd.R_slice HO415.out; subst eo36) | ((with_reducible refine gate_callee (f := 13) rfl ?_); refine gl_ (some 44) Try.func13 #[.slice Ao30 t401.length co30, .slice Ao36 t413.length co36] ?_; (with_reducible refine (laws_eqCellS.calls k _ _ t401 _ _ t413 true _ ?side1 ?side2 ?side3 ?side4 A17.out).mono ?_); (case side1 => repeat (first | exact (Kd.R_reads' HO403.out).2.2 | (with_reducible refine Kd.C_alloc ?_ _) | (with_reducible refine Kd.C_drewN ?_ _) | (with_reducible refine Kd.C_drew ?_))); (case side2 => exact (Kd.R_reads' HO403.out).2.1); (case side3 => repeat (first | exact (Kd.R_reads' HO415.out).2.2 | (with_reducible refine Kd.C_alloc ?_ _) | (with_reducible refine Kd.C_drewN ?_ _) | (with_reducible refine Kd.C_drew ?_))); (case side4 => exact (Kd.R_reads' HO415.out).2.1); rintro e w37 ⟨rfl, hb⟩; refine ⟨_, rfl, ?_⟩; have n0_ := am (Kd.R_below (rr HO392) hb); have n1_ := am (Kd.R_below (rr HO400) hb); have n2_ := am (Kd.R_below (rr HO403) hb); have n3_ := am (Kd.R_below (rr HO411) hb); have n4_ := am (Kd.R_below (rr HO415) hb); have n5_ := am (blk_below (g := gb388) (o := .cells #[.int .i64 a3_0, .int .i64 a3_1, .bool a3_2, .bool a3_3, .bool a3_4] 24 (0, 0)) (rk BK388) hb); have n6_ := am (below_step (rb1 HB GE388) hb); clear HO392; clear HO400; clear HO403; clear HO411; clear HO415; clear BK388; clear HB; have HO392 := n0_; have HO400 := n1_; have HO403 := n2_; have HO411 := n3_; have HO415 := n4_; have BK388 := n5_; have HB := n6_; clear n0_ n1_ n2_ n3_ n4_ n5_ n6_; (try clear hb); (try clear hb2); (try clear hk); (try clear hi)) | ((with_reducible refine gate_callee (f := 14) rfl ?_); refine gl_ (some 48) Try.func14 #[.slice Ao30 t401.length co30, .int .i64 1] ?_; (with_reducible refine (laws_markCellS.calls k (fun k_ => some k_ = (.slice Ao30 t401.length co30 : Value).ownBlock) (.slice Ao30 t401.length co30) t401 1 t417 t418 w _ ?side1 ?side2 A19.out).mono ?_); (case side1 => repeat (first | (with_reducible first | exact HB.out | apply b1 | apply b2 | apply b3 | refine below_set ?_ GE388.out) | exact HB.out)); (case side2 => exact Kd.R_tight rfl HO403.out); rintro e w38 ⟨rfl, hy0, hb, hkp⟩; refine ⟨_, rfl, ?_⟩; have n0_ := am (blk_kept (rk BK388) hkp (fun hs_ => (fun e_ => (Kd.R_ne HO403.out BK388.out (by decide)) e_) hs_)); have n1_ := am (Kd.R_mono (ok' := fun k_ => some k_ ≠ (.slice Ao33 t398.length co33 : Value).ownBlock ∧ some k_ ≠ (.slice Ao30 t401.length co30 : Value).ownBlock ∧ some k_ ≠ (.slice Ao32 t409.length co32 : Value).ownBlock ∧ some k_ ≠ (.slice Ao36 t413.length co36 : Value).ownBlock) (Kd.R_keptB (HO392.out) hkp (fun k_ hk_ hs_ => (hk_.1.1.2) hs_)) (fun k_ hk_ => ⟨hk_.1.1.1.1.2, hk_.1.1.1.2, hk_.1.1.2, hk_.1.2⟩)); have n2_ := am (Kd.R_mono (ok' := fun k_ => some k_ ≠ (.slice Ao25 t390.length co25 : Value).ownBlock ∧ some k_ ≠ (.slice Ao30 t401.length co30 : Value).ownBlock ∧ some k_ ≠ (.slice Ao32 t409.length co32 : Value).ownBlock ∧ some k_ ≠ (.slice Ao36 t413.length co36 : Value).ownBlock) (Kd.R_keptB (HO400.out) hkp (fun k_ hk_ hs_ => (hk_.1.1.2) hs_)) (fun k_ hk_ => ⟨hk_.1.1.1.1.2, hk_.1.1.1.2, hk_.1.1.2, hk_.1.2⟩)); have n3_ := am (Kd.R_reok rfl hy0 (fun k_ e_ => HO403.out.1 k_ e_)); have n4_ := am (Kd.R_mono (ok' := fun k_ => some k_ ≠ (.slice Ao25 t390.length co25 : Value).ownBlock ∧ some k_ ≠ (.slice Ao33 t398.length co33 : Value).ownBlock ∧ some k_ ≠ (.slice Ao30 t401.length co30 : Value).ownBlock ∧ some k_ ≠ (.slice Ao36 t413.length co36 : Value).ownBlock) (Kd.R_keptB (HO411.out) hkp (fun k_ hk_ hs_ => (hk_.1.2) hs_)) (fun k_ hk_ => ⟨hk_.1.1.1.1.2, hk_.1.1.1.2, hk_.1.1.2, hk_.1.2⟩)); have n5_ := am (Kd.R_mono (ok' := fun k_ => some k_ ≠ (.slice Ao25 t390.length co25 : Value).ownBlock ∧ some k_ ≠ (.slice Ao33 t398.length co33 : Value).ownBlock ∧ some k_ ≠ (.slice Ao30 t401.length co30 : Value).ownBlock ∧ some k_ ≠ (.slice Ao32 t409.length co32 : Value).ownBlock) (Kd.R_keptB (HO415.out) hkp (fun k_ hk_ hs_ => (hk_.1.2) hs_)) (fun k_ hk_ => ⟨hk_.1.1.1.1.2, hk_.1.1.1.2, hk_.1.1.2, hk_.1.2⟩)); have n6_ := am (hb); clear BK388; clear HO392; clear HO400; clear HO403; clear HO411; clear HO415; clear HB; have BK388 := n0_; have HO392 := n1_; have HO400 := n2_; have HO403 := n3_; have HO411 := n4_; have HO415 := n5_; have HB := n6_; clear n0_ n1_ n2_ n3_ n4_ n5_ n6_; (try clear hb); (try clear hkp); (try clear hy0)))
   (try simp only [Act.put, List.setIfInBounds_toArray, List.set_cons_zero, List.set_cons_succ])
   go_cut [56] (fun v56 wc => ∃ (kq : Nat) (x56_19 : Bool), v56 = .bool x56_19 ∧ Aside0 (laws_FnExactPulled.j0 kq l0 a1 a2 t398 t409 x56_19 a3_0 a3_1 a3_2 a3_3 a3_4 = some r) ∧ Aside0 (kq ≤ k) ∧ Aside0 (Kd.R k40 40 wc w.heap.size (fun k_ => some k_ ≠ ((.slice Ao32 t409.length co32) : Value).ownBlock) (.slice Ao33 t398.length co33) t398) ∧ Aside0 (Kd.R k40 40 wc w.heap.size (fun k_ => some k_ ≠ ((.slice Ao33 t398.length co33) : Value).ownBlock) (.slice Ao32 t409.length co32) t409) ∧ Aside0 (wc.heap[gb388]? = some (.cells #[.int .i64 a3_0, .int .i64 a3_1, .bool a3_2, .bool a3_3, .bool a3_4] 24 (0, 0))) ∧ Aside0 (Below w.heap.size w wc))
   case first =>
    have H := HC20.out
    clear HC20
    by_cases c39 : t417 < 0
    ·rw [if_pos c39] at H
     have c39b0 : decide (t417 < 0) = true := decide_eq_true c39
     clear c39
     (first | rw [c39b0] | (simp only [i64_w, i32_w]; rw [c39b0]) | skip)
     have H' := am H
     clear H
     go_wp2
     go_meet
     case rel => exact ⟨_, (true), (by first | rfl | (simp; done) | (simp [*]; done)), H', ⟨by first | omega | exact Nat.le_refl _⟩, ⟨by (with_reducible repeat (first | apply r1 | apply r2 | apply r3)); exact Kd.R_mono HO400.out (fun _ hk => hk.2.2.1)⟩, ⟨by (with_reducible repeat (first | apply r1 | apply r2 | apply r3)); exact Kd.R_mono HO411.out (fun _ hk => hk.2.1)⟩, ⟨rk BK388⟩, ⟨by repeat (first | (with_reducible first | exact HB.out | apply b1 | apply b2 | apply b3 | refine below_set ?_ GE388.out) | exact HB.out)⟩⟩
    ·rw [if_neg c39] at H
     have c39b0 : decide (t417 < 0) = false := decide_eq_false c39
     clear c39
     (first | rw [c39b0] | (simp only [i64_w, i32_w]; rw [c39b0]) | skip)
     replace H := Option.bind_eq_some_iff.mp H
     obtain ⟨t419, A400, H⟩ := H
     (try dsimp only at H)
     have A40 := am A400
     clear A400
     have H' := am H
     clear H
     go_wp2_with (first | (go_at_call 13; (with_reducible refine (laws_eqCellS.calls k _ _ t409 _ _ t398 t419 _ ?side1 ?side2 ?side3 ?side4 A40.out).mono ?_); (case side1 => repeat (first | exact (Kd.R_reads' HO411.out).2.2 | (with_reducible refine Kd.C_alloc ?_ _) | (with_reducible refine Kd.C_drewN ?_ _) | (with_reducible refine Kd.C_drew ?_))); (case side2 => exact (Kd.R_reads' HO411.out).2.1); (case side3 => repeat (first | exact (Kd.R_reads' HO400.out).2.2 | (with_reducible refine Kd.C_alloc ?_ _) | (with_reducible refine Kd.C_drewN ?_ _) | (with_reducible refine Kd.C_drew ?_))); (case side4 => exact (Kd.R_reads' HO400.out).2.1); rintro e w41 ⟨rfl, hb⟩; have n0_ := am (Kd.R_below (rr HO392) hb); have n1_ := am (Kd.R_below (rr HO400) hb); have n2_ := am (Kd.R_below (rr HO403) hb); have n3_ := am (Kd.R_below (rr HO411) hb); have n4_ := am (Kd.R_below (rr HO415) hb); have n5_ := am (blk_below (g := gb388) (o := .cells #[.int .i64 a3_0, .int .i64 a3_1, .bool a3_2, .bool a3_3, .bool a3_4] 24 (0, 0)) (rk BK388) hb); have n6_ := am (below_step (rb1 HB GE388) hb); clear HO392; clear HO400; clear HO403; clear HO411; clear HO415; clear BK388; clear HB; have HO392 := n0_; have HO400 := n1_; have HO403 := n2_; have HO411 := n3_; have HO415 := n4_; have BK388 := n5_; have HB := n6_; clear n0_ n1_ n2_ n3_ n4_ n5_ n6_; (try clear hb); (try clear hb2); (try clear hk); (try clear hi)))
     go_meet
     case rel => exact ⟨_, (!t419), (by first | rfl | (simp; done) | (simp [*]; done)), H', ⟨by first | omega | exact Nat.le_refl _⟩, ⟨by (with_reducible repeat (first | apply r1 | apply r2 | apply r3)); exact Kd.R_mono HO400.out (fun _ hk => hk.2.2.1)⟩, ⟨by (with_reducible repeat (first | apply r1 | apply r2 | apply r3)); exact Kd.R_mono HO411.out (fun _ hk => hk.2.1)⟩, ⟨rk BK388⟩, ⟨by repeat (first | (with_reducible first | exact HB.out | apply b1 | apply b2 | apply b3 | refine below_set ?_ GE388.out) | exact HB.out)⟩⟩
   case rest =>
    clear HC20
    try clear c1
    try clear p2
    try clear c3
    try clear c6
    try clear c6b0
    try clear c8
    try clear c9
    try clear c10
    try clear c11
    try clear c12
    try clear c13
    try clear c14
    try clear c15
    try clear c18
    try clear c39
    try clear c39b0
    try clear hcz28_0
    try clear hcz28_1
    try clear hcz28_2
    try clear hcz28_3
    try clear hcz28_4
    try clear hfz28_0
    try clear hfz28_1
    try clear hfz28_2
    try clear hfz28_3
    try clear hfz28_4
    obtain ⟨kq, x56_19, rfl, HA, HJ19, HO_10, HO_12, BK388, HB⟩ := hcut
    cases kq with
    | zero => exact absurd HA.out (by simp [laws_FnExactPulled.j0])
    | succ kj19 =>
     have H := HA.out
     clear HA
     simp only [laws_FnExactPulled.j0] at H
     refine em_ (p := x56_19 = true) (fun c42 => ?g7p) (fun c42 => ?g7n)
     case g7p =>
      subst c42
      have H1 : (some false) = some r := by rw [if_pos rfl] at H; exact H
      clear H
      have H := H1
      clear H1
      exact absurd (Option.some.inj (H.trans (congrArg some hT_))) Bool.false_ne_true
     case' g7n =>
      replace c42 := Bool.eq_false_iff.mpr c42
      subst c42
      rw [if_neg (show ¬ (false = true) by decide)] at H
      replace H := Option.bind_eq_some_iff.mp H
      obtain ⟨⟨t420, t421⟩, A430, H⟩ := H
      (try dsimp only at H)
      have A43 := am A430
      clear A430
      replace H := Option.bind_eq_some_iff.mp H
      obtain ⟨t422, A440, H⟩ := H
      (try dsimp only at H)
      have A44 := am A440
      clear A440
      refine em_ (p := t422 < 0) (fun c45 => ?g6p) (fun c45 => ?g6n)
      case g6p =>
       rw [if_pos c45] at H
       have c45b0 : decide (t422 < 0) = true := decide_eq_true c45
       clear c45
       exact absurd (Option.some.inj (H.trans (congrArg some hT_))) Bool.false_ne_true
      case' g6n =>
       rw [if_neg c45] at H
       have c45b0 : decide (t422 < 0) = false := decide_eq_false c45
       clear c45
       refine em_ (p := t422 = t420) (fun c47 => ?g5p) (fun c47 => ?g5n)
       case' g5p =>
        rw [if_pos c47] at H
        have c47b0 : (t422 == t420) = true := beq_iff_eq.mpr c47
        have c47b1 : (t422 != t420) = false := bne_eq_false_iff_eq.mpr c47
        clear c47
        replace H := Option.bind_eq_some_iff.mp H
        obtain ⟨t423, A480, H⟩ := H
        (try dsimp only at H)
        have A48 := am A480
        clear A480
        replace H := Option.bind_eq_some_iff.mp H
        obtain ⟨⟨t426, t427, t428, t429, t430⟩, A490, H⟩ := H
        (try dsimp only at H)
        have A49 := am A490
        clear A490
        replace H := Option.bind_eq_some_iff.mp H
        obtain ⟨t431, A500, H⟩ := H
        (try dsimp only at H)
        have A50 := am A500
        clear A500
        replace H := Option.bind_eq_some_iff.mp H
        obtain ⟨t434, A510, H⟩ := H
        (try dsimp only at H)
        have A51 := am A510
        clear A510
        refine em_ (p := t434 = true) (fun c52 => ?g4p) (fun c52 => ?g4n)
        case' g4p =>
         subst c52
         rw [if_pos rfl] at H
         replace H := Option.bind_eq_some_iff.mp H
         obtain ⟨t435, A530, H⟩ := H
         (try dsimp only at H)
         have A53 := am A530
         clear A530
         refine em_ (p := t435 < 0) (fun c54 => ?g3p) (fun c54 => ?g3n)
         case g3p =>
          rw [if_pos c54] at H
          have c54b0 : decide (t435 < 0) = true := decide_eq_true c54
          clear c54
          exact absurd (Option.some.inj (H.trans (congrArg some hT_))) Bool.false_ne_true
         case' g3n =>
          rw [if_neg c54] at H
          have c54b0 : decide (t435 < 0) = false := decide_eq_false c54
          clear c54
          refine em_ (p := t435 = t420) (fun c63 => ?g2p) (fun c63 => ?g2n)
          case' g2p =>
           rw [if_pos c63] at H
           have c63b0 : (t435 == t420) = true := beq_iff_eq.mpr c63
           have c63b1 : (t435 != t420) = false := bne_eq_false_iff_eq.mpr c63
           clear c63
           obtain rfl := Option.some.inj H
           have lf5_ := trivial
          case g2n =>
           rw [if_neg c63] at H
           have c63b0 : (t435 == t420) = false := beq_eq_false_iff_ne.mpr c63
           have c63b1 : (t435 != t420) = true := bne_iff_ne.mpr c63
           exact absurd (Option.some.inj (H.trans (congrArg some hT_))) Bool.false_ne_true
        case g4n =>
         replace c52 := Bool.eq_false_iff.mpr c52
         subst c52
         have H1 : (some false) = some r := by rw [if_neg (show ¬ (false = true) by decide)] at H; exact H
         clear H
         have H := H1
         clear H1
         exact absurd (Option.some.inj (H.trans (congrArg some hT_))) Bool.false_ne_true
       case g5n =>
        rw [if_neg c47] at H
        have c47b0 : (t422 == t420) = false := beq_eq_false_iff_ne.mpr c47
        have c47b1 : (t422 != t420) = true := bne_iff_ne.mpr c47
        exact absurd (Option.some.inj (H.trans (congrArg some hT_))) Bool.false_ne_true
     all_goals
      try go_wp2_with (first | ((with_reducible refine gate_callee (f := 14) rfl ?_); refine gl_ (some 59) Try.func14 #[.slice Ao32 t409.length co32, .int .i64 1] ?_; (with_reducible refine (laws_markCellS.calls kj19 (fun k_ => some k_ = (.slice Ao32 t409.length co32 : Value).ownBlock) (.slice Ao32 t409.length co32) t409 1 t420 t421 w _ ?side1 ?side2 A43.out).mono ?_); (case side1 => repeat (first | (with_reducible first | exact HB.out | apply b1 | apply b2 | apply b3 | refine below_set ?_ GE388.out) | exact HB.out)); (case side2 => exact Kd.R_tight rfl HO_12.out); rintro e w64 ⟨rfl, hy0, hb, hkp⟩; refine ⟨_, rfl, ?_⟩; have n0_ := am (Kd.R_mono (ok' := fun k_ => some k_ ≠ (.slice Ao32 t409.length co32 : Value).ownBlock) (Kd.R_keptB (HO_10.out) hkp (fun k_ hk_ hs_ => (hk_) hs_)) (fun k_ hk_ => hk_.1)); have n1_ := am (Kd.R_reok rfl hy0 (fun k_ e_ => HO_12.out.1 k_ e_)); have n2_ := am (blk_kept (rk BK388) hkp (fun hs_ => (fun e_ => (Kd.R_ne HO_12.out BK388.out (by decide)) e_) hs_)); have n3_ := am (hb); clear HO_10; clear HO_12; clear BK388; clear HB; have HO_10 := n0_; have HO_12 := n1_; have BK388 := n2_; have HB := n3_; clear n0_ n1_ n2_ n3_; (try clear hb); (try clear hkp); (try clear hy0)) | ((with_reducible refine gate_callee (f := 15) rfl ?_); refine goesL_ (some 62) rfl rfl Try.func15 (by kernel_rfl) rfl #[.slice Ao32 t421.length co32, .int .i64 1] rfl (by (try simp only [List.map_toArray, List.map_cons, List.map_nil]); first | done | (rw [show t421.length = t409.length from (Kd.R_reads' HO_12.out).1.symm] <;> rfl) | rfl | (simp only [List.length_drop, List.length_take]; rfl)) ?_; (with_reducible refine (laws_heldCellS.calls kj19 _ _ t421 1 t422 _ ?side1 ?side2 A44.out).mono ?_); (case side1 => repeat (first | exact (Kd.R_reads' HO_12.out).2.2 | (with_reducible refine Kd.C_alloc ?_ _) | (with_reducible refine Kd.C_drewN ?_ _) | (with_reducible refine Kd.C_drew ?_))); (case side2 => rw [show t421.length = t409.length from (Kd.R_reads' HO_12.out).1.symm]; exact (Kd.R_reads' HO_12.out).2.1); rintro e w' ⟨rfl, ⟨nd, rfl⟩⟩; refine ⟨_, rfl, ?_⟩))
      (try (rw [drewN_self w64]; generalize hq_ : World.drewN w64 _ = w64; have n0_ : Aside0 (Kd.R k40 40 w64 w.heap.size (fun k_ => some k_ ≠ (.slice Ao32 t409.length co32 : Value).ownBlock) (.slice Ao33 t398.length co33) t398) := ⟨by rw [← hq_]; exact (rr HO_10)⟩; have n1_ : Aside0 (Kd.R k40 40 w64 w.heap.size (fun k_ => some k_ ≠ (.slice Ao33 t398.length co33 : Value).ownBlock) (.slice Ao32 t409.length co32) t421) := ⟨by rw [← hq_]; exact (rr HO_12)⟩; have n2_ : Aside0 (w64.heap[gb388]? = some (.cells #[.int .i64 a3_0, .int .i64 a3_1, .bool a3_2, .bool a3_3, .bool a3_4] 24 (0, 0))) := ⟨by rw [← hq_]; exact (rk BK388)⟩; have n3_ : Aside0 (Below w.heap.size w w64) := ⟨by rw [← hq_]; exact (rb1 HB GE388)⟩; clear HO_10 HO_12 BK388 HB hq_; have HO_10 := n0_; have HO_12 := n1_; have BK388 := n2_; have HB := n3_; clear n0_ n1_ n2_ n3_))
      have n0_ := am (Kd.R_drew HO_10.out)
      have n1_ := am (Kd.R_drew HO_12.out)
      have n2_ := am (blk_drew BK388.out)
      have n3_ := am (below_drew1 HB.out)
      clear HO_10
      clear HO_12
      clear BK388
      clear HB
      have HO_10 := n0_
      have HO_12 := n1_
      have BK388 := n2_
      have HB := n3_
      clear n0_ n1_ n2_ n3_
      refine start_ (n := 8) (S := fun w' => w'.cell? ⟨gb388, 0, none⟩ = some (.int .i64 a3_0) ∧ w'.cell? ⟨gb388, 1, none⟩ = some (.int .i64 a3_1) ∧ w'.cell? ⟨gb388, 2, none⟩ = some (.bool a3_2) ∧ w'.cell? ⟨gb388, 3, none⟩ = some (.bool a3_3) ∧ w'.cell? ⟨gb388, 4, none⟩ = some (.bool a3_4)) (ds := []) (bm 8 0) (by kernel_rfl) rfl rfl ⟨(blk_cell BK388.out 0).trans rfl, (blk_cell BK388.out 1).trans rfl, (blk_cell BK388.out 2).trans rfl, (blk_cell BK388.out 3).trans rfl, (blk_cell BK388.out 4).trans rfl⟩ (fun hHeld => ?_); refine with_tabW laws_FnExactPulled.tab24 laws_FnExactPulled.bits24 (fun HT_ HW_ => ?_)
      generalize w64.drew = w65 at HO_10 HO_12 BK388 HB hHeld ⊢
      refine pu_ 0 68 (bm 8 1) HT_.out ?_
      refine pu_ 2 70 (bm 8 5) HT_.out ?_
      refine pu_ 3 71 (bm 8 13) HT_.out ?_
      refine take_ (i := 4) (N := some 72) (v := ?_) (a' := ?_) (bm 8 29) rfl rfl (take_ofW HT_.out HW_.out (by kernel_rfl)) (fun _ _ _ h => h) (Or.inl ⟨by rfl, ?_⟩) hHeld ?_ ?_
      rotate_left
      ·rintro w' ⟨s0, s1, s2, s3, s4⟩
       go_simp
       with_reducible rfl
      rotate_left
      ·simp only [Act.put, List.setIfInBounds_toArray, List.set_cons_zero, List.set_cons_succ, i64_w, i32_w]
       rfl
      refine one_ (i := 1) (N := some 69) (bm 8 31) rfl rfl (one_of HT_.out (by kernel_rfl)) (by decide) (fun K hK => ?_)
      refine goes_ Try.func10 (by kernel_rfl) rfl #[.slice A0 l0.length c0] (by rfl) rfl rfl (by (try simp only [List.map_toArray, List.map_cons, List.map_nil]); first | done | rfl | (simp only [List.length_drop, List.length_take]; rfl)) ?_
      with_reducible refine (laws_toCellS.calls kj19 _ _ l0 t423 _ ?side1 ?side2 A48.out).mono ?_
      (case side1 => exact rc ((Kd.C_below HR0.out HB.out)))
      (case side2 => exact HC0.out)
      rintro e w66 ⟨v424, rfl, ho0, hb⟩
      refine ⟨_, rfl, ?_⟩
      have n0_ := am (Kd.R_elder' (rr HO_10) (Kd.R_base ho0) hb)
      have n1_ := am (Kd.R_elder' (rr HO_12) (Kd.R_base ho0) hb)
      have n2_ := am (Kd.R_lower (Kd.R_new' (Kd.R_new' ho0 (Kd.R_lt (rr HO_10))) (Kd.R_lt (rr HO_12))) (below_size (rb1 HB GE388)))
      have n3_ := am (blk_below (g := gb388) (o := .cells #[.int .i64 a3_0, .int .i64 a3_1, .bool a3_2, .bool a3_3, .bool a3_4] 24 (0, 0)) (rk BK388) hb)
      have n4_ := am (below_step (rb1 HB GE388) hb)
      clear HO_10
      clear HO_12
      clear BK388
      clear HB
      have HO_10 := n0_
      have HO_12 := n1_
      have HO425 := n2_
      have BK388 := n3_
      have HB := n4_
      clear n0_ n1_ n2_ n3_ n4_
      (try clear hb)
      (try clear hb2)
      (try clear hk)
      (try clear hi)
      (try clear ho0)
      refine hK.out _ _ ⟨(blk_cell BK388.out 0).trans rfl, (blk_cell BK388.out 1).trans rfl, (blk_cell BK388.out 2).trans rfl, (blk_cell BK388.out 3).trans rfl, (blk_cell BK388.out 4).trans rfl⟩ (fun hHeld => ?_)
      clear hK K
      refine norm_ (a' := ?_) ?_ ?_
      rotate_left
      ·show Act.put _ (some 69) _ = _
       simp only [Act.put, List.setIfInBounds_toArray, List.set_cons_zero, List.set_cons_succ, i64_w, i32_w]
       rfl
      refine one_ (i := 5) (N := some 73) (bm 8 63) rfl rfl (one_of HT_.out (by kernel_rfl)) (by decide) (fun K hK => ?_)
      refine goes_ Try.func11 (by kernel_rfl) rfl #[.agg #[.int .i64 a3_0, .int .i64 a3_1, .bool a3_2, .bool a3_3, .bool a3_4]] (by rfl) rfl rfl (by (try simp only [List.map_toArray, List.map_cons, List.map_nil]); first | done | rfl | (simp only [List.length_drop, List.length_take]; rfl)) ?_
      with_reducible refine (laws_toStyle.calls a3_0 a3_1 a3_2 a3_3 a3_4 t426 t427 t428 t429 t430 _ A49.out).mono ?_
      rintro e w67 ⟨rfl, hb⟩
      refine ⟨_, rfl, ?_⟩
      have n0_ := am (Kd.R_below (rr HO_10) hb)
      have n1_ := am (Kd.R_below (rr HO_12) hb)
      have n2_ := am (Kd.R_below (rr HO425) hb)
      have n3_ := am (blk_below (g := gb388) (o := .cells #[.int .i64 a3_0, .int .i64 a3_1, .bool a3_2, .bool a3_3, .bool a3_4] 24 (0, 0)) (rk BK388) hb)
      have n4_ := am (below_step (rb1 HB GE388) hb)
      clear HO_10
      clear HO_12
      clear HO425
      clear BK388
      clear HB
      have HO_10 := n0_
      have HO_12 := n1_
      have HO425 := n2_
      have BK388 := n3_
      have HB := n4_
      clear n0_ n1_ n2_ n3_ n4_
      (try clear hb)
      (try clear hb2)
      (try clear hk)
      (try clear hi)
      obtain ⟨Ao68, co68, eo68⟩ := Kd.R_slice HO425.out
      (first | subst eo68 | (injection eo68 with f1_ f2_ f3_; have f4_ := f1_.symm; have f5_ := f3_.symm; clear f1_ f2_ f3_; subst f4_; subst f5_))
      refine hK.out _ _ ⟨(blk_cell BK388.out 0).trans rfl, (blk_cell BK388.out 1).trans rfl, (blk_cell BK388.out 2).trans rfl, (blk_cell BK388.out 3).trans rfl, (blk_cell BK388.out 4).trans rfl⟩ (fun hHeld => ?_)
      clear hK K
      refine norm_ (a' := ?_) ?_ ?_
      rotate_left
      ·show Act.put _ (some 73) _ = _
       simp only [Act.put, List.setIfInBounds_toArray, List.set_cons_zero, List.set_cons_succ, i64_w, i32_w]
       rfl
      refine one_ (i := 6) (N := some 74) (bm 8 127) rfl rfl (one_of HT_.out (by kernel_rfl)) (by decide) (fun K hK => ?_)
      refine goes_ Try.func12 (by kernel_rfl) rfl #[.slice Ao68 t423.length co68, .int .i64 a1, .int .i64 a2, .agg #[.int .i64 t426, .int .i64 t427, .bool t428, .bool t429, .bool t430]] (by rfl) rfl rfl (by (try simp only [List.map_toArray, List.map_cons, List.map_nil]); first | done | rfl | (simp only [List.length_drop, List.length_take]; rfl)) ?_
      with_reducible refine (impl_Pulled.calls kj19 _ _ t423 a1 a2 t426 t427 t428 t429 t430 t431 _ ?side1 ?side2 A50.out).mono ?_
      (case side1 => repeat (first | exact (Kd.R_reads' HO425.out).2.2 | (with_reducible refine Kd.C_alloc ?_ _) | (with_reducible refine Kd.C_drewN ?_ _) | (with_reducible refine Kd.C_drew ?_)))
      (case side2 => exact (Kd.R_reads' HO425.out).2.1)
      rintro e w69 ⟨v432, rfl, ho0, hb⟩
      refine ⟨_, rfl, ?_⟩
      have n0_ := am (Kd.R_elder' (rr HO_10) (Kd.R_base ho0) hb)
      have n1_ := am (Kd.R_elder' (rr HO_12) (Kd.R_base ho0) hb)
      have n2_ := am (Kd.R_elder' (rr HO425) (Kd.R_base ho0) hb)
      have n3_ := am (Kd.R_lower (Kd.R_new' (Kd.R_new' (Kd.R_new' ho0 (Kd.R_lt (rr HO_10))) (Kd.R_lt (rr HO_12))) (Kd.R_lt (rr HO425))) (below_size (rb1 HB GE388)))
      have n4_ := am (blk_below (g := gb388) (o := .cells #[.int .i64 a3_0, .int .i64 a3_1, .bool a3_2, .bool a3_3, .bool a3_4] 24 (0, 0)) (rk BK388) hb)
      have n5_ := am (below_step (rb1 HB GE388) hb)
      clear HO_10
      clear HO_12
      clear HO425
      clear BK388
      clear HB
      have HO_10 := n0_
      have HO_12 := n1_
      have HO425 := n2_
      have HO433 := n3_
      have BK388 := n4_
      have HB := n5_
      clear n0_ n1_ n2_ n3_ n4_ n5_
      (try clear hb)
      (try clear hb2)
      (try clear hk)
      (try clear hi)
      (try clear ho0)
      refine hK.out _ _ ⟨(blk_cell BK388.out 0).trans rfl, (blk_cell BK388.out 1).trans rfl, (blk_cell BK388.out 2).trans rfl, (blk_cell BK388.out 3).trans rfl, (blk_cell BK388.out 4).trans rfl⟩ (fun hHeld => ?_)
      clear hK K
      refine norm_ (a' := ?_) ?_ ?_
      rotate_left
      ·show Act.put _ (some 74) _ = _
       simp only [Act.put, List.setIfInBounds_toArray, List.set_cons_zero, List.set_cons_succ, i64_w, i32_w]
       rfl
      refine pu_ 7 16 (bm 8 255) HT_.out ?_
      refine done_ (done_of HT_.out (by kernel_rfl)) ?_
      obtain ⟨Ao70, co70, eo70⟩ := Kd.R_slice HO433.out
      subst eo70
      try go_wp2_with (first | ((with_reducible refine gate_callee (f := 13) rfl ?_); refine gl_ (some 77) Try.func13 #[.slice Ao70 t431.length co70, .slice Ao33 t398.length co33] ?_; (with_reducible refine (laws_eqCellS.calls kj19 _ _ t431 _ _ t398 true _ ?side1 ?side2 ?side3 ?side4 A51.out).mono ?_); (case side1 => repeat (first | exact (Kd.R_reads' HO433.out).2.2 | (with_reducible refine Kd.C_alloc ?_ _) | (with_reducible refine Kd.C_drewN ?_ _) | (with_reducible refine Kd.C_drew ?_))); (case side2 => exact (Kd.R_reads' HO433.out).2.1); (case side3 => repeat (first | exact (Kd.R_reads' HO_10.out).2.2 | (with_reducible refine Kd.C_alloc ?_ _) | (with_reducible refine Kd.C_drewN ?_ _) | (with_reducible refine Kd.C_drew ?_))); (case side4 => exact (Kd.R_reads' HO_10.out).2.1); rintro e w71 ⟨rfl, hb⟩; refine ⟨_, rfl, ?_⟩; have n0_ := am (Kd.R_below (rr HO_10) hb); have n1_ := am (Kd.R_below (rr HO_12) hb); have n2_ := am (Kd.R_below (rr HO425) hb); have n3_ := am (Kd.R_below (rr HO433) hb); have n4_ := am (blk_below (g := gb388) (o := .cells #[.int .i64 a3_0, .int .i64 a3_1, .bool a3_2, .bool a3_3, .bool a3_4] 24 (0, 0)) (rk BK388) hb); have n5_ := am (below_step (rb1 HB GE388) hb); clear HO_10; clear HO_12; clear HO425; clear HO433; clear BK388; clear HB; have HO_10 := n0_; have HO_12 := n1_; have HO425 := n2_; have HO433 := n3_; have BK388 := n4_; have HB := n5_; clear n0_ n1_ n2_ n3_ n4_ n5_; (try clear hb); (try clear hb2); (try clear hk); (try clear hi)) | ((with_reducible refine gate_callee (f := 15) rfl ?_); refine goesL_ (some 81) rfl rfl Try.func15 (by kernel_rfl) rfl #[.slice Ao32 t421.length co32, .int .i64 1] rfl (by (try simp only [List.map_toArray, List.map_cons, List.map_nil]); first | done | (rw [show t421.length = t409.length from (Kd.R_reads' HO_12.out).1.symm] <;> rfl) | rfl | (simp only [List.length_drop, List.length_take]; rfl)) ?_; (with_reducible refine (laws_heldCellS.calls kj19 _ _ t421 1 t435 _ ?side1 ?side2 A53.out).mono ?_); (case side1 => repeat (first | exact (Kd.R_reads' HO_12.out).2.2 | (with_reducible refine Kd.C_alloc ?_ _) | (with_reducible refine Kd.C_drewN ?_ _) | (with_reducible refine Kd.C_drew ?_))); (case side2 => rw [show t421.length = t409.length from (Kd.R_reads' HO_12.out).1.symm]; exact (Kd.R_reads' HO_12.out).2.1); rintro e w' ⟨rfl, ⟨nd, rfl⟩⟩; refine ⟨_, rfl, ?_⟩))
      go_ret
      exact ⟨by first | rfl | (simp [errW_none, errW_some] <;> rfl) | (simp [*, errW_none, errW_some] <;> rfl), by repeat (first | (with_reducible first | exact HB.out | apply b1 | apply b2 | apply b3 | refine below_set ?_ GE388.out) | exact HB.out)⟩

end Go.Proofs.Ytfhkpneffmcdbaa.QD
