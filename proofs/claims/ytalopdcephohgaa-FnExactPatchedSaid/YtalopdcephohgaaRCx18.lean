/- Contracts of Go functions that laws of this seat reach: each Lean function answers as its Go function does. No condition. Written by wip/tools/inj.py, over the kit's print. -/
import Derived.Test.YtalopdcephohgaaRCx0
import Derived.Test.YtalopdcephohgaaRCx10
import Derived.Test.YtalopdcephohgaaRCx13
import Derived.Test.YtalopdcephohgaaRCx17
namespace Go.Proofs.Ytalopdcephohgaa.RC
open Go.RowKit Go.Proofs.YtalopdcephohgaaW.PrintWords Go.Proofs.YtalopdcephohgaaW.PrintLast Go.Proofs.YtalopdcephohgaaW.PrintMore
attribute [local go_sem] max2_int min2_int max_two min_two max_three min_three max_four min_four   -- for this text's walks alone
set_option linter.unusedVariables false
set_option linter.unusedSimpArgs false

/-! ### spec_Resized: function 80 -/
def spec_Resized.f (k : Nat) (a0_0 : Int) (l0_1 : List (List (S98))) (a1 : Int) (a2 : Int) : Option (Int × (List (List (S98)))) := (spec_GridOk.f k a0_0 l0_1).bind fun t320 => (if t320 = true then ((spec_l1In.f a1 1 60).bind fun t321 => (if t321 = true then ((spec_l1In.f a2 1 30).bind fun t322 => (if t322 = true then ((spec_l5Resized.f k a0_0 l0_1 a1 a2).bind fun bt323 => (some (bt323.1, bt323.2))) else (some (0, ([] : List (List (S98))))))) else (some (0, ([] : List (List (S98))))))) else (some (0, ([] : List (List (S98))))))
theorem spec_Resized.mono : ∀ a0 a1 a2 a3 k, LeO (spec_Resized.f k a0 a1 a2 a3) (spec_Resized.f (k + 1) a0 a1 a2 a3) := by
 intro a0 a1 a2 a3 k
 unfold spec_Resized.f
 repeat' first
   | (with_reducible exact spec_GridOk.mono _ _ _)
   | (with_reducible exact spec_l5Resized.mono _ _ _ _ _)
   | (with_reducible exact LeO.refl _)
   | (with_reducible exact LeO.none _)
   | (with_reducible refine LeO.ite ?_ ?_)
   | (with_reducible refine LeO.bind ?_ (fun _ => ?_))
set_option maxHeartbeats 8000000 in
set_option maxRecDepth 100000 in
theorem spec_Resized.calls (k : Nat) (a0_0 : Int) (A0_1 : Option Addr) (c0_1 : Nat) (l0_1 : List (List (S98))) (a1 : Int) (a2 : Int) (r1 : Int) (r2 : List (List (S98))) (w : World) (hr0_1 : Kd.C (Kd.slice 98 k98) w A0_1 l0_1.length l0_1) (hc0_1 : l0_1.length ≤ c0_1) (h : spec_Resized.f k a0_0 l0_1 a1 a2 = some (r1, r2)) :
  Calls Try.prog 80 #[.agg #[.int .i64 a0_0, .slice A0_1 l0_1.length c0_1], .int .i64 a1, .int .i64 a2] w fun e w' => ∃ v1_ : Value, e = .returned (.agg #[.int .i64 r1, v1_]) ∧ Kd.S (Kd.slice 98 k98) 99 w' w.heap.size (fun _ => True) v1_ r2 ∧ Below w.heap.size w w' := by
 (
have hu58 := Try.underlying58
have HR0_1 := am hr0_1
have HC0_1 := am hc0_1
clear hr0_1 hc0_1
have HB := am (Below.refl w.heap.size w)
have H := h
unfold spec_Resized.f at H
clear h
replace H := Option.bind_eq_some_iff.mp H
obtain ⟨t320, A40, H⟩ := H
(try dsimp only at H)
have A4 := am A40
clear A40
refine em_ (p := t320 = true) (fun c5 => ?g2p) (fun c5 => ?g2n)
case' g2p => (
subst c5
rw [if_pos rfl] at H
replace H := Option.bind_eq_some_iff.mp H
obtain ⟨t321, A60, H⟩ := H
(try dsimp only at H)
have A6 := am A60
clear A60
refine em_ (p := t321 = true) (fun c7 => ?g1p) (fun c7 => ?g1n)
case' g1p => (
subst c7
rw [if_pos rfl] at H
replace H := Option.bind_eq_some_iff.mp H
obtain ⟨t322, A80, H⟩ := H
(try dsimp only at H)
have A8 := am A80
clear A80
refine em_ (p := t322 = true) (fun c9 => ?g0p) (fun c9 => ?g0n)
case' g0p => (
subst c9
rw [if_pos rfl] at H
replace H := Option.bind_eq_some_iff.mp H
obtain ⟨⟨t323, t324⟩, A100, H⟩ := H
replace H : (some (t323, t324)) = some (r1, r2) := H
have A10 := am A100
clear A100
simp only [Option.some.injEq, Prod.mk.injEq] at H
obtain ⟨rfl, rfl⟩ := H
have lf1_ := trivial
)
case' g0n => (
replace c9 := Bool.eq_false_iff.mpr c9
subst c9
rw [if_neg (show ¬ (false = true) by decide)] at H
simp only [Option.some.injEq, Prod.mk.injEq] at H
obtain ⟨rfl, rfl⟩ := H
have lf2_ := trivial
)
)
case' g1n => (
replace c7 := Bool.eq_false_iff.mpr c7
subst c7
rw [if_neg (show ¬ (false = true) by decide)] at H
simp only [Option.some.injEq, Prod.mk.injEq] at H
obtain ⟨rfl, rfl⟩ := H
have lf3_ := trivial
)
)
case' g2n => (
replace c5 := Bool.eq_false_iff.mpr c5
subst c5
rw [if_neg (show ¬ (false = true) by decide)] at H
simp only [Option.some.injEq, Prod.mk.injEq] at H
obtain ⟨rfl, rfl⟩ := H
have lf4_ := trivial
)
all_goals (
go_enter Try.func80, Try.ntmps80
go_wp2_with (first | ((with_reducible refine gate_callee (f := 70) rfl ?_); refine gl_ (some 24) Try.func70 #[.agg #[.int .i64 a0_0, .slice A0_1 l0_1.length c0_1], .int .i64 a1, .int .i64 a2] ?_; (with_reducible refine (spec_l5Resized.calls k a0_0 _ _ l0_1 a1 a2 t323 t324 _ ?side1 ?side2 A10.out).mono ?_); (case side1 => exact rc ((Kd.C_below HR0_1.out HB.out))); (case side2 => exact HC0_1.out); rintro e w17 ⟨v325, rfl, ho0, hb⟩; refine ⟨_, rfl, ?_⟩; have HO326 := am (Kd.S_lower ho0 (below_size (rb2 HB GE318 GE319))); replace BK318 := am (blk_below (rk BK318) hb); replace BK319 := am (blk_below (rk BK319) hb); replace HB := am (below_step (rb2 HB GE318 GE319) hb); (try clear hb); (try clear hb2); (try clear hk); (try clear hi); (try clear ho0); have hcz18_0 : w17.cell? ⟨gb319, 0, none⟩ = some (.int .i64 0) := (blk_cell BK319.out 0).trans rfl; have hcz18_1 : w17.cell? ⟨gb319, 1, none⟩ = some (.slice none 0 0) := (blk_cell BK319.out 1).trans rfl; have hfz18_0 := blk_frozen BK319.out 0; have hfz18_1 := blk_frozen BK319.out 1; obtain ⟨Ao19, co19, eo19⟩ := Kd.S_slice HO326.out; subst eo19) | ((with_reducible refine gate_dst (N := 6) rfl ?_); refine box_event ?hg (N := 6) ?hd (cs := #[.int .i64 0, .slice none 0 0]) (t := 58) ?hr ?_; (case hd => rfl); (case hg => rfl); (case hr => first | (go_simp; done) | (go_simp; rfl)); intro gb319 hg w12 hbox hb; have BK319 := am (hbox); have GW319 := am (gw hg (rb1 HB GE318)); have GE319 := GW319; replace HB := am (below_step (rb1 HB GE318) hb); have NB318_319 := am (nl hg (rk BK318)); have NB319_318 := am (ng hg (rk BK318)); replace BK318 := am (blk_below (rk BK318) hb); clear hb hbox hg; have hnb13 := NB318_319.out; have hnc13 := NB319_318.out; have hcz14_0 : w12.cell? ⟨gb318, 0, none⟩ = some (.int .i64 a0_0) := (blk_cell BK318.out 0).trans rfl; have hcz14_1 : w12.cell? ⟨gb318, 1, none⟩ = some (.slice A0_1 l0_1.length c0_1) := (blk_cell BK318.out 1).trans rfl; have hfz14_0 := blk_frozen BK318.out 0; have hfz14_1 := blk_frozen BK318.out 1) | ((with_reducible refine gate_callee (f := 69) rfl ?_); refine gl_ (some 8) Try.func69 #[.agg #[.int .i64 a0_0, .slice A0_1 l0_1.length c0_1]] ?_; (with_reducible refine (spec_GridOk.calls k a0_0 _ _ l0_1 false _ ?side1 ?side2 A4.out).mono ?_); (case side1 => exact rc ((Kd.C_below HR0_1.out HB.out))); (case side2 => exact HC0_1.out); rintro e w36 ⟨rfl, hb⟩; refine ⟨_, rfl, ?_⟩; replace BK318 := am (blk_below (rk BK318) hb); replace BK319 := am (blk_below (rk BK319) hb); replace HB := am (below_step (rb2 HB GE318 GE319) hb); (try clear hb); (try clear hb2); (try clear hk); (try clear hi); have hcz37_0 : w36.cell? ⟨gb319, 0, none⟩ = some (.int .i64 0) := (blk_cell BK319.out 0).trans rfl; have hcz37_1 : w36.cell? ⟨gb319, 1, none⟩ = some (.slice none 0 0) := (blk_cell BK319.out 1).trans rfl; have hfz37_0 := blk_frozen BK319.out 0; have hfz37_1 := blk_frozen BK319.out 1) | (go_at_call 60; (with_reducible refine (spec_l1In.calls a2 1 30 true _ A8.out).mono ?_); rintro e w' ⟨rfl, ⟨nd, rfl⟩⟩; (try (rw [drewN_self w15]; generalize hq_ : World.drewN w15 _ = w15; have n0_ : Aside0 (w15.heap[gb318]? = some (.cells #[.int .i64 a0_0, .slice A0_1 l0_1.length c0_1] 58 (0, 0))) := ⟨by rw [← hq_]; exact (rk BK318)⟩; have n1_ : Aside0 (w15.heap[gb319]? = some (.cells #[.int .i64 0, .slice none 0 0] 58 (0, 0))) := ⟨by rw [← hq_]; exact (rk BK319)⟩; have n2_ : Aside0 (Below w.heap.size w w15) := ⟨by rw [← hq_]; exact (rb2 HB GE318 GE319)⟩; clear BK318 BK319 HB hq_; have BK318 := n0_; have BK319 := n1_; have HB := n2_; clear n0_ n1_ n2_)); have hcz16_0 : w15.cell? ⟨gb318, 0, none⟩ = some (.int .i64 a0_0) := (blk_cell BK318.out 0).trans rfl; have hcz16_1 : w15.cell? ⟨gb318, 1, none⟩ = some (.slice A0_1 l0_1.length c0_1) := (blk_cell BK318.out 1).trans rfl; have hfz16_0 := blk_frozen BK318.out 0; have hfz16_1 := blk_frozen BK318.out 1) | (go_at_call 60; (with_reducible refine (spec_l1In.calls a2 1 30 false _ A8.out).mono ?_); rintro e w' ⟨rfl, ⟨nd, rfl⟩⟩; (try (rw [drewN_self w15]; generalize hq_ : World.drewN w15 _ = w15; have n0_ : Aside0 (w15.heap[gb318]? = some (.cells #[.int .i64 a0_0, .slice A0_1 l0_1.length c0_1] 58 (0, 0))) := ⟨by rw [← hq_]; exact (rk BK318)⟩; have n1_ : Aside0 (w15.heap[gb319]? = some (.cells #[.int .i64 0, .slice none 0 0] 58 (0, 0))) := ⟨by rw [← hq_]; exact (rk BK319)⟩; have n2_ : Aside0 (Below w.heap.size w w15) := ⟨by rw [← hq_]; exact (rb2 HB GE318 GE319)⟩; clear BK318 BK319 HB hq_; have BK318 := n0_; have BK319 := n1_; have HB := n2_; clear n0_ n1_ n2_)); have hcz25_0 : w15.cell? ⟨gb319, 0, none⟩ = some (.int .i64 0) := (blk_cell BK319.out 0).trans rfl; have hcz25_1 : w15.cell? ⟨gb319, 1, none⟩ = some (.slice none 0 0) := (blk_cell BK319.out 1).trans rfl; have hfz25_0 := blk_frozen BK319.out 0; have hfz25_1 := blk_frozen BK319.out 1) | (go_at_call 60; (with_reducible refine (spec_l1In.calls a1 1 60 false _ A6.out).mono ?_); rintro e w' ⟨rfl, ⟨nd, rfl⟩⟩; (try (rw [drewN_self w15]; generalize hq_ : World.drewN w15 _ = w15; have n0_ : Aside0 (w15.heap[gb318]? = some (.cells #[.int .i64 a0_0, .slice A0_1 l0_1.length c0_1] 58 (0, 0))) := ⟨by rw [← hq_]; exact (rk BK318)⟩; have n1_ : Aside0 (w15.heap[gb319]? = some (.cells #[.int .i64 0, .slice none 0 0] 58 (0, 0))) := ⟨by rw [← hq_]; exact (rk BK319)⟩; have n2_ : Aside0 (Below w.heap.size w w15) := ⟨by rw [← hq_]; exact (rb2 HB GE318 GE319)⟩; clear BK318 BK319 HB hq_; have BK318 := n0_; have BK319 := n1_; have HB := n2_; clear n0_ n1_ n2_)); have hcz31_0 : w15.cell? ⟨gb319, 0, none⟩ = some (.int .i64 0) := (blk_cell BK319.out 0).trans rfl; have hcz31_1 : w15.cell? ⟨gb319, 1, none⟩ = some (.slice none 0 0) := (blk_cell BK319.out 1).trans rfl; have hfz31_0 := blk_frozen BK319.out 0; have hfz31_1 := blk_frozen BK319.out 1) | ((with_reducible refine gate_callee (f := 69) rfl ?_); refine gl_ (some 8) Try.func69 #[.agg #[.int .i64 a0_0, .slice A0_1 l0_1.length c0_1]] ?_; (with_reducible refine (spec_GridOk.calls k a0_0 _ _ l0_1 true _ ?side1 ?side2 A4.out).mono ?_); (case side1 => exact rc ((Kd.C_below HR0_1.out HB.out))); (case side2 => exact HC0_1.out); rintro e w15 ⟨rfl, hb⟩; refine ⟨_, rfl, ?_⟩; replace BK318 := am (blk_below (rk BK318) hb); replace BK319 := am (blk_below (rk BK319) hb); replace HB := am (below_step (rb2 HB GE318 GE319) hb); (try clear hb); (try clear hb2); (try clear hk); (try clear hi)) | (go_at_call 60; (with_reducible refine (spec_l1In.calls a1 1 60 true _ A6.out).mono ?_); rintro e w' ⟨rfl, ⟨nd, rfl⟩⟩; (try (rw [drewN_self w15]; generalize hq_ : World.drewN w15 _ = w15; have n0_ : Aside0 (w15.heap[gb318]? = some (.cells #[.int .i64 a0_0, .slice A0_1 l0_1.length c0_1] 58 (0, 0))) := ⟨by rw [← hq_]; exact (rk BK318)⟩; have n1_ : Aside0 (w15.heap[gb319]? = some (.cells #[.int .i64 0, .slice none 0 0] 58 (0, 0))) := ⟨by rw [← hq_]; exact (rk BK319)⟩; have n2_ : Aside0 (Below w.heap.size w w15) := ⟨by rw [← hq_]; exact (rb2 HB GE318 GE319)⟩; clear BK318 BK319 HB hq_; have BK318 := n0_; have BK319 := n1_; have HB := n2_; clear n0_ n1_ n2_))) | ((with_reducible refine gate_dst (N := 3) rfl ?_); refine box_event ?hg (N := 3) ?hd (cs := #[.int .i64 a0_0, .slice A0_1 l0_1.length c0_1]) (t := 58) ?hr ?_; (case hd => rfl); (case hg => rfl); (case hr => first | (go_simp; done) | (go_simp; rfl)); intro gb318 hg w11 hbox hb; have BK318 := am (hbox); have GW318 := am (gw hg (rb HB)); have GE318 := GW318; replace HB := am (below_step (rb HB) hb); clear hb hbox hg))
first
| (
have q_ := lf1_
refine bodyPost_ret (results_cell_row rfl _ _ gb319 58 #[.int .i64 t323, .slice Ao19 t324.length co19] (0, 0) _ rfl (rp_0_1 BK319) Try.underlying58 rfl (by kernel_rfl)) rfl ?_
exact ⟨_, by first | rfl | (simp [errW_none, errW_some] <;> rfl) | (simp [*, errW_none, errW_some] <;> rfl), by (with_reducible repeat (first | apply Kd.S_alloc | apply Kd.S_drewN | apply Kd.S_drew)); exact Kd.S_mono (Kd.S_far (p := ⟨gb319, 1, none⟩) (Kd.S_far (p := ⟨gb319, 0, none⟩) (Kd.S_types HO326.out BK319.out (by decide)) (fun _ hk => hk.2) (.int .i64 t323)) (fun _ hk => hk.2) (.slice Ao19 t324.length co19)) (fun _ hk => trivial), rb2 HB GE318 GE319⟩
)
| (
first | have q_ := lf2_ | have q_ := lf3_ | have q_ := lf4_
refine bodyPost_ret (results_cell_row rfl _ _ gb319 58 #[.int .i64 0, .slice none 0 0] (0, 0) _ rfl (rp_0_1 BK319) Try.underlying58 rfl (by kernel_rfl)) rfl ?_
exact ⟨_, by first | rfl | (simp [errW_none, errW_some] <;> rfl) | (simp [*, errW_none, errW_some] <;> rfl), by first | exact Kd.S_nil _ _ _ _ _ | exact Kd.N_nil _ _ _ _ _ | exact Kd.V_nil _ _ _ _ _ | exact Kd.Q_nil _ _ _ _ _ | exact Kd.R_nil _ _ _ _ _, rb2 HB GE318 GE319⟩
)
)
)

end Go.Proofs.Ytalopdcephohgaa.RC
