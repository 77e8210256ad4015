/- Contracts of Go functions that laws of this seat reach: each Lean function answers as its Go function does. No condition. Written by wip/tools/inj.py, over the kit's print. -/
import Derived.Test.YtalopdcephohgaaRAx0
import Derived.Test.YtalopdcephohgaaRAx3
import Derived.Test.YtalopdcephohgaaRAx8
import Derived.Test.YtalopdcephohgaaRAx20
import Derived.Test.YtalopdcephohgaaRAx21
import Derived.Test.YtalopdcephohgaaRAx22
namespace Go.Proofs.Ytalopdcephohgaa.RA
open Go.RowKit Go.Proofs.YtalopdcephohgaaW.PrintWords Go.Proofs.YtalopdcephohgaaW.PrintLast Go.Proofs.YtalopdcephohgaaW.PrintMore
attribute [local go_sem] max2_int min2_int max_two min_two max_three min_three max_four min_four   -- for this text's walks alone
set_option linter.unusedVariables false
set_option linter.unusedSimpArgs false

/-! ### laws_FnExactKeep: function 4 -/
def laws_FnExactKeep.f (k : Nat) (a0_0 : Int) (l0_1 : List ByteArray) (a0_2 : Int) (a1 : ByteArray) : Option (Bool) := if (a1.size : Int) > 1048576 then (some true) else ((laws_szHistory.f k a0_0 l0_1 a0_2 1048576).bind fun t528 => (if t528 < 0 then (some true) else ((laws_toHistory.f k a0_0 l0_1 a0_2).bind fun bt529 => ((spec_Keep.f k bt529.1 bt529.2.1 bt529.2.2 a1).bind fun bt534 => ((laws_toHistory.f k a0_0 l0_1 a0_2).bind fun bt541 => ((impl_Keep.f k bt541.1 bt541.2.1 bt541.2.2 a1).bind fun bt547 => ((laws_eqHistory.f k bt547.1 bt547.2.1 bt547.2.2.1 bt534.1 bt534.2.1 bt534.2.2.1).bind fun t554 => (if t554 = true then (if (bt547.2.2.2 != bt534.2.2.2) = true then (some false) else ((laws_toHistory.f k a0_0 l0_1 a0_2).bind fun bt555 => ((laws_eqHistory.f k bt541.1 bt541.2.1 bt541.2.2 bt555.1 bt555.2.1 bt555.2.2).bind fun t560 => (if t560 = true then ((laws_markHistory.f k bt541.1 bt541.2.1 bt541.2.2 1).bind fun bt561 => (if bt561.1 < 0 then (some false) else ((laws_eqHistory.f k bt547.1 bt547.2.1 bt547.2.2.1 bt534.1 bt534.2.1 bt534.2.2.1).bind fun t563 => (if t563 = true then ((laws_markHistory.f k bt547.1 bt547.2.1 bt547.2.2.1 1).bind fun bt564 => ((laws_heldHistory.f k bt547.1 bt564.2 bt547.2.2.1 1).bind fun t566 => (if t566 < 0 then (some false) else (if t566 = bt564.1 then ((laws_toHistory.f k a0_0 l0_1 a0_2).bind fun bt567 => ((impl_Keep.f k bt567.1 bt567.2.1 bt567.2.2 a1).bind fun bt572 => ((laws_eqHistory.f k bt572.1 bt572.2.1 bt572.2.2.1 bt534.1 bt534.2.1 bt534.2.2.1).bind fun t579 => (if t579 = true then (if (bt572.2.2.2 != bt534.2.2.2) = true then (some false) else ((laws_heldHistory.f k bt547.1 bt564.2 bt547.2.2.1 1).bind fun t580 => (if t580 < 0 then (some false) else (if t580 = bt564.1 then (some true) else (some false))))) else (some false))))) else (some false))))) else (some false))))) else (some false))))) else (some false)))))))))
theorem laws_FnExactKeep.mono : ∀ a0 a1 a2 a3 k, LeO (laws_FnExactKeep.f k a0 a1 a2 a3) (laws_FnExactKeep.f (k + 1) a0 a1 a2 a3) := by
 intro a0 a1 a2 a3 k
 unfold laws_FnExactKeep.f
 repeat' first
   | (with_reducible exact impl_Keep.mono _ _ _ _ _)
   | (with_reducible exact laws_eqHistory.mono _ _ _ _ _ _ _)
   | (with_reducible exact laws_heldHistory.mono _ _ _ _ _)
   | (with_reducible exact laws_markHistory.mono _ _ _ _ _)
   | (with_reducible exact laws_szHistory.mono _ _ _ _ _)
   | (with_reducible exact laws_toHistory.mono _ _ _ _)
   | (with_reducible exact spec_Keep.mono _ _ _ _ _)
   | (with_reducible exact LeO.refl _)
   | (with_reducible exact LeO.none _)
   | (with_reducible refine LeO.ite ?_ ?_)
   | (with_reducible refine LeO.bind ?_ (fun _ => ?_))
set_option maxHeartbeats 8000000 in
set_option maxRecDepth 100000 in
theorem laws_FnExactKeep.calls (k : Nat) (a0_0 : Int) (A0_1 : Option Addr) (c0_1 : Nat) (l0_1 : List ByteArray) (a0_2 : Int) (a1 : ByteArray) (r : Bool) (w : World) (hr0_1 : Kd.C Kd.string w A0_1 l0_1.length l0_1) (hc0_1 : l0_1.length ≤ c0_1) (h : laws_FnExactKeep.f k a0_0 l0_1 a0_2 a1 = some r) (hT_ : r = true) :
  Calls Try.prog 4 #[.agg #[.int .i64 a0_0, .slice A0_1 l0_1.length c0_1, .int .i64 a0_2], .string a1] w fun e w' => e = .returned (.bool r) ∧ Below w.heap.size w w' := by
 (
have hu42 := Try.underlying42
have hu26 := Try.underlying26
have HR0_1 := am hr0_1
have HC0_1 := am hc0_1
clear hr0_1 hc0_1
have HB := am (Below.refl w.heap.size w)
have H := h
unfold laws_FnExactKeep.f at H
clear h
refine em_ (p := (a1.size : Int) > 1048576) (fun c3 => ?g11p) (fun c3 => ?g11n)
case' g11p => (
rw [if_pos c3] at H
have c3b0 : decide (1048576 < (a1.size : Int)) = true := decide_eq_true c3
have c3b1 : decide (1048576 < a1.size) = true := decide_eq_true (by omega)
clear c3
obtain rfl := Option.some.inj H
have lf1_ := trivial
)
case g11n => (
rw [if_neg c3] at H
have c3b0 : decide (1048576 < (a1.size : Int)) = false := decide_eq_false c3
have c3b1 : decide (1048576 < a1.size) = false := decide_eq_false (by omega)
clear c3
replace H := Option.bind_eq_some_iff.mp H
obtain ⟨t528, A50, H⟩ := H
(try dsimp only at H)
have A5 := am A50
clear A50
refine em_ (p := t528 < 0) (fun c6 => ?g12p) (fun c6 => ?g12n)
case' g12p => (
rw [if_pos c6] at H
have c6b0 : decide (t528 < 0) = true := decide_eq_true c6
clear c6
obtain rfl := Option.some.inj H
have lf4_ := trivial
)
case g12n => (
rw [if_neg c6] at H
have c6b0 : decide (t528 < 0) = false := decide_eq_false c6
clear c6
replace H := Option.bind_eq_some_iff.mp H
obtain ⟨⟨t529, t530, t533⟩, A100, H⟩ := H
(try dsimp only at H)
have A10 := am A100
clear A100
replace H := Option.bind_eq_some_iff.mp H
obtain ⟨⟨t534, t535, t538, t539⟩, A110, H⟩ := H
(try dsimp only at H)
have A11 := am A110
clear A110
replace H := Option.bind_eq_some_iff.mp H
obtain ⟨⟨t541, t542, t545⟩, A120, H⟩ := H
(try dsimp only at H)
have A12 := am A120
clear A120
replace H := Option.bind_eq_some_iff.mp H
obtain ⟨⟨t547, t548, t551, t552⟩, A130, H⟩ := H
(try dsimp only at H)
have A13 := am A130
clear A130
replace H := Option.bind_eq_some_iff.mp H
obtain ⟨t554, A140, H⟩ := H
(try dsimp only at H)
have A14 := am A140
clear A140
refine em_ (p := t554 = true) (fun c15 => ?g10p) (fun c15 => ?g10n)
case' g10p => (
subst c15
rw [if_pos rfl] at H
refine em_ (p := (t552 != t539) = true) (fun c16 => ?g9p) (fun c16 => ?g9n)
case g9p => (
rw [if_pos c16] at H
have c16b0 : (t552 != t539) = true := c16
(try (have c16b1 : decide (t552 = t539) = false := by simpa using c16))
(try (have c16b2 : (t552 == t539) = false := by simpa using c16))
(try (have c16b3 : ¬ (t552 = t539) := by simpa using c16))
clear c16
with_reducible exact absurd (Option.some.inj (H.trans (congrArg some hT_))) Bool.false_ne_true
)
case' g9n => (
rw [if_neg c16] at H
have c16b0 : (t552 != t539) = false := by simpa using c16
(try (have c16b1 : decide (t552 = t539) = true := by simpa using c16))
(try (have c16b2 : (t552 == t539) = true := by simpa using c16))
clear c16
replace H := Option.bind_eq_some_iff.mp H
obtain ⟨⟨t555, t556, t559⟩, A170, H⟩ := H
(try dsimp only at H)
have A17 := am A170
clear A170
replace H := Option.bind_eq_some_iff.mp H
obtain ⟨t560, A180, H⟩ := H
(try dsimp only at H)
have A18 := am A180
clear A180
refine em_ (p := t560 = true) (fun c19 => ?g8p) (fun c19 => ?g8n)
case' g8p => (
subst c19
rw [if_pos rfl] at H
replace H := Option.bind_eq_some_iff.mp H
obtain ⟨⟨t561, t562⟩, A200, H⟩ := H
(try dsimp only at H)
have A20 := am A200
clear A200
refine em_ (p := t561 < 0) (fun c21 => ?g7p) (fun c21 => ?g7n)
case g7p => (
rw [if_pos c21] at H
have c21b0 : decide (t561 < 0) = true := decide_eq_true c21
clear c21
with_reducible exact absurd (Option.some.inj (H.trans (congrArg some hT_))) Bool.false_ne_true
)
case' g7n => (
rw [if_neg c21] at H
have c21b0 : decide (t561 < 0) = false := decide_eq_false c21
clear c21
replace H := Option.bind_eq_some_iff.mp H
obtain ⟨t563, A220, H⟩ := H
(try dsimp only at H)
have A22 := am A220
clear A220
refine em_ (p := t563 = true) (fun c23 => ?g6p) (fun c23 => ?g6n)
case' g6p => (
subst c23
rw [if_pos rfl] at H
replace H := Option.bind_eq_some_iff.mp H
obtain ⟨⟨t564, t565⟩, A240, H⟩ := H
(try dsimp only at H)
have A24 := am A240
clear A240
replace H := Option.bind_eq_some_iff.mp H
obtain ⟨t566, A250, H⟩ := H
(try dsimp only at H)
have A25 := am A250
clear A250
refine em_ (p := t566 < 0) (fun c26 => ?g5p) (fun c26 => ?g5n)
case g5p => (
rw [if_pos c26] at H
have c26b0 : decide (t566 < 0) = true := decide_eq_true c26
clear c26
with_reducible exact absurd (Option.some.inj (H.trans (congrArg some hT_))) Bool.false_ne_true
)
case' g5n => (
rw [if_neg c26] at H
have c26b0 : decide (t566 < 0) = false := decide_eq_false c26
clear c26
refine em_ (p := t566 = t564) (fun c27 => ?g4p) (fun c27 => ?g4n)
case' g4p => (
rw [if_pos c27] at H
have c27b0 : (t566 == t564) = true := beq_iff_eq.mpr c27
have c27b1 : (t566 != t564) = false := bne_eq_false_iff_eq.mpr c27
clear c27
replace H := Option.bind_eq_some_iff.mp H
obtain ⟨⟨t567, t568, t571⟩, A280, H⟩ := H
(try dsimp only at H)
have A28 := am A280
clear A280
replace H := Option.bind_eq_some_iff.mp H
obtain ⟨⟨t572, t573, t576, t577⟩, A290, H⟩ := H
(try dsimp only at H)
have A29 := am A290
clear A290
replace H := Option.bind_eq_some_iff.mp H
obtain ⟨t579, A300, H⟩ := H
(try dsimp only at H)
have A30 := am A300
clear A300
refine em_ (p := t579 = true) (fun c31 => ?g3p) (fun c31 => ?g3n)
case' g3p => (
subst c31
rw [if_pos rfl] at H
refine em_ (p := (t577 != t539) = true) (fun c32 => ?g2p) (fun c32 => ?g2n)
case g2p => (
rw [if_pos c32] at H
have c32b0 : (t577 != t539) = true := c32
(try (have c32b1 : decide (t577 = t539) = false := by simpa using c32))
(try (have c32b2 : (t577 == t539) = false := by simpa using c32))
(try (have c32b3 : ¬ (t577 = t539) := by simpa using c32))
clear c32
with_reducible exact absurd (Option.some.inj (H.trans (congrArg some hT_))) Bool.false_ne_true
)
case' g2n => (
rw [if_neg c32] at H
have c32b0 : (t577 != t539) = false := by simpa using c32
(try (have c32b1 : decide (t577 = t539) = true := by simpa using c32))
(try (have c32b2 : (t577 == t539) = true := by simpa using c32))
clear c32
replace H := Option.bind_eq_some_iff.mp H
obtain ⟨t580, A330, H⟩ := H
(try dsimp only at H)
have A33 := am A330
clear A330
refine em_ (p := t580 < 0) (fun c34 => ?g1p) (fun c34 => ?g1n)
case g1p => (
rw [if_pos c34] at H
have c34b0 : decide (t580 < 0) = true := decide_eq_true c34
clear c34
with_reducible exact absurd (Option.some.inj (H.trans (congrArg some hT_))) Bool.false_ne_true
)
case' g1n => (
rw [if_neg c34] at H
have c34b0 : decide (t580 < 0) = false := decide_eq_false c34
clear c34
refine em_ (p := t580 = t564) (fun c35 => ?g0p) (fun c35 => ?g0n)
case' g0p => (
rw [if_pos c35] at H
have c35b0 : (t580 == t564) = true := beq_iff_eq.mpr c35
have c35b1 : (t580 != t564) = false := bne_eq_false_iff_eq.mpr c35
clear c35
obtain rfl := Option.some.inj H
have lf3_ := trivial
)
case g0n => (
rw [if_neg c35] at H
have c35b0 : (t580 == t564) = false := beq_eq_false_iff_ne.mpr c35
have c35b1 : (t580 != t564) = true := bne_iff_ne.mpr c35
with_reducible exact absurd (Option.some.inj (H.trans (congrArg some hT_))) Bool.false_ne_true
)
)
)
)
case g3n => (
replace c31 := Bool.eq_false_iff.mpr c31
subst c31
have H1 : (some false) = some r := by rw [if_neg (show ¬ (false = true) by decide)] at H; exact H
clear H
have H := H1
clear H1
with_reducible exact absurd (Option.some.inj (H.trans (congrArg some hT_))) Bool.false_ne_true
)
)
case g4n => (
rw [if_neg c27] at H
have c27b0 : (t566 == t564) = false := beq_eq_false_iff_ne.mpr c27
have c27b1 : (t566 != t564) = true := bne_iff_ne.mpr c27
with_reducible exact absurd (Option.some.inj (H.trans (congrArg some hT_))) Bool.false_ne_true
)
)
)
case g6n => (
replace c23 := Bool.eq_false_iff.mpr c23
subst c23
have H1 : (some false) = some r := by rw [if_neg (show ¬ (false = true) by decide)] at H; exact H
clear H
have H := H1
clear H1
with_reducible exact absurd (Option.some.inj (H.trans (congrArg some hT_))) Bool.false_ne_true
)
)
)
case g8n => (
replace c19 := Bool.eq_false_iff.mpr c19
subst c19
have H1 : (some false) = some r := by rw [if_neg (show ¬ (false = true) by decide)] at H; exact H
clear H
have H := H1
clear H1
with_reducible exact absurd (Option.some.inj (H.trans (congrArg some hT_))) Bool.false_ne_true
)
)
)
case g10n => (
replace c15 := Bool.eq_false_iff.mpr c15
subst c15
have H1 : (some false) = some r := by rw [if_neg (show ¬ (false = true) by decide)] at H; exact H
clear H
have H := H1
clear H1
with_reducible exact absurd (Option.some.inj (H.trans (congrArg some hT_))) Bool.false_ne_true
)
all_goals (
go_enter Try.func4, Try.ntmps4
try go_wp2_with (first | ((with_reducible refine gate_dst (N := 2) rfl ?_); refine box_event ?hg (N := 2) ?hd (cs := #[.int .i64 a0_0, .slice A0_1 l0_1.length c0_1, .int .i64 a0_2]) (t := 42) ?hr ?_; (case hd => rfl); (case hg => rfl); (case hr => first | (go_simp; done) | (go_simp; rfl)); intro gb527 hg w36 hbox hb; have BK527 := am (hbox); have GW527 := am (gw hg (rb HB)); have GE527 := GW527; replace HB := am (below_step (rb HB) hb); clear hb hbox hg; have hcz37_0 : w36.cell? ⟨gb527, 0, none⟩ = some (.int .i64 a0_0) := (blk_cell BK527.out 0).trans rfl; have hcz37_1 : w36.cell? ⟨gb527, 1, none⟩ = some (.slice A0_1 l0_1.length c0_1) := (blk_cell BK527.out 1).trans rfl; have hcz37_2 : w36.cell? ⟨gb527, 2, none⟩ = some (.int .i64 a0_2) := (blk_cell BK527.out 2).trans rfl; have hfz37_0 := blk_frozen BK527.out 0; have hfz37_1 := blk_frozen BK527.out 1; have hfz37_2 := blk_frozen BK527.out 2) | ((with_reducible refine gate_callee (f := 25) rfl ?_); refine gl_ (some 21) Try.func25 #[.agg #[.int .i64 a0_0, .slice A0_1 l0_1.length c0_1, .int .i64 a0_2], .int .i64 1048576] ?_; (with_reducible refine (laws_szHistory.calls k a0_0 _ _ l0_1 a0_2 1048576 t528 _ ?side1 ?side2 A5.out).mono ?_); (case side1 => exact rc ((Kd.C_below HR0_1.out HB.out))); (case side2 => exact HC0_1.out); rintro e w38 ⟨rfl, hb⟩; refine ⟨_, rfl, ?_⟩; replace BK527 := am (blk_below (rk BK527) hb); replace HB := am (below_step (rb1 HB GE527) hb); (try clear hb); (try clear hb2); (try clear hk); (try clear hi); have hcz39_0 : w38.cell? ⟨gb527, 0, none⟩ = some (.int .i64 a0_0) := (blk_cell BK527.out 0).trans rfl; have hcz39_1 : w38.cell? ⟨gb527, 1, none⟩ = some (.slice A0_1 l0_1.length c0_1) := (blk_cell BK527.out 1).trans rfl; have hcz39_2 : w38.cell? ⟨gb527, 2, none⟩ = some (.int .i64 a0_2) := (blk_cell BK527.out 2).trans rfl; have hfz39_0 := blk_frozen BK527.out 0; have hfz39_1 := blk_frozen BK527.out 1; have hfz39_2 := blk_frozen BK527.out 2) | ((with_reducible refine gate_callee (f := 26) rfl ?_); refine gl_ (some 26) Try.func26 #[.agg #[.int .i64 a0_0, .slice A0_1 l0_1.length c0_1, .int .i64 a0_2]] ?_; (with_reducible refine (laws_toHistory.calls k a0_0 _ _ l0_1 a0_2 t529 t530 t533 _ ?side1 ?side2 A10.out).mono ?_); (case side1 => exact rc ((Kd.C_below HR0_1.out HB.out))); (case side2 => exact HC0_1.out); rintro e w40 ⟨v531, rfl, ho0, hb⟩; refine ⟨_, rfl, ?_⟩; have HO532 := am (Kd.R_lower ho0 (below_size (rb1 HB GE527))); replace BK527 := am (blk_below (rk BK527) hb); replace HB := am (below_step (rb1 HB GE527) hb); (try clear hb); (try clear hb2); (try clear hk); (try clear hi); (try clear ho0); obtain ⟨Ao41, co41, eo41⟩ := Kd.R_slice HO532.out; subst eo41) | ((with_reducible refine gate_callee (f := 17) rfl ?_); refine gl_ (some 28) Try.func17 #[.agg #[.int .i64 t529, .slice Ao41 t530.length co41, .int .i64 t533], .string a1] ?_; (with_reducible refine (spec_Keep.calls k t529 _ _ t530 t533 a1 t534 t535 t538 t539 _ ?side1 ?side2 A11.out).mono ?_); (case side1 => repeat (first | exact (Kd.R_reads' HO532.out).2.2 | (with_reducible refine Kd.C_alloc ?_ _) | (with_reducible refine Kd.C_drewN ?_ _) | (with_reducible refine Kd.C_drew ?_))); (case side2 => exact (Kd.R_reads' HO532.out).2.1); rintro e w42 ⟨v536, rfl, ho0, hb⟩; refine ⟨_, rfl, ?_⟩; have HO537 := am (Kd.Q_lower (Kd.Q_new' ho0 (Kd.R_lt (rr HO532))) (below_size (rb1 HB GE527))); replace HO532 := am (Kd.R_elder' (rr HO532) (Kd.Q_base ho0) hb); replace BK527 := am (blk_below (rk BK527) hb); replace HB := am (below_step (rb1 HB GE527) hb); (try clear hb); (try clear hb2); (try clear hk); (try clear hi); (try clear ho0)) | ((with_reducible refine gate_dst (N := 6) rfl ?_); refine box_event ?hg (N := 6) ?hd (cs := #[.int .i64 0, .slice none 0 0, .int .i64 0]) (t := 26) ?hr ?_; (case hd => rfl); (case hg => rfl); (case hr => first | (go_simp; done) | (go_simp; rfl)); intro gb540 hg w43 hbox hb; replace HO532 := am (Kd.R_below (rr HO532) hb); replace HO537 := am (Kd.Q_below (by (with_reducible repeat (first | apply Kd.Q_alloc | apply Kd.Q_drewN | apply Kd.Q_drew)); exact HO537.out) hb); have BK540 := am (hbox); have GW540 := am (gw hg (rb1 HB GE527)); have GE540 := GW540; replace HB := am (below_step (rb1 HB GE527) hb); have NB527_540 := am (nl hg (rk BK527)); have NB540_527 := am (ng hg (rk BK527)); replace BK527 := am (blk_below (rk BK527) hb); clear hb hbox hg; have hnb44 := NB540_527.out; have hnc44 := NB527_540.out; have hcz45_0 : w43.cell? ⟨gb540, 0, none⟩ = some (.int .i64 0) := (blk_cell BK540.out 0).trans rfl; have hcz45_1 : w43.cell? ⟨gb540, 1, none⟩ = some (.slice none 0 0) := (blk_cell BK540.out 1).trans rfl; have hcz45_2 : w43.cell? ⟨gb540, 2, none⟩ = some (.int .i64 0) := (blk_cell BK540.out 2).trans rfl; have hfz45_0 := blk_frozen BK540.out 0; have hfz45_1 := blk_frozen BK540.out 1; have hfz45_2 := blk_frozen BK540.out 2; obtain ⟨Ao46, co46, eo46, _⟩ := Kd.Q_slice HO537.out; subst eo46; have hcz47_0 : w43.cell? ⟨gb527, 0, none⟩ = some (.int .i64 a0_0) := (blk_cell BK527.out 0).trans rfl; have hcz47_1 : w43.cell? ⟨gb527, 1, none⟩ = some (.slice A0_1 l0_1.length c0_1) := (blk_cell BK527.out 1).trans rfl; have hcz47_2 : w43.cell? ⟨gb527, 2, none⟩ = some (.int .i64 a0_2) := (blk_cell BK527.out 2).trans rfl; have hfz47_0 := blk_frozen BK527.out 0; have hfz47_1 := blk_frozen BK527.out 1; have hfz47_2 := blk_frozen BK527.out 2) | ((with_reducible refine gate_callee (f := 26) rfl ?_); refine gl_ (some 32) Try.func26 #[.agg #[.int .i64 a0_0, .slice A0_1 l0_1.length c0_1, .int .i64 a0_2]] ?_; (with_reducible refine (laws_toHistory.calls k a0_0 _ _ l0_1 a0_2 t541 t542 t545 _ ?side1 ?side2 A12.out).mono ?_); (case side1 => exact Kd.C_below HR0_1.out (rb2 HB GE527 GE540)); (case side2 => exact HC0_1.out); rintro e w48 ⟨v543, rfl, ho0, hb⟩; refine ⟨_, rfl, ?_⟩; have HO544 := am (Kd.R_lower (Kd.R_new' (Kd.R_new' ho0 (Kd.R_lt (by (with_reducible repeat (first | apply r1 | apply r2 | apply r3)); exact (Kd.R_mono (Kd.R_far (p := ⟨gb540, 2, none⟩) (Kd.R_far (p := ⟨gb540, 1, none⟩) (Kd.R_far (p := ⟨gb540, 0, none⟩) (Kd.R_types HO532.out BK540.out (by decide)) (fun _ hk => hk.2) (.int .i64 t534)) (fun _ hk => hk.2) (.slice Ao46 t535.length co46)) (fun _ hk => hk.2) (.int .i64 t538)) (fun _ h_ => h_.1))))) (Kd.Q_lt (by (with_reducible repeat (first | apply Kd.Q_alloc | apply Kd.Q_drewN | apply Kd.Q_drew)); exact (Kd.Q_mono (Kd.Q_far (p := ⟨gb540, 2, none⟩) (Kd.Q_far (p := ⟨gb540, 1, none⟩) (Kd.Q_far (p := ⟨gb540, 0, none⟩) (Kd.Q_types HO537.out BK540.out (by decide)) (fun _ hk => hk.2) (.int .i64 t534)) (fun _ hk => hk.2) (.slice Ao46 t535.length co46)) (fun _ hk => hk.2) (.int .i64 t538)) (fun _ h_ => h_.1))))) (below_size (rb2 HB GE527 GE540))); replace HO532 := am (Kd.R_elder' (by (with_reducible repeat (first | apply r1 | apply r2 | apply r3)); exact (Kd.R_mono (Kd.R_far (p := ⟨gb540, 2, none⟩) (Kd.R_far (p := ⟨gb540, 1, none⟩) (Kd.R_far (p := ⟨gb540, 0, none⟩) (Kd.R_types HO532.out BK540.out (by decide)) (fun _ hk => hk.2) (.int .i64 t534)) (fun _ hk => hk.2) (.slice Ao46 t535.length co46)) (fun _ hk => hk.2) (.int .i64 t538)) (fun _ h_ => h_.1))) (Kd.R_base ho0) hb); replace HO537 := am (Kd.Q_elder' (by (with_reducible repeat (first | apply Kd.Q_alloc | apply Kd.Q_drewN | apply Kd.Q_drew)); exact (Kd.Q_mono (Kd.Q_far (p := ⟨gb540, 2, none⟩) (Kd.Q_far (p := ⟨gb540, 1, none⟩) (Kd.Q_far (p := ⟨gb540, 0, none⟩) (Kd.Q_types HO537.out BK540.out (by decide)) (fun _ hk => hk.2) (.int .i64 t534)) (fun _ hk => hk.2) (.slice Ao46 t535.length co46)) (fun _ hk => hk.2) (.int .i64 t538)) (fun _ h_ => h_.1))) (Kd.R_base ho0) hb); replace BK527 := am (blk_below (g := gb527) (o := .cells #[.int .i64 a0_0, .slice A0_1 l0_1.length c0_1, .int .i64 a0_2] 42 (0, 0)) (rf3 NB527_540 BK527) hb); replace BK540 := am (blk_below (g := gb540) (o := .cells #[.int .i64 t534, .slice Ao46 t535.length co46, .int .i64 t538] 26 (0, 0)) (rp_0_1_2 BK540) hb); replace HB := am (below_step (rb2 HB GE527 GE540) hb); (try clear hb); (try clear hb2); (try clear hk); (try clear hi); (try clear ho0)) | ((with_reducible refine gate_dst (N := 8) rfl ?_); refine box_event ?hg (N := 8) ?hd (cs := #[.int .i64 0, .slice none 0 0, .int .i64 0]) (t := 26) ?hr ?_; (case hd => rfl); (case hg => rfl); (case hr => first | (go_simp; done) | (go_simp; rfl)); intro gb546 hg w49 hbox hb; replace HO532 := am (Kd.R_below (rr HO532) hb); replace HO537 := am (Kd.Q_below (by (with_reducible repeat (first | apply Kd.Q_alloc | apply Kd.Q_drewN | apply Kd.Q_drew)); exact HO537.out) hb); replace HO544 := am (Kd.R_below (rr HO544) hb); have BK546 := am (hbox); have GW546 := am (gw hg (rb2 HB GE527 GE540)); have GE546 := GW546; replace HB := am (below_step (rb2 HB GE527 GE540) hb); have NB527_546 := am (nl hg (rk BK527)); have NB546_527 := am (ng hg (rk BK527)); replace BK527 := am (blk_below (rk BK527) hb); have NB540_546 := am (nl hg (rk BK540)); have NB546_540 := am (ng hg (rk BK540)); replace BK540 := am (blk_below (rk BK540) hb); clear hb hbox hg; have hnb50 := NB546_527.out; have hnc50 := NB527_546.out; have hnb51 := NB546_540.out; have hnc51 := NB540_546.out; have hcz52_0 : w49.cell? ⟨gb546, 0, none⟩ = some (.int .i64 0) := (blk_cell BK546.out 0).trans rfl; have hcz52_1 : w49.cell? ⟨gb546, 1, none⟩ = some (.slice none 0 0) := (blk_cell BK546.out 1).trans rfl; have hcz52_2 : w49.cell? ⟨gb546, 2, none⟩ = some (.int .i64 0) := (blk_cell BK546.out 2).trans rfl; have hfz52_0 := blk_frozen BK546.out 0; have hfz52_1 := blk_frozen BK546.out 1; have hfz52_2 := blk_frozen BK546.out 2; obtain ⟨Ao53, co53, eo53⟩ := Kd.R_slice HO544.out; subst eo53) | ((with_reducible refine gate_callee (f := 10) rfl ?_); refine gl_ (some 36) Try.func10 #[.agg #[.int .i64 t541, .slice Ao53 t542.length co53, .int .i64 t545], .string a1] ?_; (with_reducible refine (impl_Keep.calls k t541 _ _ t542 t545 a1 t547 t548 t551 t552 _ ?side1 ?side2 A13.out).mono ?_); (case side1 => refine (Kd.R_reads' (e := 9) (base := w.heap.size) (ok := fun k_ => ((True ∧ some k_ ≠ (.slice Ao41 t530.length co41 : Value).ownBlock) ∧ some k_ ≠ (.slice Ao46 t535.length co46 : Value).ownBlock)) (n := t542.length) (c := co53) ?_).2.2; exact (by (with_reducible repeat (first | apply r1 | apply r2 | apply r3)); exact (Kd.R_mono (Kd.R_far (p := ⟨gb546, 2, none⟩) (Kd.R_far (p := ⟨gb546, 1, none⟩) (Kd.R_far (p := ⟨gb546, 0, none⟩) (Kd.R_types HO544.out BK546.out (by decide)) (fun _ hk => hk.2) (.int .i64 t541)) (fun _ hk => hk.2) (.slice Ao53 t542.length co53)) (fun _ hk => hk.2) (.int .i64 t545)) (fun _ h_ => h_.1)))); (case side2 => exact (Kd.R_reads' HO544.out).2.1); rintro e w54 ⟨v549, rfl, ho0, hb⟩; refine ⟨_, rfl, ?_⟩; have HO550 := am (Kd.R_lower (Kd.R_new' (Kd.R_new' (Kd.R_new' ho0 (Kd.R_lt (by (with_reducible repeat (first | apply r1 | apply r2 | apply r3)); exact (Kd.R_mono (Kd.R_far (p := ⟨gb546, 2, none⟩) (Kd.R_far (p := ⟨gb546, 1, none⟩) (Kd.R_far (p := ⟨gb546, 0, none⟩) (Kd.R_types HO532.out BK546.out (by decide)) (fun _ hk => hk.2) (.int .i64 t541)) (fun _ hk => hk.2) (.slice Ao53 t542.length co53)) (fun _ hk => hk.2) (.int .i64 t545)) (fun _ h_ => h_.1))))) (Kd.Q_lt (by (with_reducible repeat (first | apply Kd.Q_alloc | apply Kd.Q_drewN | apply Kd.Q_drew)); exact (Kd.Q_mono (Kd.Q_far (p := ⟨gb546, 2, none⟩) (Kd.Q_far (p := ⟨gb546, 1, none⟩) (Kd.Q_far (p := ⟨gb546, 0, none⟩) (Kd.Q_types HO537.out BK546.out (by decide)) (fun _ hk => hk.2) (.int .i64 t541)) (fun _ hk => hk.2) (.slice Ao53 t542.length co53)) (fun _ hk => hk.2) (.int .i64 t545)) (fun _ h_ => h_.1))))) (Kd.R_lt (by (with_reducible repeat (first | apply r1 | apply r2 | apply r3)); exact (Kd.R_mono (Kd.R_far (p := ⟨gb546, 2, none⟩) (Kd.R_far (p := ⟨gb546, 1, none⟩) (Kd.R_far (p := ⟨gb546, 0, none⟩) (Kd.R_types HO544.out BK546.out (by decide)) (fun _ hk => hk.2) (.int .i64 t541)) (fun _ hk => hk.2) (.slice Ao53 t542.length co53)) (fun _ hk => hk.2) (.int .i64 t545)) (fun _ h_ => h_.1))))) (below_size (rb3 HB GE527 GE540 GE546))); replace HO532 := am (Kd.R_elder' (by (with_reducible repeat (first | apply r1 | apply r2 | apply r3)); exact (Kd.R_mono (Kd.R_far (p := ⟨gb546, 2, none⟩) (Kd.R_far (p := ⟨gb546, 1, none⟩) (Kd.R_far (p := ⟨gb546, 0, none⟩) (Kd.R_types HO532.out BK546.out (by decide)) (fun _ hk => hk.2) (.int .i64 t541)) (fun _ hk => hk.2) (.slice Ao53 t542.length co53)) (fun _ hk => hk.2) (.int .i64 t545)) (fun _ h_ => h_.1))) (Kd.R_base ho0) hb); replace HO537 := am (Kd.Q_elder' (by (with_reducible repeat (first | apply Kd.Q_alloc | apply Kd.Q_drewN | apply Kd.Q_drew)); exact (Kd.Q_mono (Kd.Q_far (p := ⟨gb546, 2, none⟩) (Kd.Q_far (p := ⟨gb546, 1, none⟩) (Kd.Q_far (p := ⟨gb546, 0, none⟩) (Kd.Q_types HO537.out BK546.out (by decide)) (fun _ hk => hk.2) (.int .i64 t541)) (fun _ hk => hk.2) (.slice Ao53 t542.length co53)) (fun _ hk => hk.2) (.int .i64 t545)) (fun _ h_ => h_.1))) (Kd.R_base ho0) hb); replace HO544 := am (Kd.R_elder' (by (with_reducible repeat (first | apply r1 | apply r2 | apply r3)); exact (Kd.R_mono (Kd.R_far (p := ⟨gb546, 2, none⟩) (Kd.R_far (p := ⟨gb546, 1, none⟩) (Kd.R_far (p := ⟨gb546, 0, none⟩) (Kd.R_types HO544.out BK546.out (by decide)) (fun _ hk => hk.2) (.int .i64 t541)) (fun _ hk => hk.2) (.slice Ao53 t542.length co53)) (fun _ hk => hk.2) (.int .i64 t545)) (fun _ h_ => h_.1))) (Kd.R_base ho0) hb); replace BK527 := am (blk_below (g := gb527) (o := .cells #[.int .i64 a0_0, .slice A0_1 l0_1.length c0_1, .int .i64 a0_2] 42 (0, 0)) (rf3 NB527_546 BK527) hb); replace BK540 := am (blk_below (g := gb540) (o := .cells #[.int .i64 t534, .slice Ao46 t535.length co46, .int .i64 t538] 26 (0, 0)) (rf3 NB540_546 BK540) hb); replace BK546 := am (blk_below (g := gb546) (o := .cells #[.int .i64 t541, .slice Ao53 t542.length co53, .int .i64 t545] 26 (0, 0)) (rp_0_1_2 BK546) hb); replace HB := am (below_step (rb3 HB GE527 GE540 GE546) hb); (try clear hb); (try clear hb2); (try clear hk); (try clear hi); (try clear ho0)) | ((with_reducible refine gate_dst (N := 9) rfl ?_); refine box_event ?hg (N := 9) ?hd (cs := #[.int .i64 0, .slice none 0 0, .int .i64 0]) (t := 26) ?hr ?_; (case hd => rfl); (case hg => rfl); (case hr => first | (go_simp; done) | (go_simp; rfl)); intro gb553 hg w55 hbox hb; replace HO532 := am (Kd.R_below (rr HO532) hb); replace HO537 := am (Kd.Q_below (by (with_reducible repeat (first | apply Kd.Q_alloc | apply Kd.Q_drewN | apply Kd.Q_drew)); exact HO537.out) hb); replace HO544 := am (Kd.R_below (rr HO544) hb); replace HO550 := am (Kd.R_below (rr HO550) hb); have BK553 := am (hbox); have GW553 := am (gw hg (rb3 HB GE527 GE540 GE546)); have GE553 := GW553; replace HB := am (below_step (rb3 HB GE527 GE540 GE546) hb); have NB527_553 := am (nl hg (rk BK527)); have NB553_527 := am (ng hg (rk BK527)); replace BK527 := am (blk_below (rk BK527) hb); have NB540_553 := am (nl hg (rk BK540)); have NB553_540 := am (ng hg (rk BK540)); replace BK540 := am (blk_below (rk BK540) hb); have NB546_553 := am (nl hg (rk BK546)); have NB553_546 := am (ng hg (rk BK546)); replace BK546 := am (blk_below (rk BK546) hb); clear hb hbox hg; have hnb56 := NB553_527.out; have hnc56 := NB527_553.out; have hnb57 := NB553_540.out; have hnc57 := NB540_553.out; have hnb58 := NB553_546.out; have hnc58 := NB546_553.out; have hcz59_0 : w55.cell? ⟨gb553, 0, none⟩ = some (.int .i64 0) := (blk_cell BK553.out 0).trans rfl; have hcz59_1 : w55.cell? ⟨gb553, 1, none⟩ = some (.slice none 0 0) := (blk_cell BK553.out 1).trans rfl; have hcz59_2 : w55.cell? ⟨gb553, 2, none⟩ = some (.int .i64 0) := (blk_cell BK553.out 2).trans rfl; have hfz59_0 := blk_frozen BK553.out 0; have hfz59_1 := blk_frozen BK553.out 1; have hfz59_2 := blk_frozen BK553.out 2; obtain ⟨Ao60, co60, eo60⟩ := Kd.R_slice HO550.out; subst eo60; have hcz61_0 : w55.cell? ⟨gb540, 0, none⟩ = some (.int .i64 t534) := (blk_cell BK540.out 0).trans rfl; have hcz61_1 : w55.cell? ⟨gb540, 1, none⟩ = some (.slice Ao46 t535.length co46) := (blk_cell BK540.out 1).trans rfl; have hcz61_2 : w55.cell? ⟨gb540, 2, none⟩ = some (.int .i64 t538) := (blk_cell BK540.out 2).trans rfl; have hfz61_0 := blk_frozen BK540.out 0; have hfz61_1 := blk_frozen BK540.out 1; have hfz61_2 := blk_frozen BK540.out 2) | ((with_reducible refine gate_callee (f := 27) rfl ?_); refine gl_ (some 41) Try.func27 #[.agg #[.int .i64 t547, .slice Ao60 t548.length co60, .int .i64 t551], .agg #[.int .i64 t534, .slice Ao46 t535.length co46, .int .i64 t538]] ?_; (with_reducible refine (laws_eqHistory.calls k t547 _ _ t548 t551 t534 _ _ t535 t538 true _ ?side1 ?side2 ?side3 ?side4 A14.out).mono ?_); (case side1 => refine (Kd.R_reads' (e := 9) (base := w.heap.size) (ok := fun k_ => (((True ∧ some k_ ≠ (.slice Ao41 t530.length co41 : Value).ownBlock) ∧ some k_ ≠ (.slice Ao46 t535.length co46 : Value).ownBlock) ∧ some k_ ≠ (.slice Ao53 t542.length co53 : Value).ownBlock)) (n := t548.length) (c := co60) ?_).2.2; exact (by (with_reducible repeat (first | apply r1 | apply r2 | apply r3)); exact (Kd.R_mono (Kd.R_far (p := ⟨gb553, 2, none⟩) (Kd.R_far (p := ⟨gb553, 1, none⟩) (Kd.R_far (p := ⟨gb553, 0, none⟩) (Kd.R_types HO550.out BK553.out (by decide)) (fun _ hk => hk.2) (.int .i64 t547)) (fun _ hk => hk.2) (.slice Ao60 t548.length co60)) (fun _ hk => hk.2) (.int .i64 t551)) (fun _ h_ => h_.1)))); (case side2 => exact (Kd.R_reads' HO550.out).2.1); (case side3 => refine (Kd.Q_reads' (e := 9) (base := w.heap.size) (ok := fun k_ => (((True ∧ some k_ ≠ (.slice Ao41 t530.length co41 : Value).ownBlock) ∧ some k_ ≠ (.slice Ao53 t542.length co53 : Value).ownBlock) ∧ some k_ ≠ (.slice Ao60 t548.length co60 : Value).ownBlock)) (n := t535.length) (c := co46) ?_).2.2; exact (by (with_reducible repeat (first | apply Kd.Q_alloc | apply Kd.Q_drewN | apply Kd.Q_drew)); exact (Kd.Q_mono (Kd.Q_far (p := ⟨gb553, 2, none⟩) (Kd.Q_far (p := ⟨gb553, 1, none⟩) (Kd.Q_far (p := ⟨gb553, 0, none⟩) (Kd.Q_types HO537.out BK553.out (by decide)) (fun _ hk => hk.2) (.int .i64 t547)) (fun _ hk => hk.2) (.slice Ao60 t548.length co60)) (fun _ hk => hk.2) (.int .i64 t551)) (fun _ h_ => h_.1)))); (case side4 => exact (Kd.Q_reads' HO537.out).2.1); rintro e w62 ⟨rfl, hb⟩; refine ⟨_, rfl, ?_⟩; replace HO532 := am (Kd.R_below (by (with_reducible repeat (first | apply r1 | apply r2 | apply r3)); exact (Kd.R_mono (Kd.R_far (p := ⟨gb553, 2, none⟩) (Kd.R_far (p := ⟨gb553, 1, none⟩) (Kd.R_far (p := ⟨gb553, 0, none⟩) (Kd.R_types HO532.out BK553.out (by decide)) (fun _ hk => hk.2) (.int .i64 t547)) (fun _ hk => hk.2) (.slice Ao60 t548.length co60)) (fun _ hk => hk.2) (.int .i64 t551)) (fun _ h_ => h_.1))) hb); replace HO537 := am (Kd.Q_below (by (with_reducible repeat (first | apply Kd.Q_alloc | apply Kd.Q_drewN | apply Kd.Q_drew)); exact (Kd.Q_mono (Kd.Q_far (p := ⟨gb553, 2, none⟩) (Kd.Q_far (p := ⟨gb553, 1, none⟩) (Kd.Q_far (p := ⟨gb553, 0, none⟩) (Kd.Q_types HO537.out BK553.out (by decide)) (fun _ hk => hk.2) (.int .i64 t547)) (fun _ hk => hk.2) (.slice Ao60 t548.length co60)) (fun _ hk => hk.2) (.int .i64 t551)) (fun _ h_ => h_.1))) hb); replace HO544 := am (Kd.R_below (by (with_reducible repeat (first | apply r1 | apply r2 | apply r3)); exact (Kd.R_mono (Kd.R_far (p := ⟨gb553, 2, none⟩) (Kd.R_far (p := ⟨gb553, 1, none⟩) (Kd.R_far (p := ⟨gb553, 0, none⟩) (Kd.R_types HO544.out BK553.out (by decide)) (fun _ hk => hk.2) (.int .i64 t547)) (fun _ hk => hk.2) (.slice Ao60 t548.length co60)) (fun _ hk => hk.2) (.int .i64 t551)) (fun _ h_ => h_.1))) hb); replace HO550 := am (Kd.R_below (by (with_reducible repeat (first | apply r1 | apply r2 | apply r3)); exact (Kd.R_mono (Kd.R_far (p := ⟨gb553, 2, none⟩) (Kd.R_far (p := ⟨gb553, 1, none⟩) (Kd.R_far (p := ⟨gb553, 0, none⟩) (Kd.R_types HO550.out BK553.out (by decide)) (fun _ hk => hk.2) (.int .i64 t547)) (fun _ hk => hk.2) (.slice Ao60 t548.length co60)) (fun _ hk => hk.2) (.int .i64 t551)) (fun _ h_ => h_.1))) hb); replace BK527 := am (blk_below (g := gb527) (o := .cells #[.int .i64 a0_0, .slice A0_1 l0_1.length c0_1, .int .i64 a0_2] 42 (0, 0)) (rf3 NB527_553 BK527) hb); replace BK540 := am (blk_below (g := gb540) (o := .cells #[.int .i64 t534, .slice Ao46 t535.length co46, .int .i64 t538] 26 (0, 0)) (rf3 NB540_553 BK540) hb); replace BK546 := am (blk_below (g := gb546) (o := .cells #[.int .i64 t541, .slice Ao53 t542.length co53, .int .i64 t545] 26 (0, 0)) (rf3 NB546_553 BK546) hb); replace BK553 := am (blk_below (g := gb553) (o := .cells #[.int .i64 t547, .slice Ao60 t548.length co60, .int .i64 t551] 26 (0, 0)) (rp_0_1_2 BK553) hb); replace HB := am (below_step (rb4 HB GE527 GE540 GE546 GE553) hb); (try clear hb); (try clear hb2); (try clear hk); (try clear hi)))
replace HO532 := am (Kd.R_drew HO532.out)
replace HO537 := am (Kd.Q_drew HO537.out)
replace HO544 := am (Kd.R_drew HO544.out)
replace HO550 := am (Kd.R_drew HO550.out)
replace BK527 := am (blk_drew BK527.out)
replace BK540 := am (blk_drew BK540.out)
replace BK546 := am (blk_drew BK546.out)
replace BK553 := am (blk_drew BK553.out)
replace HB := am (below_drew1 HB.out)
refine start_ (n := 5) (S := fun w' => w'.cell? ⟨gb546, 0, none⟩ = some (.int .i64 t541) ∧ w'.cell? ⟨gb546, 1, none⟩ = some (.slice Ao53 t542.length co53) ∧ w'.cell? ⟨gb546, 2, none⟩ = some (.int .i64 t545) ∧ w'.cell? ⟨gb527, 0, none⟩ = some (.int .i64 a0_0) ∧ w'.cell? ⟨gb527, 1, none⟩ = some (.slice A0_1 l0_1.length c0_1) ∧ w'.cell? ⟨gb527, 2, none⟩ = some (.int .i64 a0_2)) (ds := []) (bm 5 0) (by kernel_rfl) rfl rfl ⟨(blk_cell BK546.out 0).trans rfl, (blk_cell BK546.out 1).trans rfl, (blk_cell BK546.out 2).trans rfl, (blk_cell BK527.out 0).trans rfl, (blk_cell BK527.out 1).trans rfl, (blk_cell BK527.out 2).trans rfl⟩ (fun hHeld => ?_)
generalize w62.drew = w63 at HO532 HO537 HO544 HO550 BK527 BK540 BK546 BK553 HB hHeld ⊢
refine take_ (i := 0) (N := some 48) (v := ?_) (a' := ?_) (bm 5 1) rfl rfl (by kernel_rfl) (fun _ _ _ h => h) (Or.inl ⟨by rfl, ?_⟩) hHeld ?_ ?_
rotate_left
·(
rintro w' ⟨s0, s1, s2, s3, s4, s5⟩
go_simp
with_reducible rfl
)
rotate_left
·(
simp only [Act.put, List.setIfInBounds_toArray, List.set_cons_zero, List.set_cons_succ, i64_w, i32_w]
rfl
)
refine take_ (i := 1) (N := some 49) (v := ?_) (a' := ?_) (bm 5 3) rfl rfl (by kernel_rfl) (fun _ _ _ h => h) (Or.inl ⟨by rfl, ?_⟩) hHeld ?_ ?_
rotate_left
·(
rintro w' ⟨s0, s1, s2, s3, s4, s5⟩
go_simp
with_reducible rfl
)
rotate_left
·(
simp only [Act.put, List.setIfInBounds_toArray, List.set_cons_zero, List.set_cons_succ, i64_w, i32_w]
rfl
)
refine one_ (i := 2) (N := some 50) (bm 5 7) rfl rfl (by kernel_rfl) (by decide) (fun K hK => ?_)
refine goes_ Try.func26 (by kernel_rfl) rfl #[.agg #[.int .i64 a0_0, .slice A0_1 l0_1.length c0_1, .int .i64 a0_2]] (by rfl) rfl rfl mt ?_
with_reducible refine (laws_toHistory.calls k a0_0 _ _ l0_1 a0_2 t555 t556 t559 _ ?side1 ?side2 A17.out).mono ?_
(case side1 => exact rc ((Kd.C_below HR0_1.out HB.out)))
(case side2 => exact HC0_1.out)
rintro e w64 ⟨v557, rfl, ho0, hb⟩
refine ⟨_, rfl, ?_⟩
have HO558 := am (Kd.R_lower (Kd.R_new' (Kd.R_new' (Kd.R_new' (Kd.R_new' ho0 (Kd.R_lt (rr HO532))) (Kd.Q_lt (by (with_reducible repeat (first | apply Kd.Q_alloc | apply Kd.Q_drewN | apply Kd.Q_drew)); exact HO537.out))) (Kd.R_lt (rr HO544))) (Kd.R_lt (rr HO550))) (below_size (rb4 HB GE527 GE540 GE546 GE553)))
replace HO532 := am (Kd.R_elder' (rr HO532) (Kd.R_base ho0) hb)
replace HO537 := am (Kd.Q_elder' (by (with_reducible repeat (first | apply Kd.Q_alloc | apply Kd.Q_drewN | apply Kd.Q_drew)); exact HO537.out) (Kd.R_base ho0) hb)
replace HO544 := am (Kd.R_elder' (rr HO544) (Kd.R_base ho0) hb)
replace HO550 := am (Kd.R_elder' (rr HO550) (Kd.R_base ho0) hb)
replace BK527 := am (blk_below (rk BK527) hb)
replace BK540 := am (blk_below (rk BK540) hb)
replace BK546 := am (blk_below (rk BK546) hb)
replace BK553 := am (blk_below (rk BK553) hb)
replace HB := am (below_step (rb4 HB GE527 GE540 GE546 GE553) hb)
(try clear hb)
(try clear ho0)
obtain ⟨Ao65, co65, eo65⟩ := Kd.R_slice HO558.out
(first | subst eo65 | (injection eo65 with f1_ f2_ f3_; have f4_ := f1_.symm; have f5_ := f3_.symm; clear f1_ f2_ f3_; subst f4_; subst f5_))
refine hK.out _ _ ⟨(blk_cell BK546.out 0).trans rfl, (blk_cell BK546.out 1).trans rfl, (blk_cell BK546.out 2).trans rfl, (blk_cell BK527.out 0).trans rfl, (blk_cell BK527.out 1).trans rfl, (blk_cell BK527.out 2).trans rfl⟩ (fun hHeld => ?_)
clear hK K
refine norm_ (a' := _) (show Act.put _ (some 50) _ = _ from na) ?_
refine one_ (i := 3) (N := some 51) (bm 5 15) rfl rfl (by kernel_rfl) (by decide) (fun K hK => ?_)
refine goes_ Try.func27 (by kernel_rfl) rfl #[.agg #[.int .i64 t541, .slice Ao53 t542.length co53, .int .i64 t545], .agg #[.int .i64 t555, .slice Ao65 t556.length co65, .int .i64 t559]] (by rfl) rfl rfl mt ?_
with_reducible refine (laws_eqHistory.calls k t541 _ _ t542 t545 t555 _ _ t556 t559 true _ ?side1 ?side2 ?side3 ?side4 A18.out).mono ?_
(case side1 => repeat (first | exact (Kd.R_reads' HO544.out).2.2 | (with_reducible refine Kd.C_alloc ?_ _) | (with_reducible refine Kd.C_drewN ?_ _) | (with_reducible refine Kd.C_drew ?_)))
(case side2 => exact (Kd.R_reads' HO544.out).2.1)
(case side3 => repeat (first | exact (Kd.R_reads' HO558.out).2.2 | (with_reducible refine Kd.C_alloc ?_ _) | (with_reducible refine Kd.C_drewN ?_ _) | (with_reducible refine Kd.C_drew ?_)))
(case side4 => exact (Kd.R_reads' HO558.out).2.1)
rintro e w66 ⟨rfl, hb⟩
refine ⟨_, rfl, ?_⟩
replace HO532 := am (Kd.R_below (rr HO532) hb)
replace HO537 := am (Kd.Q_below (by (with_reducible repeat (first | apply Kd.Q_alloc | apply Kd.Q_drewN | apply Kd.Q_drew)); exact HO537.out) hb)
replace HO544 := am (Kd.R_below (rr HO544) hb)
replace HO550 := am (Kd.R_below (rr HO550) hb)
replace HO558 := am (Kd.R_below (rr HO558) hb)
replace BK527 := am (blk_below (rk BK527) hb)
replace BK540 := am (blk_below (rk BK540) hb)
replace BK546 := am (blk_below (rk BK546) hb)
replace BK553 := am (blk_below (rk BK553) hb)
replace HB := am (below_step (rb4 HB GE527 GE540 GE546 GE553) hb)
(try clear hb)
refine hK.out _ _ ⟨(blk_cell BK546.out 0).trans rfl, (blk_cell BK546.out 1).trans rfl, (blk_cell BK546.out 2).trans rfl, (blk_cell BK527.out 0).trans rfl, (blk_cell BK527.out 1).trans rfl, (blk_cell BK527.out 2).trans rfl⟩ (fun hHeld => ?_)
clear hK K
refine norm_ (a' := _) (show Act.put _ (some 51) _ = _ from na) ?_
refine pure_ (i := 4) (N := some 52) (v := ?_) (a' := ?_) (bm 5 31) rfl rfl (by kernel_rfl) (fun _ _ _ h => h) (Or.inl ⟨by rfl, ?_⟩) ?_ ?_
rotate_left
·(
intro w'
go_simp
with_reducible rfl
)
rotate_left
·(
simp only [Act.put, List.setIfInBounds_toArray, List.set_cons_zero, List.set_cons_succ, i64_w, i32_w]
rfl
)
refine done_ (by kernel_rfl) ?_
have hcz67_0 : w66.cell? ⟨gb546, 0, none⟩ = some (.int .i64 t541) := (blk_cell BK546.out 0).trans rfl
have hcz67_1 : w66.cell? ⟨gb546, 1, none⟩ = some (.slice Ao53 t542.length co53) := (blk_cell BK546.out 1).trans rfl
have hcz67_2 : w66.cell? ⟨gb546, 2, none⟩ = some (.int .i64 t545) := (blk_cell BK546.out 2).trans rfl
have hfz67_0 := blk_frozen BK546.out 0
have hfz67_1 := blk_frozen BK546.out 1
have hfz67_2 := blk_frozen BK546.out 2
try go_wp2_with (first | ((with_reducible refine gate_callee (f := 28) rfl ?_); refine gl_ (some 55) Try.func28 #[.agg #[.int .i64 t541, .slice Ao53 t542.length co53, .int .i64 t545], .int .i64 1] ?_; (with_reducible refine (laws_markHistory.calls k t541 (fun k_ => some k_ = (.slice Ao53 t542.length co53 : Value).ownBlock) (.slice Ao53 t542.length co53) t542 t545 1 t561 t562 w _ ?side1 ?side2 A20.out).mono ?_); (case side1 => repeat (first | (with_reducible first | exact HB.out | apply b1 | apply b2 | apply b3 | refine below_set ?_ GE527.out | refine below_set ?_ GE540.out | refine below_set ?_ GE546.out | refine below_set ?_ GE553.out) | exact HB.out)); (case side2 => exact Kd.R_tight rfl HO544.out); rintro e w68 ⟨rfl, hy0, hb, hkp⟩; refine ⟨_, rfl, ?_⟩; replace BK527 := am (blk_kept (rk BK527) hkp (fun hs_ => (fun e_ => (Kd.R_ne HO544.out BK527.out (by decide)) e_) hs_)); replace HO532 := am (Kd.R_mono (ok' := fun k_ => some k_ ≠ (.slice Ao46 t535.length co46 : Value).ownBlock ∧ some k_ ≠ (.slice Ao53 t542.length co53 : Value).ownBlock ∧ some k_ ≠ (.slice Ao60 t548.length co60 : Value).ownBlock ∧ some k_ ≠ (.slice Ao65 t556.length co65 : Value).ownBlock) (Kd.R_keptB (HO532.out) hkp (fun k_ hk_ hs_ => (hk_.1.1.2) hs_)) (fun k_ hk_ => ⟨hk_.1.1.1.1.2, hk_.1.1.1.2, hk_.1.1.2, hk_.1.2⟩)); replace HO537 := am (Kd.Q_mono (ok' := fun k_ => some k_ ≠ (.slice Ao41 t530.length co41 : Value).ownBlock ∧ some k_ ≠ (.slice Ao53 t542.length co53 : Value).ownBlock ∧ some k_ ≠ (.slice Ao60 t548.length co60 : Value).ownBlock ∧ some k_ ≠ (.slice Ao65 t556.length co65 : Value).ownBlock) (Kd.Q_keptB (HO537.out) hkp (fun k_ hk_ hs_ => (hk_.1.1.2) hs_)) (fun k_ hk_ => ⟨hk_.1.1.1.1.2, hk_.1.1.1.2, hk_.1.1.2, hk_.1.2⟩)); replace BK540 := am (blk_kept (rk BK540) hkp (fun hs_ => (fun e_ => (Kd.R_ne HO544.out BK540.out (by decide)) e_) hs_)); replace BK546 := am (blk_kept (rk BK546) hkp (fun hs_ => (fun e_ => (Kd.R_ne HO544.out BK546.out (by decide)) e_) hs_)); replace HO550 := am (Kd.R_mono (ok' := fun k_ => some k_ ≠ (.slice Ao41 t530.length co41 : Value).ownBlock ∧ some k_ ≠ (.slice Ao46 t535.length co46 : Value).ownBlock ∧ some k_ ≠ (.slice Ao53 t542.length co53 : Value).ownBlock ∧ some k_ ≠ (.slice Ao65 t556.length co65 : Value).ownBlock) (Kd.R_keptB (HO550.out) hkp (fun k_ hk_ hs_ => (hk_.1.2) hs_)) (fun k_ hk_ => ⟨hk_.1.1.1.1.2, hk_.1.1.1.2, hk_.1.1.2, hk_.1.2⟩)); replace BK553 := am (blk_kept (rk BK553) hkp (fun hs_ => (fun e_ => (Kd.R_ne HO544.out BK553.out (by decide)) e_) hs_)); replace HO544 := am (Kd.R_reok rfl hy0 (fun k_ e_ => HO544.out.1 k_ e_)); replace HO558 := am (Kd.R_mono (ok' := fun k_ => some k_ ≠ (.slice Ao41 t530.length co41 : Value).ownBlock ∧ some k_ ≠ (.slice Ao46 t535.length co46 : Value).ownBlock ∧ some k_ ≠ (.slice Ao53 t542.length co53 : Value).ownBlock ∧ some k_ ≠ (.slice Ao60 t548.length co60 : Value).ownBlock) (Kd.R_keptB (HO558.out) hkp (fun k_ hk_ hs_ => (hk_.1.2) hs_)) (fun k_ hk_ => ⟨hk_.1.1.1.1.2, hk_.1.1.1.2, hk_.1.1.2, hk_.1.2⟩)); replace HB := am (hb); (try clear hb); (try clear hkp); (try clear hy0); have hcz69_0 : w68.cell? ⟨gb553, 0, none⟩ = some (.int .i64 t547) := (blk_cell BK553.out 0).trans rfl; have hcz69_1 : w68.cell? ⟨gb553, 1, none⟩ = some (.slice Ao60 t548.length co60) := (blk_cell BK553.out 1).trans rfl; have hcz69_2 : w68.cell? ⟨gb553, 2, none⟩ = some (.int .i64 t551) := (blk_cell BK553.out 2).trans rfl; have hfz69_0 := blk_frozen BK553.out 0; have hfz69_1 := blk_frozen BK553.out 1; have hfz69_2 := blk_frozen BK553.out 2; have hcz70_0 : w68.cell? ⟨gb540, 0, none⟩ = some (.int .i64 t534) := (blk_cell BK540.out 0).trans rfl; have hcz70_1 : w68.cell? ⟨gb540, 1, none⟩ = some (.slice Ao46 t535.length co46) := (blk_cell BK540.out 1).trans rfl; have hcz70_2 : w68.cell? ⟨gb540, 2, none⟩ = some (.int .i64 t538) := (blk_cell BK540.out 2).trans rfl; have hfz70_0 := blk_frozen BK540.out 0; have hfz70_1 := blk_frozen BK540.out 1; have hfz70_2 := blk_frozen BK540.out 2) | (go_at_call 27; (with_reducible refine (laws_eqHistory.calls k t547 _ _ t548 t551 t534 _ _ t535 t538 true _ ?side1 ?side2 ?side3 ?side4 A22.out).mono ?_); (case side1 => repeat (first | exact (Kd.R_reads' HO550.out).2.2 | (with_reducible refine Kd.C_alloc ?_ _) | (with_reducible refine Kd.C_drewN ?_ _) | (with_reducible refine Kd.C_drew ?_))); (case side2 => exact (Kd.R_reads' HO550.out).2.1); (case side3 => repeat (first | exact (Kd.Q_reads' HO537.out).2.2 | (with_reducible refine Kd.C_alloc ?_ _) | (with_reducible refine Kd.C_drewN ?_ _) | (with_reducible refine Kd.C_drew ?_))); (case side4 => exact (Kd.Q_reads' HO537.out).2.1); rintro e w71 ⟨rfl, hb⟩; replace HO532 := am (Kd.R_below (rr HO532) hb); replace HO537 := am (Kd.Q_below (by (with_reducible repeat (first | apply Kd.Q_alloc | apply Kd.Q_drewN | apply Kd.Q_drew)); exact HO537.out) hb); replace HO544 := am (Kd.R_below (rr HO544) hb); replace HO550 := am (Kd.R_below (rr HO550) hb); replace HO558 := am (Kd.R_below (rr HO558) hb); replace BK527 := am (blk_below (rk BK527) hb); replace BK540 := am (blk_below (rk BK540) hb); replace BK546 := am (blk_below (rk BK546) hb); replace BK553 := am (blk_below (rk BK553) hb); replace HB := am (below_step (rb4 HB GE527 GE540 GE546 GE553) hb); (try clear hb); (try clear hb2); (try clear hk); (try clear hi); have hcz72_0 : w71.cell? ⟨gb553, 0, none⟩ = some (.int .i64 t547) := (blk_cell BK553.out 0).trans rfl; have hcz72_1 : w71.cell? ⟨gb553, 1, none⟩ = some (.slice Ao60 t548.length co60) := (blk_cell BK553.out 1).trans rfl; have hcz72_2 : w71.cell? ⟨gb553, 2, none⟩ = some (.int .i64 t551) := (blk_cell BK553.out 2).trans rfl; have hfz72_0 := blk_frozen BK553.out 0; have hfz72_1 := blk_frozen BK553.out 1; have hfz72_2 := blk_frozen BK553.out 2) | ((with_reducible refine gate_callee (f := 28) rfl ?_); refine gl_ (some 71) Try.func28 #[.agg #[.int .i64 t547, .slice Ao60 t548.length co60, .int .i64 t551], .int .i64 1] ?_; (with_reducible refine (laws_markHistory.calls k t547 (fun k_ => some k_ = (.slice Ao60 t548.length co60 : Value).ownBlock) (.slice Ao60 t548.length co60) t548 t551 1 t564 t565 w _ ?side1 ?side2 A24.out).mono ?_); (case side1 => repeat (first | (with_reducible first | exact HB.out | apply b1 | apply b2 | apply b3 | refine below_set ?_ GE527.out | refine below_set ?_ GE540.out | refine below_set ?_ GE546.out | refine below_set ?_ GE553.out) | exact HB.out)); (case side2 => exact Kd.R_tight rfl HO550.out); rintro e w73 ⟨rfl, hy0, hb, hkp⟩; refine ⟨_, rfl, ?_⟩; replace BK527 := am (blk_kept (rk BK527) hkp (fun hs_ => (fun e_ => (Kd.R_ne HO550.out BK527.out (by decide)) e_) hs_)); replace HO532 := am (Kd.R_mono (ok' := fun k_ => some k_ ≠ (.slice Ao46 t535.length co46 : Value).ownBlock ∧ some k_ ≠ (.slice Ao53 t542.length co53 : Value).ownBlock ∧ some k_ ≠ (.slice Ao60 t548.length co60 : Value).ownBlock ∧ some k_ ≠ (.slice Ao65 t556.length co65 : Value).ownBlock) (Kd.R_keptB (HO532.out) hkp (fun k_ hk_ hs_ => (hk_.2.2.1) hs_)) (fun k_ hk_ => ⟨hk_.1.1, hk_.1.2.1, hk_.1.2.2.1, hk_.1.2.2.2⟩)); replace HO537 := am (Kd.Q_mono (ok' := fun k_ => some k_ ≠ (.slice Ao41 t530.length co41 : Value).ownBlock ∧ some k_ ≠ (.slice Ao53 t542.length co53 : Value).ownBlock ∧ some k_ ≠ (.slice Ao60 t548.length co60 : Value).ownBlock ∧ some k_ ≠ (.slice Ao65 t556.length co65 : Value).ownBlock) (Kd.Q_keptB (HO537.out) hkp (fun k_ hk_ hs_ => (hk_.2.2.1) hs_)) (fun k_ hk_ => ⟨hk_.1.1, hk_.1.2.1, hk_.1.2.2.1, hk_.1.2.2.2⟩)); replace BK540 := am (blk_kept (rk BK540) hkp (fun hs_ => (fun e_ => (Kd.R_ne HO550.out BK540.out (by decide)) e_) hs_)); replace HO544 := am (Kd.R_mono (ok' := fun k_ => some k_ ≠ (.slice Ao41 t530.length co41 : Value).ownBlock ∧ some k_ ≠ (.slice Ao46 t535.length co46 : Value).ownBlock ∧ some k_ ≠ (.slice Ao60 t548.length co60 : Value).ownBlock ∧ some k_ ≠ (.slice Ao65 t556.length co65 : Value).ownBlock) (Kd.R_keptB (HO544.out) hkp (fun k_ hk_ hs_ => (hk_.1.2) hs_)) (fun k_ hk_ => ⟨hk_.1.1.1.1.2, hk_.1.1.1.2, hk_.1.1.2, hk_.1.2⟩)); replace BK546 := am (blk_kept (rk BK546) hkp (fun hs_ => (fun e_ => (Kd.R_ne HO550.out BK546.out (by decide)) e_) hs_)); replace BK553 := am (blk_kept (rk BK553) hkp (fun hs_ => (fun e_ => (Kd.R_ne HO550.out BK553.out (by decide)) e_) hs_)); replace HO550 := am (Kd.R_reok rfl hy0 (fun k_ e_ => HO550.out.1 k_ e_)); replace HO558 := am (Kd.R_mono (ok' := fun k_ => some k_ ≠ (.slice Ao41 t530.length co41 : Value).ownBlock ∧ some k_ ≠ (.slice Ao46 t535.length co46 : Value).ownBlock ∧ some k_ ≠ (.slice Ao53 t542.length co53 : Value).ownBlock ∧ some k_ ≠ (.slice Ao60 t548.length co60 : Value).ownBlock) (Kd.R_keptB (HO558.out) hkp (fun k_ hk_ hs_ => (hk_.2.2.2) hs_)) (fun k_ hk_ => ⟨hk_.1.1, hk_.1.2.1, hk_.1.2.2.1, hk_.1.2.2.2⟩)); replace HB := am (hb); (try clear hb); (try clear hkp); (try clear hy0); have hcz74_0 : w73.cell? ⟨gb553, 0, none⟩ = some (.int .i64 t547) := (blk_cell BK553.out 0).trans rfl; have hcz74_1 : w73.cell? ⟨gb553, 1, none⟩ = some (.slice Ao60 t548.length co60) := (blk_cell BK553.out 1).trans rfl; have hcz74_2 : w73.cell? ⟨gb553, 2, none⟩ = some (.int .i64 t551) := (blk_cell BK553.out 2).trans rfl; have hfz74_0 := blk_frozen BK553.out 0; have hfz74_1 := blk_frozen BK553.out 1; have hfz74_2 := blk_frozen BK553.out 2) | ((with_reducible refine gate_callee (f := 29) rfl ?_); refine goesL_ (some 74) rfl rfl Try.func29 (by kernel_rfl) rfl #[.agg #[.int .i64 t547, .slice Ao60 t565.length co60, .int .i64 t551], .int .i64 1] rfl (by (try simp only [List.map_toArray, List.map_cons, List.map_nil]); first | done | (rw [show t565.length = t548.length from (Kd.R_reads' HO550.out).1.symm] <;> rfl) | rfl | (simp only [List.length_drop, List.length_take]; rfl)) ?_; (with_reducible refine (laws_heldHistory.calls k t547 _ _ t565 t551 1 t566 _ ?side1 ?side2 A25.out).mono ?_); (case side1 => repeat (first | exact (Kd.R_reads' HO550.out).2.2 | (with_reducible refine Kd.C_alloc ?_ _) | (with_reducible refine Kd.C_drewN ?_ _) | (with_reducible refine Kd.C_drew ?_))); (case side2 => rw [show t565.length = t548.length from (Kd.R_reads' HO550.out).1.symm]; exact (Kd.R_reads' HO550.out).2.1); rintro e w75 ⟨rfl, hb⟩; refine ⟨_, rfl, ?_⟩; replace HO532 := am (Kd.R_below (rr HO532) hb); replace HO537 := am (Kd.Q_below (by (with_reducible repeat (first | apply Kd.Q_alloc | apply Kd.Q_drewN | apply Kd.Q_drew)); exact HO537.out) hb); replace HO544 := am (Kd.R_below (rr HO544) hb); replace HO550 := am (Kd.R_below (rr HO550) hb); replace HO558 := am (Kd.R_below (rr HO558) hb); replace BK527 := am (blk_below (rk BK527) hb); replace BK540 := am (blk_below (rk BK540) hb); replace BK546 := am (blk_below (rk BK546) hb); replace BK553 := am (blk_below (rk BK553) hb); replace HB := am (below_step (rb4 HB GE527 GE540 GE546 GE553) hb); (try clear hb); (try clear hb2); (try clear hk); (try clear hi); have hcz76_0 : w75.cell? ⟨gb527, 0, none⟩ = some (.int .i64 a0_0) := (blk_cell BK527.out 0).trans rfl; have hcz76_1 : w75.cell? ⟨gb527, 1, none⟩ = some (.slice A0_1 l0_1.length c0_1) := (blk_cell BK527.out 1).trans rfl; have hcz76_2 : w75.cell? ⟨gb527, 2, none⟩ = some (.int .i64 a0_2) := (blk_cell BK527.out 2).trans rfl; have hfz76_0 := blk_frozen BK527.out 0; have hfz76_1 := blk_frozen BK527.out 1; have hfz76_2 := blk_frozen BK527.out 2) | ((with_reducible refine gate_callee (f := 26) rfl ?_); refine gl_ (some 82) Try.func26 #[.agg #[.int .i64 a0_0, .slice A0_1 l0_1.length c0_1, .int .i64 a0_2]] ?_; (with_reducible refine (laws_toHistory.calls k a0_0 _ _ l0_1 a0_2 t567 t568 t571 _ ?side1 ?side2 A28.out).mono ?_); (case side1 => exact rc ((Kd.C_below HR0_1.out HB.out))); (case side2 => exact HC0_1.out); rintro e w77 ⟨v569, rfl, ho0, hb⟩; refine ⟨_, rfl, ?_⟩; have HO570 := am (Kd.R_lower (Kd.R_new' (Kd.R_new' (Kd.R_new' (Kd.R_new' (Kd.R_new' ho0 (Kd.R_lt (rr HO532))) (Kd.Q_lt (by (with_reducible repeat (first | apply Kd.Q_alloc | apply Kd.Q_drewN | apply Kd.Q_drew)); exact HO537.out))) (Kd.R_lt (rr HO544))) (Kd.R_lt (rr HO550))) (Kd.R_lt (rr HO558))) (below_size (rb4 HB GE527 GE540 GE546 GE553))); replace HO532 := am (Kd.R_elder' (rr HO532) (Kd.R_base ho0) hb); replace HO537 := am (Kd.Q_elder' (by (with_reducible repeat (first | apply Kd.Q_alloc | apply Kd.Q_drewN | apply Kd.Q_drew)); exact HO537.out) (Kd.R_base ho0) hb); replace HO544 := am (Kd.R_elder' (rr HO544) (Kd.R_base ho0) hb); replace HO550 := am (Kd.R_elder' (rr HO550) (Kd.R_base ho0) hb); replace HO558 := am (Kd.R_elder' (rr HO558) (Kd.R_base ho0) hb); replace BK527 := am (blk_below (rk BK527) hb); replace BK540 := am (blk_below (rk BK540) hb); replace BK546 := am (blk_below (rk BK546) hb); replace BK553 := am (blk_below (rk BK553) hb); replace HB := am (below_step (rb4 HB GE527 GE540 GE546 GE553) hb); (try clear hb); (try clear hb2); (try clear hk); (try clear hi); (try clear ho0); obtain ⟨Ao78, co78, eo78⟩ := Kd.R_slice HO570.out; subst eo78) | ((with_reducible refine gate_callee (f := 10) rfl ?_); refine gl_ (some 84) Try.func10 #[.agg #[.int .i64 t567, .slice Ao78 t568.length co78, .int .i64 t571], .string a1] ?_; (with_reducible refine (impl_Keep.calls k t567 _ _ t568 t571 a1 t572 t573 t576 t577 _ ?side1 ?side2 A29.out).mono ?_); (case side1 => repeat (first | exact (Kd.R_reads' HO570.out).2.2 | (with_reducible refine Kd.C_alloc ?_ _) | (with_reducible refine Kd.C_drewN ?_ _) | (with_reducible refine Kd.C_drew ?_))); (case side2 => exact (Kd.R_reads' HO570.out).2.1); rintro e w79 ⟨v574, rfl, ho0, hb⟩; refine ⟨_, rfl, ?_⟩; have HO575 := am (Kd.R_lower (Kd.R_new' (Kd.R_new' (Kd.R_new' (Kd.R_new' (Kd.R_new' (Kd.R_new' ho0 (Kd.R_lt (rr HO532))) (Kd.Q_lt (by (with_reducible repeat (first | apply Kd.Q_alloc | apply Kd.Q_drewN | apply Kd.Q_drew)); exact HO537.out))) (Kd.R_lt (rr HO544))) (Kd.R_lt (rr HO550))) (Kd.R_lt (rr HO558))) (Kd.R_lt (rr HO570))) (below_size (rb4 HB GE527 GE540 GE546 GE553))); replace HO532 := am (Kd.R_elder' (rr HO532) (Kd.R_base ho0) hb); replace HO537 := am (Kd.Q_elder' (by (with_reducible repeat (first | apply Kd.Q_alloc | apply Kd.Q_drewN | apply Kd.Q_drew)); exact HO537.out) (Kd.R_base ho0) hb); replace HO544 := am (Kd.R_elder' (rr HO544) (Kd.R_base ho0) hb); replace HO550 := am (Kd.R_elder' (rr HO550) (Kd.R_base ho0) hb); replace HO558 := am (Kd.R_elder' (rr HO558) (Kd.R_base ho0) hb); replace HO570 := am (Kd.R_elder' (rr HO570) (Kd.R_base ho0) hb); replace BK527 := am (blk_below (rk BK527) hb); replace BK540 := am (blk_below (rk BK540) hb); replace BK546 := am (blk_below (rk BK546) hb); replace BK553 := am (blk_below (rk BK553) hb); replace HB := am (below_step (rb4 HB GE527 GE540 GE546 GE553) hb); (try clear hb); (try clear hb2); (try clear hk); (try clear hi); (try clear ho0)) | ((with_reducible refine gate_dst (N := 14) rfl ?_); refine box_event ?hg (N := 14) ?hd (cs := #[.int .i64 0, .slice none 0 0, .int .i64 0]) (t := 26) ?hr ?_; (case hd => rfl); (case hg => rfl); (case hr => first | (go_simp; done) | (go_simp; rfl)); intro gb578 hg w80 hbox hb; replace HO532 := am (Kd.R_below (rr HO532) hb); replace HO537 := am (Kd.Q_below (by (with_reducible repeat (first | apply Kd.Q_alloc | apply Kd.Q_drewN | apply Kd.Q_drew)); exact HO537.out) hb); replace HO544 := am (Kd.R_below (rr HO544) hb); replace HO550 := am (Kd.R_below (rr HO550) hb); replace HO558 := am (Kd.R_below (rr HO558) hb); replace HO570 := am (Kd.R_below (rr HO570) hb); replace HO575 := am (Kd.R_below (rr HO575) hb); have BK578 := am (hbox); have GW578 := am (gw hg (rb4 HB GE527 GE540 GE546 GE553)); have GE578 := GW578; replace HB := am (below_step (rb4 HB GE527 GE540 GE546 GE553) hb); have NB527_578 := am (nl hg (rk BK527)); have NB578_527 := am (ng hg (rk BK527)); replace BK527 := am (blk_below (rk BK527) hb); have NB540_578 := am (nl hg (rk BK540)); have NB578_540 := am (ng hg (rk BK540)); replace BK540 := am (blk_below (rk BK540) hb); have NB546_578 := am (nl hg (rk BK546)); have NB578_546 := am (ng hg (rk BK546)); replace BK546 := am (blk_below (rk BK546) hb); have NB553_578 := am (nl hg (rk BK553)); have NB578_553 := am (ng hg (rk BK553)); replace BK553 := am (blk_below (rk BK553) hb); clear hb hbox hg; have hnb81 := NB578_527.out; have hnc81 := NB527_578.out; have hnb82 := NB578_540.out; have hnc82 := NB540_578.out; have hnb83 := NB578_546.out; have hnc83 := NB546_578.out; have hnb84 := NB578_553.out; have hnc84 := NB553_578.out; have hcz85_0 : w80.cell? ⟨gb578, 0, none⟩ = some (.int .i64 0) := (blk_cell BK578.out 0).trans rfl; have hcz85_1 : w80.cell? ⟨gb578, 1, none⟩ = some (.slice none 0 0) := (blk_cell BK578.out 1).trans rfl; have hcz85_2 : w80.cell? ⟨gb578, 2, none⟩ = some (.int .i64 0) := (blk_cell BK578.out 2).trans rfl; have hfz85_0 := blk_frozen BK578.out 0; have hfz85_1 := blk_frozen BK578.out 1; have hfz85_2 := blk_frozen BK578.out 2; obtain ⟨Ao86, co86, eo86⟩ := Kd.R_slice HO575.out; subst eo86; have hcz87_0 : w80.cell? ⟨gb540, 0, none⟩ = some (.int .i64 t534) := (blk_cell BK540.out 0).trans rfl; have hcz87_1 : w80.cell? ⟨gb540, 1, none⟩ = some (.slice Ao46 t535.length co46) := (blk_cell BK540.out 1).trans rfl; have hcz87_2 : w80.cell? ⟨gb540, 2, none⟩ = some (.int .i64 t538) := (blk_cell BK540.out 2).trans rfl; have hfz87_0 := blk_frozen BK540.out 0; have hfz87_1 := blk_frozen BK540.out 1; have hfz87_2 := blk_frozen BK540.out 2) | ((with_reducible refine gate_callee (f := 27) rfl ?_); refine gl_ (some 89) Try.func27 #[.agg #[.int .i64 t572, .slice Ao86 t573.length co86, .int .i64 t576], .agg #[.int .i64 t534, .slice Ao46 t535.length co46, .int .i64 t538]] ?_; (with_reducible refine (laws_eqHistory.calls k t572 _ _ t573 t576 t534 _ _ t535 t538 true _ ?side1 ?side2 ?side3 ?side4 A30.out).mono ?_); (case side1 => refine (Kd.R_reads' (e := 9) (base := w.heap.size) (ok := fun k_ => ((((((True ∧ some k_ ≠ (.slice Ao41 t530.length co41 : Value).ownBlock) ∧ some k_ ≠ (.slice Ao46 t535.length co46 : Value).ownBlock) ∧ some k_ ≠ (.slice Ao53 t542.length co53 : Value).ownBlock) ∧ some k_ ≠ (.slice Ao60 t548.length co60 : Value).ownBlock) ∧ some k_ ≠ (.slice Ao65 t556.length co65 : Value).ownBlock) ∧ some k_ ≠ (.slice Ao78 t568.length co78 : Value).ownBlock)) (n := t573.length) (c := co86) ?_).2.2; exact (by (with_reducible repeat (first | apply r1 | apply r2 | apply r3)); exact (Kd.R_mono (Kd.R_far (p := ⟨gb578, 2, none⟩) (Kd.R_far (p := ⟨gb578, 1, none⟩) (Kd.R_far (p := ⟨gb578, 0, none⟩) (Kd.R_types HO575.out BK578.out (by decide)) (fun _ hk => hk.2) (.int .i64 t572)) (fun _ hk => hk.2) (.slice Ao86 t573.length co86)) (fun _ hk => hk.2) (.int .i64 t576)) (fun _ h_ => h_.1)))); (case side2 => exact (Kd.R_reads' HO575.out).2.1); (case side3 => refine (Kd.Q_reads' (e := 9) (base := w.heap.size) (ok := fun k_ => (((some k_ ≠ (.slice Ao41 t530.length co41 : Value).ownBlock ∧ (some k_ ≠ (.slice Ao53 t542.length co53 : Value).ownBlock ∧ (some k_ ≠ (.slice Ao60 t548.length co60 : Value).ownBlock ∧ some k_ ≠ (.slice Ao65 t556.length co65 : Value).ownBlock))) ∧ some k_ ≠ (.slice Ao78 t568.length co78 : Value).ownBlock) ∧ some k_ ≠ (.slice Ao86 t573.length co86 : Value).ownBlock)) (n := t535.length) (c := co46) ?_).2.2; exact (by (with_reducible repeat (first | apply Kd.Q_alloc | apply Kd.Q_drewN | apply Kd.Q_drew)); exact (Kd.Q_mono (Kd.Q_far (p := ⟨gb578, 2, none⟩) (Kd.Q_far (p := ⟨gb578, 1, none⟩) (Kd.Q_far (p := ⟨gb578, 0, none⟩) (Kd.Q_types HO537.out BK578.out (by decide)) (fun _ hk => hk.2) (.int .i64 t572)) (fun _ hk => hk.2) (.slice Ao86 t573.length co86)) (fun _ hk => hk.2) (.int .i64 t576)) (fun _ h_ => h_.1)))); (case side4 => exact (Kd.Q_reads' HO537.out).2.1); rintro e w88 ⟨rfl, hb⟩; refine ⟨_, rfl, ?_⟩; replace HO532 := am (Kd.R_below (by (with_reducible repeat (first | apply r1 | apply r2 | apply r3)); exact (Kd.R_mono (Kd.R_far (p := ⟨gb578, 2, none⟩) (Kd.R_far (p := ⟨gb578, 1, none⟩) (Kd.R_far (p := ⟨gb578, 0, none⟩) (Kd.R_types HO532.out BK578.out (by decide)) (fun _ hk => hk.2) (.int .i64 t572)) (fun _ hk => hk.2) (.slice Ao86 t573.length co86)) (fun _ hk => hk.2) (.int .i64 t576)) (fun _ h_ => h_.1))) hb); replace HO537 := am (Kd.Q_below (by (with_reducible repeat (first | apply Kd.Q_alloc | apply Kd.Q_drewN | apply Kd.Q_drew)); exact (Kd.Q_mono (Kd.Q_far (p := ⟨gb578, 2, none⟩) (Kd.Q_far (p := ⟨gb578, 1, none⟩) (Kd.Q_far (p := ⟨gb578, 0, none⟩) (Kd.Q_types HO537.out BK578.out (by decide)) (fun _ hk => hk.2) (.int .i64 t572)) (fun _ hk => hk.2) (.slice Ao86 t573.length co86)) (fun _ hk => hk.2) (.int .i64 t576)) (fun _ h_ => h_.1))) hb); replace HO544 := am (Kd.R_below (by (with_reducible repeat (first | apply r1 | apply r2 | apply r3)); exact (Kd.R_mono (Kd.R_far (p := ⟨gb578, 2, none⟩) (Kd.R_far (p := ⟨gb578, 1, none⟩) (Kd.R_far (p := ⟨gb578, 0, none⟩) (Kd.R_types HO544.out BK578.out (by decide)) (fun _ hk => hk.2) (.int .i64 t572)) (fun _ hk => hk.2) (.slice Ao86 t573.length co86)) (fun _ hk => hk.2) (.int .i64 t576)) (fun _ h_ => h_.1))) hb); replace HO550 := am (Kd.R_below (by (with_reducible repeat (first | apply r1 | apply r2 | apply r3)); exact (Kd.R_mono (Kd.R_far (p := ⟨gb578, 2, none⟩) (Kd.R_far (p := ⟨gb578, 1, none⟩) (Kd.R_far (p := ⟨gb578, 0, none⟩) (Kd.R_types HO550.out BK578.out (by decide)) (fun _ hk => hk.2) (.int .i64 t572)) (fun _ hk => hk.2) (.slice Ao86 t573.length co86)) (fun _ hk => hk.2) (.int .i64 t576)) (fun _ h_ => h_.1))) hb); replace HO558 := am (Kd.R_below (by (with_reducible repeat (first | apply r1 | apply r2 | apply r3)); exact (Kd.R_mono (Kd.R_far (p := ⟨gb578, 2, none⟩) (Kd.R_far (p := ⟨gb578, 1, none⟩) (Kd.R_far (p := ⟨gb578, 0, none⟩) (Kd.R_types HO558.out BK578.out (by decide)) (fun _ hk => hk.2) (.int .i64 t572)) (fun _ hk => hk.2) (.slice Ao86 t573.length co86)) (fun _ hk => hk.2) (.int .i64 t576)) (fun _ h_ => h_.1))) hb); replace HO570 := am (Kd.R_below (by (with_reducible repeat (first | apply r1 | apply r2 | apply r3)); exact (Kd.R_mono (Kd.R_far (p := ⟨gb578, 2, none⟩) (Kd.R_far (p := ⟨gb578, 1, none⟩) (Kd.R_far (p := ⟨gb578, 0, none⟩) (Kd.R_types HO570.out BK578.out (by decide)) (fun _ hk => hk.2) (.int .i64 t572)) (fun _ hk => hk.2) (.slice Ao86 t573.length co86)) (fun _ hk => hk.2) (.int .i64 t576)) (fun _ h_ => h_.1))) hb); replace HO575 := am (Kd.R_below (by (with_reducible repeat (first | apply r1 | apply r2 | apply r3)); exact (Kd.R_mono (Kd.R_far (p := ⟨gb578, 2, none⟩) (Kd.R_far (p := ⟨gb578, 1, none⟩) (Kd.R_far (p := ⟨gb578, 0, none⟩) (Kd.R_types HO575.out BK578.out (by decide)) (fun _ hk => hk.2) (.int .i64 t572)) (fun _ hk => hk.2) (.slice Ao86 t573.length co86)) (fun _ hk => hk.2) (.int .i64 t576)) (fun _ h_ => h_.1))) hb); replace BK527 := am (blk_below (g := gb527) (o := .cells #[.int .i64 a0_0, .slice A0_1 l0_1.length c0_1, .int .i64 a0_2] 42 (0, 0)) (rf3 NB527_578 BK527) hb); replace BK540 := am (blk_below (g := gb540) (o := .cells #[.int .i64 t534, .slice Ao46 t535.length co46, .int .i64 t538] 26 (0, 0)) (rf3 NB540_578 BK540) hb); replace BK546 := am (blk_below (g := gb546) (o := .cells #[.int .i64 t541, .slice Ao53 t542.length co53, .int .i64 t545] 26 (0, 0)) (rf3 NB546_578 BK546) hb); replace BK553 := am (blk_below (g := gb553) (o := .cells #[.int .i64 t547, .slice Ao60 t548.length co60, .int .i64 t551] 26 (0, 0)) (rf3 NB553_578 BK553) hb); replace BK578 := am (blk_below (g := gb578) (o := .cells #[.int .i64 t572, .slice Ao86 t573.length co86, .int .i64 t576] 26 (0, 0)) (rp_0_1_2 BK578) hb); replace HB := am (below_step (rb5 HB GE527 GE540 GE546 GE553 GE578) hb); (try clear hb); (try clear hb2); (try clear hk); (try clear hi); have hcz89_0 : w88.cell? ⟨gb553, 0, none⟩ = some (.int .i64 t547) := (blk_cell BK553.out 0).trans rfl; have hcz89_1 : w88.cell? ⟨gb553, 1, none⟩ = some (.slice Ao60 t548.length co60) := (blk_cell BK553.out 1).trans rfl; have hcz89_2 : w88.cell? ⟨gb553, 2, none⟩ = some (.int .i64 t551) := (blk_cell BK553.out 2).trans rfl; have hfz89_0 := blk_frozen BK553.out 0; have hfz89_1 := blk_frozen BK553.out 1; have hfz89_2 := blk_frozen BK553.out 2) | ((with_reducible refine gate_callee (f := 29) rfl ?_); refine goesL_ (some 98) rfl rfl Try.func29 (by kernel_rfl) rfl #[.agg #[.int .i64 t547, .slice Ao60 t565.length co60, .int .i64 t551], .int .i64 1] rfl (by (try simp only [List.map_toArray, List.map_cons, List.map_nil]); first | done | (rw [show t565.length = t548.length from (Kd.R_reads' HO550.out).1.symm] <;> rfl) | rfl | (simp only [List.length_drop, List.length_take]; rfl)) ?_; (with_reducible refine (laws_heldHistory.calls k t547 _ _ t565 t551 1 t580 _ ?side1 ?side2 A33.out).mono ?_); (case side1 => repeat (first | exact (Kd.R_reads' HO550.out).2.2 | (with_reducible refine Kd.C_alloc ?_ _) | (with_reducible refine Kd.C_drewN ?_ _) | (with_reducible refine Kd.C_drew ?_))); (case side2 => rw [show t565.length = t548.length from (Kd.R_reads' HO550.out).1.symm]; exact (Kd.R_reads' HO550.out).2.1); rintro e w90 ⟨rfl, hb⟩; refine ⟨_, rfl, ?_⟩; replace HO532 := am (Kd.R_below (rr HO532) hb); replace HO537 := am (Kd.Q_below (by (with_reducible repeat (first | apply Kd.Q_alloc | apply Kd.Q_drewN | apply Kd.Q_drew)); exact HO537.out) hb); replace HO544 := am (Kd.R_below (rr HO544) hb); replace HO550 := am (Kd.R_below (rr HO550) hb); replace HO558 := am (Kd.R_below (rr HO558) hb); replace HO570 := am (Kd.R_below (rr HO570) hb); replace HO575 := am (Kd.R_below (rr HO575) hb); replace BK527 := am (blk_below (rk BK527) hb); replace BK540 := am (blk_below (rk BK540) hb); replace BK546 := am (blk_below (rk BK546) hb); replace BK553 := am (blk_below (rk BK553) hb); replace BK578 := am (blk_below (rk BK578) hb); replace HB := am (below_step (rb5 HB GE527 GE540 GE546 GE553 GE578) hb); (try clear hb); (try clear hb2); (try clear hk); (try clear hi)))
go_ret
exact ⟨by first | rfl | (simp [errW_none, errW_some] <;> rfl) | (simp [*, errW_none, errW_some] <;> rfl), rb5 HB GE527 GE540 GE546 GE553 GE578⟩
)
)
all_goals (
go_enter Try.func4, Try.ntmps4
go_wp2_with (first | ((with_reducible refine gate_dst (N := 2) rfl ?_); refine box_event ?hg (N := 2) ?hd (cs := #[.int .i64 a0_0, .slice A0_1 l0_1.length c0_1, .int .i64 a0_2]) (t := 42) ?hr ?_; (case hd => rfl); (case hg => rfl); (case hr => first | (go_simp; done) | (go_simp; rfl)); intro gb527 hg w7 hbox hb; have BK527 := am (hbox); have GW527 := am (gw hg (rb HB)); have GE527 := GW527; replace HB := am (below_step (rb HB) hb); clear hb hbox hg; have hcz8_0 : w7.cell? ⟨gb527, 0, none⟩ = some (.int .i64 a0_0) := (blk_cell BK527.out 0).trans rfl; have hcz8_1 : w7.cell? ⟨gb527, 1, none⟩ = some (.slice A0_1 l0_1.length c0_1) := (blk_cell BK527.out 1).trans rfl; have hcz8_2 : w7.cell? ⟨gb527, 2, none⟩ = some (.int .i64 a0_2) := (blk_cell BK527.out 2).trans rfl; have hfz8_0 := blk_frozen BK527.out 0; have hfz8_1 := blk_frozen BK527.out 1; have hfz8_2 := blk_frozen BK527.out 2) | ((with_reducible refine gate_callee (f := 25) rfl ?_); refine gl_ (some 21) Try.func25 #[.agg #[.int .i64 a0_0, .slice A0_1 l0_1.length c0_1, .int .i64 a0_2], .int .i64 1048576] ?_; (with_reducible refine (laws_szHistory.calls k a0_0 _ _ l0_1 a0_2 1048576 t528 _ ?side1 ?side2 A5.out).mono ?_); (case side1 => exact rc ((Kd.C_below HR0_1.out HB.out))); (case side2 => exact HC0_1.out); rintro e w9 ⟨rfl, hb⟩; refine ⟨_, rfl, ?_⟩; replace BK527 := am (blk_below (rk BK527) hb); replace HB := am (below_step (rb1 HB GE527) hb); (try clear hb); (try clear hb2); (try clear hk); (try clear hi)))
go_ret
exact ⟨by first | rfl | (simp [errW_none, errW_some] <;> rfl) | (simp [*, errW_none, errW_some] <;> rfl), by repeat (first | (with_reducible first | exact HB.out | apply b1 | apply b2 | apply b3 | refine below_set ?_ GE527.out) | exact HB.out)⟩
)
)
all_goals (
go_enter Try.func4, Try.ntmps4
go_wp2_with (first | ((with_reducible refine gate_dst (N := 2) rfl ?_); refine box_event ?hg (N := 2) ?hd (cs := #[.int .i64 a0_0, .slice A0_1 l0_1.length c0_1, .int .i64 a0_2]) (t := 42) ?hr ?_; (case hd => rfl); (case hg => rfl); (case hr => first | (go_simp; done) | (go_simp; rfl)); intro gb527 hg w4 hbox hb; have BK527 := am (hbox); have GW527 := am (gw hg (rb HB)); have GE527 := GW527; replace HB := am (below_step (rb HB) hb); clear hb hbox hg))
go_ret
exact ⟨by first | rfl | (simp [errW_none, errW_some] <;> rfl) | (simp [*, errW_none, errW_some] <;> rfl), by repeat (first | (with_reducible first | exact HB.out | apply b1 | apply b2 | apply b3 | refine below_set ?_ GE527.out) | exact HB.out)⟩
)
)

end Go.Proofs.Ytalopdcephohgaa.RA
