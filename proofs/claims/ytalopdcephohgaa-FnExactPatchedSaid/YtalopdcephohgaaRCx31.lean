/- Contracts of Go functions that laws of this seat reach: each Lean function answers as its Go function does. No condition. Written by wip/tools/inj.py, over the kit's print. -/
import Derived.Test.YtalopdcephohgaaRCx0
import Derived.Test.YtalopdcephohgaaRCx2
import Derived.Test.YtalopdcephohgaaRCx3
import Derived.Test.YtalopdcephohgaaRCx7
import Derived.Test.YtalopdcephohgaaRCx9
import Derived.Test.YtalopdcephohgaaRCx10
import Derived.Test.YtalopdcephohgaaRCx19
import Derived.Test.YtalopdcephohgaaRCx20
import Derived.Test.YtalopdcephohgaaRCx28
import Derived.Test.YtalopdcephohgaaRCx30
namespace Go.Proofs.Ytalopdcephohgaa.RC
open Go.RowKit Go.Proofs.YtalopdcephohgaaW.PrintWords Go.Proofs.YtalopdcephohgaaW.PrintLast Go.Proofs.YtalopdcephohgaaW.PrintMore
attribute [local go_sem] max2_int min2_int max_two min_two max_three min_three max_four min_four   -- for this text's walks alone
set_option linter.unusedVariables false
set_option linter.unusedSimpArgs false

/-! ### laws_FnExactPatched: function 6 -/
def laws_FnExactPatched.f (k : Nat) (a0_0 : Int) (l0_1 : List (List (S151))) (a1_0 : Int) (a1_1 : Int) (l1_2 : List (S137)) : Option (Bool) := (laws_szGrid.f k a0_0 l0_1 1048576).bind fun t521 => (if t521 < 0 then (some true) else ((laws_szPatch.f k a1_0 a1_1 l1_2 t521).bind fun t522 => (if t522 < 0 then (some true) else ((laws_toGrid.f k a0_0 l0_1).bind fun bt523 => ((laws_toPatch.f k a1_0 a1_1 l1_2).bind fun bt527 => ((spec_Patched.f k bt523.1 bt523.2 bt527.1 bt527.2.1 bt527.2.2).bind fun bt532 => ((laws_toGrid.f k a0_0 l0_1).bind fun bt538 => ((laws_toPatch.f k a1_0 a1_1 l1_2).bind fun bt543 => ((impl_Patched.f k bt538.1 bt538.2 bt543.1 bt543.2.1 bt543.2.2).bind fun bt549 => ((laws_eqGrid.f k bt549.1 bt549.2.1 bt532.1 bt532.2.1).bind fun t555 => (if t555 = true then (if (bt549.2.2 != bt532.2.2) = true then (some false) else ((laws_toGrid.f k a0_0 l0_1).bind fun bt556 => ((laws_eqGrid.f k bt538.1 bt538.2 bt556.1 bt556.2).bind fun t560 => (if t560 = true then ((laws_toPatch.f k a1_0 a1_1 l1_2).bind fun bt561 => ((laws_eqPatch.f k bt543.1 bt543.2.1 bt543.2.2 bt561.1 bt561.2.1 bt561.2.2).bind fun t566 => (if t566 = true then ((laws_markGrid.f k bt538.1 bt538.2 1).bind fun bt567 => ((laws_markPatch.f k bt543.1 bt543.2.1 bt543.2.2 bt567.1).bind fun bt569 => (if bt569.1 < 0 then (some false) else ((laws_eqGrid.f k bt549.1 bt549.2.1 bt532.1 bt532.2.1).bind fun t571 => (if t571 = true then ((laws_markGrid.f k bt549.1 bt549.2.1 1).bind fun bt572 => ((laws_heldGrid.f k bt549.1 bt572.2 1).bind fun t574 => (if t574 < 0 then (some false) else (if t574 = bt572.1 then ((laws_toGrid.f k a0_0 l0_1).bind fun bt575 => ((laws_toPatch.f k a1_0 a1_1 l1_2).bind fun bt579 => ((impl_Patched.f k bt575.1 bt575.2 bt579.1 bt579.2.1 bt579.2.2).bind fun bt584 => ((laws_eqGrid.f k bt584.1 bt584.2.1 bt532.1 bt532.2.1).bind fun t590 => (if t590 = true then (if (bt584.2.2 != bt532.2.2) = true then (some false) else ((laws_heldGrid.f k bt549.1 bt572.2 1).bind fun t591 => (if t591 < 0 then (some false) else (if t591 = bt572.1 then (some true) else (some false))))) else (some false)))))) else (some false))))) else (some false)))))) else (some false)))) else (some false))))) else (some false))))))))))))
theorem laws_FnExactPatched.mono : ∀ a0 a1 a2 a3 a4 k, LeO (laws_FnExactPatched.f k a0 a1 a2 a3 a4) (laws_FnExactPatched.f (k + 1) a0 a1 a2 a3 a4) := by
 intro a0 a1 a2 a3 a4 k
 unfold laws_FnExactPatched.f
 repeat' first
   | (with_reducible exact impl_Patched.mono _ _ _ _ _ _)
   | (with_reducible exact laws_eqGrid.mono _ _ _ _ _)
   | (with_reducible exact laws_eqPatch.mono _ _ _ _ _ _ _)
   | (with_reducible exact laws_heldGrid.mono _ _ _ _)
   | (with_reducible exact laws_markGrid.mono _ _ _ _)
   | (with_reducible exact laws_markPatch.mono _ _ _ _ _)
   | (with_reducible exact laws_szGrid.mono _ _ _ _)
   | (with_reducible exact laws_szPatch.mono _ _ _ _ _)
   | (with_reducible exact laws_toGrid.mono _ _ _)
   | (with_reducible exact laws_toPatch.mono _ _ _ _)
   | (with_reducible exact spec_Patched.mono _ _ _ _ _ _)
   | (with_reducible exact LeO.refl _)
   | (with_reducible exact LeO.none _)
   | (with_reducible refine LeO.ite ?_ ?_)
   | (with_reducible refine LeO.bind ?_ (fun _ => ?_))
def laws_FnExactPatched.T8 : Bool × List (List Nat × List Nat) := (true, [([], []), ([0], [0]), ([], []), ([2, 1], [2]), ([1, 3, 3], [1, 3]), ([4], [4]), ([5], [5]), ([5], [5]), ([], []), ([8, 6, 4, 0, 1, 2, 3, 4, 5, 6, 8], [6, 8]), ([7, 9, 0, 1, 2, 3, 4, 5, 6, 7, 8, 9], [7])])
def laws_FnExactPatched.B8 : List Nat := [0, 1, 0, 7, 15, 31, 63, 63, 0, 383, 1023]
theorem laws_FnExactPatched.tab8 : rtab .any (opsOf Try.f6 8) = laws_FnExactPatched.T8 := by kernel_rfl
theorem laws_FnExactPatched.bits8 : waitsOk laws_FnExactPatched.T8.2 laws_FnExactPatched.B8 = true := by kernel_rfl
def laws_FnExactPatched.T31 : Bool × List (List Nat × List Nat) := (true, [([], []), ([0], [0]), ([], []), ([2, 1], [2]), ([1, 3, 3], [1, 3]), ([4], [4]), ([5], [5]), ([5], [5]), ([], []), ([8, 6, 4, 0, 1, 2, 3, 4, 5, 6, 8], [6, 8]), ([7, 9, 0, 1, 2, 3, 4, 5, 6, 7, 8, 9], [7])])
def laws_FnExactPatched.B31 : List Nat := [0, 1, 0, 7, 15, 31, 63, 63, 0, 383, 1023]
theorem laws_FnExactPatched.tab31 : rtab .any (opsOf Try.f6 31) = laws_FnExactPatched.T31 := by kernel_rfl
theorem laws_FnExactPatched.bits31 : waitsOk laws_FnExactPatched.T31.2 laws_FnExactPatched.B31 = true := by kernel_rfl
set_option maxHeartbeats 8000000 in
set_option maxRecDepth 100000 in
theorem laws_FnExactPatched.calls (k : Nat) (a0_0 : Int) (A0_1 : Option Addr) (c0_1 : Nat) (l0_1 : List (List (S151))) (a1_0 : Int) (a1_1 : Int) (A1_2 : Option Addr) (c1_2 : Nat) (l1_2 : List (S137)) (r : Bool) (w : World) (hr0_1 : Kd.C (Kd.slice 151 k151) w A0_1 l0_1.length l0_1) (hc0_1 : l0_1.length ≤ c0_1) (hr1_2 : Kd.C k137 w A1_2 l1_2.length l1_2) (hc1_2 : l1_2.length ≤ c1_2) (h : laws_FnExactPatched.f k a0_0 l0_1 a1_0 a1_1 l1_2 = some r) (hT_ : r = true) :
  Calls Try.prog 6 #[.agg #[.int .i64 a0_0, .slice A0_1 l0_1.length c0_1], .agg #[.int .i64 a1_0, .int .i64 a1_1, .slice A1_2 l1_2.length c1_2]] w fun e w' => e = .returned (.bool r) ∧ Below w.heap.size w w' := by
 (
have hu49 := Try.underlying49
have hu67 := Try.underlying67
have hu58 := Try.underlying58
have hu53 := Try.underlying53
have HR0_1 := am hr0_1
have HC0_1 := am hc0_1
clear hr0_1 hc0_1
have HR1_2 := am hr1_2
have HC1_2 := am hc1_2
clear hr1_2 hc1_2
have HB := am (Below.refl w.heap.size w)
have H := h
unfold laws_FnExactPatched.f at H
clear h
replace H := Option.bind_eq_some_iff.mp H
obtain ⟨t521, A30, H⟩ := H
(try dsimp only at H)
have A3 := am A30
clear A30
refine em_ (p := t521 < 0) (fun c4 => ?g12p) (fun c4 => ?g12n)
case' g12p => (
rw [if_pos c4] at H
have c4b0 : decide (t521 < 0) = true := decide_eq_true c4
clear c4
obtain rfl := Option.some.inj H
have lf1_ := trivial
)
case g12n => (
rw [if_neg c4] at H
have c4b0 : decide (t521 < 0) = false := decide_eq_false c4
clear c4
replace H := Option.bind_eq_some_iff.mp H
obtain ⟨t522, A100, H⟩ := H
(try dsimp only at H)
have A10 := am A100
clear A100
refine em_ (p := t522 < 0) (fun c11 => ?g13p) (fun c11 => ?g13n)
case' g13p => (
rw [if_pos c11] at H
have c11b0 : decide (t522 < 0) = true := decide_eq_true c11
clear c11
obtain rfl := Option.some.inj H
have lf4_ := trivial
)
case g13n => (
rw [if_neg c11] at H
have c11b0 : decide (t522 < 0) = false := decide_eq_false c11
clear c11
replace H := Option.bind_eq_some_iff.mp H
obtain ⟨⟨t523, t524⟩, A190, H⟩ := H
(try dsimp only at H)
have A19 := am A190
clear A190
replace H := Option.bind_eq_some_iff.mp H
obtain ⟨⟨t527, t528, t529⟩, A200, H⟩ := H
(try dsimp only at H)
have A20 := am A200
clear A200
replace H := Option.bind_eq_some_iff.mp H
obtain ⟨⟨t532, t533, t536⟩, A210, H⟩ := H
(try dsimp only at H)
have A21 := am A210
clear A210
replace H := Option.bind_eq_some_iff.mp H
obtain ⟨⟨t538, t539⟩, A220, H⟩ := H
(try dsimp only at H)
have A22 := am A220
clear A220
replace H := Option.bind_eq_some_iff.mp H
obtain ⟨⟨t543, t544, t545⟩, A230, H⟩ := H
(try dsimp only at H)
have A23 := am A230
clear A230
replace H := Option.bind_eq_some_iff.mp H
obtain ⟨⟨t549, t550, t553⟩, A240, H⟩ := H
(try dsimp only at H)
have A24 := am A240
clear A240
replace H := Option.bind_eq_some_iff.mp H
obtain ⟨t555, A250, H⟩ := H
(try dsimp only at H)
have A25 := am A250
clear A250
refine em_ (p := t555 = true) (fun c26 => ?g11p) (fun c26 => ?g11n)
case' g11p => (
subst c26
rw [if_pos rfl] at H
refine em_ (p := (t553 != t536) = true) (fun c27 => ?g10p) (fun c27 => ?g10n)
case g10p => (
rw [if_pos c27] at H
have c27b0 : (t553 != t536) = true := c27
(try (have c27b1 : decide (t553 = t536) = false := by simpa using c27))
(try (have c27b2 : (t553 == t536) = false := by simpa using c27))
(try (have c27b3 : ¬ (t553 = t536) := by simpa using c27))
clear c27
with_reducible exact absurd (Option.some.inj (H.trans (congrArg some hT_))) Bool.false_ne_true
)
case' g10n => (
rw [if_neg c27] at H
have c27b0 : (t553 != t536) = false := by simpa using c27
(try (have c27b1 : decide (t553 = t536) = true := by simpa using c27))
(try (have c27b2 : (t553 == t536) = true := by simpa using c27))
clear c27
replace H := Option.bind_eq_some_iff.mp H
obtain ⟨⟨t556, t557⟩, A280, H⟩ := H
(try dsimp only at H)
have A28 := am A280
clear A280
replace H := Option.bind_eq_some_iff.mp H
obtain ⟨t560, A290, H⟩ := H
(try dsimp only at H)
have A29 := am A290
clear A290
refine em_ (p := t560 = true) (fun c30 => ?g9p) (fun c30 => ?g9n)
case' g9p => (
subst c30
rw [if_pos rfl] at H
replace H := Option.bind_eq_some_iff.mp H
obtain ⟨⟨t561, t562, t563⟩, A310, H⟩ := H
(try dsimp only at H)
have A31 := am A310
clear A310
replace H := Option.bind_eq_some_iff.mp H
obtain ⟨t566, A320, H⟩ := H
(try dsimp only at H)
have A32 := am A320
clear A320
refine em_ (p := t566 = true) (fun c33 => ?g8p) (fun c33 => ?g8n)
case' g8p => (
subst c33
rw [if_pos rfl] at H
replace H := Option.bind_eq_some_iff.mp H
obtain ⟨⟨t567, t568⟩, A340, H⟩ := H
(try dsimp only at H)
have A34 := am A340
clear A340
replace H := Option.bind_eq_some_iff.mp H
obtain ⟨⟨t569, t570⟩, A350, H⟩ := H
(try dsimp only at H)
have A35 := am A350
clear A350
refine em_ (p := t569 < 0) (fun c36 => ?g7p) (fun c36 => ?g7n)
case g7p => (
rw [if_pos c36] at H
have c36b0 : decide (t569 < 0) = true := decide_eq_true c36
clear c36
with_reducible exact absurd (Option.some.inj (H.trans (congrArg some hT_))) Bool.false_ne_true
)
case' g7n => (
rw [if_neg c36] at H
have c36b0 : decide (t569 < 0) = false := decide_eq_false c36
clear c36
replace H := Option.bind_eq_some_iff.mp H
obtain ⟨t571, A370, H⟩ := H
(try dsimp only at H)
have A37 := am A370
clear A370
refine em_ (p := t571 = true) (fun c38 => ?g6p) (fun c38 => ?g6n)
case' g6p => (
subst c38
rw [if_pos rfl] at H
replace H := Option.bind_eq_some_iff.mp H
obtain ⟨⟨t572, t573⟩, A390, H⟩ := H
(try dsimp only at H)
have A39 := am A390
clear A390
replace H := Option.bind_eq_some_iff.mp H
obtain ⟨t574, A400, H⟩ := H
(try dsimp only at H)
have A40 := am A400
clear A400
refine em_ (p := t574 < 0) (fun c41 => ?g5p) (fun c41 => ?g5n)
case g5p => (
rw [if_pos c41] at H
have c41b0 : decide (t574 < 0) = true := decide_eq_true c41
clear c41
with_reducible exact absurd (Option.some.inj (H.trans (congrArg some hT_))) Bool.false_ne_true
)
case' g5n => (
rw [if_neg c41] at H
have c41b0 : decide (t574 < 0) = false := decide_eq_false c41
clear c41
refine em_ (p := t574 = t572) (fun c42 => ?g4p) (fun c42 => ?g4n)
case' g4p => (
rw [if_pos c42] at H
have c42b0 : (t574 == t572) = true := beq_iff_eq.mpr c42
have c42b1 : (t574 != t572) = false := bne_eq_false_iff_eq.mpr c42
clear c42
replace H := Option.bind_eq_some_iff.mp H
obtain ⟨⟨t575, t576⟩, A430, H⟩ := H
(try dsimp only at H)
have A43 := am A430
clear A430
replace H := Option.bind_eq_some_iff.mp H
obtain ⟨⟨t579, t580, t581⟩, A440, H⟩ := H
(try dsimp only at H)
have A44 := am A440
clear A440
replace H := Option.bind_eq_some_iff.mp H
obtain ⟨⟨t584, t585, t588⟩, A450, H⟩ := H
(try dsimp only at H)
have A45 := am A450
clear A450
replace H := Option.bind_eq_some_iff.mp H
obtain ⟨t590, A460, H⟩ := H
(try dsimp only at H)
have A46 := am A460
clear A460
refine em_ (p := t590 = true) (fun c47 => ?g3p) (fun c47 => ?g3n)
case' g3p => (
subst c47
rw [if_pos rfl] at H
refine em_ (p := (t588 != t536) = true) (fun c48 => ?g2p) (fun c48 => ?g2n)
case g2p => (
rw [if_pos c48] at H
have c48b0 : (t588 != t536) = true := c48
(try (have c48b1 : decide (t588 = t536) = false := by simpa using c48))
(try (have c48b2 : (t588 == t536) = false := by simpa using c48))
(try (have c48b3 : ¬ (t588 = t536) := by simpa using c48))
clear c48
with_reducible exact absurd (Option.some.inj (H.trans (congrArg some hT_))) Bool.false_ne_true
)
case' g2n => (
rw [if_neg c48] at H
have c48b0 : (t588 != t536) = false := by simpa using c48
(try (have c48b1 : decide (t588 = t536) = true := by simpa using c48))
(try (have c48b2 : (t588 == t536) = true := by simpa using c48))
clear c48
replace H := Option.bind_eq_some_iff.mp H
obtain ⟨t591, A490, H⟩ := H
(try dsimp only at H)
have A49 := am A490
clear A490
refine em_ (p := t591 < 0) (fun c50 => ?g1p) (fun c50 => ?g1n)
case g1p => (
rw [if_pos c50] at H
have c50b0 : decide (t591 < 0) = true := decide_eq_true c50
clear c50
with_reducible exact absurd (Option.some.inj (H.trans (congrArg some hT_))) Bool.false_ne_true
)
case' g1n => (
rw [if_neg c50] at H
have c50b0 : decide (t591 < 0) = false := decide_eq_false c50
clear c50
refine em_ (p := t591 = t572) (fun c51 => ?g0p) (fun c51 => ?g0n)
case' g0p => (
rw [if_pos c51] at H
have c51b0 : (t591 == t572) = true := beq_iff_eq.mpr c51
have c51b1 : (t591 != t572) = false := bne_eq_false_iff_eq.mpr c51
clear c51
obtain rfl := Option.some.inj H
have lf3_ := trivial
)
case g0n => (
rw [if_neg c51] at H
have c51b0 : (t591 == t572) = false := beq_eq_false_iff_ne.mpr c51
have c51b1 : (t591 != t572) = true := bne_iff_ne.mpr c51
with_reducible exact absurd (Option.some.inj (H.trans (congrArg some hT_))) Bool.false_ne_true
)
)
)
)
case g3n => (
replace c47 := Bool.eq_false_iff.mpr c47
subst c47
have H1 : (some false) = some r := by rw [if_neg (show ¬ (false = true) by decide)] at H; exact H
clear H
have H := H1
clear H1
with_reducible exact absurd (Option.some.inj (H.trans (congrArg some hT_))) Bool.false_ne_true
)
)
case g4n => (
rw [if_neg c42] at H
have c42b0 : (t574 == t572) = false := beq_eq_false_iff_ne.mpr c42
have c42b1 : (t574 != t572) = true := bne_iff_ne.mpr c42
with_reducible exact absurd (Option.some.inj (H.trans (congrArg some hT_))) Bool.false_ne_true
)
)
)
case g6n => (
replace c38 := Bool.eq_false_iff.mpr c38
subst c38
have H1 : (some false) = some r := by rw [if_neg (show ¬ (false = true) by decide)] at H; exact H
clear H
have H := H1
clear H1
with_reducible exact absurd (Option.some.inj (H.trans (congrArg some hT_))) Bool.false_ne_true
)
)
)
case g8n => (
replace c33 := Bool.eq_false_iff.mpr c33
subst c33
have H1 : (some false) = some r := by rw [if_neg (show ¬ (false = true) by decide)] at H; exact H
clear H
have H := H1
clear H1
with_reducible exact absurd (Option.some.inj (H.trans (congrArg some hT_))) Bool.false_ne_true
)
)
case g9n => (
replace c30 := Bool.eq_false_iff.mpr c30
subst c30
have H1 : (some false) = some r := by rw [if_neg (show ¬ (false = true) by decide)] at H; exact H
clear H
have H := H1
clear H1
with_reducible exact absurd (Option.some.inj (H.trans (congrArg some hT_))) Bool.false_ne_true
)
)
)
case g11n => (
replace c26 := Bool.eq_false_iff.mpr c26
subst c26
have H1 : (some false) = some r := by rw [if_neg (show ¬ (false = true) by decide)] at H; exact H
clear H
have H := H1
clear H1
with_reducible exact absurd (Option.some.inj (H.trans (congrArg some hT_))) Bool.false_ne_true
)
all_goals (
go_enter Try.func6, Try.ntmps6
try go_wp2_with (first | ((with_reducible refine gate_dst (N := 2) rfl ?_); refine box_event ?hg (N := 2) ?hd (cs := #[.int .i64 a0_0, .slice A0_1 l0_1.length c0_1]) (t := 49) ?hr ?_; (case hd => rfl); (case hg => rfl); (case hr => first | (go_simp; done) | (go_simp; rfl)); intro gb519 hg w52 hbox hb; have BK519 := am (hbox); have GW519 := am (gw hg (rb HB)); have GE519 := GW519; replace HB := am (below_step (rb HB) hb); clear hb hbox hg) | ((with_reducible refine gate_dst (N := 3) rfl ?_); refine box_event ?hg (N := 3) ?hd (cs := #[.int .i64 a1_0, .int .i64 a1_1, .slice A1_2 l1_2.length c1_2]) (t := 67) ?hr ?_; (case hd => rfl); (case hg => rfl); (case hr => first | (go_simp; done) | (go_simp; rfl)); intro gb520 hg w53 hbox hb; have BK520 := am (hbox); have GW520 := am (gw hg (rb1 HB GE519)); have GE520 := GW520; replace HB := am (below_step (rb1 HB GE519) hb); have NB519_520 := am (nl hg (rk BK519)); have NB520_519 := am (ng hg (rk BK519)); replace BK519 := am (blk_below (rk BK519) hb); clear hb hbox hg; have hnb54 := NB519_520.out; have hnc54 := NB520_519.out; have hcz55_0 : w53.cell? ⟨gb519, 0, none⟩ = some (.int .i64 a0_0) := (blk_cell BK519.out 0).trans rfl; have hcz55_1 : w53.cell? ⟨gb519, 1, none⟩ = some (.slice A0_1 l0_1.length c0_1) := (blk_cell BK519.out 1).trans rfl; have hfz55_0 := blk_frozen BK519.out 0; have hfz55_1 := blk_frozen BK519.out 1) | ((with_reducible refine gate_callee (f := 30) rfl ?_); refine gl_ (some 19) Try.func30 #[.agg #[.int .i64 a0_0, .slice A0_1 l0_1.length c0_1], .int .i64 1048576] ?_; (with_reducible refine (laws_szGrid.calls k a0_0 _ _ l0_1 1048576 t521 _ ?side1 ?side2 A3.out).mono ?_); (case side1 => exact rc ((Kd.C_below HR0_1.out HB.out))); (case side2 => exact HC0_1.out); rintro e w56 ⟨rfl, hb⟩; refine ⟨_, rfl, ?_⟩; replace BK519 := am (blk_below (rk BK519) hb); replace BK520 := am (blk_below (rk BK520) hb); replace HB := am (below_step (rb2 HB GE519 GE520) hb); (try clear hb); (try clear hb2); (try clear hk); (try clear hi); have hcz57_0 : w56.cell? ⟨gb520, 0, none⟩ = some (.int .i64 a1_0) := (blk_cell BK520.out 0).trans rfl; have hcz57_1 : w56.cell? ⟨gb520, 1, none⟩ = some (.int .i64 a1_1) := (blk_cell BK520.out 1).trans rfl; have hcz57_2 : w56.cell? ⟨gb520, 2, none⟩ = some (.slice A1_2 l1_2.length c1_2) := (blk_cell BK520.out 2).trans rfl; have hfz57_0 := blk_frozen BK520.out 0; have hfz57_1 := blk_frozen BK520.out 1; have hfz57_2 := blk_frozen BK520.out 2) | ((with_reducible refine gate_callee (f := 39) rfl ?_); refine gl_ (some 24) Try.func39 #[.agg #[.int .i64 a1_0, .int .i64 a1_1, .slice A1_2 l1_2.length c1_2], .int .i64 t521] ?_; (with_reducible refine (laws_szPatch.calls k a1_0 a1_1 _ _ l1_2 t521 t522 _ ?side1 ?side2 A10.out).mono ?_); (case side1 => exact rc ((Kd.C_below HR1_2.out HB.out))); (case side2 => exact HC1_2.out); rintro e w58 ⟨rfl, hb⟩; refine ⟨_, rfl, ?_⟩; replace BK519 := am (blk_below (rk BK519) hb); replace BK520 := am (blk_below (rk BK520) hb); replace HB := am (below_step (rb2 HB GE519 GE520) hb); (try clear hb); (try clear hb2); (try clear hk); (try clear hi)))
replace BK519 := am (blk_drew BK519.out)
replace BK520 := am (blk_drew BK520.out)
replace HB := am (below_drew1 HB.out)
refine start_ (n := 11) (S := fun w' => w'.cell? ⟨gb519, 0, none⟩ = some (.int .i64 a0_0) ∧ w'.cell? ⟨gb519, 1, none⟩ = some (.slice A0_1 l0_1.length c0_1) ∧ w'.cell? ⟨gb520, 0, none⟩ = some (.int .i64 a1_0) ∧ w'.cell? ⟨gb520, 1, none⟩ = some (.int .i64 a1_1) ∧ w'.cell? ⟨gb520, 2, none⟩ = some (.slice A1_2 l1_2.length c1_2)) (ds := []) (bm 11 0) (by kernel_rfl) rfl rfl ⟨(blk_cell BK519.out 0).trans rfl, (blk_cell BK519.out 1).trans rfl, (blk_cell BK520.out 0).trans rfl, (blk_cell BK520.out 1).trans rfl, (blk_cell BK520.out 2).trans rfl⟩ (fun hHeld => ?_); refine with_tabW laws_FnExactPatched.tab8 laws_FnExactPatched.bits8 (fun HT_ HW_ => ?_)
generalize w58.drew = w59 at BK519 BK520 HB hHeld ⊢
refine take_ (i := 0) (N := some 28) (v := ?_) (a' := ?_) (bm 11 1) rfl rfl (take_ofW HT_.out HW_.out (by kernel_rfl)) (fun _ _ _ h => h) (Or.inl ⟨by rfl, ?_⟩) hHeld ?_ ?_
rotate_left
·(
rintro w' ⟨s0, s1, s2, s3, s4⟩
go_simp
with_reducible rfl
)
rotate_left
·(
simp only [Act.put, List.setIfInBounds_toArray, List.set_cons_zero, List.set_cons_succ, i64_w, i32_w]
rfl
)
refine take_ (i := 2) (N := some 30) (v := ?_) (a' := ?_) (bm 11 5) rfl rfl (take_ofW HT_.out HW_.out (by kernel_rfl)) (fun _ _ _ h => h) (Or.inl ⟨by rfl, ?_⟩) hHeld ?_ ?_
rotate_left
·(
rintro w' ⟨s0, s1, s2, s3, s4⟩
go_simp
with_reducible rfl
)
rotate_left
·(
simp only [Act.put, List.setIfInBounds_toArray, List.set_cons_zero, List.set_cons_succ, i64_w, i32_w]
rfl
)
refine join_ (σ := Value × Value × Value × Nat) 2 (bm 11 511) (fun s_ => [(29, .agg #[.int .i64 t523, s_.1]), (31, .agg #[.int .i64 t527, .int .i64 t528, s_.2.1]), (32, .tuple #[.agg #[.int .i64 t532, s_.2.2.1], .bool t536]), (6, .pointer (some ⟨s_.2.2.2, 0, none⟩)), (27, .tuple #[.agg #[.int .i64 t532, s_.2.2.1], .bool t536]), (33, .agg #[.int .i64 t532, s_.2.2.1]), (34, .bool t536)]) (fun s_ w' => (w'.cell? ⟨gb519, 0, none⟩ = some (.int .i64 a0_0) ∧ w'.cell? ⟨gb519, 1, none⟩ = some (.slice A0_1 l0_1.length c0_1) ∧ w'.cell? ⟨gb520, 0, none⟩ = some (.int .i64 a1_0) ∧ w'.cell? ⟨gb520, 1, none⟩ = some (.int .i64 a1_1) ∧ w'.cell? ⟨gb520, 2, none⟩ = some (.slice A1_2 l1_2.length c1_2)) ∧ (Kd.S (Kd.slice 98 k98) 99 w' w.heap.size (fun k_ => some k_ ≠ (s_.2.2.1 : Value).ownBlock) s_.1 t524) ∧ (Kd.S k101 101 w' w.heap.size (fun _ => True) s_.2.1 t529) ∧ (Kd.S (Kd.slice 98 k98) 99 w' w.heap.size (fun k_ => some k_ ≠ (s_.1 : Value).ownBlock) s_.2.2.1 t533) ∧ (w'.heap[gb519]? = some (.cells #[.int .i64 a0_0, .slice A0_1 l0_1.length c0_1] 49 (0, 0))) ∧ (w'.heap[gb520]? = some (.cells #[.int .i64 a1_0, .int .i64 a1_1, .slice A1_2 l1_2.length c1_2] 67 (0, 0))) ∧ (w'.heap[s_.2.2.2]? = some (.cells #[.int .i64 0, .slice none 0 0] 58 (0, 0))) ∧ (w.heap.size ≤ s_.2.2.2) ∧ (w.heap.size ≤ s_.2.2.2) ∧ (gb519 ≠ s_.2.2.2) ∧ (s_.2.2.2 ≠ gb519) ∧ (gb520 ≠ s_.2.2.2) ∧ (s_.2.2.2 ≠ gb520) ∧ (Below w.heap.size w w')) ?_ ?_
rotate_left
·(
intro hCont
refine two_ (i := 1) (j := 8) (Ni := some 29) (Nj := some 6) (bm 11 7) (bm 11 261) rfl rfl rfl rfl (two_of HT_.out (by kernel_rfl)) (by decide) (by decide) (fun K hK => ?_) (fun K hK => ?_)
·(
skip
refine goes_ Try.func32 (by kernel_rfl) rfl #[.agg #[.int .i64 a0_0, .slice A0_1 l0_1.length c0_1]] (by rfl) rfl rfl mt ?_
with_reducible refine (laws_toGrid.calls k a0_0 _ _ l0_1 t523 t524 _ ?side1 ?side2 A19.out).mono ?_
(case side1 => exact rc ((Kd.C_below HR0_1.out HB.out)))
(case side2 => exact HC0_1.out)
rintro e w60 ⟨v525, rfl, ho0, hb⟩
refine ⟨_, rfl, ?_⟩
have HO526 := am (Kd.S_lower (Sx_floor ho0) (below_size (rb2 HB GE519 GE520)))
replace BK519 := am (blk_below (rk BK519) hb)
replace BK520 := am (blk_below (rk BK520) hb)
replace HB := am (below_step (rb2 HB GE519 GE520) hb)
(try clear hb)
(try clear ho0)
refine hK.out _ _ ⟨(blk_cell BK519.out 0).trans rfl, (blk_cell BK519.out 1).trans rfl, (blk_cell BK520.out 0).trans rfl, (blk_cell BK520.out 1).trans rfl, (blk_cell BK520.out 2).trans rfl⟩ (fun hHeld => ?_)
clear hK K
refine norm_ (a' := _) (show Act.put _ (some 29) _ = _ from na) ?_
refine two_ (i := 3) (j := 8) (Ni := some 31) (Nj := some 6) (bm 11 15) (bm 11 263) rfl rfl rfl rfl (two_of HT_.out (by kernel_rfl)) (by decide) (by decide) (fun K hK => ?_) (fun K hK => ?_)
·(
skip
refine goes_ Try.func41 (by kernel_rfl) rfl #[.agg #[.int .i64 a1_0, .int .i64 a1_1, .slice A1_2 l1_2.length c1_2]] (by rfl) rfl rfl mt ?_
with_reducible refine (laws_toPatch.calls k a1_0 a1_1 _ _ l1_2 t527 t528 t529 _ ?side1 ?side2 A20.out).mono ?_
(case side1 => exact rc ((Kd.C_below HR1_2.out HB.out)))
(case side2 => exact HC1_2.out)
rintro e w62 ⟨v530, rfl, ho0, hb⟩
refine ⟨_, rfl, ?_⟩
replace HO526 := am (Kd.S_below (Sx_cap (rs HO526)) hb)
have HO531 := am (Kd.S_lower (Sx_floor ho0) (below_size (rb2 HB GE519 GE520)))
replace BK519 := am (blk_below (rk BK519) hb)
replace BK520 := am (blk_below (rk BK520) hb)
replace HB := am (below_step (rb2 HB GE519 GE520) hb)
(try clear hb)
(try clear ho0)
obtain ⟨Ao64, co64, eo64⟩ := Kd.S_slice HO526.out
(first | subst eo64 | (injection eo64 with f1_ f2_ f3_; have f4_ := f1_.symm; have f5_ := f3_.symm; clear f1_ f2_ f3_; subst f4_; subst f5_))
obtain ⟨Ao65, co65, eo65⟩ := Kd.S_slice HO531.out
(first | subst eo65 | (injection eo65 with f1_ f2_ f3_; have f4_ := f1_.symm; have f5_ := f3_.symm; clear f1_ f2_ f3_; subst f4_; subst f5_))
refine hK.out _ _ ⟨(blk_cell BK519.out 0).trans rfl, (blk_cell BK519.out 1).trans rfl, (blk_cell BK520.out 0).trans rfl, (blk_cell BK520.out 1).trans rfl, (blk_cell BK520.out 2).trans rfl⟩ (fun hHeld => ?_)
clear hK K
refine norm_ (a' := _) (show Act.put _ (some 31) _ = _ from na) ?_
refine two_ (i := 4) (j := 8) (Ni := some 32) (Nj := some 6) (bm 11 31) (bm 11 271) rfl rfl rfl rfl (two_of HT_.out (by kernel_rfl)) (by decide) (by decide) (fun K hK => ?_) (fun K hK => ?_)
·(
skip
refine goes_ Try.func40 (by kernel_rfl) rfl #[.agg #[.int .i64 t523, .slice Ao64 t524.length co64], .agg #[.int .i64 t527, .int .i64 t528, .slice Ao65 t529.length co65]] (by rfl) rfl rfl mt ?_
with_reducible refine (spec_Patched.calls k t523 _ _ t524 t527 t528 _ _ t529 t532 t533 t536 _ ?side1 ?side2 ?side3 ?side4 A21.out).mono ?_
(case side1 => exact rcs HO526)
(case side2 => exact (Kd.S_reads' HO526.out).2.1)
(case side3 => exact rcs HO531)
(case side4 => exact (Kd.S_reads' HO531.out).2.1)
rintro e w66 ⟨v534, rfl, ho0, hb⟩
refine ⟨_, rfl, ?_⟩
replace HO531 := am (Kd.S_below (Sx_cap (rs HO531)) hb)
have HO535 := am (Kd.S_lower (Kd.S_new' (Sx_floor ho0) (Kd.S_lt (rs HO526))) (below_size (rb2 HB GE519 GE520)))
replace HO526 := am (Kd.S_elder' (Sx_cap (rs HO526)) (Kd.S_base ho0) hb)
replace BK519 := am (blk_below (rk BK519) hb)
replace BK520 := am (blk_below (rk BK520) hb)
replace HB := am (below_step (rb2 HB GE519 GE520) hb)
(try clear hb)
(try clear ho0)
refine hK.out _ _ ⟨(blk_cell BK519.out 0).trans rfl, (blk_cell BK519.out 1).trans rfl, (blk_cell BK520.out 0).trans rfl, (blk_cell BK520.out 1).trans rfl, (blk_cell BK520.out 2).trans rfl⟩ (fun hHeld => ?_)
clear hK K
refine norm_ (a' := _) (show Act.put _ (some 32) _ = _ from na) ?_
refine pu_ 5 27 (bm 11 63) HT_.out ?_
refine pu_ 6 33 (bm 11 127) HT_.out ?_
refine pu_ 7 34 (bm 11 255) HT_.out ?_
refine one_ (i := 8) (N := some 6) (bm 11 511) rfl rfl (one_of HT_.out (by kernel_rfl)) (by decide) (fun K hK => ?_)
refine box_step ?hg (N := 6) ?hd (cs := #[.int .i64 0, .slice none 0 0]) (t := 58) ?hr ?_; (case hd => rfl); (case hg => rfl); (case hr => first | (go_simp; done) | (go_simp; rfl))
intro gb537 hg w68 hbox hb
replace HO526 := am (Kd.S_below (rs HO526) hb)
replace HO531 := am (Kd.S_below (rs HO531) hb)
replace HO535 := am (Kd.S_below (rs HO535) hb)
have BK537 := am (hbox)
have GW537 := am (gw hg (rb2 HB GE519 GE520))
have GE537 := GW537
replace HB := am (below_step (rb2 HB GE519 GE520) hb)
have NB519_537 := am (nl hg (rk BK519))
have NB537_519 := am (ng hg (rk BK519))
replace BK519 := am (blk_below (rk BK519) hb)
have NB520_537 := am (nl hg (rk BK520))
have NB537_520 := am (ng hg (rk BK520))
replace BK520 := am (blk_below (rk BK520) hb)
clear hb hbox hg
refine hK.out _ _ ⟨(blk_cell BK519.out 0).trans rfl, (blk_cell BK519.out 1).trans rfl, (blk_cell BK520.out 0).trans rfl, (blk_cell BK520.out 1).trans rfl, (blk_cell BK520.out 2).trans rfl⟩ (fun hHeld => ?_)
clear hK K
refine norm_ (a' := _) (show Act.put _ (some 6) _ = _ from na) ?_
exact norm_ nz0 (hCont (.slice Ao64 t524.length co64, .slice Ao65 t529.length co65, v534, gb537) _ ⟨hHeld, (rm HO526), (by (with_reducible repeat (first | apply Kd.S_alloc | apply Kd.S_drewN | apply Kd.S_drew)); exact Kd.S_mono HO531.out (fun _ hk => trivial)), (rm HO535), (rk BK519), (rk BK520), (rk BK537), GW537.out, GE537.out, NB519_537.out, NB537_519.out, NB520_537.out, NB537_520.out, (rb3 HB GE519 GE520 GE537)⟩)
)
·(
skip
refine box_step ?hg (N := 6) ?hd (cs := #[.int .i64 0, .slice none 0 0]) (t := 58) ?hr ?_; (case hd => rfl); (case hg => rfl); (case hr => first | (go_simp; done) | (go_simp; rfl))
intro gb537 hg w64 hbox hb
replace HO526 := am (Kd.S_below (rs HO526) hb)
replace HO531 := am (Kd.S_below (rs HO531) hb)
have BK537 := am (hbox)
have GW537 := am (gw hg (rb2 HB GE519 GE520))
have GE537 := GW537
replace HB := am (below_step (rb2 HB GE519 GE520) hb)
have NB519_537 := am (nl hg (rk BK519))
have NB537_519 := am (ng hg (rk BK519))
replace BK519 := am (blk_below (rk BK519) hb)
have NB520_537 := am (nl hg (rk BK520))
have NB537_520 := am (ng hg (rk BK520))
replace BK520 := am (blk_below (rk BK520) hb)
clear hb hbox hg
obtain ⟨Ao65, co65, eo65⟩ := Kd.S_slice HO526.out
(first | subst eo65 | (injection eo65 with f1_ f2_ f3_; have f4_ := f1_.symm; have f5_ := f3_.symm; clear f1_ f2_ f3_; subst f4_; subst f5_))
obtain ⟨Ao66, co66, eo66⟩ := Kd.S_slice HO531.out
(first | subst eo66 | (injection eo66 with f1_ f2_ f3_; have f4_ := f1_.symm; have f5_ := f3_.symm; clear f1_ f2_ f3_; subst f4_; subst f5_))
refine hK.out _ _ ⟨(blk_cell BK519.out 0).trans rfl, (blk_cell BK519.out 1).trans rfl, (blk_cell BK520.out 0).trans rfl, (blk_cell BK520.out 1).trans rfl, (blk_cell BK520.out 2).trans rfl⟩ (fun hHeld => ?_)
clear hK K
refine norm_ (a' := _) (show Act.put _ (some 6) _ = _ from na) ?_
refine one_ (i := 4) (N := some 32) (bm 11 287) rfl rfl (one_of HT_.out (by kernel_rfl)) (by decide) (fun K hK => ?_)
refine goes_ Try.func40 (by kernel_rfl) rfl #[.agg #[.int .i64 t523, .slice Ao65 t524.length co65], .agg #[.int .i64 t527, .int .i64 t528, .slice Ao66 t529.length co66]] (by rfl) rfl rfl mt ?_
with_reducible refine (spec_Patched.calls k t523 _ _ t524 t527 t528 _ _ t529 t532 t533 t536 _ ?side1 ?side2 ?side3 ?side4 A21.out).mono ?_
(case side1 => exact rcs HO526)
(case side2 => exact (Kd.S_reads' HO526.out).2.1)
(case side3 => exact rcs HO531)
(case side4 => exact (Kd.S_reads' HO531.out).2.1)
rintro e w67 ⟨v534, rfl, ho0, hb⟩
refine ⟨_, rfl, ?_⟩
replace HO531 := am (Kd.S_below (Sx_cap (rs HO531)) hb)
have HO535 := am (Kd.S_lower (Kd.S_new' (Sx_floor ho0) (Kd.S_lt (rs HO526))) (below_size (rb3 HB GE519 GE520 GE537)))
replace HO526 := am (Kd.S_elder' (Sx_cap (rs HO526)) (Kd.S_base ho0) hb)
replace BK519 := am (blk_below (rk BK519) hb)
replace BK520 := am (blk_below (rk BK520) hb)
replace BK537 := am (blk_below (rk BK537) hb)
replace HB := am (below_step (rb3 HB GE519 GE520 GE537) hb)
(try clear hb)
(try clear ho0)
refine hK.out _ _ ⟨(blk_cell BK519.out 0).trans rfl, (blk_cell BK519.out 1).trans rfl, (blk_cell BK520.out 0).trans rfl, (blk_cell BK520.out 1).trans rfl, (blk_cell BK520.out 2).trans rfl⟩ (fun hHeld => ?_)
clear hK K
refine norm_ (a' := _) (show Act.put _ (some 32) _ = _ from na) ?_
refine pu_ 5 27 (bm 11 319) HT_.out ?_
refine pu_ 6 33 (bm 11 383) HT_.out ?_
refine pu_ 7 34 (bm 11 511) HT_.out ?_
exact norm_ nz0 (hCont (.slice Ao65 t524.length co65, .slice Ao66 t529.length co66, v534, gb537) _ ⟨hHeld, (rm HO526), (by (with_reducible repeat (first | apply Kd.S_alloc | apply Kd.S_drewN | apply Kd.S_drew)); exact Kd.S_mono HO531.out (fun _ hk => trivial)), (rm HO535), (rk BK519), (rk BK520), (rk BK537), GW537.out, GE537.out, NB519_537.out, NB537_519.out, NB520_537.out, NB537_520.out, (rb3 HB GE519 GE520 GE537)⟩)
)
)
·(
skip
refine box_step ?hg (N := 6) ?hd (cs := #[.int .i64 0, .slice none 0 0]) (t := 58) ?hr ?_; (case hd => rfl); (case hg => rfl); (case hr => first | (go_simp; done) | (go_simp; rfl))
intro gb537 hg w62 hbox hb
replace HO526 := am (Kd.S_below (rs HO526) hb)
have BK537 := am (hbox)
have GW537 := am (gw hg (rb2 HB GE519 GE520))
have GE537 := GW537
replace HB := am (below_step (rb2 HB GE519 GE520) hb)
have NB519_537 := am (nl hg (rk BK519))
have NB537_519 := am (ng hg (rk BK519))
replace BK519 := am (blk_below (rk BK519) hb)
have NB520_537 := am (nl hg (rk BK520))
have NB537_520 := am (ng hg (rk BK520))
replace BK520 := am (blk_below (rk BK520) hb)
clear hb hbox hg
refine hK.out _ _ ⟨(blk_cell BK519.out 0).trans rfl, (blk_cell BK519.out 1).trans rfl, (blk_cell BK520.out 0).trans rfl, (blk_cell BK520.out 1).trans rfl, (blk_cell BK520.out 2).trans rfl⟩ (fun hHeld => ?_)
clear hK K
refine norm_ (a' := _) (show Act.put _ (some 6) _ = _ from na) ?_
refine one_ (i := 3) (N := some 31) (bm 11 271) rfl rfl (one_of HT_.out (by kernel_rfl)) (by decide) (fun K hK => ?_)
refine goes_ Try.func41 (by kernel_rfl) rfl #[.agg #[.int .i64 a1_0, .int .i64 a1_1, .slice A1_2 l1_2.length c1_2]] (by rfl) rfl rfl mt ?_
with_reducible refine (laws_toPatch.calls k a1_0 a1_1 _ _ l1_2 t527 t528 t529 _ ?side1 ?side2 A20.out).mono ?_
(case side1 => exact rc ((Kd.C_below HR1_2.out HB.out)))
(case side2 => exact HC1_2.out)
rintro e w63 ⟨v530, rfl, ho0, hb⟩
refine ⟨_, rfl, ?_⟩
replace HO526 := am (Kd.S_below (Sx_cap (rs HO526)) hb)
have HO531 := am (Kd.S_lower (Sx_floor ho0) (below_size (rb3 HB GE519 GE520 GE537)))
replace BK519 := am (blk_below (rk BK519) hb)
replace BK520 := am (blk_below (rk BK520) hb)
replace BK537 := am (blk_below (rk BK537) hb)
replace HB := am (below_step (rb3 HB GE519 GE520 GE537) hb)
(try clear hb)
(try clear ho0)
obtain ⟨Ao65, co65, eo65⟩ := Kd.S_slice HO526.out
(first | subst eo65 | (injection eo65 with f1_ f2_ f3_; have f4_ := f1_.symm; have f5_ := f3_.symm; clear f1_ f2_ f3_; subst f4_; subst f5_))
obtain ⟨Ao66, co66, eo66⟩ := Kd.S_slice HO531.out
(first | subst eo66 | (injection eo66 with f1_ f2_ f3_; have f4_ := f1_.symm; have f5_ := f3_.symm; clear f1_ f2_ f3_; subst f4_; subst f5_))
refine hK.out _ _ ⟨(blk_cell BK519.out 0).trans rfl, (blk_cell BK519.out 1).trans rfl, (blk_cell BK520.out 0).trans rfl, (blk_cell BK520.out 1).trans rfl, (blk_cell BK520.out 2).trans rfl⟩ (fun hHeld => ?_)
clear hK K
refine norm_ (a' := _) (show Act.put _ (some 31) _ = _ from na) ?_
refine one_ (i := 4) (N := some 32) (bm 11 287) rfl rfl (one_of HT_.out (by kernel_rfl)) (by decide) (fun K hK => ?_)
refine goes_ Try.func40 (by kernel_rfl) rfl #[.agg #[.int .i64 t523, .slice Ao65 t524.length co65], .agg #[.int .i64 t527, .int .i64 t528, .slice Ao66 t529.length co66]] (by rfl) rfl rfl mt ?_
with_reducible refine (spec_Patched.calls k t523 _ _ t524 t527 t528 _ _ t529 t532 t533 t536 _ ?side1 ?side2 ?side3 ?side4 A21.out).mono ?_
(case side1 => exact rcs HO526)
(case side2 => exact (Kd.S_reads' HO526.out).2.1)
(case side3 => exact rcs HO531)
(case side4 => exact (Kd.S_reads' HO531.out).2.1)
rintro e w67 ⟨v534, rfl, ho0, hb⟩
refine ⟨_, rfl, ?_⟩
replace HO531 := am (Kd.S_below (Sx_cap (rs HO531)) hb)
have HO535 := am (Kd.S_lower (Kd.S_new' (Sx_floor ho0) (Kd.S_lt (rs HO526))) (below_size (rb3 HB GE519 GE520 GE537)))
replace HO526 := am (Kd.S_elder' (Sx_cap (rs HO526)) (Kd.S_base ho0) hb)
replace BK519 := am (blk_below (rk BK519) hb)
replace BK520 := am (blk_below (rk BK520) hb)
replace BK537 := am (blk_below (rk BK537) hb)
replace HB := am (below_step (rb3 HB GE519 GE520 GE537) hb)
(try clear hb)
(try clear ho0)
refine hK.out _ _ ⟨(blk_cell BK519.out 0).trans rfl, (blk_cell BK519.out 1).trans rfl, (blk_cell BK520.out 0).trans rfl, (blk_cell BK520.out 1).trans rfl, (blk_cell BK520.out 2).trans rfl⟩ (fun hHeld => ?_)
clear hK K
refine norm_ (a' := _) (show Act.put _ (some 32) _ = _ from na) ?_
refine pu_ 5 27 (bm 11 319) HT_.out ?_
refine pu_ 6 33 (bm 11 383) HT_.out ?_
refine pu_ 7 34 (bm 11 511) HT_.out ?_
exact norm_ nz0 (hCont (.slice Ao65 t524.length co65, .slice Ao66 t529.length co66, v534, gb537) _ ⟨hHeld, (rm HO526), (by (with_reducible repeat (first | apply Kd.S_alloc | apply Kd.S_drewN | apply Kd.S_drew)); exact Kd.S_mono HO531.out (fun _ hk => trivial)), (rm HO535), (rk BK519), (rk BK520), (rk BK537), GW537.out, GE537.out, NB519_537.out, NB537_519.out, NB520_537.out, NB537_520.out, (rb3 HB GE519 GE520 GE537)⟩)
)
)
·(
skip
refine box_step ?hg (N := 6) ?hd (cs := #[.int .i64 0, .slice none 0 0]) (t := 58) ?hr ?_; (case hd => rfl); (case hg => rfl); (case hr => first | (go_simp; done) | (go_simp; rfl))
intro gb537 hg w60 hbox hb
have BK537 := am (hbox)
have GW537 := am (gw hg (rb2 HB GE519 GE520))
have GE537 := GW537
replace HB := am (below_step (rb2 HB GE519 GE520) hb)
have NB519_537 := am (nl hg (rk BK519))
have NB537_519 := am (ng hg (rk BK519))
replace BK519 := am (blk_below (rk BK519) hb)
have NB520_537 := am (nl hg (rk BK520))
have NB537_520 := am (ng hg (rk BK520))
replace BK520 := am (blk_below (rk BK520) hb)
clear hb hbox hg
refine hK.out _ _ ⟨(blk_cell BK519.out 0).trans rfl, (blk_cell BK519.out 1).trans rfl, (blk_cell BK520.out 0).trans rfl, (blk_cell BK520.out 1).trans rfl, (blk_cell BK520.out 2).trans rfl⟩ (fun hHeld => ?_)
clear hK K
refine norm_ (a' := _) (show Act.put _ (some 6) _ = _ from na) ?_
refine one_ (i := 1) (N := some 29) (bm 11 263) rfl rfl (one_of HT_.out (by kernel_rfl)) (by decide) (fun K hK => ?_)
refine goes_ Try.func32 (by kernel_rfl) rfl #[.agg #[.int .i64 a0_0, .slice A0_1 l0_1.length c0_1]] (by rfl) rfl rfl mt ?_
with_reducible refine (laws_toGrid.calls k a0_0 _ _ l0_1 t523 t524 _ ?side1 ?side2 A19.out).mono ?_
(case side1 => exact rc ((Kd.C_below HR0_1.out HB.out)))
(case side2 => exact HC0_1.out)
rintro e w61 ⟨v525, rfl, ho0, hb⟩
refine ⟨_, rfl, ?_⟩
have HO526 := am (Kd.S_lower (Sx_floor ho0) (below_size (rb3 HB GE519 GE520 GE537)))
replace BK519 := am (blk_below (rk BK519) hb)
replace BK520 := am (blk_below (rk BK520) hb)
replace BK537 := am (blk_below (rk BK537) hb)
replace HB := am (below_step (rb3 HB GE519 GE520 GE537) hb)
(try clear hb)
(try clear ho0)
refine hK.out _ _ ⟨(blk_cell BK519.out 0).trans rfl, (blk_cell BK519.out 1).trans rfl, (blk_cell BK520.out 0).trans rfl, (blk_cell BK520.out 1).trans rfl, (blk_cell BK520.out 2).trans rfl⟩ (fun hHeld => ?_)
clear hK K
refine norm_ (a' := _) (show Act.put _ (some 29) _ = _ from na) ?_
refine one_ (i := 3) (N := some 31) (bm 11 271) rfl rfl (one_of HT_.out (by kernel_rfl)) (by decide) (fun K hK => ?_)
refine goes_ Try.func41 (by kernel_rfl) rfl #[.agg #[.int .i64 a1_0, .int .i64 a1_1, .slice A1_2 l1_2.length c1_2]] (by rfl) rfl rfl mt ?_
with_reducible refine (laws_toPatch.calls k a1_0 a1_1 _ _ l1_2 t527 t528 t529 _ ?side1 ?side2 A20.out).mono ?_
(case side1 => exact rc ((Kd.C_below HR1_2.out HB.out)))
(case side2 => exact HC1_2.out)
rintro e w63 ⟨v530, rfl, ho0, hb⟩
refine ⟨_, rfl, ?_⟩
replace HO526 := am (Kd.S_below (Sx_cap (rs HO526)) hb)
have HO531 := am (Kd.S_lower (Sx_floor ho0) (below_size (rb3 HB GE519 GE520 GE537)))
replace BK519 := am (blk_below (rk BK519) hb)
replace BK520 := am (blk_below (rk BK520) hb)
replace BK537 := am (blk_below (rk BK537) hb)
replace HB := am (below_step (rb3 HB GE519 GE520 GE537) hb)
(try clear hb)
(try clear ho0)
obtain ⟨Ao65, co65, eo65⟩ := Kd.S_slice HO526.out
(first | subst eo65 | (injection eo65 with f1_ f2_ f3_; have f4_ := f1_.symm; have f5_ := f3_.symm; clear f1_ f2_ f3_; subst f4_; subst f5_))
obtain ⟨Ao66, co66, eo66⟩ := Kd.S_slice HO531.out
(first | subst eo66 | (injection eo66 with f1_ f2_ f3_; have f4_ := f1_.symm; have f5_ := f3_.symm; clear f1_ f2_ f3_; subst f4_; subst f5_))
refine hK.out _ _ ⟨(blk_cell BK519.out 0).trans rfl, (blk_cell BK519.out 1).trans rfl, (blk_cell BK520.out 0).trans rfl, (blk_cell BK520.out 1).trans rfl, (blk_cell BK520.out 2).trans rfl⟩ (fun hHeld => ?_)
clear hK K
refine norm_ (a' := _) (show Act.put _ (some 31) _ = _ from na) ?_
refine one_ (i := 4) (N := some 32) (bm 11 287) rfl rfl (one_of HT_.out (by kernel_rfl)) (by decide) (fun K hK => ?_)
refine goes_ Try.func40 (by kernel_rfl) rfl #[.agg #[.int .i64 t523, .slice Ao65 t524.length co65], .agg #[.int .i64 t527, .int .i64 t528, .slice Ao66 t529.length co66]] (by rfl) rfl rfl mt ?_
with_reducible refine (spec_Patched.calls k t523 _ _ t524 t527 t528 _ _ t529 t532 t533 t536 _ ?side1 ?side2 ?side3 ?side4 A21.out).mono ?_
(case side1 => exact rcs HO526)
(case side2 => exact (Kd.S_reads' HO526.out).2.1)
(case side3 => exact rcs HO531)
(case side4 => exact (Kd.S_reads' HO531.out).2.1)
rintro e w67 ⟨v534, rfl, ho0, hb⟩
refine ⟨_, rfl, ?_⟩
replace HO531 := am (Kd.S_below (Sx_cap (rs HO531)) hb)
have HO535 := am (Kd.S_lower (Kd.S_new' (Sx_floor ho0) (Kd.S_lt (rs HO526))) (below_size (rb3 HB GE519 GE520 GE537)))
replace HO526 := am (Kd.S_elder' (Sx_cap (rs HO526)) (Kd.S_base ho0) hb)
replace BK519 := am (blk_below (rk BK519) hb)
replace BK520 := am (blk_below (rk BK520) hb)
replace BK537 := am (blk_below (rk BK537) hb)
replace HB := am (below_step (rb3 HB GE519 GE520 GE537) hb)
(try clear hb)
(try clear ho0)
refine hK.out _ _ ⟨(blk_cell BK519.out 0).trans rfl, (blk_cell BK519.out 1).trans rfl, (blk_cell BK520.out 0).trans rfl, (blk_cell BK520.out 1).trans rfl, (blk_cell BK520.out 2).trans rfl⟩ (fun hHeld => ?_)
clear hK K
refine norm_ (a' := _) (show Act.put _ (some 32) _ = _ from na) ?_
refine pu_ 5 27 (bm 11 319) HT_.out ?_
refine pu_ 6 33 (bm 11 383) HT_.out ?_
refine pu_ 7 34 (bm 11 511) HT_.out ?_
exact norm_ nz0 (hCont (.slice Ao65 t524.length co65, .slice Ao66 t529.length co66, v534, gb537) _ ⟨hHeld, (rm HO526), (by (with_reducible repeat (first | apply Kd.S_alloc | apply Kd.S_drewN | apply Kd.S_drew)); exact Kd.S_mono HO531.out (fun _ hk => trivial)), (rm HO535), (rk BK519), (rk BK520), (rk BK537), GW537.out, GE537.out, NB519_537.out, NB537_519.out, NB520_537.out, NB537_520.out, (rb3 HB GE519 GE520 GE537)⟩)
)
)
rintro ⟨v525, v530, v534, gb537⟩ w69 ⟨hHeld, h0_, h1_, h2_, h3_, h4_, h5_, h6_, h7_, h8_, h9_, h10_, h11_, h12_⟩
(try dsimp only at hHeld h0_ h1_ h2_ h3_ h4_ h5_ h6_ h7_ h8_ h9_ h10_ h11_ h12_)
have HO526 := am h0_; have HO531 := am h1_; have HO535 := am h2_; replace BK519 := am h3_; replace BK520 := am h4_; have BK537 := am h5_; have GW537 := am h6_; have GE537 := am h7_; have NB519_537 := am h8_; have NB537_519 := am h9_; have NB520_537 := am h10_; have NB537_520 := am h11_; replace HB := am h12_
clear h0_ h1_ h2_ h3_ h4_ h5_ h6_ h7_ h8_ h9_ h10_ h11_ h12_
obtain ⟨Ao71, co71, eo71⟩ := Kd.S_slice HO535.out
(first | subst eo71 | (injection eo71 with f1_ f2_ f3_; have f4_ := f1_.symm; have f5_ := f3_.symm; clear f1_ f2_ f3_; subst f4_; subst f5_))
refine norm_ (a' := _) nr ?_
refine one_ (i := 9) (N := none) (bm 11 1023) rfl rfl (one_of HT_.out (by kernel_rfl)) (by decide) (fun K hK => ?_)
have hs70 : w69.cell? ⟨gb537, 0, none⟩ = some (.int .i64 0) := (blk_cell BK537.out 0).trans rfl
have hfs70 := blk_frozen BK537.out 0
have hns70_0 := NB519_537.out
have hns70_1 := NB520_537.out
have hms70_0 := NB537_519.out
have hms70_1 := NB537_520.out
have hs72 : w69.cell? ⟨gb537, 1, none⟩ = some (.slice none 0 0) := (blk_cell BK537.out 1).trans rfl
have hfs72 := blk_frozen BK537.out 1
have hns72_0 := NB519_537.out
have hns72_1 := NB520_537.out
have hms72_0 := NB537_519.out
have hms72_1 := NB537_520.out
refine skip_ (w1 := ?_) (by rfl) rfl ?_ ?_
rotate_left
·(
go_simp
rfl
)
refine hK.out _ _ ⟨((cell_far (p := ⟨gb537, _, none⟩) NB519_537.out _).trans (((cell_far (p := ⟨gb537, _, none⟩) NB519_537.out _).trans (hHeld.1)))), ((cell_far (p := ⟨gb537, _, none⟩) NB519_537.out _).trans (((cell_far (p := ⟨gb537, _, none⟩) NB519_537.out _).trans (hHeld.2.1)))), ((cell_far (p := ⟨gb537, _, none⟩) NB520_537.out _).trans (((cell_far (p := ⟨gb537, _, none⟩) NB520_537.out _).trans (hHeld.2.2.1)))), ((cell_far (p := ⟨gb537, _, none⟩) NB520_537.out _).trans (((cell_far (p := ⟨gb537, _, none⟩) NB520_537.out _).trans (hHeld.2.2.2.1)))), ((cell_far (p := ⟨gb537, _, none⟩) NB520_537.out _).trans (((cell_far (p := ⟨gb537, _, none⟩) NB520_537.out _).trans (hHeld.2.2.2.2))))⟩ (fun hHeld => ?_)
clear hK K
refine pu_ 10 7 (bm 11 2047) HT_.out ?_
refine done_ (done_of HT_.out (by kernel_rfl)) ?_
have hnb73 := NB519_537.out
have hnc73 := NB537_519.out
have hcz74_0 : w69.cell? ⟨gb519, 0, none⟩ = some (.int .i64 a0_0) := (blk_cell BK519.out 0).trans rfl
have hcz74_1 : w69.cell? ⟨gb519, 1, none⟩ = some (.slice A0_1 l0_1.length c0_1) := (blk_cell BK519.out 1).trans rfl
have hfz74_0 := blk_frozen BK519.out 0
have hfz74_1 := blk_frozen BK519.out 1
try go_wp2_with (first | ((with_reducible refine gate_callee (f := 32) rfl ?_); refine gl_ (some 36) Try.func32 #[.agg #[.int .i64 a0_0, .slice A0_1 l0_1.length c0_1]] ?_; (with_reducible refine (laws_toGrid.calls k a0_0 _ _ l0_1 t538 t539 _ ?side1 ?side2 A22.out).mono ?_); (case side1 => exact Kd.C_below HR0_1.out (rb3 HB GE519 GE520 GE537)); (case side2 => exact HC0_1.out); rintro e w75 ⟨v540, rfl, ho0, hb⟩; refine ⟨_, rfl, ?_⟩; replace HO531 := am (Kd.S_below (Sx_cap (sf2 HO531 BK537)) hb); have HO541 := am (Kd.S_lower (Kd.S_new' (Kd.S_new' (Sx_floor ho0) (Kd.S_lt (sf2 HO526 BK537))) (Kd.S_lt (sf2 HO535 BK537))) (below_size (rb3 HB GE519 GE520 GE537))); replace HO526 := am (Kd.S_elder' (Sx_cap (sf2 HO526 BK537)) (Kd.S_base ho0) hb); replace HO535 := am (Kd.S_elder' (Sx_cap (sf2 HO535 BK537)) (Kd.S_base ho0) hb); replace BK519 := am (blk_below (g := gb519) (o := .cells #[.int .i64 a0_0, .slice A0_1 l0_1.length c0_1] 49 (0, 0)) (rf2 NB519_537 BK519) hb); replace BK520 := am (blk_below (g := gb520) (o := .cells #[.int .i64 a1_0, .int .i64 a1_1, .slice A1_2 l1_2.length c1_2] 67 (0, 0)) (rf2 NB520_537 BK520) hb); replace BK537 := am (blk_below (g := gb537) (o := .cells #[.int .i64 t532, .slice Ao71 t533.length co71] 58 (0, 0)) (rp_0_1 BK537) hb); replace HB := am (below_step (rb3 HB GE519 GE520 GE537) hb); (try clear hb); (try clear hb2); (try clear hk); (try clear hi); (try clear ho0)) | ((with_reducible refine gate_dst (N := 8) rfl ?_); refine box_event ?hg (N := 8) ?hd (cs := #[.int .i64 0, .slice none 0 0]) (t := 58) ?hr ?_; (case hd => rfl); (case hg => rfl); (case hr => first | (go_simp; done) | (go_simp; rfl)); intro gb542 hg w77 hbox hb; replace HO526 := am (Kd.S_below (rs HO526) hb); replace HO531 := am (Kd.S_below (rs HO531) hb); replace HO535 := am (Kd.S_below (rs HO535) hb); replace HO541 := am (Kd.S_below (rs HO541) hb); have BK542 := am (hbox); have GW542 := am (gw hg (rb3 HB GE519 GE520 GE537)); have GE542 := GW542; replace HB := am (below_step (rb3 HB GE519 GE520 GE537) hb); have NB519_542 := am (nl hg (rk BK519)); have NB542_519 := am (ng hg (rk BK519)); replace BK519 := am (blk_below (rk BK519) hb); have NB520_542 := am (nl hg (rk BK520)); have NB542_520 := am (ng hg (rk BK520)); replace BK520 := am (blk_below (rk BK520) hb); have NB537_542 := am (nl hg (rk BK537)); have NB542_537 := am (ng hg (rk BK537)); replace BK537 := am (blk_below (rk BK537) hb); clear hb hbox hg; have hnb78 := NB542_519.out; have hnc78 := NB519_542.out; have hnb79 := NB542_520.out; have hnc79 := NB520_542.out; have hnb80 := NB542_537.out; have hnc80 := NB537_542.out; have hcz81_0 : w77.cell? ⟨gb542, 0, none⟩ = some (.int .i64 0) := (blk_cell BK542.out 0).trans rfl; have hcz81_1 : w77.cell? ⟨gb542, 1, none⟩ = some (.slice none 0 0) := (blk_cell BK542.out 1).trans rfl; have hfz81_0 := blk_frozen BK542.out 0; have hfz81_1 := blk_frozen BK542.out 1; obtain ⟨Ao82, co82, eo82⟩ := Kd.S_slice HO541.out; subst eo82; have hnb83 := NB520_537.out; have hnc83 := NB537_520.out; have hcz84_0 : w77.cell? ⟨gb520, 0, none⟩ = some (.int .i64 a1_0) := (blk_cell BK520.out 0).trans rfl; have hcz84_1 : w77.cell? ⟨gb520, 1, none⟩ = some (.int .i64 a1_1) := (blk_cell BK520.out 1).trans rfl; have hcz84_2 : w77.cell? ⟨gb520, 2, none⟩ = some (.slice A1_2 l1_2.length c1_2) := (blk_cell BK520.out 2).trans rfl; have hfz84_0 := blk_frozen BK520.out 0; have hfz84_1 := blk_frozen BK520.out 1; have hfz84_2 := blk_frozen BK520.out 2) | ((with_reducible refine gate_callee (f := 41) rfl ?_); refine gl_ (some 38) Try.func41 #[.agg #[.int .i64 a1_0, .int .i64 a1_1, .slice A1_2 l1_2.length c1_2]] ?_; (with_reducible refine (laws_toPatch.calls k a1_0 a1_1 _ _ l1_2 t543 t544 t545 _ ?side1 ?side2 A23.out).mono ?_); (case side1 => exact Kd.C_below HR1_2.out (rb4 HB GE519 GE520 GE537 GE542)); (case side2 => exact HC1_2.out); rintro e w85 ⟨v546, rfl, ho0, hb⟩; refine ⟨_, rfl, ?_⟩; replace HO526 := am (Kd.S_below (Sx_cap (sf2 HO526 BK542)) hb); replace HO535 := am (Kd.S_below (Sx_cap (sf2 HO535 BK542)) hb); replace HO541 := am (Kd.S_below (Sx_cap (sf2 HO541 BK542)) hb); have HO547 := am (Kd.S_lower (Kd.S_new' (Sx_floor ho0) (Kd.S_lt (sf2 HO531 BK542))) (below_size (rb4 HB GE519 GE520 GE537 GE542))); replace HO531 := am (Kd.S_elder' (Sx_cap (sf2 HO531 BK542)) (Kd.S_base ho0) hb); replace BK519 := am (blk_below (g := gb519) (o := .cells #[.int .i64 a0_0, .slice A0_1 l0_1.length c0_1] 49 (0, 0)) (rf2 NB519_542 BK519) hb); replace BK520 := am (blk_below (g := gb520) (o := .cells #[.int .i64 a1_0, .int .i64 a1_1, .slice A1_2 l1_2.length c1_2] 67 (0, 0)) (rf2 NB520_542 BK520) hb); replace BK537 := am (blk_below (g := gb537) (o := .cells #[.int .i64 t532, .slice Ao71 t533.length co71] 58 (0, 0)) (rf2 NB537_542 BK537) hb); replace BK542 := am (blk_below (g := gb542) (o := .cells #[.int .i64 t538, .slice Ao82 t539.length co82] 58 (0, 0)) (rp_0_1 BK542) hb); replace HB := am (below_step (rb4 HB GE519 GE520 GE537 GE542) hb); (try clear hb); (try clear hb2); (try clear hk); (try clear hi); (try clear ho0)) | ((with_reducible refine gate_dst (N := 9) rfl ?_); refine box_event ?hg (N := 9) ?hd (cs := #[.int .i64 0, .int .i64 0, .slice none 0 0]) (t := 53) ?hr ?_; (case hd => rfl); (case hg => rfl); (case hr => first | (go_simp; done) | (go_simp; rfl)); intro gb548 hg w87 hbox hb; replace HO526 := am (Kd.S_below (rs HO526) hb); replace HO531 := am (Kd.S_below (rs HO531) hb); replace HO535 := am (Kd.S_below (rs HO535) hb); replace HO541 := am (Kd.S_below (rs HO541) hb); replace HO547 := am (Kd.S_below (rs HO547) hb); have BK548 := am (hbox); have GW548 := am (gw hg (rb4 HB GE519 GE520 GE537 GE542)); have GE548 := GW548; replace HB := am (below_step (rb4 HB GE519 GE520 GE537 GE542) hb); have NB519_548 := am (nl hg (rk BK519)); have NB548_519 := am (ng hg (rk BK519)); replace BK519 := am (blk_below (rk BK519) hb); have NB520_548 := am (nl hg (rk BK520)); have NB548_520 := am (ng hg (rk BK520)); replace BK520 := am (blk_below (rk BK520) hb); have NB537_548 := am (nl hg (rk BK537)); have NB548_537 := am (ng hg (rk BK537)); replace BK537 := am (blk_below (rk BK537) hb); have NB542_548 := am (nl hg (rk BK542)); have NB548_542 := am (ng hg (rk BK542)); replace BK542 := am (blk_below (rk BK542) hb); clear hb hbox hg; have hnb88 := NB548_519.out; have hnc88 := NB519_548.out; have hnb89 := NB548_520.out; have hnc89 := NB520_548.out; have hnb90 := NB548_537.out; have hnc90 := NB537_548.out; have hnb91 := NB548_542.out; have hnc91 := NB542_548.out; have hcz92_0 : w87.cell? ⟨gb548, 0, none⟩ = some (.int .i64 0) := (blk_cell BK548.out 0).trans rfl; have hcz92_1 : w87.cell? ⟨gb548, 1, none⟩ = some (.int .i64 0) := (blk_cell BK548.out 1).trans rfl; have hcz92_2 : w87.cell? ⟨gb548, 2, none⟩ = some (.slice none 0 0) := (blk_cell BK548.out 2).trans rfl; have hfz92_0 := blk_frozen BK548.out 0; have hfz92_1 := blk_frozen BK548.out 1; have hfz92_2 := blk_frozen BK548.out 2; obtain ⟨Ao93, co93, eo93⟩ := Kd.S_slice HO547.out; subst eo93; have hcz94_0 : w87.cell? ⟨gb542, 0, none⟩ = some (.int .i64 t538) := (blk_cell BK542.out 0).trans rfl; have hcz94_1 : w87.cell? ⟨gb542, 1, none⟩ = some (.slice Ao82 t539.length co82) := (blk_cell BK542.out 1).trans rfl; have hfz94_0 := blk_frozen BK542.out 0; have hfz94_1 := blk_frozen BK542.out 1) | ((with_reducible refine gate_callee (f := 42) rfl ?_); refine gl_ (some 42) Try.func42 #[.agg #[.int .i64 t538, .slice Ao82 t539.length co82], .agg #[.int .i64 t543, .int .i64 t544, .slice Ao93 t545.length co93]] ?_; (with_reducible refine (impl_Patched.calls k t538 _ _ t539 t543 t544 _ _ t545 t549 t550 t553 _ ?side1 ?side2 ?side3 ?side4 A24.out).mono ?_); (case side1 => refine (Kd.S_reads' (e := 99) (base := w.heap.size) (ok := fun _ => True) (n := t539.length) (c := co82) ?_).2.2; exact (by (with_reducible repeat (first | apply Kd.S_alloc | apply Kd.S_drewN | apply Kd.S_drew)); exact Kd.S_mono (Kd.S_far (p := ⟨gb548, 2, none⟩) (Kd.S_far (p := ⟨gb548, 1, none⟩) (Kd.S_far (p := ⟨gb548, 0, none⟩) (Kd.S_types HO541.out BK548.out (by decide)) (fun _ hk => hk.2) (.int .i64 t543)) (fun _ hk => hk.2) (.int .i64 t544)) (fun _ hk => hk.2) (.slice Ao93 t545.length co93)) (fun _ hk => trivial))); (case side2 => exact (Kd.S_reads' HO541.out).2.1); (case side3 => refine (Kd.S_reads' (e := 101) (base := w.heap.size) (ok := fun _ => True) (n := t545.length) (c := co93) ?_).2.2; exact (by (with_reducible repeat (first | apply Kd.S_alloc | apply Kd.S_drewN | apply Kd.S_drew)); exact Kd.S_mono (Kd.S_far (p := ⟨gb548, 2, none⟩) (Kd.S_far (p := ⟨gb548, 1, none⟩) (Kd.S_far (p := ⟨gb548, 0, none⟩) (Kd.S_types HO547.out BK548.out (by decide)) (fun _ hk => hk.2) (.int .i64 t543)) (fun _ hk => hk.2) (.int .i64 t544)) (fun _ hk => hk.2) (.slice Ao93 t545.length co93)) (fun _ hk => trivial))); (case side4 => exact (Kd.S_reads' HO547.out).2.1); rintro e w95 ⟨v551, rfl, ho0, hb⟩; refine ⟨_, rfl, ?_⟩; replace HO531 := am (Kd.S_below (Sx_cap (sf3 HO531 BK548)) hb); replace HO547 := am (Kd.S_below (Sx_cap (sf3 HO547 BK548)) hb); have HO552 := am (Kd.S_lower (Kd.S_new' (Kd.S_new' (Kd.S_new' (Sx_floor ho0) (Kd.S_lt (sf3 HO526 BK548))) (Kd.S_lt (sf3 HO535 BK548))) (Kd.S_lt (sf3 HO541 BK548))) (below_size (rb5 HB GE519 GE520 GE537 GE542 GE548))); replace HO526 := am (Kd.S_elder' (Sx_cap (sf3 HO526 BK548)) (Kd.S_base ho0) hb); replace HO535 := am (Kd.S_elder' (Sx_cap (sf3 HO535 BK548)) (Kd.S_base ho0) hb); replace HO541 := am (Kd.S_elder' (Sx_cap (sf3 HO541 BK548)) (Kd.S_base ho0) hb); replace BK519 := am (blk_below (g := gb519) (o := .cells #[.int .i64 a0_0, .slice A0_1 l0_1.length c0_1] 49 (0, 0)) (rf3 NB519_548 BK519) hb); replace BK520 := am (blk_below (g := gb520) (o := .cells #[.int .i64 a1_0, .int .i64 a1_1, .slice A1_2 l1_2.length c1_2] 67 (0, 0)) (rf3 NB520_548 BK520) hb); replace BK537 := am (blk_below (g := gb537) (o := .cells #[.int .i64 t532, .slice Ao71 t533.length co71] 58 (0, 0)) (rf3 NB537_548 BK537) hb); replace BK542 := am (blk_below (g := gb542) (o := .cells #[.int .i64 t538, .slice Ao82 t539.length co82] 58 (0, 0)) (rf3 NB542_548 BK542) hb); replace BK548 := am (blk_below (g := gb548) (o := .cells #[.int .i64 t543, .int .i64 t544, .slice Ao93 t545.length co93] 53 (0, 0)) (rp_0_1_2 BK548) hb); replace HB := am (below_step (rb5 HB GE519 GE520 GE537 GE542 GE548) hb); (try clear hb); (try clear hb2); (try clear hk); (try clear hi); (try clear ho0)) | ((with_reducible refine gate_dst (N := 10) rfl ?_); refine box_event ?hg (N := 10) ?hd (cs := #[.int .i64 0, .slice none 0 0]) (t := 58) ?hr ?_; (case hd => rfl); (case hg => rfl); (case hr => first | (go_simp; done) | (go_simp; rfl)); intro gb554 hg w97 hbox hb; replace HO526 := am (Kd.S_below (rs HO526) hb); replace HO531 := am (Kd.S_below (rs HO531) hb); replace HO535 := am (Kd.S_below (rs HO535) hb); replace HO541 := am (Kd.S_below (rs HO541) hb); replace HO547 := am (Kd.S_below (rs HO547) hb); replace HO552 := am (Kd.S_below (rs HO552) hb); have BK554 := am (hbox); have GW554 := am (gw hg (rb5 HB GE519 GE520 GE537 GE542 GE548)); have GE554 := GW554; replace HB := am (below_step (rb5 HB GE519 GE520 GE537 GE542 GE548) hb); have NB519_554 := am (nl hg (rk BK519)); have NB554_519 := am (ng hg (rk BK519)); replace BK519 := am (blk_below (rk BK519) hb); have NB520_554 := am (nl hg (rk BK520)); have NB554_520 := am (ng hg (rk BK520)); replace BK520 := am (blk_below (rk BK520) hb); have NB537_554 := am (nl hg (rk BK537)); have NB554_537 := am (ng hg (rk BK537)); replace BK537 := am (blk_below (rk BK537) hb); have NB542_554 := am (nl hg (rk BK542)); have NB554_542 := am (ng hg (rk BK542)); replace BK542 := am (blk_below (rk BK542) hb); have NB548_554 := am (nl hg (rk BK548)); have NB554_548 := am (ng hg (rk BK548)); replace BK548 := am (blk_below (rk BK548) hb); clear hb hbox hg; have hnb98 := NB554_519.out; have hnc98 := NB519_554.out; have hnb99 := NB554_520.out; have hnc99 := NB520_554.out; have hnb100 := NB554_537.out; have hnc100 := NB537_554.out; have hnb101 := NB554_542.out; have hnc101 := NB542_554.out; have hnb102 := NB554_548.out; have hnc102 := NB548_554.out; have hcz103_0 : w97.cell? ⟨gb554, 0, none⟩ = some (.int .i64 0) := (blk_cell BK554.out 0).trans rfl; have hcz103_1 : w97.cell? ⟨gb554, 1, none⟩ = some (.slice none 0 0) := (blk_cell BK554.out 1).trans rfl; have hfz103_0 := blk_frozen BK554.out 0; have hfz103_1 := blk_frozen BK554.out 1; obtain ⟨Ao104, co104, eo104⟩ := Kd.S_slice HO552.out; subst eo104; have hcz105_0 : w97.cell? ⟨gb537, 0, none⟩ = some (.int .i64 t532) := (blk_cell BK537.out 0).trans rfl; have hcz105_1 : w97.cell? ⟨gb537, 1, none⟩ = some (.slice Ao71 t533.length co71) := (blk_cell BK537.out 1).trans rfl; have hfz105_0 := blk_frozen BK537.out 0; have hfz105_1 := blk_frozen BK537.out 1) | ((with_reducible refine gate_callee (f := 35) rfl ?_); refine gl_ (some 47) Try.func35 #[.agg #[.int .i64 t549, .slice Ao104 t550.length co104], .agg #[.int .i64 t532, .slice Ao71 t533.length co71]] ?_; (with_reducible refine (laws_eqGrid.calls k t549 _ _ t550 t532 _ _ t533 true _ ?side1 ?side2 ?side3 ?side4 A25.out).mono ?_); (case side1 => refine (Kd.S_reads' (e := 99) (base := w.heap.size) (ok := fun _ => True) (n := t550.length) (c := co104) ?_).2.2; exact (by (with_reducible repeat (first | apply Kd.S_alloc | apply Kd.S_drewN | apply Kd.S_drew)); exact Kd.S_mono (Kd.S_far (p := ⟨gb554, 1, none⟩) (Kd.S_far (p := ⟨gb554, 0, none⟩) (Kd.S_types HO552.out BK554.out (by decide)) (fun _ hk => hk.2) (.int .i64 t549)) (fun _ hk => hk.2) (.slice Ao104 t550.length co104)) (fun _ hk => trivial))); (case side2 => exact (Kd.S_reads' HO552.out).2.1); (case side3 => refine (Kd.S_reads' (e := 99) (base := w.heap.size) (ok := fun _ => True) (n := t533.length) (c := co71) ?_).2.2; exact (by (with_reducible repeat (first | apply Kd.S_alloc | apply Kd.S_drewN | apply Kd.S_drew)); exact Kd.S_mono (Kd.S_far (p := ⟨gb554, 1, none⟩) (Kd.S_far (p := ⟨gb554, 0, none⟩) (Kd.S_types HO535.out BK554.out (by decide)) (fun _ hk => hk.2) (.int .i64 t549)) (fun _ hk => hk.2) (.slice Ao104 t550.length co104)) (fun _ hk => trivial))); (case side4 => exact (Kd.S_reads' HO535.out).2.1); rintro e w106 ⟨rfl, hb⟩; refine ⟨_, rfl, ?_⟩; replace HO526 := am (Kd.S_below (sf2 HO526 BK554) hb); replace HO531 := am (Kd.S_below (sf2 HO531 BK554) hb); replace HO535 := am (Kd.S_below (sf2 HO535 BK554) hb); replace HO541 := am (Kd.S_below (sf2 HO541 BK554) hb); replace HO547 := am (Kd.S_below (sf2 HO547 BK554) hb); replace HO552 := am (Kd.S_below (sf2 HO552 BK554) hb); replace BK519 := am (blk_below (g := gb519) (o := .cells #[.int .i64 a0_0, .slice A0_1 l0_1.length c0_1] 49 (0, 0)) (rf2 NB519_554 BK519) hb); replace BK520 := am (blk_below (g := gb520) (o := .cells #[.int .i64 a1_0, .int .i64 a1_1, .slice A1_2 l1_2.length c1_2] 67 (0, 0)) (rf2 NB520_554 BK520) hb); replace BK537 := am (blk_below (g := gb537) (o := .cells #[.int .i64 t532, .slice Ao71 t533.length co71] 58 (0, 0)) (rf2 NB537_554 BK537) hb); replace BK542 := am (blk_below (g := gb542) (o := .cells #[.int .i64 t538, .slice Ao82 t539.length co82] 58 (0, 0)) (rf2 NB542_554 BK542) hb); replace BK548 := am (blk_below (g := gb548) (o := .cells #[.int .i64 t543, .int .i64 t544, .slice Ao93 t545.length co93] 53 (0, 0)) (rf2 NB548_554 BK548) hb); replace BK554 := am (blk_below (g := gb554) (o := .cells #[.int .i64 t549, .slice Ao104 t550.length co104] 58 (0, 0)) (rp_0_1 BK554) hb); replace HB := am (below_step (rb6 HB GE519 GE520 GE537 GE542 GE548 GE554) hb); (try clear hb); (try clear hb2); (try clear hk); (try clear hi)))
replace HO526 := am (Kd.S_drew HO526.out)
replace HO531 := am (Kd.S_drew HO531.out)
replace HO535 := am (Kd.S_drew HO535.out)
replace HO541 := am (Kd.S_drew HO541.out)
replace HO547 := am (Kd.S_drew HO547.out)
replace HO552 := am (Kd.S_drew HO552.out)
replace BK519 := am (blk_drew BK519.out)
replace BK520 := am (blk_drew BK520.out)
replace BK537 := am (blk_drew BK537.out)
replace BK542 := am (blk_drew BK542.out)
replace BK548 := am (blk_drew BK548.out)
replace BK554 := am (blk_drew BK554.out)
replace HB := am (below_drew1 HB.out)
refine start_ (n := 5) (S := fun w' => w'.cell? ⟨gb542, 0, none⟩ = some (.int .i64 t538) ∧ w'.cell? ⟨gb542, 1, none⟩ = some (.slice Ao82 t539.length co82) ∧ w'.cell? ⟨gb519, 0, none⟩ = some (.int .i64 a0_0) ∧ w'.cell? ⟨gb519, 1, none⟩ = some (.slice A0_1 l0_1.length c0_1)) (ds := []) (bm 5 0) (by kernel_rfl) rfl rfl ⟨(blk_cell BK542.out 0).trans rfl, (blk_cell BK542.out 1).trans rfl, (blk_cell BK519.out 0).trans rfl, (blk_cell BK519.out 1).trans rfl⟩ (fun hHeld => ?_)
generalize w106.drew = w107 at HO526 HO531 HO535 HO541 HO547 HO552 BK519 BK520 BK537 BK542 BK548 BK554 HB hHeld ⊢
refine take_ (i := 0) (N := some 54) (v := ?_) (a' := ?_) (bm 5 1) rfl rfl (by kernel_rfl) (fun _ _ _ h => h) (Or.inl ⟨by rfl, ?_⟩) hHeld ?_ ?_
rotate_left
·(
rintro w' ⟨s0, s1, s2, s3⟩
go_simp
with_reducible rfl
)
rotate_left
·(
simp only [Act.put, List.setIfInBounds_toArray, List.set_cons_zero, List.set_cons_succ, i64_w, i32_w]
rfl
)
refine take_ (i := 1) (N := some 55) (v := ?_) (a' := ?_) (bm 5 3) rfl rfl (by kernel_rfl) (fun _ _ _ h => h) (Or.inl ⟨by rfl, ?_⟩) hHeld ?_ ?_
rotate_left
·(
rintro w' ⟨s0, s1, s2, s3⟩
go_simp
with_reducible rfl
)
rotate_left
·(
simp only [Act.put, List.setIfInBounds_toArray, List.set_cons_zero, List.set_cons_succ, i64_w, i32_w]
rfl
)
refine one_ (i := 2) (N := some 56) (bm 5 7) rfl rfl (by kernel_rfl) (by decide) (fun K hK => ?_)
refine goes_ Try.func32 (by kernel_rfl) rfl #[.agg #[.int .i64 a0_0, .slice A0_1 l0_1.length c0_1]] (by rfl) rfl rfl mt ?_
with_reducible refine (laws_toGrid.calls k a0_0 _ _ l0_1 t556 t557 _ ?side1 ?side2 A28.out).mono ?_
(case side1 => exact rc ((Kd.C_below HR0_1.out HB.out)))
(case side2 => exact HC0_1.out)
rintro e w108 ⟨v558, rfl, ho0, hb⟩
refine ⟨_, rfl, ?_⟩
replace HO531 := am (Kd.S_below (Sx_cap (rs HO531)) hb)
replace HO547 := am (Kd.S_below (Sx_cap (rs HO547)) hb)
have HO559 := am (Kd.S_lower (Kd.S_new' (Kd.S_new' (Kd.S_new' (Kd.S_new' (Sx_floor ho0) (Kd.S_lt (rs HO526))) (Kd.S_lt (rs HO535))) (Kd.S_lt (rs HO541))) (Kd.S_lt (rs HO552))) (below_size (rb6 HB GE519 GE520 GE537 GE542 GE548 GE554)))
replace HO526 := am (Kd.S_elder' (Sx_cap (rs HO526)) (Kd.S_base ho0) hb)
replace HO535 := am (Kd.S_elder' (Sx_cap (rs HO535)) (Kd.S_base ho0) hb)
replace HO541 := am (Kd.S_elder' (Sx_cap (rs HO541)) (Kd.S_base ho0) hb)
replace HO552 := am (Kd.S_elder' (Sx_cap (rs HO552)) (Kd.S_base ho0) hb)
replace BK519 := am (blk_below (rk BK519) hb)
replace BK520 := am (blk_below (rk BK520) hb)
replace BK537 := am (blk_below (rk BK537) hb)
replace BK542 := am (blk_below (rk BK542) hb)
replace BK548 := am (blk_below (rk BK548) hb)
replace BK554 := am (blk_below (rk BK554) hb)
replace HB := am (below_step (rb6 HB GE519 GE520 GE537 GE542 GE548 GE554) hb)
(try clear hb)
(try clear ho0)
obtain ⟨Ao110, co110, eo110⟩ := Kd.S_slice HO559.out
(first | subst eo110 | (injection eo110 with f1_ f2_ f3_; have f4_ := f1_.symm; have f5_ := f3_.symm; clear f1_ f2_ f3_; subst f4_; subst f5_))
refine hK.out _ _ ⟨(blk_cell BK542.out 0).trans rfl, (blk_cell BK542.out 1).trans rfl, (blk_cell BK519.out 0).trans rfl, (blk_cell BK519.out 1).trans rfl⟩ (fun hHeld => ?_)
clear hK K
refine norm_ (a' := _) (show Act.put _ (some 56) _ = _ from na) ?_
refine one_ (i := 3) (N := some 57) (bm 5 15) rfl rfl (by kernel_rfl) (by decide) (fun K hK => ?_)
refine goes_ Try.func35 (by kernel_rfl) rfl #[.agg #[.int .i64 t538, .slice Ao82 t539.length co82], .agg #[.int .i64 t556, .slice Ao110 t557.length co110]] (by rfl) rfl rfl mt ?_
with_reducible refine (laws_eqGrid.calls k t538 _ _ t539 t556 _ _ t557 true _ ?side1 ?side2 ?side3 ?side4 A29.out).mono ?_
(case side1 => exact rcs HO541)
(case side2 => exact (Kd.S_reads' HO541.out).2.1)
(case side3 => exact rcs HO559)
(case side4 => exact (Kd.S_reads' HO559.out).2.1)
rintro e w111 ⟨rfl, hb⟩
refine ⟨_, rfl, ?_⟩
replace HO526 := am (Kd.S_below (rs HO526) hb)
replace HO531 := am (Kd.S_below (rs HO531) hb)
replace HO535 := am (Kd.S_below (rs HO535) hb)
replace HO541 := am (Kd.S_below (rs HO541) hb)
replace HO547 := am (Kd.S_below (rs HO547) hb)
replace HO552 := am (Kd.S_below (rs HO552) hb)
replace HO559 := am (Kd.S_below (rs HO559) hb)
replace BK519 := am (blk_below (rk BK519) hb)
replace BK520 := am (blk_below (rk BK520) hb)
replace BK537 := am (blk_below (rk BK537) hb)
replace BK542 := am (blk_below (rk BK542) hb)
replace BK548 := am (blk_below (rk BK548) hb)
replace BK554 := am (blk_below (rk BK554) hb)
replace HB := am (below_step (rb6 HB GE519 GE520 GE537 GE542 GE548 GE554) hb)
(try clear hb)
refine hK.out _ _ ⟨(blk_cell BK542.out 0).trans rfl, (blk_cell BK542.out 1).trans rfl, (blk_cell BK519.out 0).trans rfl, (blk_cell BK519.out 1).trans rfl⟩ (fun hHeld => ?_)
clear hK K
refine norm_ (a' := _) (show Act.put _ (some 57) _ = _ from na) ?_
refine pure_ (i := 4) (N := some 58) (v := ?_) (a' := ?_) (bm 5 31) rfl rfl (by kernel_rfl) (fun _ _ _ h => h) (Or.inl ⟨by rfl, ?_⟩) ?_ ?_
rotate_left
·(
intro w'
go_simp
with_reducible rfl
)
rotate_left
·(
simp only [Act.put, List.setIfInBounds_toArray, List.set_cons_zero, List.set_cons_succ, i64_w, i32_w]
rfl
)
refine done_ (by kernel_rfl) ?_
try go_wp2
replace HO526 := am (Kd.S_drew HO526.out)
replace HO531 := am (Kd.S_drew HO531.out)
replace HO535 := am (Kd.S_drew HO535.out)
replace HO541 := am (Kd.S_drew HO541.out)
replace HO547 := am (Kd.S_drew HO547.out)
replace HO552 := am (Kd.S_drew HO552.out)
replace HO559 := am (Kd.S_drew HO559.out)
replace BK519 := am (blk_drew BK519.out)
replace BK520 := am (blk_drew BK520.out)
replace BK537 := am (blk_drew BK537.out)
replace BK542 := am (blk_drew BK542.out)
replace BK548 := am (blk_drew BK548.out)
replace BK554 := am (blk_drew BK554.out)
replace HB := am (below_drew1 HB.out)
refine start_ (n := 5) (S := fun w' => w'.cell? ⟨gb548, 0, none⟩ = some (.int .i64 t543) ∧ w'.cell? ⟨gb548, 1, none⟩ = some (.int .i64 t544) ∧ w'.cell? ⟨gb548, 2, none⟩ = some (.slice Ao93 t545.length co93) ∧ w'.cell? ⟨gb520, 0, none⟩ = some (.int .i64 a1_0) ∧ w'.cell? ⟨gb520, 1, none⟩ = some (.int .i64 a1_1) ∧ w'.cell? ⟨gb520, 2, none⟩ = some (.slice A1_2 l1_2.length c1_2)) (ds := []) (bm 5 0) (by kernel_rfl) rfl rfl ⟨(blk_cell BK548.out 0).trans rfl, (blk_cell BK548.out 1).trans rfl, (blk_cell BK548.out 2).trans rfl, (blk_cell BK520.out 0).trans rfl, (blk_cell BK520.out 1).trans rfl, (blk_cell BK520.out 2).trans rfl⟩ (fun hHeld => ?_)
generalize w111.drew = w112 at HO526 HO531 HO535 HO541 HO547 HO552 HO559 BK519 BK520 BK537 BK542 BK548 BK554 HB hHeld ⊢
refine take_ (i := 0) (N := some 59) (v := ?_) (a' := ?_) (bm 5 1) rfl rfl (by kernel_rfl) (fun _ _ _ h => h) (Or.inl ⟨by rfl, ?_⟩) hHeld ?_ ?_
rotate_left
·(
rintro w' ⟨s0, s1, s2, s3, s4, s5⟩
go_simp
with_reducible rfl
)
rotate_left
·(
simp only [Act.put, List.setIfInBounds_toArray, List.set_cons_zero, List.set_cons_succ, i64_w, i32_w]
rfl
)
refine take_ (i := 1) (N := some 60) (v := ?_) (a' := ?_) (bm 5 3) rfl rfl (by kernel_rfl) (fun _ _ _ h => h) (Or.inl ⟨by rfl, ?_⟩) hHeld ?_ ?_
rotate_left
·(
rintro w' ⟨s0, s1, s2, s3, s4, s5⟩
go_simp
with_reducible rfl
)
rotate_left
·(
simp only [Act.put, List.setIfInBounds_toArray, List.set_cons_zero, List.set_cons_succ, i64_w, i32_w]
rfl
)
refine one_ (i := 2) (N := some 61) (bm 5 7) rfl rfl (by kernel_rfl) (by decide) (fun K hK => ?_)
refine goes_ Try.func41 (by kernel_rfl) rfl #[.agg #[.int .i64 a1_0, .int .i64 a1_1, .slice A1_2 l1_2.length c1_2]] (by rfl) rfl rfl mt ?_
with_reducible refine (laws_toPatch.calls k a1_0 a1_1 _ _ l1_2 t561 t562 t563 _ ?side1 ?side2 A31.out).mono ?_
(case side1 => exact rc ((Kd.C_below HR1_2.out HB.out)))
(case side2 => exact HC1_2.out)
rintro e w113 ⟨v564, rfl, ho0, hb⟩
refine ⟨_, rfl, ?_⟩
replace HO526 := am (Kd.S_below (Sx_cap (rs HO526)) hb)
replace HO535 := am (Kd.S_below (Sx_cap (rs HO535)) hb)
replace HO541 := am (Kd.S_below (Sx_cap (rs HO541)) hb)
replace HO552 := am (Kd.S_below (Sx_cap (rs HO552)) hb)
replace HO559 := am (Kd.S_below (Sx_cap (rs HO559)) hb)
have HO565 := am (Kd.S_lower (Kd.S_new' (Kd.S_new' (Sx_floor ho0) (Kd.S_lt (rs HO531))) (Kd.S_lt (rs HO547))) (below_size (rb6 HB GE519 GE520 GE537 GE542 GE548 GE554)))
replace HO531 := am (Kd.S_elder' (Sx_cap (rs HO531)) (Kd.S_base ho0) hb)
replace HO547 := am (Kd.S_elder' (Sx_cap (rs HO547)) (Kd.S_base ho0) hb)
replace BK519 := am (blk_below (rk BK519) hb)
replace BK520 := am (blk_below (rk BK520) hb)
replace BK537 := am (blk_below (rk BK537) hb)
replace BK542 := am (blk_below (rk BK542) hb)
replace BK548 := am (blk_below (rk BK548) hb)
replace BK554 := am (blk_below (rk BK554) hb)
replace HB := am (below_step (rb6 HB GE519 GE520 GE537 GE542 GE548 GE554) hb)
(try clear hb)
(try clear ho0)
obtain ⟨Ao115, co115, eo115⟩ := Kd.S_slice HO565.out
(first | subst eo115 | (injection eo115 with f1_ f2_ f3_; have f4_ := f1_.symm; have f5_ := f3_.symm; clear f1_ f2_ f3_; subst f4_; subst f5_))
refine hK.out _ _ ⟨(blk_cell BK548.out 0).trans rfl, (blk_cell BK548.out 1).trans rfl, (blk_cell BK548.out 2).trans rfl, (blk_cell BK520.out 0).trans rfl, (blk_cell BK520.out 1).trans rfl, (blk_cell BK520.out 2).trans rfl⟩ (fun hHeld => ?_)
clear hK K
refine norm_ (a' := _) (show Act.put _ (some 61) _ = _ from na) ?_
refine one_ (i := 3) (N := some 62) (bm 5 15) rfl rfl (by kernel_rfl) (by decide) (fun K hK => ?_)
refine goes_ Try.func34 (by kernel_rfl) rfl #[.agg #[.int .i64 t543, .int .i64 t544, .slice Ao93 t545.length co93], .agg #[.int .i64 t561, .int .i64 t562, .slice Ao115 t563.length co115]] (by rfl) rfl rfl mt ?_
with_reducible refine (laws_eqPatch.calls k t543 t544 _ _ t545 t561 t562 _ _ t563 true _ ?side1 ?side2 ?side3 ?side4 A32.out).mono ?_
(case side1 => exact rcs HO547)
(case side2 => exact (Kd.S_reads' HO547.out).2.1)
(case side3 => exact rcs HO565)
(case side4 => exact (Kd.S_reads' HO565.out).2.1)
rintro e w116 ⟨rfl, hb⟩
refine ⟨_, rfl, ?_⟩
replace HO526 := am (Kd.S_below (rs HO526) hb)
replace HO531 := am (Kd.S_below (rs HO531) hb)
replace HO535 := am (Kd.S_below (rs HO535) hb)
replace HO541 := am (Kd.S_below (rs HO541) hb)
replace HO547 := am (Kd.S_below (rs HO547) hb)
replace HO552 := am (Kd.S_below (rs HO552) hb)
replace HO559 := am (Kd.S_below (rs HO559) hb)
replace HO565 := am (Kd.S_below (rs HO565) hb)
replace BK519 := am (blk_below (rk BK519) hb)
replace BK520 := am (blk_below (rk BK520) hb)
replace BK537 := am (blk_below (rk BK537) hb)
replace BK542 := am (blk_below (rk BK542) hb)
replace BK548 := am (blk_below (rk BK548) hb)
replace BK554 := am (blk_below (rk BK554) hb)
replace HB := am (below_step (rb6 HB GE519 GE520 GE537 GE542 GE548 GE554) hb)
(try clear hb)
refine hK.out _ _ ⟨(blk_cell BK548.out 0).trans rfl, (blk_cell BK548.out 1).trans rfl, (blk_cell BK548.out 2).trans rfl, (blk_cell BK520.out 0).trans rfl, (blk_cell BK520.out 1).trans rfl, (blk_cell BK520.out 2).trans rfl⟩ (fun hHeld => ?_)
clear hK K
refine norm_ (a' := _) (show Act.put _ (some 62) _ = _ from na) ?_
refine pure_ (i := 4) (N := some 63) (v := ?_) (a' := ?_) (bm 5 31) rfl rfl (by kernel_rfl) (fun _ _ _ h => h) (Or.inl ⟨by rfl, ?_⟩) ?_ ?_
rotate_left
·(
intro w'
go_simp
with_reducible rfl
)
rotate_left
·(
simp only [Act.put, List.setIfInBounds_toArray, List.set_cons_zero, List.set_cons_succ, i64_w, i32_w]
rfl
)
refine done_ (by kernel_rfl) ?_
have hcz117_0 : w116.cell? ⟨gb542, 0, none⟩ = some (.int .i64 t538) := (blk_cell BK542.out 0).trans rfl
have hcz117_1 : w116.cell? ⟨gb542, 1, none⟩ = some (.slice Ao82 t539.length co82) := (blk_cell BK542.out 1).trans rfl
have hfz117_0 := blk_frozen BK542.out 0
have hfz117_1 := blk_frozen BK542.out 1
obtain ⟨PX118, hPS118, hPX118⟩ := Sx_named (Kd.S_bound HO541.out)
try go_wp2_with (first | ((with_reducible refine gate_callee (f := 36) rfl ?_); refine gl_ (some 66) Try.func36 #[.agg #[.int .i64 t538, .slice Ao82 t539.length co82], .int .i64 1] ?_; (with_reducible refine (laws_markGrid.calls k t538 PX118 (.slice Ao82 t539.length co82) t539 1 t567 t568 w _ ?side1 ?side2 A34.out).mono ?_); (case side1 => repeat (first | (with_reducible first | exact HB.out | apply b1 | apply b2 | apply b3 | refine below_set ?_ GE519.out | refine below_set ?_ GE520.out | refine below_set ?_ GE537.out | refine below_set ?_ GE542.out | refine below_set ?_ GE548.out | refine below_set ?_ GE554.out) | exact HB.out)); (case side2 => exact hPS118); rintro e w119 ⟨rfl, hy0, hb, hkp⟩; refine ⟨_, rfl, ?_⟩; replace BK519 := am (blk_kept (rk BK519) hkp (fun hs_ => (fun e_ => Sx_box BK519.out (by decide) (hPX118 _ e_).2.2.2) hs_)); replace BK520 := am (blk_kept (rk BK520) hkp (fun hs_ => (fun e_ => Sx_box BK520.out (by decide) (hPX118 _ e_).2.2.2) hs_)); replace HO526 := am (Kd.S_kept (HO526.out) hkp (fun k_ hk_ hs_ => (fun e_ => Nat.not_lt.2 ((hPX118 k_ e_).1.1.1.1.1.1.1.1.1.2) (hk_.1.1.1.1.1.1.1.2)) hs_)); replace HO531 := am (Kd.S_kept (HO531.out) hkp (fun k_ hk_ hs_ => (fun e_ => Nat.not_lt.2 ((hPX118 k_ e_).1.1.1.1.1.1.1.1.1.2) (hk_.1.1.1.1.1.1.2)) hs_)); replace HO535 := am (Kd.S_kept (HO535.out) hkp (fun k_ hk_ hs_ => (fun e_ => Nat.not_lt.2 ((hPX118 k_ e_).1.1.1.1.1.1.1.1.1.2) (hk_.1.1.1.1.1.1.1.2)) hs_)); replace BK537 := am (blk_kept (rk BK537) hkp (fun hs_ => (fun e_ => Sx_box BK537.out (by decide) (hPX118 _ e_).2.2.2) hs_)); replace HO541 := am (Kd.S_mono hy0 (fun k_ h_ => (hPX118 k_ h_).1)); replace BK542 := am (blk_kept (rk BK542) hkp (fun hs_ => (fun e_ => Sx_box BK542.out (by decide) (hPX118 _ e_).2.2.2) hs_)); replace HO547 := am (Kd.S_kept (HO547.out) hkp (fun k_ hk_ hs_ => (fun e_ => Nat.not_lt.2 (hk_.1.1.1.1.1.2) ((hPX118 k_ e_).1.1.1.1.1.1.2)) hs_)); replace BK548 := am (blk_kept (rk BK548) hkp (fun hs_ => (fun e_ => Sx_box BK548.out (by decide) (hPX118 _ e_).2.2.2) hs_)); replace HO552 := am (Kd.S_kept (HO552.out) hkp (fun k_ hk_ hs_ => (fun e_ => Nat.not_lt.2 (hk_.1.1.1.1.1.1.2) ((hPX118 k_ e_).1.1.1.1.1.2)) hs_)); replace BK554 := am (blk_kept (rk BK554) hkp (fun hs_ => (fun e_ => Sx_box BK554.out (by decide) (hPX118 _ e_).2.2.2) hs_)); replace HO559 := am (Kd.S_kept (HO559.out) hkp (fun k_ hk_ hs_ => (fun e_ => Nat.not_lt.2 (hk_.1.1.1.1.1.2) ((hPX118 k_ e_).1.1.1.2)) hs_)); replace HO565 := am (Kd.S_kept (HO565.out) hkp (fun k_ hk_ hs_ => (fun e_ => Nat.not_lt.2 (hk_.1.1.2) ((hPX118 k_ e_).1.2)) hs_)); replace HB := am (hb); (try clear hPS118 hPX118); (try clear hb); (try clear hkp); (try clear hy0); have hcz120_0 : w119.cell? ⟨gb548, 0, none⟩ = some (.int .i64 t543) := (blk_cell BK548.out 0).trans rfl; have hcz120_1 : w119.cell? ⟨gb548, 1, none⟩ = some (.int .i64 t544) := (blk_cell BK548.out 1).trans rfl; have hcz120_2 : w119.cell? ⟨gb548, 2, none⟩ = some (.slice Ao93 t545.length co93) := (blk_cell BK548.out 2).trans rfl; have hfz120_0 := blk_frozen BK548.out 0; have hfz120_1 := blk_frozen BK548.out 1; have hfz120_2 := blk_frozen BK548.out 2; obtain ⟨PX121, hPS121, hPX121⟩ := Sx_named (Kd.S_bound HO547.out)) | ((with_reducible refine gate_callee (f := 37) rfl ?_); refine gl_ (some 69) Try.func37 #[.agg #[.int .i64 t543, .int .i64 t544, .slice Ao93 t545.length co93], .int .i64 t567] ?_; (with_reducible refine (laws_markPatch.calls k t543 t544 PX121 (.slice Ao93 t545.length co93) t545 t567 t569 t570 w _ ?side1 ?side2 A35.out).mono ?_); (case side1 => repeat (first | (with_reducible first | exact HB.out | apply b1 | apply b2 | apply b3 | refine below_set ?_ GE519.out | refine below_set ?_ GE520.out | refine below_set ?_ GE537.out | refine below_set ?_ GE542.out | refine below_set ?_ GE548.out | refine below_set ?_ GE554.out) | exact HB.out)); (case side2 => exact hPS121); rintro e w122 ⟨rfl, hy0, hb, hkp⟩; refine ⟨_, rfl, ?_⟩; replace BK519 := am (blk_kept (rk BK519) hkp (fun hs_ => (fun e_ => Sx_box BK519.out (by decide) (hPX121 _ e_).2.2.2) hs_)); replace BK520 := am (blk_kept (rk BK520) hkp (fun hs_ => (fun e_ => Sx_box BK520.out (by decide) (hPX121 _ e_).2.2.2) hs_)); replace HO526 := am (Kd.S_kept (HO526.out) hkp (fun k_ hk_ hs_ => (fun e_ => Nat.not_lt.2 ((hPX121 k_ e_).1.1.1.1.1.1.2) (hk_.1.1.1.1.1.2)) hs_)); replace HO531 := am (Kd.S_kept (HO531.out) hkp (fun k_ hk_ hs_ => (fun e_ => Nat.not_lt.2 ((hPX121 k_ e_).1.1.1.1.1.1.2) (hk_.1.1.1.1.1.2)) hs_)); replace HO535 := am (Kd.S_kept (HO535.out) hkp (fun k_ hk_ hs_ => (fun e_ => Nat.not_lt.2 ((hPX121 k_ e_).1.1.1.1.1.1.2) (hk_.1.1.1.1.1.2)) hs_)); replace BK537 := am (blk_kept (rk BK537) hkp (fun hs_ => (fun e_ => Sx_box BK537.out (by decide) (hPX121 _ e_).2.2.2) hs_)); replace HO541 := am (Kd.S_kept (HO541.out) hkp (fun k_ hk_ hs_ => (fun e_ => Nat.not_lt.2 ((hPX121 k_ e_).1.1.1.1.1.1.2) (hk_.1.1.1.1.1.2)) hs_)); replace BK542 := am (blk_kept (rk BK542) hkp (fun hs_ => (fun e_ => Sx_box BK542.out (by decide) (hPX121 _ e_).2.2.2) hs_)); replace HO547 := am (Kd.S_mono hy0 (fun k_ h_ => (hPX121 k_ h_).1)); replace BK548 := am (blk_kept (rk BK548) hkp (fun hs_ => (fun e_ => Sx_box BK548.out (by decide) (hPX121 _ e_).2.2.2) hs_)); replace HO552 := am (Kd.S_kept (HO552.out) hkp (fun k_ hk_ hs_ => (fun e_ => Nat.not_lt.2 (hk_.1.1.1.1.1.1.2) ((hPX121 k_ e_).1.1.1.1.2)) hs_)); replace BK554 := am (blk_kept (rk BK554) hkp (fun hs_ => (fun e_ => Sx_box BK554.out (by decide) (hPX121 _ e_).2.2.2) hs_)); replace HO559 := am (Kd.S_kept (HO559.out) hkp (fun k_ hk_ hs_ => (fun e_ => Nat.not_lt.2 (hk_.1.1.1.1.1.2) ((hPX121 k_ e_).1.1.1.2)) hs_)); replace HO565 := am (Kd.S_kept (HO565.out) hkp (fun k_ hk_ hs_ => (fun e_ => Nat.not_lt.2 (hk_.1.1.2) ((hPX121 k_ e_).1.1.2)) hs_)); replace HB := am (hb); (try clear hPS121 hPX121); (try clear hb); (try clear hkp); (try clear hy0); have hcz123_0 : w122.cell? ⟨gb554, 0, none⟩ = some (.int .i64 t549) := (blk_cell BK554.out 0).trans rfl; have hcz123_1 : w122.cell? ⟨gb554, 1, none⟩ = some (.slice Ao104 t550.length co104) := (blk_cell BK554.out 1).trans rfl; have hfz123_0 := blk_frozen BK554.out 0; have hfz123_1 := blk_frozen BK554.out 1; have hcz124_0 : w122.cell? ⟨gb537, 0, none⟩ = some (.int .i64 t532) := (blk_cell BK537.out 0).trans rfl; have hcz124_1 : w122.cell? ⟨gb537, 1, none⟩ = some (.slice Ao71 t533.length co71) := (blk_cell BK537.out 1).trans rfl; have hfz124_0 := blk_frozen BK537.out 0; have hfz124_1 := blk_frozen BK537.out 1) | (go_at_call 35; (with_reducible refine (laws_eqGrid.calls k t549 _ _ t550 t532 _ _ t533 true _ ?side1 ?side2 ?side3 ?side4 A37.out).mono ?_); (case side1 => exact rcs HO552); (case side2 => exact (Kd.S_reads' HO552.out).2.1); (case side3 => exact rcs HO535); (case side4 => exact (Kd.S_reads' HO535.out).2.1); rintro e w125 ⟨rfl, hb⟩; replace HO526 := am (Kd.S_below (rs HO526) hb); replace HO531 := am (Kd.S_below (rs HO531) hb); replace HO535 := am (Kd.S_below (rs HO535) hb); replace HO541 := am (Kd.S_below (rs HO541) hb); replace HO547 := am (Kd.S_below (rs HO547) hb); replace HO552 := am (Kd.S_below (rs HO552) hb); replace HO559 := am (Kd.S_below (rs HO559) hb); replace HO565 := am (Kd.S_below (rs HO565) hb); replace BK519 := am (blk_below (rk BK519) hb); replace BK520 := am (blk_below (rk BK520) hb); replace BK537 := am (blk_below (rk BK537) hb); replace BK542 := am (blk_below (rk BK542) hb); replace BK548 := am (blk_below (rk BK548) hb); replace BK554 := am (blk_below (rk BK554) hb); replace HB := am (below_step (rb6 HB GE519 GE520 GE537 GE542 GE548 GE554) hb); (try clear hb); (try clear hb2); (try clear hk); (try clear hi); have hcz126_0 : w125.cell? ⟨gb554, 0, none⟩ = some (.int .i64 t549) := (blk_cell BK554.out 0).trans rfl; have hcz126_1 : w125.cell? ⟨gb554, 1, none⟩ = some (.slice Ao104 t550.length co104) := (blk_cell BK554.out 1).trans rfl; have hfz126_0 := blk_frozen BK554.out 0; have hfz126_1 := blk_frozen BK554.out 1; obtain ⟨PX127, hPS127, hPX127⟩ := Sx_named (Kd.S_bound HO552.out)) | ((with_reducible refine gate_callee (f := 36) rfl ?_); refine gl_ (some 85) Try.func36 #[.agg #[.int .i64 t549, .slice Ao104 t550.length co104], .int .i64 1] ?_; (with_reducible refine (laws_markGrid.calls k t549 PX127 (.slice Ao104 t550.length co104) t550 1 t572 t573 w _ ?side1 ?side2 A39.out).mono ?_); (case side1 => repeat (first | (with_reducible first | exact HB.out | apply b1 | apply b2 | apply b3 | refine below_set ?_ GE519.out | refine below_set ?_ GE520.out | refine below_set ?_ GE537.out | refine below_set ?_ GE542.out | refine below_set ?_ GE548.out | refine below_set ?_ GE554.out) | exact HB.out)); (case side2 => exact hPS127); rintro e w128 ⟨rfl, hy0, hb, hkp⟩; refine ⟨_, rfl, ?_⟩; replace BK519 := am (blk_kept (rk BK519) hkp (fun hs_ => (fun e_ => Sx_box BK519.out (by decide) (hPX127 _ e_).2.2.2) hs_)); replace BK520 := am (blk_kept (rk BK520) hkp (fun hs_ => (fun e_ => Sx_box BK520.out (by decide) (hPX127 _ e_).2.2.2) hs_)); replace HO526 := am (Kd.S_kept (HO526.out) hkp (fun k_ hk_ hs_ => (fun e_ => Nat.not_lt.2 ((hPX127 k_ e_).1.1.1.1.1.1.1.2) (hk_.1.1.1.1.2)) hs_)); replace HO531 := am (Kd.S_kept (HO531.out) hkp (fun k_ hk_ hs_ => (fun e_ => Nat.not_lt.2 ((hPX127 k_ e_).1.1.1.1.1.1.1.2) (hk_.1.1.1.2)) hs_)); replace HO535 := am (Kd.S_kept (HO535.out) hkp (fun k_ hk_ hs_ => (fun e_ => Nat.not_lt.2 ((hPX127 k_ e_).1.1.1.1.1.1.1.2) (hk_.1.1.1.1.2)) hs_)); replace BK537 := am (blk_kept (rk BK537) hkp (fun hs_ => (fun e_ => Sx_box BK537.out (by decide) (hPX127 _ e_).2.2.2) hs_)); replace HO541 := am (Kd.S_kept (HO541.out) hkp (fun k_ hk_ hs_ => (fun e_ => Nat.not_lt.2 ((hPX127 k_ e_).1.1.1.1.1.1.1.2) (hk_.1.1.1.1.2)) hs_)); replace BK542 := am (blk_kept (rk BK542) hkp (fun hs_ => (fun e_ => Sx_box BK542.out (by decide) (hPX127 _ e_).2.2.2) hs_)); replace HO547 := am (Kd.S_kept (HO547.out) hkp (fun k_ hk_ hs_ => (fun e_ => Nat.not_lt.2 ((hPX127 k_ e_).1.1.1.1.1.1.1.2) (hk_.1.1.1.2)) hs_)); replace BK548 := am (blk_kept (rk BK548) hkp (fun hs_ => (fun e_ => Sx_box BK548.out (by decide) (hPX127 _ e_).2.2.2) hs_)); replace HO552 := am (Kd.S_mono hy0 (fun k_ h_ => (hPX127 k_ h_).1)); replace BK554 := am (blk_kept (rk BK554) hkp (fun hs_ => (fun e_ => Sx_box BK554.out (by decide) (hPX127 _ e_).2.2.2) hs_)); replace HO559 := am (Kd.S_kept (HO559.out) hkp (fun k_ hk_ hs_ => (fun e_ => Nat.not_lt.2 (hk_.1.1.1.1.1.2) ((hPX127 k_ e_).1.1.1.2)) hs_)); replace HO565 := am (Kd.S_kept (HO565.out) hkp (fun k_ hk_ hs_ => (fun e_ => Nat.not_lt.2 (hk_.1.1.2) ((hPX127 k_ e_).1.2)) hs_)); replace HB := am (hb); (try clear hPS127 hPX127); (try clear hb); (try clear hkp); (try clear hy0); have hcz129_0 : w128.cell? ⟨gb554, 0, none⟩ = some (.int .i64 t549) := (blk_cell BK554.out 0).trans rfl; have hcz129_1 : w128.cell? ⟨gb554, 1, none⟩ = some (.slice Ao104 t550.length co104) := (blk_cell BK554.out 1).trans rfl; have hfz129_0 := blk_frozen BK554.out 0; have hfz129_1 := blk_frozen BK554.out 1) | ((with_reducible refine gate_callee (f := 43) rfl ?_); refine goesL_ (some 88) rfl rfl Try.func43 (by kernel_rfl) rfl #[.agg #[.int .i64 t549, .slice Ao104 t573.length co104], .int .i64 1] rfl (by (try simp only [List.map_toArray, List.map_cons, List.map_nil]); first | done | (rw [show t573.length = t550.length from (Kd.S_reads' HO552.out).1.symm] <;> rfl) | rfl | (simp only [List.length_drop, List.length_take]; rfl)) ?_; (with_reducible refine (laws_heldGrid.calls k t549 _ _ t573 1 t574 _ ?side1 ?side2 A40.out).mono ?_); (case side1 => exact rcs HO552); (case side2 => rw [show t573.length = t550.length from (Kd.S_reads' HO552.out).1.symm]; exact (Kd.S_reads' HO552.out).2.1); rintro e w130 ⟨rfl, hb⟩; refine ⟨_, rfl, ?_⟩; replace HO526 := am (Kd.S_below (rs HO526) hb); replace HO531 := am (Kd.S_below (rs HO531) hb); replace HO535 := am (Kd.S_below (rs HO535) hb); replace HO541 := am (Kd.S_below (rs HO541) hb); replace HO547 := am (Kd.S_below (rs HO547) hb); replace HO552 := am (Kd.S_below (rs HO552) hb); replace HO559 := am (Kd.S_below (rs HO559) hb); replace HO565 := am (Kd.S_below (rs HO565) hb); replace BK519 := am (blk_below (rk BK519) hb); replace BK520 := am (blk_below (rk BK520) hb); replace BK537 := am (blk_below (rk BK537) hb); replace BK542 := am (blk_below (rk BK542) hb); replace BK548 := am (blk_below (rk BK548) hb); replace BK554 := am (blk_below (rk BK554) hb); replace HB := am (below_step (rb6 HB GE519 GE520 GE537 GE542 GE548 GE554) hb); (try clear hb); (try clear hb2); (try clear hk); (try clear hi)))
replace HO526 := am (Kd.S_drew HO526.out)
replace HO531 := am (Kd.S_drew HO531.out)
replace HO535 := am (Kd.S_drew HO535.out)
replace HO541 := am (Kd.S_drew HO541.out)
replace HO547 := am (Kd.S_drew HO547.out)
replace HO552 := am (Kd.S_drew HO552.out)
replace HO559 := am (Kd.S_drew HO559.out)
replace HO565 := am (Kd.S_drew HO565.out)
replace BK519 := am (blk_drew BK519.out)
replace BK520 := am (blk_drew BK520.out)
replace BK537 := am (blk_drew BK537.out)
replace BK542 := am (blk_drew BK542.out)
replace BK548 := am (blk_drew BK548.out)
replace BK554 := am (blk_drew BK554.out)
replace HB := am (below_drew1 HB.out)
refine start_ (n := 11) (S := fun w' => w'.cell? ⟨gb519, 0, none⟩ = some (.int .i64 a0_0) ∧ w'.cell? ⟨gb519, 1, none⟩ = some (.slice A0_1 l0_1.length c0_1) ∧ w'.cell? ⟨gb520, 0, none⟩ = some (.int .i64 a1_0) ∧ w'.cell? ⟨gb520, 1, none⟩ = some (.int .i64 a1_1) ∧ w'.cell? ⟨gb520, 2, none⟩ = some (.slice A1_2 l1_2.length c1_2)) (ds := []) (bm 11 0) (by kernel_rfl) rfl rfl ⟨(blk_cell BK519.out 0).trans rfl, (blk_cell BK519.out 1).trans rfl, (blk_cell BK520.out 0).trans rfl, (blk_cell BK520.out 1).trans rfl, (blk_cell BK520.out 2).trans rfl⟩ (fun hHeld => ?_); refine with_tabW laws_FnExactPatched.tab31 laws_FnExactPatched.bits31 (fun HT_ HW_ => ?_)
generalize w130.drew = w131 at HO526 HO531 HO535 HO541 HO547 HO552 HO559 HO565 BK519 BK520 BK537 BK542 BK548 BK554 HB hHeld ⊢
refine take_ (i := 0) (N := some 95) (v := ?_) (a' := ?_) (bm 11 1) rfl rfl (take_ofW HT_.out HW_.out (by kernel_rfl)) (fun _ _ _ h => h) (Or.inl ⟨by rfl, ?_⟩) hHeld ?_ ?_
rotate_left
·(
rintro w' ⟨s0, s1, s2, s3, s4⟩
go_simp
with_reducible rfl
)
rotate_left
·(
simp only [Act.put, List.setIfInBounds_toArray, List.set_cons_zero, List.set_cons_succ, i64_w, i32_w]
rfl
)
refine take_ (i := 2) (N := some 97) (v := ?_) (a' := ?_) (bm 11 5) rfl rfl (take_ofW HT_.out HW_.out (by kernel_rfl)) (fun _ _ _ h => h) (Or.inl ⟨by rfl, ?_⟩) hHeld ?_ ?_
rotate_left
·(
rintro w' ⟨s0, s1, s2, s3, s4⟩
go_simp
with_reducible rfl
)
rotate_left
·(
simp only [Act.put, List.setIfInBounds_toArray, List.set_cons_zero, List.set_cons_succ, i64_w, i32_w]
rfl
)
refine join_ (σ := Value × Value × Value × Nat) 2 (bm 11 511) (fun s_ => [(96, .agg #[.int .i64 t575, s_.1]), (98, .agg #[.int .i64 t579, .int .i64 t580, s_.2.1]), (99, .tuple #[.agg #[.int .i64 t584, s_.2.2.1], .bool t588]), (15, .pointer (some ⟨s_.2.2.2, 0, none⟩)), (94, .tuple #[.agg #[.int .i64 t584, s_.2.2.1], .bool t588]), (100, .agg #[.int .i64 t584, s_.2.2.1]), (101, .bool t588)]) (fun s_ w' => (w'.cell? ⟨gb519, 0, none⟩ = some (.int .i64 a0_0) ∧ w'.cell? ⟨gb519, 1, none⟩ = some (.slice A0_1 l0_1.length c0_1) ∧ w'.cell? ⟨gb520, 0, none⟩ = some (.int .i64 a1_0) ∧ w'.cell? ⟨gb520, 1, none⟩ = some (.int .i64 a1_1) ∧ w'.cell? ⟨gb520, 2, none⟩ = some (.slice A1_2 l1_2.length c1_2)) ∧ (Kd.S (Kd.slice 98 k98) 99 w' w.heap.size (fun k_ => some k_ ≠ (.slice Ao71 t533.length co71 : Value).ownBlock ∧ some k_ ≠ (.slice Ao82 t539.length co82 : Value).ownBlock ∧ some k_ ≠ (.slice Ao104 t550.length co104 : Value).ownBlock ∧ some k_ ≠ (.slice Ao110 t557.length co110 : Value).ownBlock ∧ some k_ ≠ (s_.1 : Value).ownBlock ∧ some k_ ≠ (s_.2.2.1 : Value).ownBlock) v525 t524) ∧ (Kd.S k101 101 w' w.heap.size (fun k_ => some k_ ≠ (.slice Ao93 t545.length co93 : Value).ownBlock ∧ some k_ ≠ (.slice Ao115 t563.length co115 : Value).ownBlock ∧ some k_ ≠ (s_.2.1 : Value).ownBlock) v530 t529) ∧ (Kd.S (Kd.slice 98 k98) 99 w' w.heap.size (fun k_ => some k_ ≠ (v525 : Value).ownBlock ∧ some k_ ≠ (.slice Ao82 t539.length co82 : Value).ownBlock ∧ some k_ ≠ (.slice Ao104 t550.length co104 : Value).ownBlock ∧ some k_ ≠ (.slice Ao110 t557.length co110 : Value).ownBlock ∧ some k_ ≠ (s_.1 : Value).ownBlock ∧ some k_ ≠ (s_.2.2.1 : Value).ownBlock) (.slice Ao71 t533.length co71) t533) ∧ (Kd.S (Kd.slice 98 k98) 99 w' w.heap.size (fun k_ => some k_ ≠ (v525 : Value).ownBlock ∧ some k_ ≠ (.slice Ao71 t533.length co71 : Value).ownBlock ∧ some k_ ≠ (.slice Ao104 t550.length co104 : Value).ownBlock ∧ some k_ ≠ (.slice Ao110 t557.length co110 : Value).ownBlock ∧ some k_ ≠ (s_.1 : Value).ownBlock ∧ some k_ ≠ (s_.2.2.1 : Value).ownBlock) (.slice Ao82 t539.length co82) t568) ∧ (Kd.S k101 101 w' w.heap.size (fun k_ => some k_ ≠ (v530 : Value).ownBlock ∧ some k_ ≠ (.slice Ao115 t563.length co115 : Value).ownBlock ∧ some k_ ≠ (s_.2.1 : Value).ownBlock) (.slice Ao93 t545.length co93) t570) ∧ (Kd.S (Kd.slice 98 k98) 99 w' w.heap.size (fun k_ => some k_ ≠ (v525 : Value).ownBlock ∧ some k_ ≠ (.slice Ao71 t533.length co71 : Value).ownBlock ∧ some k_ ≠ (.slice Ao82 t539.length co82 : Value).ownBlock ∧ some k_ ≠ (.slice Ao110 t557.length co110 : Value).ownBlock ∧ some k_ ≠ (s_.1 : Value).ownBlock ∧ some k_ ≠ (s_.2.2.1 : Value).ownBlock) (.slice Ao104 t550.length co104) t573) ∧ (Kd.S (Kd.slice 98 k98) 99 w' w.heap.size (fun k_ => some k_ ≠ (v525 : Value).ownBlock ∧ some k_ ≠ (.slice Ao71 t533.length co71 : Value).ownBlock ∧ some k_ ≠ (.slice Ao82 t539.length co82 : Value).ownBlock ∧ some k_ ≠ (.slice Ao104 t550.length co104 : Value).ownBlock ∧ some k_ ≠ (s_.1 : Value).ownBlock ∧ some k_ ≠ (s_.2.2.1 : Value).ownBlock) (.slice Ao110 t557.length co110) t557) ∧ (Kd.S k101 101 w' w.heap.size (fun k_ => some k_ ≠ (v530 : Value).ownBlock ∧ some k_ ≠ (.slice Ao93 t545.length co93 : Value).ownBlock ∧ some k_ ≠ (s_.2.1 : Value).ownBlock) (.slice Ao115 t563.length co115) t563) ∧ (Kd.S (Kd.slice 98 k98) 99 w' w.heap.size (fun k_ => some k_ ≠ (v525 : Value).ownBlock ∧ some k_ ≠ (.slice Ao71 t533.length co71 : Value).ownBlock ∧ some k_ ≠ (.slice Ao82 t539.length co82 : Value).ownBlock ∧ some k_ ≠ (.slice Ao104 t550.length co104 : Value).ownBlock ∧ some k_ ≠ (.slice Ao110 t557.length co110 : Value).ownBlock ∧ some k_ ≠ (s_.2.2.1 : Value).ownBlock) s_.1 t576) ∧ (Kd.S k101 101 w' w.heap.size (fun k_ => some k_ ≠ (v530 : Value).ownBlock ∧ some k_ ≠ (.slice Ao93 t545.length co93 : Value).ownBlock ∧ some k_ ≠ (.slice Ao115 t563.length co115 : Value).ownBlock) s_.2.1 t581) ∧ (Kd.S (Kd.slice 98 k98) 99 w' w.heap.size (fun k_ => some k_ ≠ (v525 : Value).ownBlock ∧ some k_ ≠ (.slice Ao71 t533.length co71 : Value).ownBlock ∧ some k_ ≠ (.slice Ao82 t539.length co82 : Value).ownBlock ∧ some k_ ≠ (.slice Ao104 t550.length co104 : Value).ownBlock ∧ some k_ ≠ (.slice Ao110 t557.length co110 : Value).ownBlock ∧ some k_ ≠ (s_.1 : Value).ownBlock) s_.2.2.1 t585) ∧ (w'.heap[gb519]? = some (.cells #[.int .i64 a0_0, .slice A0_1 l0_1.length c0_1] 49 (0, 0))) ∧ (w'.heap[gb520]? = some (.cells #[.int .i64 a1_0, .int .i64 a1_1, .slice A1_2 l1_2.length c1_2] 67 (0, 0))) ∧ (w'.heap[gb537]? = some (.cells #[.int .i64 t532, .slice Ao71 t533.length co71] 58 (0, 0))) ∧ (w'.heap[gb542]? = some (.cells #[.int .i64 t538, .slice Ao82 t539.length co82] 58 (0, 0))) ∧ (w'.heap[gb548]? = some (.cells #[.int .i64 t543, .int .i64 t544, .slice Ao93 t545.length co93] 53 (0, 0))) ∧ (w'.heap[gb554]? = some (.cells #[.int .i64 t549, .slice Ao104 t550.length co104] 58 (0, 0))) ∧ (w'.heap[s_.2.2.2]? = some (.cells #[.int .i64 0, .slice none 0 0] 58 (0, 0))) ∧ (w.heap.size ≤ s_.2.2.2) ∧ (w.heap.size ≤ s_.2.2.2) ∧ (gb519 ≠ s_.2.2.2) ∧ (s_.2.2.2 ≠ gb519) ∧ (gb520 ≠ s_.2.2.2) ∧ (s_.2.2.2 ≠ gb520) ∧ (gb537 ≠ s_.2.2.2) ∧ (s_.2.2.2 ≠ gb537) ∧ (gb542 ≠ s_.2.2.2) ∧ (s_.2.2.2 ≠ gb542) ∧ (gb548 ≠ s_.2.2.2) ∧ (s_.2.2.2 ≠ gb548) ∧ (gb554 ≠ s_.2.2.2) ∧ (s_.2.2.2 ≠ gb554) ∧ (Below w.heap.size w w')) ?_ ?_
rotate_left
·(
intro hCont
refine two_ (i := 1) (j := 8) (Ni := some 96) (Nj := some 15) (bm 11 7) (bm 11 261) rfl rfl rfl rfl (two_of HT_.out (by kernel_rfl)) (by decide) (by decide) (fun K hK => ?_) (fun K hK => ?_)
·(
skip
refine goes_ Try.func32 (by kernel_rfl) rfl #[.agg #[.int .i64 a0_0, .slice A0_1 l0_1.length c0_1]] (by rfl) rfl rfl mt ?_
with_reducible refine (laws_toGrid.calls k a0_0 _ _ l0_1 t575 t576 _ ?side1 ?side2 A43.out).mono ?_
(case side1 => exact rc ((Kd.C_below HR0_1.out HB.out)))
(case side2 => exact HC0_1.out)
rintro e w132 ⟨v577, rfl, ho0, hb⟩
refine ⟨_, rfl, ?_⟩
replace HO531 := am (Kd.S_below (Sx_cap (rs HO531)) hb)
replace HO547 := am (Kd.S_below (Sx_cap (rs HO547)) hb)
replace HO565 := am (Kd.S_below (Sx_cap (rs HO565)) hb)
have HO578 := am (Kd.S_lower (Kd.S_new' (Kd.S_new' (Kd.S_new' (Kd.S_new' (Kd.S_new' (Sx_floor ho0) (Kd.S_lt (rs HO526))) (Kd.S_lt (rs HO535))) (Kd.S_lt (rs HO541))) (Kd.S_lt (rs HO552))) (Kd.S_lt (rs HO559))) (below_size (rb6 HB GE519 GE520 GE537 GE542 GE548 GE554)))
replace HO526 := am (Kd.S_elder' (Sx_cap (rs HO526)) (Kd.S_base ho0) hb)
replace HO535 := am (Kd.S_elder' (Sx_cap (rs HO535)) (Kd.S_base ho0) hb)
replace HO541 := am (Kd.S_elder' (Sx_cap (rs HO541)) (Kd.S_base ho0) hb)
replace HO552 := am (Kd.S_elder' (Sx_cap (rs HO552)) (Kd.S_base ho0) hb)
replace HO559 := am (Kd.S_elder' (Sx_cap (rs HO559)) (Kd.S_base ho0) hb)
replace BK519 := am (blk_below (rk BK519) hb)
replace BK520 := am (blk_below (rk BK520) hb)
replace BK537 := am (blk_below (rk BK537) hb)
replace BK542 := am (blk_below (rk BK542) hb)
replace BK548 := am (blk_below (rk BK548) hb)
replace BK554 := am (blk_below (rk BK554) hb)
replace HB := am (below_step (rb6 HB GE519 GE520 GE537 GE542 GE548 GE554) hb)
(try clear hb)
(try clear ho0)
refine hK.out _ _ ⟨(blk_cell BK519.out 0).trans rfl, (blk_cell BK519.out 1).trans rfl, (blk_cell BK520.out 0).trans rfl, (blk_cell BK520.out 1).trans rfl, (blk_cell BK520.out 2).trans rfl⟩ (fun hHeld => ?_)
clear hK K
refine norm_ (a' := _) (show Act.put _ (some 96) _ = _ from na) ?_
refine two_ (i := 3) (j := 8) (Ni := some 98) (Nj := some 15) (bm 11 15) (bm 11 263) rfl rfl rfl rfl (two_of HT_.out (by kernel_rfl)) (by decide) (by decide) (fun K hK => ?_) (fun K hK => ?_)
·(
skip
refine goes_ Try.func41 (by kernel_rfl) rfl #[.agg #[.int .i64 a1_0, .int .i64 a1_1, .slice A1_2 l1_2.length c1_2]] (by rfl) rfl rfl mt ?_
with_reducible refine (laws_toPatch.calls k a1_0 a1_1 _ _ l1_2 t579 t580 t581 _ ?side1 ?side2 A44.out).mono ?_
(case side1 => exact rc ((Kd.C_below HR1_2.out HB.out)))
(case side2 => exact HC1_2.out)
rintro e w134 ⟨v582, rfl, ho0, hb⟩
refine ⟨_, rfl, ?_⟩
replace HO526 := am (Kd.S_below (Sx_cap (rs HO526)) hb)
replace HO535 := am (Kd.S_below (Sx_cap (rs HO535)) hb)
replace HO541 := am (Kd.S_below (Sx_cap (rs HO541)) hb)
replace HO552 := am (Kd.S_below (Sx_cap (rs HO552)) hb)
replace HO559 := am (Kd.S_below (Sx_cap (rs HO559)) hb)
replace HO578 := am (Kd.S_below (Sx_cap (rs HO578)) hb)
have HO583 := am (Kd.S_lower (Kd.S_new' (Kd.S_new' (Kd.S_new' (Sx_floor ho0) (Kd.S_lt (rs HO531))) (Kd.S_lt (rs HO547))) (Kd.S_lt (rs HO565))) (below_size (rb6 HB GE519 GE520 GE537 GE542 GE548 GE554)))
replace HO531 := am (Kd.S_elder' (Sx_cap (rs HO531)) (Kd.S_base ho0) hb)
replace HO547 := am (Kd.S_elder' (Sx_cap (rs HO547)) (Kd.S_base ho0) hb)
replace HO565 := am (Kd.S_elder' (Sx_cap (rs HO565)) (Kd.S_base ho0) hb)
replace BK519 := am (blk_below (rk BK519) hb)
replace BK520 := am (blk_below (rk BK520) hb)
replace BK537 := am (blk_below (rk BK537) hb)
replace BK542 := am (blk_below (rk BK542) hb)
replace BK548 := am (blk_below (rk BK548) hb)
replace BK554 := am (blk_below (rk BK554) hb)
replace HB := am (below_step (rb6 HB GE519 GE520 GE537 GE542 GE548 GE554) hb)
(try clear hb)
(try clear ho0)
obtain ⟨Ao136, co136, eo136⟩ := Kd.S_slice HO578.out
(first | subst eo136 | (injection eo136 with f1_ f2_ f3_; have f4_ := f1_.symm; have f5_ := f3_.symm; clear f1_ f2_ f3_; subst f4_; subst f5_))
obtain ⟨Ao137, co137, eo137⟩ := Kd.S_slice HO583.out
(first | subst eo137 | (injection eo137 with f1_ f2_ f3_; have f4_ := f1_.symm; have f5_ := f3_.symm; clear f1_ f2_ f3_; subst f4_; subst f5_))
refine hK.out _ _ ⟨(blk_cell BK519.out 0).trans rfl, (blk_cell BK519.out 1).trans rfl, (blk_cell BK520.out 0).trans rfl, (blk_cell BK520.out 1).trans rfl, (blk_cell BK520.out 2).trans rfl⟩ (fun hHeld => ?_)
clear hK K
refine norm_ (a' := _) (show Act.put _ (some 98) _ = _ from na) ?_
refine two_ (i := 4) (j := 8) (Ni := some 99) (Nj := some 15) (bm 11 31) (bm 11 271) rfl rfl rfl rfl (two_of HT_.out (by kernel_rfl)) (by decide) (by decide) (fun K hK => ?_) (fun K hK => ?_)
·(
skip
refine goes_ Try.func42 (by kernel_rfl) rfl #[.agg #[.int .i64 t575, .slice Ao136 t576.length co136], .agg #[.int .i64 t579, .int .i64 t580, .slice Ao137 t581.length co137]] (by rfl) rfl rfl mt ?_
with_reducible refine (impl_Patched.calls k t575 _ _ t576 t579 t580 _ _ t581 t584 t585 t588 _ ?side1 ?side2 ?side3 ?side4 A45.out).mono ?_
(case side1 => exact rcs HO578)
(case side2 => exact (Kd.S_reads' HO578.out).2.1)
(case side3 => exact rcs HO583)
(case side4 => exact (Kd.S_reads' HO583.out).2.1)
rintro e w138 ⟨v586, rfl, ho0, hb⟩
refine ⟨_, rfl, ?_⟩
replace HO531 := am (Kd.S_below (Sx_cap (rs HO531)) hb)
replace HO547 := am (Kd.S_below (Sx_cap (rs HO547)) hb)
replace HO565 := am (Kd.S_below (Sx_cap (rs HO565)) hb)
replace HO583 := am (Kd.S_below (Sx_cap (rs HO583)) hb)
have HO587 := am (Kd.S_lower (Kd.S_new' (Kd.S_new' (Kd.S_new' (Kd.S_new' (Kd.S_new' (Kd.S_new' (Sx_floor ho0) (Kd.S_lt (rs HO526))) (Kd.S_lt (rs HO535))) (Kd.S_lt (rs HO541))) (Kd.S_lt (rs HO552))) (Kd.S_lt (rs HO559))) (Kd.S_lt (rs HO578))) (below_size (rb6 HB GE519 GE520 GE537 GE542 GE548 GE554)))
replace HO526 := am (Kd.S_elder' (Sx_cap (rs HO526)) (Kd.S_base ho0) hb)
replace HO535 := am (Kd.S_elder' (Sx_cap (rs HO535)) (Kd.S_base ho0) hb)
replace HO541 := am (Kd.S_elder' (Sx_cap (rs HO541)) (Kd.S_base ho0) hb)
replace HO552 := am (Kd.S_elder' (Sx_cap (rs HO552)) (Kd.S_base ho0) hb)
replace HO559 := am (Kd.S_elder' (Sx_cap (rs HO559)) (Kd.S_base ho0) hb)
replace HO578 := am (Kd.S_elder' (Sx_cap (rs HO578)) (Kd.S_base ho0) hb)
replace BK519 := am (blk_below (rk BK519) hb)
replace BK520 := am (blk_below (rk BK520) hb)
replace BK537 := am (blk_below (rk BK537) hb)
replace BK542 := am (blk_below (rk BK542) hb)
replace BK548 := am (blk_below (rk BK548) hb)
replace BK554 := am (blk_below (rk BK554) hb)
replace HB := am (below_step (rb6 HB GE519 GE520 GE537 GE542 GE548 GE554) hb)
(try clear hb)
(try clear ho0)
refine hK.out _ _ ⟨(blk_cell BK519.out 0).trans rfl, (blk_cell BK519.out 1).trans rfl, (blk_cell BK520.out 0).trans rfl, (blk_cell BK520.out 1).trans rfl, (blk_cell BK520.out 2).trans rfl⟩ (fun hHeld => ?_)
clear hK K
refine norm_ (a' := _) (show Act.put _ (some 99) _ = _ from na) ?_
refine pu_ 5 94 (bm 11 63) HT_.out ?_
refine pu_ 6 100 (bm 11 127) HT_.out ?_
refine pu_ 7 101 (bm 11 255) HT_.out ?_
refine one_ (i := 8) (N := some 15) (bm 11 511) rfl rfl (one_of HT_.out (by kernel_rfl)) (by decide) (fun K hK => ?_)
refine box_step ?hg (N := 15) ?hd (cs := #[.int .i64 0, .slice none 0 0]) (t := 58) ?hr ?_; (case hd => rfl); (case hg => rfl); (case hr => first | (go_simp; done) | (go_simp; rfl))
intro gb589 hg w140 hbox hb
replace HO526 := am (Kd.S_below (rs HO526) hb)
replace HO531 := am (Kd.S_below (rs HO531) hb)
replace HO535 := am (Kd.S_below (rs HO535) hb)
replace HO541 := am (Kd.S_below (rs HO541) hb)
replace HO547 := am (Kd.S_below (rs HO547) hb)
replace HO552 := am (Kd.S_below (rs HO552) hb)
replace HO559 := am (Kd.S_below (rs HO559) hb)
replace HO565 := am (Kd.S_below (rs HO565) hb)
replace HO578 := am (Kd.S_below (rs HO578) hb)
replace HO583 := am (Kd.S_below (rs HO583) hb)
replace HO587 := am (Kd.S_below (rs HO587) hb)
have BK589 := am (hbox)
have GW589 := am (gw hg (rb6 HB GE519 GE520 GE537 GE542 GE548 GE554))
have GE589 := GW589
replace HB := am (below_step (rb6 HB GE519 GE520 GE537 GE542 GE548 GE554) hb)
have NB519_589 := am (nl hg (rk BK519))
have NB589_519 := am (ng hg (rk BK519))
replace BK519 := am (blk_below (rk BK519) hb)
have NB520_589 := am (nl hg (rk BK520))
have NB589_520 := am (ng hg (rk BK520))
replace BK520 := am (blk_below (rk BK520) hb)
have NB537_589 := am (nl hg (rk BK537))
have NB589_537 := am (ng hg (rk BK537))
replace BK537 := am (blk_below (rk BK537) hb)
have NB542_589 := am (nl hg (rk BK542))
have NB589_542 := am (ng hg (rk BK542))
replace BK542 := am (blk_below (rk BK542) hb)
have NB548_589 := am (nl hg (rk BK548))
have NB589_548 := am (ng hg (rk BK548))
replace BK548 := am (blk_below (rk BK548) hb)
have NB554_589 := am (nl hg (rk BK554))
have NB589_554 := am (ng hg (rk BK554))
replace BK554 := am (blk_below (rk BK554) hb)
clear hb hbox hg
refine hK.out _ _ ⟨(blk_cell BK519.out 0).trans rfl, (blk_cell BK519.out 1).trans rfl, (blk_cell BK520.out 0).trans rfl, (blk_cell BK520.out 1).trans rfl, (blk_cell BK520.out 2).trans rfl⟩ (fun hHeld => ?_)
clear hK K
refine norm_ (a' := _) (show Act.put _ (some 15) _ = _ from na) ?_
exact norm_ nz0 (hCont (.slice Ao136 t576.length co136, .slice Ao137 t581.length co137, v586, gb589) _ ⟨hHeld, (rm HO526), (rm HO531), (rm HO535), (rm HO541), (rm HO547), (rm HO552), (rm HO559), (rm HO565), (rm HO578), (rm HO583), (rm HO587), (rk BK519), (rk BK520), (rk BK537), (rk BK542), (rk BK548), (rk BK554), (rk BK589), GW589.out, GE589.out, NB519_589.out, NB589_519.out, NB520_589.out, NB589_520.out, NB537_589.out, NB589_537.out, NB542_589.out, NB589_542.out, NB548_589.out, NB589_548.out, NB554_589.out, NB589_554.out, (rb7 HB GE519 GE520 GE537 GE542 GE548 GE554 GE589)⟩)
)
·(
skip
refine box_step ?hg (N := 15) ?hd (cs := #[.int .i64 0, .slice none 0 0]) (t := 58) ?hr ?_; (case hd => rfl); (case hg => rfl); (case hr => first | (go_simp; done) | (go_simp; rfl))
intro gb589 hg w136 hbox hb
replace HO526 := am (Kd.S_below (rs HO526) hb)
replace HO531 := am (Kd.S_below (rs HO531) hb)
replace HO535 := am (Kd.S_below (rs HO535) hb)
replace HO541 := am (Kd.S_below (rs HO541) hb)
replace HO547 := am (Kd.S_below (rs HO547) hb)
replace HO552 := am (Kd.S_below (rs HO552) hb)
replace HO559 := am (Kd.S_below (rs HO559) hb)
replace HO565 := am (Kd.S_below (rs HO565) hb)
replace HO578 := am (Kd.S_below (rs HO578) hb)
replace HO583 := am (Kd.S_below (rs HO583) hb)
have BK589 := am (hbox)
have GW589 := am (gw hg (rb6 HB GE519 GE520 GE537 GE542 GE548 GE554))
have GE589 := GW589
replace HB := am (below_step (rb6 HB GE519 GE520 GE537 GE542 GE548 GE554) hb)
have NB519_589 := am (nl hg (rk BK519))
have NB589_519 := am (ng hg (rk BK519))
replace BK519 := am (blk_below (rk BK519) hb)
have NB520_589 := am (nl hg (rk BK520))
have NB589_520 := am (ng hg (rk BK520))
replace BK520 := am (blk_below (rk BK520) hb)
have NB537_589 := am (nl hg (rk BK537))
have NB589_537 := am (ng hg (rk BK537))
replace BK537 := am (blk_below (rk BK537) hb)
have NB542_589 := am (nl hg (rk BK542))
have NB589_542 := am (ng hg (rk BK542))
replace BK542 := am (blk_below (rk BK542) hb)
have NB548_589 := am (nl hg (rk BK548))
have NB589_548 := am (ng hg (rk BK548))
replace BK548 := am (blk_below (rk BK548) hb)
have NB554_589 := am (nl hg (rk BK554))
have NB589_554 := am (ng hg (rk BK554))
replace BK554 := am (blk_below (rk BK554) hb)
clear hb hbox hg
obtain ⟨Ao137, co137, eo137⟩ := Kd.S_slice HO578.out
(first | subst eo137 | (injection eo137 with f1_ f2_ f3_; have f4_ := f1_.symm; have f5_ := f3_.symm; clear f1_ f2_ f3_; subst f4_; subst f5_))
obtain ⟨Ao138, co138, eo138⟩ := Kd.S_slice HO583.out
(first | subst eo138 | (injection eo138 with f1_ f2_ f3_; have f4_ := f1_.symm; have f5_ := f3_.symm; clear f1_ f2_ f3_; subst f4_; subst f5_))
refine hK.out _ _ ⟨(blk_cell BK519.out 0).trans rfl, (blk_cell BK519.out 1).trans rfl, (blk_cell BK520.out 0).trans rfl, (blk_cell BK520.out 1).trans rfl, (blk_cell BK520.out 2).trans rfl⟩ (fun hHeld => ?_)
clear hK K
refine norm_ (a' := _) (show Act.put _ (some 15) _ = _ from na) ?_
refine one_ (i := 4) (N := some 99) (bm 11 287) rfl rfl (one_of HT_.out (by kernel_rfl)) (by decide) (fun K hK => ?_)
refine goes_ Try.func42 (by kernel_rfl) rfl #[.agg #[.int .i64 t575, .slice Ao137 t576.length co137], .agg #[.int .i64 t579, .int .i64 t580, .slice Ao138 t581.length co138]] (by rfl) rfl rfl mt ?_
with_reducible refine (impl_Patched.calls k t575 _ _ t576 t579 t580 _ _ t581 t584 t585 t588 _ ?side1 ?side2 ?side3 ?side4 A45.out).mono ?_
(case side1 => exact rcs HO578)
(case side2 => exact (Kd.S_reads' HO578.out).2.1)
(case side3 => exact rcs HO583)
(case side4 => exact (Kd.S_reads' HO583.out).2.1)
rintro e w139 ⟨v586, rfl, ho0, hb⟩
refine ⟨_, rfl, ?_⟩
replace HO531 := am (Kd.S_below (Sx_cap (rs HO531)) hb)
replace HO547 := am (Kd.S_below (Sx_cap (rs HO547)) hb)
replace HO565 := am (Kd.S_below (Sx_cap (rs HO565)) hb)
replace HO583 := am (Kd.S_below (Sx_cap (rs HO583)) hb)
have HO587 := am (Kd.S_lower (Kd.S_new' (Kd.S_new' (Kd.S_new' (Kd.S_new' (Kd.S_new' (Kd.S_new' (Sx_floor ho0) (Kd.S_lt (rs HO526))) (Kd.S_lt (rs HO535))) (Kd.S_lt (rs HO541))) (Kd.S_lt (rs HO552))) (Kd.S_lt (rs HO559))) (Kd.S_lt (rs HO578))) (below_size (rb7 HB GE519 GE520 GE537 GE542 GE548 GE554 GE589)))
replace HO526 := am (Kd.S_elder' (Sx_cap (rs HO526)) (Kd.S_base ho0) hb)
replace HO535 := am (Kd.S_elder' (Sx_cap (rs HO535)) (Kd.S_base ho0) hb)
replace HO541 := am (Kd.S_elder' (Sx_cap (rs HO541)) (Kd.S_base ho0) hb)
replace HO552 := am (Kd.S_elder' (Sx_cap (rs HO552)) (Kd.S_base ho0) hb)
replace HO559 := am (Kd.S_elder' (Sx_cap (rs HO559)) (Kd.S_base ho0) hb)
replace HO578 := am (Kd.S_elder' (Sx_cap (rs HO578)) (Kd.S_base ho0) hb)
replace BK519 := am (blk_below (rk BK519) hb)
replace BK520 := am (blk_below (rk BK520) hb)
replace BK537 := am (blk_below (rk BK537) hb)
replace BK542 := am (blk_below (rk BK542) hb)
replace BK548 := am (blk_below (rk BK548) hb)
replace BK554 := am (blk_below (rk BK554) hb)
replace BK589 := am (blk_below (rk BK589) hb)
replace HB := am (below_step (rb7 HB GE519 GE520 GE537 GE542 GE548 GE554 GE589) hb)
(try clear hb)
(try clear ho0)
refine hK.out _ _ ⟨(blk_cell BK519.out 0).trans rfl, (blk_cell BK519.out 1).trans rfl, (blk_cell BK520.out 0).trans rfl, (blk_cell BK520.out 1).trans rfl, (blk_cell BK520.out 2).trans rfl⟩ (fun hHeld => ?_)
clear hK K
refine norm_ (a' := _) (show Act.put _ (some 99) _ = _ from na) ?_
refine pu_ 5 94 (bm 11 319) HT_.out ?_
refine pu_ 6 100 (bm 11 383) HT_.out ?_
refine pu_ 7 101 (bm 11 511) HT_.out ?_
exact norm_ nz0 (hCont (.slice Ao137 t576.length co137, .slice Ao138 t581.length co138, v586, gb589) _ ⟨hHeld, (rm HO526), (rm HO531), (rm HO535), (rm HO541), (rm HO547), (rm HO552), (rm HO559), (rm HO565), (rm HO578), (rm HO583), (rm HO587), (rk BK519), (rk BK520), (rk BK537), (rk BK542), (rk BK548), (rk BK554), (rk BK589), GW589.out, GE589.out, NB519_589.out, NB589_519.out, NB520_589.out, NB589_520.out, NB537_589.out, NB589_537.out, NB542_589.out, NB589_542.out, NB548_589.out, NB589_548.out, NB554_589.out, NB589_554.out, (rb7 HB GE519 GE520 GE537 GE542 GE548 GE554 GE589)⟩)
)
)
·(
skip
refine box_step ?hg (N := 15) ?hd (cs := #[.int .i64 0, .slice none 0 0]) (t := 58) ?hr ?_; (case hd => rfl); (case hg => rfl); (case hr => first | (go_simp; done) | (go_simp; rfl))
intro gb589 hg w134 hbox hb
replace HO526 := am (Kd.S_below (rs HO526) hb)
replace HO531 := am (Kd.S_below (rs HO531) hb)
replace HO535 := am (Kd.S_below (rs HO535) hb)
replace HO541 := am (Kd.S_below (rs HO541) hb)
replace HO547 := am (Kd.S_below (rs HO547) hb)
replace HO552 := am (Kd.S_below (rs HO552) hb)
replace HO559 := am (Kd.S_below (rs HO559) hb)
replace HO565 := am (Kd.S_below (rs HO565) hb)
replace HO578 := am (Kd.S_below (rs HO578) hb)
have BK589 := am (hbox)
have GW589 := am (gw hg (rb6 HB GE519 GE520 GE537 GE542 GE548 GE554))
have GE589 := GW589
replace HB := am (below_step (rb6 HB GE519 GE520 GE537 GE542 GE548 GE554) hb)
have NB519_589 := am (nl hg (rk BK519))
have NB589_519 := am (ng hg (rk BK519))
replace BK519 := am (blk_below (rk BK519) hb)
have NB520_589 := am (nl hg (rk BK520))
have NB589_520 := am (ng hg (rk BK520))
replace BK520 := am (blk_below (rk BK520) hb)
have NB537_589 := am (nl hg (rk BK537))
have NB589_537 := am (ng hg (rk BK537))
replace BK537 := am (blk_below (rk BK537) hb)
have NB542_589 := am (nl hg (rk BK542))
have NB589_542 := am (ng hg (rk BK542))
replace BK542 := am (blk_below (rk BK542) hb)
have NB548_589 := am (nl hg (rk BK548))
have NB589_548 := am (ng hg (rk BK548))
replace BK548 := am (blk_below (rk BK548) hb)
have NB554_589 := am (nl hg (rk BK554))
have NB589_554 := am (ng hg (rk BK554))
replace BK554 := am (blk_below (rk BK554) hb)
clear hb hbox hg
refine hK.out _ _ ⟨(blk_cell BK519.out 0).trans rfl, (blk_cell BK519.out 1).trans rfl, (blk_cell BK520.out 0).trans rfl, (blk_cell BK520.out 1).trans rfl, (blk_cell BK520.out 2).trans rfl⟩ (fun hHeld => ?_)
clear hK K
refine norm_ (a' := _) (show Act.put _ (some 15) _ = _ from na) ?_
refine one_ (i := 3) (N := some 98) (bm 11 271) rfl rfl (one_of HT_.out (by kernel_rfl)) (by decide) (fun K hK => ?_)
refine goes_ Try.func41 (by kernel_rfl) rfl #[.agg #[.int .i64 a1_0, .int .i64 a1_1, .slice A1_2 l1_2.length c1_2]] (by rfl) rfl rfl mt ?_
with_reducible refine (laws_toPatch.calls k a1_0 a1_1 _ _ l1_2 t579 t580 t581 _ ?side1 ?side2 A44.out).mono ?_
(case side1 => exact rc ((Kd.C_below HR1_2.out HB.out)))
(case side2 => exact HC1_2.out)
rintro e w135 ⟨v582, rfl, ho0, hb⟩
refine ⟨_, rfl, ?_⟩
replace HO526 := am (Kd.S_below (Sx_cap (rs HO526)) hb)
replace HO535 := am (Kd.S_below (Sx_cap (rs HO535)) hb)
replace HO541 := am (Kd.S_below (Sx_cap (rs HO541)) hb)
replace HO552 := am (Kd.S_below (Sx_cap (rs HO552)) hb)
replace HO559 := am (Kd.S_below (Sx_cap (rs HO559)) hb)
replace HO578 := am (Kd.S_below (Sx_cap (rs HO578)) hb)
have HO583 := am (Kd.S_lower (Kd.S_new' (Kd.S_new' (Kd.S_new' (Sx_floor ho0) (Kd.S_lt (rs HO531))) (Kd.S_lt (rs HO547))) (Kd.S_lt (rs HO565))) (below_size (rb7 HB GE519 GE520 GE537 GE542 GE548 GE554 GE589)))
replace HO531 := am (Kd.S_elder' (Sx_cap (rs HO531)) (Kd.S_base ho0) hb)
replace HO547 := am (Kd.S_elder' (Sx_cap (rs HO547)) (Kd.S_base ho0) hb)
replace HO565 := am (Kd.S_elder' (Sx_cap (rs HO565)) (Kd.S_base ho0) hb)
replace BK519 := am (blk_below (rk BK519) hb)
replace BK520 := am (blk_below (rk BK520) hb)
replace BK537 := am (blk_below (rk BK537) hb)
replace BK542 := am (blk_below (rk BK542) hb)
replace BK548 := am (blk_below (rk BK548) hb)
replace BK554 := am (blk_below (rk BK554) hb)
replace BK589 := am (blk_below (rk BK589) hb)
replace HB := am (below_step (rb7 HB GE519 GE520 GE537 GE542 GE548 GE554 GE589) hb)
(try clear hb)
(try clear ho0)
obtain ⟨Ao137, co137, eo137⟩ := Kd.S_slice HO578.out
(first | subst eo137 | (injection eo137 with f1_ f2_ f3_; have f4_ := f1_.symm; have f5_ := f3_.symm; clear f1_ f2_ f3_; subst f4_; subst f5_))
obtain ⟨Ao138, co138, eo138⟩ := Kd.S_slice HO583.out
(first | subst eo138 | (injection eo138 with f1_ f2_ f3_; have f4_ := f1_.symm; have f5_ := f3_.symm; clear f1_ f2_ f3_; subst f4_; subst f5_))
refine hK.out _ _ ⟨(blk_cell BK519.out 0).trans rfl, (blk_cell BK519.out 1).trans rfl, (blk_cell BK520.out 0).trans rfl, (blk_cell BK520.out 1).trans rfl, (blk_cell BK520.out 2).trans rfl⟩ (fun hHeld => ?_)
clear hK K
refine norm_ (a' := _) (show Act.put _ (some 98) _ = _ from na) ?_
refine one_ (i := 4) (N := some 99) (bm 11 287) rfl rfl (one_of HT_.out (by kernel_rfl)) (by decide) (fun K hK => ?_)
refine goes_ Try.func42 (by kernel_rfl) rfl #[.agg #[.int .i64 t575, .slice Ao137 t576.length co137], .agg #[.int .i64 t579, .int .i64 t580, .slice Ao138 t581.length co138]] (by rfl) rfl rfl mt ?_
with_reducible refine (impl_Patched.calls k t575 _ _ t576 t579 t580 _ _ t581 t584 t585 t588 _ ?side1 ?side2 ?side3 ?side4 A45.out).mono ?_
(case side1 => exact rcs HO578)
(case side2 => exact (Kd.S_reads' HO578.out).2.1)
(case side3 => exact rcs HO583)
(case side4 => exact (Kd.S_reads' HO583.out).2.1)
rintro e w139 ⟨v586, rfl, ho0, hb⟩
refine ⟨_, rfl, ?_⟩
replace HO531 := am (Kd.S_below (Sx_cap (rs HO531)) hb)
replace HO547 := am (Kd.S_below (Sx_cap (rs HO547)) hb)
replace HO565 := am (Kd.S_below (Sx_cap (rs HO565)) hb)
replace HO583 := am (Kd.S_below (Sx_cap (rs HO583)) hb)
have HO587 := am (Kd.S_lower (Kd.S_new' (Kd.S_new' (Kd.S_new' (Kd.S_new' (Kd.S_new' (Kd.S_new' (Sx_floor ho0) (Kd.S_lt (rs HO526))) (Kd.S_lt (rs HO535))) (Kd.S_lt (rs HO541))) (Kd.S_lt (rs HO552))) (Kd.S_lt (rs HO559))) (Kd.S_lt (rs HO578))) (below_size (rb7 HB GE519 GE520 GE537 GE542 GE548 GE554 GE589)))
replace HO526 := am (Kd.S_elder' (Sx_cap (rs HO526)) (Kd.S_base ho0) hb)
replace HO535 := am (Kd.S_elder' (Sx_cap (rs HO535)) (Kd.S_base ho0) hb)
replace HO541 := am (Kd.S_elder' (Sx_cap (rs HO541)) (Kd.S_base ho0) hb)
replace HO552 := am (Kd.S_elder' (Sx_cap (rs HO552)) (Kd.S_base ho0) hb)
replace HO559 := am (Kd.S_elder' (Sx_cap (rs HO559)) (Kd.S_base ho0) hb)
replace HO578 := am (Kd.S_elder' (Sx_cap (rs HO578)) (Kd.S_base ho0) hb)
replace BK519 := am (blk_below (rk BK519) hb)
replace BK520 := am (blk_below (rk BK520) hb)
replace BK537 := am (blk_below (rk BK537) hb)
replace BK542 := am (blk_below (rk BK542) hb)
replace BK548 := am (blk_below (rk BK548) hb)
replace BK554 := am (blk_below (rk BK554) hb)
replace BK589 := am (blk_below (rk BK589) hb)
replace HB := am (below_step (rb7 HB GE519 GE520 GE537 GE542 GE548 GE554 GE589) hb)
(try clear hb)
(try clear ho0)
refine hK.out _ _ ⟨(blk_cell BK519.out 0).trans rfl, (blk_cell BK519.out 1).trans rfl, (blk_cell BK520.out 0).trans rfl, (blk_cell BK520.out 1).trans rfl, (blk_cell BK520.out 2).trans rfl⟩ (fun hHeld => ?_)
clear hK K
refine norm_ (a' := _) (show Act.put _ (some 99) _ = _ from na) ?_
refine pu_ 5 94 (bm 11 319) HT_.out ?_
refine pu_ 6 100 (bm 11 383) HT_.out ?_
refine pu_ 7 101 (bm 11 511) HT_.out ?_
exact norm_ nz0 (hCont (.slice Ao137 t576.length co137, .slice Ao138 t581.length co138, v586, gb589) _ ⟨hHeld, (rm HO526), (rm HO531), (rm HO535), (rm HO541), (rm HO547), (rm HO552), (rm HO559), (rm HO565), (rm HO578), (rm HO583), (rm HO587), (rk BK519), (rk BK520), (rk BK537), (rk BK542), (rk BK548), (rk BK554), (rk BK589), GW589.out, GE589.out, NB519_589.out, NB589_519.out, NB520_589.out, NB589_520.out, NB537_589.out, NB589_537.out, NB542_589.out, NB589_542.out, NB548_589.out, NB589_548.out, NB554_589.out, NB589_554.out, (rb7 HB GE519 GE520 GE537 GE542 GE548 GE554 GE589)⟩)
)
)
·(
skip
refine box_step ?hg (N := 15) ?hd (cs := #[.int .i64 0, .slice none 0 0]) (t := 58) ?hr ?_; (case hd => rfl); (case hg => rfl); (case hr => first | (go_simp; done) | (go_simp; rfl))
intro gb589 hg w132 hbox hb
replace HO526 := am (Kd.S_below (rs HO526) hb)
replace HO531 := am (Kd.S_below (rs HO531) hb)
replace HO535 := am (Kd.S_below (rs HO535) hb)
replace HO541 := am (Kd.S_below (rs HO541) hb)
replace HO547 := am (Kd.S_below (rs HO547) hb)
replace HO552 := am (Kd.S_below (rs HO552) hb)
replace HO559 := am (Kd.S_below (rs HO559) hb)
replace HO565 := am (Kd.S_below (rs HO565) hb)
have BK589 := am (hbox)
have GW589 := am (gw hg (rb6 HB GE519 GE520 GE537 GE542 GE548 GE554))
have GE589 := GW589
replace HB := am (below_step (rb6 HB GE519 GE520 GE537 GE542 GE548 GE554) hb)
have NB519_589 := am (nl hg (rk BK519))
have NB589_519 := am (ng hg (rk BK519))
replace BK519 := am (blk_below (rk BK519) hb)
have NB520_589 := am (nl hg (rk BK520))
have NB589_520 := am (ng hg (rk BK520))
replace BK520 := am (blk_below (rk BK520) hb)
have NB537_589 := am (nl hg (rk BK537))
have NB589_537 := am (ng hg (rk BK537))
replace BK537 := am (blk_below (rk BK537) hb)
have NB542_589 := am (nl hg (rk BK542))
have NB589_542 := am (ng hg (rk BK542))
replace BK542 := am (blk_below (rk BK542) hb)
have NB548_589 := am (nl hg (rk BK548))
have NB589_548 := am (ng hg (rk BK548))
replace BK548 := am (blk_below (rk BK548) hb)
have NB554_589 := am (nl hg (rk BK554))
have NB589_554 := am (ng hg (rk BK554))
replace BK554 := am (blk_below (rk BK554) hb)
clear hb hbox hg
refine hK.out _ _ ⟨(blk_cell BK519.out 0).trans rfl, (blk_cell BK519.out 1).trans rfl, (blk_cell BK520.out 0).trans rfl, (blk_cell BK520.out 1).trans rfl, (blk_cell BK520.out 2).trans rfl⟩ (fun hHeld => ?_)
clear hK K
refine norm_ (a' := _) (show Act.put _ (some 15) _ = _ from na) ?_
refine one_ (i := 1) (N := some 96) (bm 11 263) rfl rfl (one_of HT_.out (by kernel_rfl)) (by decide) (fun K hK => ?_)
refine goes_ Try.func32 (by kernel_rfl) rfl #[.agg #[.int .i64 a0_0, .slice A0_1 l0_1.length c0_1]] (by rfl) rfl rfl mt ?_
with_reducible refine (laws_toGrid.calls k a0_0 _ _ l0_1 t575 t576 _ ?side1 ?side2 A43.out).mono ?_
(case side1 => exact rc ((Kd.C_below HR0_1.out HB.out)))
(case side2 => exact HC0_1.out)
rintro e w133 ⟨v577, rfl, ho0, hb⟩
refine ⟨_, rfl, ?_⟩
replace HO531 := am (Kd.S_below (Sx_cap (rs HO531)) hb)
replace HO547 := am (Kd.S_below (Sx_cap (rs HO547)) hb)
replace HO565 := am (Kd.S_below (Sx_cap (rs HO565)) hb)
have HO578 := am (Kd.S_lower (Kd.S_new' (Kd.S_new' (Kd.S_new' (Kd.S_new' (Kd.S_new' (Sx_floor ho0) (Kd.S_lt (rs HO526))) (Kd.S_lt (rs HO535))) (Kd.S_lt (rs HO541))) (Kd.S_lt (rs HO552))) (Kd.S_lt (rs HO559))) (below_size (rb7 HB GE519 GE520 GE537 GE542 GE548 GE554 GE589)))
replace HO526 := am (Kd.S_elder' (Sx_cap (rs HO526)) (Kd.S_base ho0) hb)
replace HO535 := am (Kd.S_elder' (Sx_cap (rs HO535)) (Kd.S_base ho0) hb)
replace HO541 := am (Kd.S_elder' (Sx_cap (rs HO541)) (Kd.S_base ho0) hb)
replace HO552 := am (Kd.S_elder' (Sx_cap (rs HO552)) (Kd.S_base ho0) hb)
replace HO559 := am (Kd.S_elder' (Sx_cap (rs HO559)) (Kd.S_base ho0) hb)
replace BK519 := am (blk_below (rk BK519) hb)
replace BK520 := am (blk_below (rk BK520) hb)
replace BK537 := am (blk_below (rk BK537) hb)
replace BK542 := am (blk_below (rk BK542) hb)
replace BK548 := am (blk_below (rk BK548) hb)
replace BK554 := am (blk_below (rk BK554) hb)
replace BK589 := am (blk_below (rk BK589) hb)
replace HB := am (below_step (rb7 HB GE519 GE520 GE537 GE542 GE548 GE554 GE589) hb)
(try clear hb)
(try clear ho0)
refine hK.out _ _ ⟨(blk_cell BK519.out 0).trans rfl, (blk_cell BK519.out 1).trans rfl, (blk_cell BK520.out 0).trans rfl, (blk_cell BK520.out 1).trans rfl, (blk_cell BK520.out 2).trans rfl⟩ (fun hHeld => ?_)
clear hK K
refine norm_ (a' := _) (show Act.put _ (some 96) _ = _ from na) ?_
refine one_ (i := 3) (N := some 98) (bm 11 271) rfl rfl (one_of HT_.out (by kernel_rfl)) (by decide) (fun K hK => ?_)
refine goes_ Try.func41 (by kernel_rfl) rfl #[.agg #[.int .i64 a1_0, .int .i64 a1_1, .slice A1_2 l1_2.length c1_2]] (by rfl) rfl rfl mt ?_
with_reducible refine (laws_toPatch.calls k a1_0 a1_1 _ _ l1_2 t579 t580 t581 _ ?side1 ?side2 A44.out).mono ?_
(case side1 => exact rc ((Kd.C_below HR1_2.out HB.out)))
(case side2 => exact HC1_2.out)
rintro e w135 ⟨v582, rfl, ho0, hb⟩
refine ⟨_, rfl, ?_⟩
replace HO526 := am (Kd.S_below (Sx_cap (rs HO526)) hb)
replace HO535 := am (Kd.S_below (Sx_cap (rs HO535)) hb)
replace HO541 := am (Kd.S_below (Sx_cap (rs HO541)) hb)
replace HO552 := am (Kd.S_below (Sx_cap (rs HO552)) hb)
replace HO559 := am (Kd.S_below (Sx_cap (rs HO559)) hb)
replace HO578 := am (Kd.S_below (Sx_cap (rs HO578)) hb)
have HO583 := am (Kd.S_lower (Kd.S_new' (Kd.S_new' (Kd.S_new' (Sx_floor ho0) (Kd.S_lt (rs HO531))) (Kd.S_lt (rs HO547))) (Kd.S_lt (rs HO565))) (below_size (rb7 HB GE519 GE520 GE537 GE542 GE548 GE554 GE589)))
replace HO531 := am (Kd.S_elder' (Sx_cap (rs HO531)) (Kd.S_base ho0) hb)
replace HO547 := am (Kd.S_elder' (Sx_cap (rs HO547)) (Kd.S_base ho0) hb)
replace HO565 := am (Kd.S_elder' (Sx_cap (rs HO565)) (Kd.S_base ho0) hb)
replace BK519 := am (blk_below (rk BK519) hb)
replace BK520 := am (blk_below (rk BK520) hb)
replace BK537 := am (blk_below (rk BK537) hb)
replace BK542 := am (blk_below (rk BK542) hb)
replace BK548 := am (blk_below (rk BK548) hb)
replace BK554 := am (blk_below (rk BK554) hb)
replace BK589 := am (blk_below (rk BK589) hb)
replace HB := am (below_step (rb7 HB GE519 GE520 GE537 GE542 GE548 GE554 GE589) hb)
(try clear hb)
(try clear ho0)
obtain ⟨Ao137, co137, eo137⟩ := Kd.S_slice HO578.out
(first | subst eo137 | (injection eo137 with f1_ f2_ f3_; have f4_ := f1_.symm; have f5_ := f3_.symm; clear f1_ f2_ f3_; subst f4_; subst f5_))
obtain ⟨Ao138, co138, eo138⟩ := Kd.S_slice HO583.out
(first | subst eo138 | (injection eo138 with f1_ f2_ f3_; have f4_ := f1_.symm; have f5_ := f3_.symm; clear f1_ f2_ f3_; subst f4_; subst f5_))
refine hK.out _ _ ⟨(blk_cell BK519.out 0).trans rfl, (blk_cell BK519.out 1).trans rfl, (blk_cell BK520.out 0).trans rfl, (blk_cell BK520.out 1).trans rfl, (blk_cell BK520.out 2).trans rfl⟩ (fun hHeld => ?_)
clear hK K
refine norm_ (a' := _) (show Act.put _ (some 98) _ = _ from na) ?_
refine one_ (i := 4) (N := some 99) (bm 11 287) rfl rfl (one_of HT_.out (by kernel_rfl)) (by decide) (fun K hK => ?_)
refine goes_ Try.func42 (by kernel_rfl) rfl #[.agg #[.int .i64 t575, .slice Ao137 t576.length co137], .agg #[.int .i64 t579, .int .i64 t580, .slice Ao138 t581.length co138]] (by rfl) rfl rfl mt ?_
with_reducible refine (impl_Patched.calls k t575 _ _ t576 t579 t580 _ _ t581 t584 t585 t588 _ ?side1 ?side2 ?side3 ?side4 A45.out).mono ?_
(case side1 => exact rcs HO578)
(case side2 => exact (Kd.S_reads' HO578.out).2.1)
(case side3 => exact rcs HO583)
(case side4 => exact (Kd.S_reads' HO583.out).2.1)
rintro e w139 ⟨v586, rfl, ho0, hb⟩
refine ⟨_, rfl, ?_⟩
replace HO531 := am (Kd.S_below (Sx_cap (rs HO531)) hb)
replace HO547 := am (Kd.S_below (Sx_cap (rs HO547)) hb)
replace HO565 := am (Kd.S_below (Sx_cap (rs HO565)) hb)
replace HO583 := am (Kd.S_below (Sx_cap (rs HO583)) hb)
have HO587 := am (Kd.S_lower (Kd.S_new' (Kd.S_new' (Kd.S_new' (Kd.S_new' (Kd.S_new' (Kd.S_new' (Sx_floor ho0) (Kd.S_lt (rs HO526))) (Kd.S_lt (rs HO535))) (Kd.S_lt (rs HO541))) (Kd.S_lt (rs HO552))) (Kd.S_lt (rs HO559))) (Kd.S_lt (rs HO578))) (below_size (rb7 HB GE519 GE520 GE537 GE542 GE548 GE554 GE589)))
replace HO526 := am (Kd.S_elder' (Sx_cap (rs HO526)) (Kd.S_base ho0) hb)
replace HO535 := am (Kd.S_elder' (Sx_cap (rs HO535)) (Kd.S_base ho0) hb)
replace HO541 := am (Kd.S_elder' (Sx_cap (rs HO541)) (Kd.S_base ho0) hb)
replace HO552 := am (Kd.S_elder' (Sx_cap (rs HO552)) (Kd.S_base ho0) hb)
replace HO559 := am (Kd.S_elder' (Sx_cap (rs HO559)) (Kd.S_base ho0) hb)
replace HO578 := am (Kd.S_elder' (Sx_cap (rs HO578)) (Kd.S_base ho0) hb)
replace BK519 := am (blk_below (rk BK519) hb)
replace BK520 := am (blk_below (rk BK520) hb)
replace BK537 := am (blk_below (rk BK537) hb)
replace BK542 := am (blk_below (rk BK542) hb)
replace BK548 := am (blk_below (rk BK548) hb)
replace BK554 := am (blk_below (rk BK554) hb)
replace BK589 := am (blk_below (rk BK589) hb)
replace HB := am (below_step (rb7 HB GE519 GE520 GE537 GE542 GE548 GE554 GE589) hb)
(try clear hb)
(try clear ho0)
refine hK.out _ _ ⟨(blk_cell BK519.out 0).trans rfl, (blk_cell BK519.out 1).trans rfl, (blk_cell BK520.out 0).trans rfl, (blk_cell BK520.out 1).trans rfl, (blk_cell BK520.out 2).trans rfl⟩ (fun hHeld => ?_)
clear hK K
refine norm_ (a' := _) (show Act.put _ (some 99) _ = _ from na) ?_
refine pu_ 5 94 (bm 11 319) HT_.out ?_
refine pu_ 6 100 (bm 11 383) HT_.out ?_
refine pu_ 7 101 (bm 11 511) HT_.out ?_
exact norm_ nz0 (hCont (.slice Ao137 t576.length co137, .slice Ao138 t581.length co138, v586, gb589) _ ⟨hHeld, (rm HO526), (rm HO531), (rm HO535), (rm HO541), (rm HO547), (rm HO552), (rm HO559), (rm HO565), (rm HO578), (rm HO583), (rm HO587), (rk BK519), (rk BK520), (rk BK537), (rk BK542), (rk BK548), (rk BK554), (rk BK589), GW589.out, GE589.out, NB519_589.out, NB589_519.out, NB520_589.out, NB589_520.out, NB537_589.out, NB589_537.out, NB542_589.out, NB589_542.out, NB548_589.out, NB589_548.out, NB554_589.out, NB589_554.out, (rb7 HB GE519 GE520 GE537 GE542 GE548 GE554 GE589)⟩)
)
)
rintro ⟨v577, v582, v586, gb589⟩ w141 ⟨hHeld, h0_, h1_, h2_, h3_, h4_, h5_, h6_, h7_, h8_, h9_, h10_, h11_, h12_, h13_, h14_, h15_, h16_, h17_, h18_, h19_, h20_, h21_, h22_, h23_, h24_, h25_, h26_, h27_, h28_, h29_, h30_, h31_, h32_⟩
(try dsimp only at hHeld h0_ h1_ h2_ h3_ h4_ h5_ h6_ h7_ h8_ h9_ h10_ h11_ h12_ h13_ h14_ h15_ h16_ h17_ h18_ h19_ h20_ h21_ h22_ h23_ h24_ h25_ h26_ h27_ h28_ h29_ h30_ h31_ h32_)
replace HO526 := am h0_; replace HO531 := am h1_; replace HO535 := am h2_; replace HO541 := am h3_; replace HO547 := am h4_; replace HO552 := am h5_; replace HO559 := am h6_; replace HO565 := am h7_; have HO578 := am h8_; have HO583 := am h9_; have HO587 := am h10_; replace BK519 := am h11_; replace BK520 := am h12_; replace BK537 := am h13_; replace BK542 := am h14_; replace BK548 := am h15_; replace BK554 := am h16_; have BK589 := am h17_; have GW589 := am h18_; have GE589 := am h19_; have NB519_589 := am h20_; have NB589_519 := am h21_; have NB520_589 := am h22_; have NB589_520 := am h23_; have NB537_589 := am h24_; have NB589_537 := am h25_; have NB542_589 := am h26_; have NB589_542 := am h27_; have NB548_589 := am h28_; have NB589_548 := am h29_; have NB554_589 := am h30_; have NB589_554 := am h31_; replace HB := am h32_
clear h0_ h1_ h2_ h3_ h4_ h5_ h6_ h7_ h8_ h9_ h10_ h11_ h12_ h13_ h14_ h15_ h16_ h17_ h18_ h19_ h20_ h21_ h22_ h23_ h24_ h25_ h26_ h27_ h28_ h29_ h30_ h31_ h32_
obtain ⟨Ao143, co143, eo143⟩ := Kd.S_slice HO587.out
(first | subst eo143 | (injection eo143 with f1_ f2_ f3_; have f4_ := f1_.symm; have f5_ := f3_.symm; clear f1_ f2_ f3_; subst f4_; subst f5_))
refine norm_ (a' := _) nr ?_
refine one_ (i := 9) (N := none) (bm 11 1023) rfl rfl (one_of HT_.out (by kernel_rfl)) (by decide) (fun K hK => ?_)
have hs142 : w141.cell? ⟨gb589, 0, none⟩ = some (.int .i64 0) := (blk_cell BK589.out 0).trans rfl
have hfs142 := blk_frozen BK589.out 0
have hns142_0 := NB519_589.out
have hns142_1 := NB520_589.out
have hns142_2 := NB537_589.out
have hns142_3 := NB542_589.out
have hns142_4 := NB548_589.out
have hns142_5 := NB554_589.out
have hms142_0 := NB589_519.out
have hms142_1 := NB589_520.out
have hms142_2 := NB589_537.out
have hms142_3 := NB589_542.out
have hms142_4 := NB589_548.out
have hms142_5 := NB589_554.out
have hs144 : w141.cell? ⟨gb589, 1, none⟩ = some (.slice none 0 0) := (blk_cell BK589.out 1).trans rfl
have hfs144 := blk_frozen BK589.out 1
have hns144_0 := NB519_589.out
have hns144_1 := NB520_589.out
have hns144_2 := NB537_589.out
have hns144_3 := NB542_589.out
have hns144_4 := NB548_589.out
have hns144_5 := NB554_589.out
have hms144_0 := NB589_519.out
have hms144_1 := NB589_520.out
have hms144_2 := NB589_537.out
have hms144_3 := NB589_542.out
have hms144_4 := NB589_548.out
have hms144_5 := NB589_554.out
refine skip_ (w1 := ?_) (by rfl) rfl ?_ ?_
rotate_left
·(
go_simp
rfl
)
refine hK.out _ _ ⟨((cell_far (p := ⟨gb589, _, none⟩) NB519_589.out _).trans (((cell_far (p := ⟨gb589, _, none⟩) NB519_589.out _).trans (hHeld.1)))), ((cell_far (p := ⟨gb589, _, none⟩) NB519_589.out _).trans (((cell_far (p := ⟨gb589, _, none⟩) NB519_589.out _).trans (hHeld.2.1)))), ((cell_far (p := ⟨gb589, _, none⟩) NB520_589.out _).trans (((cell_far (p := ⟨gb589, _, none⟩) NB520_589.out _).trans (hHeld.2.2.1)))), ((cell_far (p := ⟨gb589, _, none⟩) NB520_589.out _).trans (((cell_far (p := ⟨gb589, _, none⟩) NB520_589.out _).trans (hHeld.2.2.2.1)))), ((cell_far (p := ⟨gb589, _, none⟩) NB520_589.out _).trans (((cell_far (p := ⟨gb589, _, none⟩) NB520_589.out _).trans (hHeld.2.2.2.2))))⟩ (fun hHeld => ?_)
clear hK K
refine pu_ 10 16 (bm 11 2047) HT_.out ?_
refine done_ (done_of HT_.out (by kernel_rfl)) ?_
have hnb145 := NB589_519.out
have hnc145 := NB519_589.out
have hnb146 := NB589_520.out
have hnc146 := NB520_589.out
have hnb147 := NB589_537.out
have hnc147 := NB537_589.out
have hnb148 := NB589_542.out
have hnc148 := NB542_589.out
have hnb149 := NB589_548.out
have hnc149 := NB548_589.out
have hnb150 := NB589_554.out
have hnc150 := NB554_589.out
have hcz151_0 : w141.cell? ⟨gb589, 0, none⟩ = some (.int .i64 0) := (blk_cell BK589.out 0).trans rfl
have hcz151_1 : w141.cell? ⟨gb589, 1, none⟩ = some (.slice none 0 0) := (blk_cell BK589.out 1).trans rfl
have hfz151_0 := blk_frozen BK589.out 0
have hfz151_1 := blk_frozen BK589.out 1
have hcz152_0 : w141.cell? ⟨gb537, 0, none⟩ = some (.int .i64 t532) := (blk_cell BK537.out 0).trans rfl
have hcz152_1 : w141.cell? ⟨gb537, 1, none⟩ = some (.slice Ao71 t533.length co71) := (blk_cell BK537.out 1).trans rfl
have hfz152_0 := blk_frozen BK537.out 0
have hfz152_1 := blk_frozen BK537.out 1
try go_wp2_with (first | ((with_reducible refine gate_callee (f := 35) rfl ?_); refine gl_ (some 104) Try.func35 #[.agg #[.int .i64 t584, .slice Ao143 t585.length co143], .agg #[.int .i64 t532, .slice Ao71 t533.length co71]] ?_; (with_reducible refine (laws_eqGrid.calls k t584 _ _ t585 t532 _ _ t533 true _ ?side1 ?side2 ?side3 ?side4 A46.out).mono ?_); (case side1 => refine (Kd.S_reads' (e := 99) (base := w.heap.size) (ok := fun k_ => (some k_ ≠ (v525 : Value).ownBlock ∧ (some k_ ≠ (.slice Ao71 t533.length co71 : Value).ownBlock ∧ (some k_ ≠ (.slice Ao82 t539.length co82 : Value).ownBlock ∧ (some k_ ≠ (.slice Ao104 t550.length co104 : Value).ownBlock ∧ (some k_ ≠ (.slice Ao110 t557.length co110 : Value).ownBlock ∧ some k_ ≠ (v577 : Value).ownBlock)))))) (n := t585.length) (c := co143) ?_).2.2; exact (sf2 HO587 BK589)); (case side2 => exact (Kd.S_reads' HO587.out).2.1); (case side3 => refine (Kd.S_reads' (e := 99) (base := w.heap.size) (ok := fun k_ => (some k_ ≠ (v525 : Value).ownBlock ∧ (some k_ ≠ (.slice Ao82 t539.length co82 : Value).ownBlock ∧ (some k_ ≠ (.slice Ao104 t550.length co104 : Value).ownBlock ∧ (some k_ ≠ (.slice Ao110 t557.length co110 : Value).ownBlock ∧ (some k_ ≠ (v577 : Value).ownBlock ∧ some k_ ≠ (.slice Ao143 t585.length co143 : Value).ownBlock)))))) (n := t533.length) (c := co71) ?_).2.2; exact (sf2 HO535 BK589)); (case side4 => exact (Kd.S_reads' HO535.out).2.1); rintro e w153 ⟨rfl, hb⟩; refine ⟨_, rfl, ?_⟩; replace HO526 := am (Kd.S_below (sf2 HO526 BK589) hb); replace HO531 := am (Kd.S_below (sf2 HO531 BK589) hb); replace HO535 := am (Kd.S_below (sf2 HO535 BK589) hb); replace HO541 := am (Kd.S_below (sf2 HO541 BK589) hb); replace HO547 := am (Kd.S_below (sf2 HO547 BK589) hb); replace HO552 := am (Kd.S_below (sf2 HO552 BK589) hb); replace HO559 := am (Kd.S_below (sf2 HO559 BK589) hb); replace HO565 := am (Kd.S_below (sf2 HO565 BK589) hb); replace HO578 := am (Kd.S_below (sf2 HO578 BK589) hb); replace HO583 := am (Kd.S_below (sf2 HO583 BK589) hb); replace HO587 := am (Kd.S_below (sf2 HO587 BK589) hb); replace BK519 := am (blk_below (g := gb519) (o := .cells #[.int .i64 a0_0, .slice A0_1 l0_1.length c0_1] 49 (0, 0)) (rf2 NB519_589 BK519) hb); replace BK520 := am (blk_below (g := gb520) (o := .cells #[.int .i64 a1_0, .int .i64 a1_1, .slice A1_2 l1_2.length c1_2] 67 (0, 0)) (rf2 NB520_589 BK520) hb); replace BK537 := am (blk_below (g := gb537) (o := .cells #[.int .i64 t532, .slice Ao71 t533.length co71] 58 (0, 0)) (rf2 NB537_589 BK537) hb); replace BK542 := am (blk_below (g := gb542) (o := .cells #[.int .i64 t538, .slice Ao82 t539.length co82] 58 (0, 0)) (rf2 NB542_589 BK542) hb); replace BK548 := am (blk_below (g := gb548) (o := .cells #[.int .i64 t543, .int .i64 t544, .slice Ao93 t545.length co93] 53 (0, 0)) (rf2 NB548_589 BK548) hb); replace BK554 := am (blk_below (g := gb554) (o := .cells #[.int .i64 t549, .slice Ao104 t550.length co104] 58 (0, 0)) (rf2 NB554_589 BK554) hb); replace BK589 := am (blk_below (g := gb589) (o := .cells #[.int .i64 t584, .slice Ao143 t585.length co143] 58 (0, 0)) (rp_0_1 BK589) hb); replace HB := am (below_step (rb7 HB GE519 GE520 GE537 GE542 GE548 GE554 GE589) hb); (try clear hb); (try clear hb2); (try clear hk); (try clear hi); have hcz154_0 : w153.cell? ⟨gb554, 0, none⟩ = some (.int .i64 t549) := (blk_cell BK554.out 0).trans rfl; have hcz154_1 : w153.cell? ⟨gb554, 1, none⟩ = some (.slice Ao104 t550.length co104) := (blk_cell BK554.out 1).trans rfl; have hfz154_0 := blk_frozen BK554.out 0; have hfz154_1 := blk_frozen BK554.out 1) | ((with_reducible refine gate_callee (f := 43) rfl ?_); refine goesL_ (some 113) rfl rfl Try.func43 (by kernel_rfl) rfl #[.agg #[.int .i64 t549, .slice Ao104 t573.length co104], .int .i64 1] rfl (by (try simp only [List.map_toArray, List.map_cons, List.map_nil]); first | done | (rw [show t573.length = t550.length from (Kd.S_reads' HO552.out).1.symm] <;> rfl) | rfl | (simp only [List.length_drop, List.length_take]; rfl)) ?_; (with_reducible refine (laws_heldGrid.calls k t549 _ _ t573 1 t591 _ ?side1 ?side2 A49.out).mono ?_); (case side1 => exact rcs HO552); (case side2 => rw [show t573.length = t550.length from (Kd.S_reads' HO552.out).1.symm]; exact (Kd.S_reads' HO552.out).2.1); rintro e w155 ⟨rfl, hb⟩; refine ⟨_, rfl, ?_⟩; replace HO526 := am (Kd.S_below (rs HO526) hb); replace HO531 := am (Kd.S_below (rs HO531) hb); replace HO535 := am (Kd.S_below (rs HO535) hb); replace HO541 := am (Kd.S_below (rs HO541) hb); replace HO547 := am (Kd.S_below (rs HO547) hb); replace HO552 := am (Kd.S_below (rs HO552) hb); replace HO559 := am (Kd.S_below (rs HO559) hb); replace HO565 := am (Kd.S_below (rs HO565) hb); replace HO578 := am (Kd.S_below (rs HO578) hb); replace HO583 := am (Kd.S_below (rs HO583) hb); replace HO587 := am (Kd.S_below (rs HO587) hb); replace BK519 := am (blk_below (rk BK519) hb); replace BK520 := am (blk_below (rk BK520) hb); replace BK537 := am (blk_below (rk BK537) hb); replace BK542 := am (blk_below (rk BK542) hb); replace BK548 := am (blk_below (rk BK548) hb); replace BK554 := am (blk_below (rk BK554) hb); replace BK589 := am (blk_below (rk BK589) hb); replace HB := am (below_step (rb7 HB GE519 GE520 GE537 GE542 GE548 GE554 GE589) hb); (try clear hb); (try clear hb2); (try clear hk); (try clear hi)))
go_ret
exact ⟨by first | rfl | (simp [errW_none, errW_some] <;> rfl) | (simp [*, errW_none, errW_some] <;> rfl), rb7 HB GE519 GE520 GE537 GE542 GE548 GE554 GE589⟩
)
)
all_goals (
go_enter Try.func6, Try.ntmps6
go_wp2_with (first | ((with_reducible refine gate_dst (N := 2) rfl ?_); refine box_event ?hg (N := 2) ?hd (cs := #[.int .i64 a0_0, .slice A0_1 l0_1.length c0_1]) (t := 49) ?hr ?_; (case hd => rfl); (case hg => rfl); (case hr => first | (go_simp; done) | (go_simp; rfl)); intro gb519 hg w12 hbox hb; have BK519 := am (hbox); have GW519 := am (gw hg (rb HB)); have GE519 := GW519; replace HB := am (below_step (rb HB) hb); clear hb hbox hg) | ((with_reducible refine gate_dst (N := 3) rfl ?_); refine box_event ?hg (N := 3) ?hd (cs := #[.int .i64 a1_0, .int .i64 a1_1, .slice A1_2 l1_2.length c1_2]) (t := 67) ?hr ?_; (case hd => rfl); (case hg => rfl); (case hr => first | (go_simp; done) | (go_simp; rfl)); intro gb520 hg w13 hbox hb; have BK520 := am (hbox); have GW520 := am (gw hg (rb1 HB GE519)); have GE520 := GW520; replace HB := am (below_step (rb1 HB GE519) hb); have NB519_520 := am (nl hg (rk BK519)); have NB520_519 := am (ng hg (rk BK519)); replace BK519 := am (blk_below (rk BK519) hb); clear hb hbox hg; have hnb14 := NB519_520.out; have hnc14 := NB520_519.out; have hcz15_0 : w13.cell? ⟨gb519, 0, none⟩ = some (.int .i64 a0_0) := (blk_cell BK519.out 0).trans rfl; have hcz15_1 : w13.cell? ⟨gb519, 1, none⟩ = some (.slice A0_1 l0_1.length c0_1) := (blk_cell BK519.out 1).trans rfl; have hfz15_0 := blk_frozen BK519.out 0; have hfz15_1 := blk_frozen BK519.out 1) | ((with_reducible refine gate_callee (f := 30) rfl ?_); refine gl_ (some 19) Try.func30 #[.agg #[.int .i64 a0_0, .slice A0_1 l0_1.length c0_1], .int .i64 1048576] ?_; (with_reducible refine (laws_szGrid.calls k a0_0 _ _ l0_1 1048576 t521 _ ?side1 ?side2 A3.out).mono ?_); (case side1 => exact rc ((Kd.C_below HR0_1.out HB.out))); (case side2 => exact HC0_1.out); rintro e w16 ⟨rfl, hb⟩; refine ⟨_, rfl, ?_⟩; replace BK519 := am (blk_below (rk BK519) hb); replace BK520 := am (blk_below (rk BK520) hb); replace HB := am (below_step (rb2 HB GE519 GE520) hb); (try clear hb); (try clear hb2); (try clear hk); (try clear hi); have hcz17_0 : w16.cell? ⟨gb520, 0, none⟩ = some (.int .i64 a1_0) := (blk_cell BK520.out 0).trans rfl; have hcz17_1 : w16.cell? ⟨gb520, 1, none⟩ = some (.int .i64 a1_1) := (blk_cell BK520.out 1).trans rfl; have hcz17_2 : w16.cell? ⟨gb520, 2, none⟩ = some (.slice A1_2 l1_2.length c1_2) := (blk_cell BK520.out 2).trans rfl; have hfz17_0 := blk_frozen BK520.out 0; have hfz17_1 := blk_frozen BK520.out 1; have hfz17_2 := blk_frozen BK520.out 2) | ((with_reducible refine gate_callee (f := 39) rfl ?_); refine gl_ (some 24) Try.func39 #[.agg #[.int .i64 a1_0, .int .i64 a1_1, .slice A1_2 l1_2.length c1_2], .int .i64 t521] ?_; (with_reducible refine (laws_szPatch.calls k a1_0 a1_1 _ _ l1_2 t521 t522 _ ?side1 ?side2 A10.out).mono ?_); (case side1 => exact rc ((Kd.C_below HR1_2.out HB.out))); (case side2 => exact HC1_2.out); rintro e w18 ⟨rfl, hb⟩; refine ⟨_, rfl, ?_⟩; replace BK519 := am (blk_below (rk BK519) hb); replace BK520 := am (blk_below (rk BK520) hb); replace HB := am (below_step (rb2 HB GE519 GE520) hb); (try clear hb); (try clear hb2); (try clear hk); (try clear hi)))
go_ret
exact ⟨by first | rfl | (simp [errW_none, errW_some] <;> rfl) | (simp [*, errW_none, errW_some] <;> rfl), rb2 HB GE519 GE520⟩
)
)
all_goals (
go_enter Try.func6, Try.ntmps6
go_wp2_with (first | ((with_reducible refine gate_dst (N := 2) rfl ?_); refine box_event ?hg (N := 2) ?hd (cs := #[.int .i64 a0_0, .slice A0_1 l0_1.length c0_1]) (t := 49) ?hr ?_; (case hd => rfl); (case hg => rfl); (case hr => first | (go_simp; done) | (go_simp; rfl)); intro gb519 hg w5 hbox hb; have BK519 := am (hbox); have GW519 := am (gw hg (rb HB)); have GE519 := GW519; replace HB := am (below_step (rb HB) hb); clear hb hbox hg) | ((with_reducible refine gate_dst (N := 3) rfl ?_); refine box_event ?hg (N := 3) ?hd (cs := #[.int .i64 a1_0, .int .i64 a1_1, .slice A1_2 l1_2.length c1_2]) (t := 67) ?hr ?_; (case hd => rfl); (case hg => rfl); (case hr => first | (go_simp; done) | (go_simp; rfl)); intro gb520 hg w6 hbox hb; have BK520 := am (hbox); have GW520 := am (gw hg (rb1 HB GE519)); have GE520 := GW520; replace HB := am (below_step (rb1 HB GE519) hb); have NB519_520 := am (nl hg (rk BK519)); have NB520_519 := am (ng hg (rk BK519)); replace BK519 := am (blk_below (rk BK519) hb); clear hb hbox hg; have hnb7 := NB519_520.out; have hnc7 := NB520_519.out; have hcz8_0 : w6.cell? ⟨gb519, 0, none⟩ = some (.int .i64 a0_0) := (blk_cell BK519.out 0).trans rfl; have hcz8_1 : w6.cell? ⟨gb519, 1, none⟩ = some (.slice A0_1 l0_1.length c0_1) := (blk_cell BK519.out 1).trans rfl; have hfz8_0 := blk_frozen BK519.out 0; have hfz8_1 := blk_frozen BK519.out 1) | ((with_reducible refine gate_callee (f := 30) rfl ?_); refine gl_ (some 19) Try.func30 #[.agg #[.int .i64 a0_0, .slice A0_1 l0_1.length c0_1], .int .i64 1048576] ?_; (with_reducible refine (laws_szGrid.calls k a0_0 _ _ l0_1 1048576 t521 _ ?side1 ?side2 A3.out).mono ?_); (case side1 => exact rc ((Kd.C_below HR0_1.out HB.out))); (case side2 => exact HC0_1.out); rintro e w9 ⟨rfl, hb⟩; refine ⟨_, rfl, ?_⟩; replace BK519 := am (blk_below (rk BK519) hb); replace BK520 := am (blk_below (rk BK520) hb); replace HB := am (below_step (rb2 HB GE519 GE520) hb); (try clear hb); (try clear hb2); (try clear hk); (try clear hi)))
go_ret
exact ⟨by first | rfl | (simp [errW_none, errW_some] <;> rfl) | (simp [*, errW_none, errW_some] <;> rfl), rb2 HB GE519 GE520⟩
)
)

end Go.Proofs.Ytalopdcephohgaa.RC
