/- Contracts of Go functions that laws of this seat reach: each Lean function answers as its Go function does. No condition. Written by wip/tools/inj.py, over the kit's print. -/
import Derived.Test.YtalopdcephohgaaRDx0
import Derived.Test.YtalopdcephohgaaRDx1
import Derived.Test.YtalopdcephohgaaRDx3
namespace Go.Proofs.Ytalopdcephohgaa.RD
open Go.RowKit Go.Proofs.YtalopdcephohgaaW.PrintWords Go.Proofs.YtalopdcephohgaaW.PrintLast Go.Proofs.YtalopdcephohgaaW.PrintMore
attribute [local go_sem] max2_int min2_int max_two min_two max_three min_three max_four min_four   -- for this text's walks alone
set_option linter.unusedVariables false
set_option linter.unusedSimpArgs false

attribute [local go_sem high] eqA96
/-! ### spec_RowOk: function 96 -/
mutual
def spec_RowOk.j0 : Nat → List (S98) → Int → Bool → Option (Bool)
 | 0, _, _, _ => none
 | k + 1, x0, x3, a8 => if a8 = true then (some false) else (spec_RowOk.l0 k x0 x3 0)
def spec_RowOk.l0 : Nat → List (S98) → Int → Int → Option (Bool)
 | 0, _, _, _ => none
 | k + 1, x0, x3, x4 => if x4 < x3 then (if 0 ≤ x4 then (if x4 < (x0.length : Int) then ((spec_StyleOk.f ((rd_T98 x0 x4).f1.f0) ((rd_T98 x0 x4).f1.f1) ((rd_T98 x0 x4).f1.f2) ((rd_T98 x0 x4).f1.f3) ((rd_T98 x0 x4).f1.f4)).bind fun a8 => (if a8 = true then (if ((rd_T98 x0 x4).f2) = 0 then ((spec_Width.f k ((rd_T98 x0 x4).f0)).bind fun a9 => (if a9 = 1 then (spec_RowOk.l0 k x0 x3 (wrap64 (x4 + 1))) else (some false))) else (if ((rd_T98 x0 x4).f2) = 1 then ((spec_Width.f k ((rd_T98 x0 x4).f0)).bind fun aa => (if aa = 2 then (if (wrap64 (x4 + 1)) = x3 then (some false) else (if 0 ≤ (wrap64 (x4 + 1)) then (if (wrap64 (x4 + 1)) < (x0.length : Int) then (if ((rd_T98 x0 (wrap64 (x4 + 1))).f2) = 2 then (if (!(((rd_T98 x0 (wrap64 (x4 + 1))).f1.f0) == ((rd_T98 x0 x4).f1.f0)) || (!(((rd_T98 x0 (wrap64 (x4 + 1))).f1.f1) == ((rd_T98 x0 x4).f1.f1)) || (!(((rd_T98 x0 (wrap64 (x4 + 1))).f1.f2) == ((rd_T98 x0 x4).f1.f2)) || (!(((rd_T98 x0 (wrap64 (x4 + 1))).f1.f3) == ((rd_T98 x0 x4).f1.f3)) || (!(((rd_T98 x0 (wrap64 (x4 + 1))).f1.f4) == ((rd_T98 x0 x4).f1.f4))))))) = true then (some false) else (spec_RowOk.l0 k x0 x3 (wrap64 (x4 + 1)))) else (some false)) else (none)) else (none))) else (some false))) else (if ((rd_T98 x0 x4).f2) = 2 then (if ((rd_T98 x0 x4).f0) = 0 then (if x4 = 0 then (some false) else (if 0 ≤ (wrap64 (x4 - 1)) then (if (wrap64 (x4 - 1)) < (x0.length : Int) then (if ((rd_T98 x0 (wrap64 (x4 - 1))).f2) = 1 then (spec_RowOk.l0 k x0 x3 (wrap64 (x4 + 1))) else (some false)) else (none)) else (none))) else (some false)) else (some false)))) else (some false))) else (none)) else (none)) else (some true)
end
def spec_RowOk.f (k : Nat) (l0 : List (S98)) : Option (Bool) := if (l0.length : Int) < 1 then (spec_RowOk.j0 k l0 (l0.length : Int) true) else (spec_RowOk.j0 k l0 (l0.length : Int) (decide ((l0.length : Int) > 60)))
theorem spec_RowOk.mono_l : ∀ k, (∀ y0 y1 y2, LeO (spec_RowOk.j0 k y0 y1 y2) (spec_RowOk.j0 (k + 1) y0 y1 y2)) ∧ (∀ y0 y1 y2, LeO (spec_RowOk.l0 k y0 y1 y2) (spec_RowOk.l0 (k + 1) y0 y1 y2))
 | 0 => ⟨fun _ _ _ r h => by simp [spec_RowOk.j0] at h, fun _ _ _ r h => by simp [spec_RowOk.l0] at h⟩
 | k + 1 => by
  obtain ⟨ih0, ih1⟩ := spec_RowOk.mono_l k
  refine ⟨?_, ?_⟩
  ·intro y0 y1 y2
   unfold spec_RowOk.j0
   repeat' first
   | (with_reducible exact ih0 _ _ _)
   | (with_reducible exact ih1 _ _ _)
   | (with_reducible exact spec_Width.mono _ _)
   | (with_reducible exact LeO.refl _)
   | (with_reducible exact LeO.none _)
   | (with_reducible refine LeO.ite ?_ ?_)
   | (with_reducible refine LeO.bind ?_ (fun _ => ?_))
  ·intro y0 y1 y2
   unfold spec_RowOk.l0
   repeat' first
   | (with_reducible exact ih0 _ _ _)
   | (with_reducible exact ih1 _ _ _)
   | (with_reducible exact spec_Width.mono _ _)
   | (with_reducible exact LeO.refl _)
   | (with_reducible exact LeO.none _)
   | (with_reducible refine LeO.ite ?_ ?_)
   | (with_reducible refine LeO.bind ?_ (fun _ => ?_))
theorem spec_RowOk.mono : ∀ a0 k, LeO (spec_RowOk.f k a0) (spec_RowOk.f (k + 1) a0) := by
 intro a0 k
 obtain ⟨ih0, ih1⟩ := spec_RowOk.mono_l k
 unfold spec_RowOk.f
 repeat' first
   | (with_reducible exact ih0 _ _ _)
   | (with_reducible exact ih1 _ _ _)
   | (with_reducible exact spec_Width.mono _ _)
   | (with_reducible exact LeO.refl _)
   | (with_reducible exact LeO.none _)
   | (with_reducible refine LeO.ite ?_ ?_)
   | (with_reducible refine LeO.bind ?_ (fun _ => ?_))
def spec_RowOk.T16 : Bool × List (List Nat × List Nat) := (true, [([], []), ([0], [0]), ([1], [1]), ([2], [2]), ([3, 2], [3]), ([4], [4]), ([5, 4], [4, 5]), ([4], [4]), ([6, 7, 4], [4, 6, 7]), ([4, 8], [4, 8]), ([9, 4], [9]), ([10], [10]), ([10], [10]), ([12, 10], [10, 12]), ([11, 13, 10], [10, 11, 13]), ([14, 10], [10, 14]), ([15, 10], [10, 15]), ([16, 10], [10, 16]), ([10, 17], [10, 17]), ([18, 10], [18]), ([19], [19]), ([19], [19]), ([21, 19], [19, 21]), ([20, 22, 19], [19, 20, 22]), ([23, 19], [19, 23]), ([24, 19], [19, 24]), ([19], [19]), ([26, 19], [19, 26]), ([25, 27, 19], [19, 25, 27]), ([19, 28], [19, 28])])
def spec_RowOk.B16 : List Nat := [0, 1, 3, 7, 15, 31, 63, 31, 255, 511, 1023, 2047, 2047, 6143, 16383, 32767, 65535, 131071, 262143, 524287, 1048575, 1048575, 3145727, 8388607, 16777215, 33554431, 1048575, 68157439, 268435455, 536870911]
theorem spec_RowOk.tab16 : rtab .any (opsOf Try.f96 16) = spec_RowOk.T16 := by kernel_rfl
theorem spec_RowOk.bits16 : waitsOk spec_RowOk.T16.2 spec_RowOk.B16 = true := by kernel_rfl
set_option maxHeartbeats 8000000 in
set_option maxRecDepth 100000 in
theorem spec_RowOk.calls (k : Nat) (A0 : Option Addr) (c0 : Nat) (l0 : List (S98)) (r : Bool) (w : World) (cD : Kd.C k98 w A0 l0.length l0) (cC : l0.length ≤ c0) (h : spec_RowOk.f k l0 = some r) :
  Calls Try.prog 96 #[.slice A0 l0.length c0] w fun e w' => e = .returned (.bool r) ∧ Below w.heap.size w w' := by
 (
have dE := Try.underlying98
have dD := Try.underlying96
have bh := am cD
have dM := am cC
clear cD cC
have HB := am (Below.refl w.heap.size w)
have H := h
unfold spec_RowOk.f at H
clear h
have bP := am H
clear H
go_enter Try.func96, Try.ntmps96
go_upto_region 2 with (fail)
go_cut [13] (fun dv wc => ∃ (kq : Nat) (b8 : Bool), dv = .bool b8 ∧ Aside0 (spec_RowOk.j0 kq l0 (l0.length : Int) b8 = some r) ∧ Aside0 (kq ≤ k) ∧ Aside0 (Below w.heap.size w wc))
case first => (
have H := bP.out
clear bP
by_cases c3 : (l0.length : Int) < 1
·(
rw [if_pos c3] at H
have bb : decide ((l0.length : Int) < 1) = true := decide_eq_true c3
have cF : decide (l0.length < 1) = true := decide_eq_true (by omega)
clear c3
(first | rw [bb] | (simp only [i64_w, i32_w]; rw [bb]) | skip)
have H' := am H
clear H
go_wp2
go_meet
case rel => exact ⟨_, (true), sd, H', ⟨by first | omega | exact Nat.le_refl _⟩, ⟨rb HB⟩⟩
)
·(
rw [if_neg c3] at H
have bb : decide ((l0.length : Int) < 1) = false := decide_eq_false c3
have cF : decide (l0.length < 1) = false := decide_eq_false (by omega)
clear c3
(first | rw [bb] | (simp only [i64_w, i32_w]; rw [bb]) | skip)
have H' := am H
clear H
go_wp2
go_meet
case rel => exact ⟨_, (decide ((l0.length : Int) > 60)), sd, H', ⟨by first | omega | exact Nat.le_refl _⟩, ⟨rb HB⟩⟩
)
)
case rest => (
clear bP
obtain ⟨kq, b8, rfl, HA, bf, HB⟩ := hcut
cases kq with
| zero => exact absurd HA.out (by simp [spec_RowOk.j0])
| succ cE => (
have H := HA.out
clear HA
simp only [spec_RowOk.j0] at H
by_cases c4 : b8 = true
·(
subst c4
have H1 : (some false) = some r := by rw [if_pos rfl] at H; exact H
clear H
have H := H1
clear H1
obtain rfl := Option.some.inj H
go_wp2
go_ret
exact ⟨ew, rb HB⟩
)
·(
replace c4 := Bool.eq_false_iff.mpr c4
subst c4
rw [if_neg (show ¬ (false = true) by decide)] at H
have H' := am H
clear H
go_wp2
go_loopg [4] cE (fun kq v4 w' => ∃ (a8 : Int), v4 = .int .i64 a8 ∧ Aside0 (spec_RowOk.l0 kq l0 (l0.length : Int) a8 = some r) ∧ Aside0 (kq ≤ cE) ∧ Aside0 (Below w.heap.size w w'))
case atStart => exact ⟨(0), sd, H', ⟨Nat.le_refl _⟩, ⟨rb HB⟩⟩
case round => (
clear H'
try clear c4
obtain ⟨a8, rfl, HA, bg, HB⟩ := hrel
cases gk with
| zero => exact absurd HA.out (by simp [spec_RowOk.l0])
| succ k2 => (
have H := HA.out
clear HA
simp only [spec_RowOk.l0] at H
by_cases c5 : a8 < (l0.length : Int)
·(
rw [if_pos c5] at H
have cG : decide (a8 < (l0.length : Int)) = true := decide_eq_true c5
clear c5
refine em_ (p := 0 ≤ a8) (fun c6 => ?cX) (fun c6 => ?cW)
case' cX => (
rw [if_pos c6] at H
have dB : decide (0 ≤ a8) = true := decide_eq_true c6
clear c6
refine em_ (p := a8 < (l0.length : Int)) (fun c7 => ?cV) (fun c7 => ?cU)
case' cV => (
rw [if_pos c7] at H
have dC : decide (a8 < (l0.length : Int)) = true := decide_eq_true c7
clear c7
obtain ⟨d6, A8, H⟩ := bd H
(try dsimp only at H)
refine em_ (p := d6 = true) (fun c9 => ?cT) (fun c9 => ?cS)
case' cT => (
subst c9
rw [if_pos rfl] at H
refine em_ (p := ((rd_T98 l0 a8).f2) = 0) (fun aV => ?cR) (fun aV => ?cQ)
case' cR => (
rw [if_pos aV] at H
have bU : (((rd_T98 l0 a8).f2) == 0) = true := beq_iff_eq.mpr aV
have bV : (((rd_T98 l0 a8).f2) != 0) = false := bne_eq_false_iff_eq.mpr aV
clear aV
obtain ⟨aT, d7, H⟩ := bd H
(try dsimp only at H)
refine em_ (p := aT = 1) (fun aW => ?d9) (fun aW => ?d8)
case' d9 => (
rw [if_pos aW] at H
have bW : (aT == 1) = true := beq_iff_eq.mpr aW
have bX : (aT != 1) = false := bne_eq_false_iff_eq.mpr aW
clear aW
have H' := am H
clear H
have cY := trivial
)
case' d8 => (
rw [if_neg aW] at H
have bW : (aT == 1) = false := beq_eq_false_iff_ne.mpr aW
have bX : (aT != 1) = true := bne_iff_ne.mpr aW
obtain rfl := Option.some.inj H
have cZ := trivial
)
)
case cQ => (
rw [if_neg aV] at H
have bU : (((rd_T98 l0 a8).f2) == 0) = false := beq_eq_false_iff_ne.mpr aV
have bV : (((rd_T98 l0 a8).f2) != 0) = true := bne_iff_ne.mpr aV
by_cases b9 : ((rd_T98 l0 a8).f2) = 1
·(
rw [if_pos b9] at H
have bY : (((rd_T98 l0 a8).f2) == 1) = true := beq_iff_eq.mpr b9
have bZ : (((rd_T98 l0 a8).f2) != 1) = false := bne_eq_false_iff_eq.mpr b9
clear b9
obtain ⟨aU, cB, H⟩ := bd H
(try dsimp only at H)
refine em_ (p := aU = 2) (fun aX => ?dm) (fun aX => ?dk)
case' dm => (
rw [if_pos aX] at H
have ca : (aU == 2) = true := beq_iff_eq.mpr aX
have cb : (aU != 2) = false := bne_eq_false_iff_eq.mpr aX
clear aX
refine em_ (p := (wrap64 (a8 + 1)) = (l0.length : Int)) (fun aY => ?dj) (fun aY => ?di)
case' dj => (
rw [if_pos aY] at H
have bM : ((wrap64 (a8 + 1)) == (l0.length : Int)) = true := beq_iff_eq.mpr aY
have bN : ((wrap64 (a8 + 1)) != (l0.length : Int)) = false := bne_eq_false_iff_eq.mpr aY
clear aY
obtain rfl := Option.some.inj H
have d3 := trivial
)
case' di => (
rw [if_neg aY] at H
have bM : ((wrap64 (a8 + 1)) == (l0.length : Int)) = false := beq_eq_false_iff_ne.mpr aY
have bN : ((wrap64 (a8 + 1)) != (l0.length : Int)) = true := bne_iff_ne.mpr aY
obtain ⟨a9, ap⟩ : ∃ j_ : Int, (wrap64 (a8 + 1)) = j_ := ⟨_, rfl⟩
replace H : (if 0 ≤ (a9) then (if (a9) < (l0.length : Int) then (if ((rd_T98 l0 (a9)).f2) = 2 then (if (!(((rd_T98 l0 (a9)).f1.f0) == ((rd_T98 l0 a8).f1.f0)) || (!(((rd_T98 l0 (a9)).f1.f1) == ((rd_T98 l0 a8).f1.f1)) || (!(((rd_T98 l0 (a9)).f1.f2) == ((rd_T98 l0 a8).f1.f2)) || (!(((rd_T98 l0 (a9)).f1.f3) == ((rd_T98 l0 a8).f1.f3)) || (!(((rd_T98 l0 (a9)).f1.f4) == ((rd_T98 l0 a8).f1.f4))))))) = true then (some false) else (spec_RowOk.l0 k2 l0 (l0.length : Int) a9)) else (some false)) else (none)) else (none)) = some r := by first | (rw [ap] at H; exact H) | (simp only [ap] at H ⊢; exact H)
(try rw [ap] at bM)
(try rw [ap] at bN)
(try rw [ap] at A8)
(try rw [ap] at cB)
have hji30w : (IntKind.i64.wrap (a8 + 1)) = a9 := (i64_w _).trans ap
refine em_ (p := 0 ≤ (a9)) (fun bB => ?dh) (fun bB => ?dg)
case' dh => (
rw [if_pos bB] at H
have dx : decide (0 ≤ (a9)) = true := decide_eq_true bB
clear bB
refine em_ (p := (a9) < (l0.length : Int)) (fun bC => ?df) (fun bC => ?de)
case' df => (
rw [if_pos bC] at H
have dy : decide ((a9) < (l0.length : Int)) = true := decide_eq_true bC
clear bC
refine em_ (p := ((rd_T98 l0 (a9)).f2) = 2) (fun aZ => ?dd) (fun aZ => ?dc)
case' dd => (
rw [if_pos aZ] at H
have cd : (((rd_T98 l0 (a9)).f2) == 2) = true := beq_iff_eq.mpr aZ
have ce : (((rd_T98 l0 (a9)).f2) != 2) = false := bne_eq_false_iff_eq.mpr aZ
clear aZ
refine em_ (p := (!(((rd_T98 l0 (a9)).f1.f0) == ((rd_T98 l0 a8).f1.f0)) || (!(((rd_T98 l0 (a9)).f1.f1) == ((rd_T98 l0 a8).f1.f1)) || (!(((rd_T98 l0 (a9)).f1.f2) == ((rd_T98 l0 a8).f1.f2)) || (!(((rd_T98 l0 (a9)).f1.f3) == ((rd_T98 l0 a8).f1.f3)) || (!(((rd_T98 l0 (a9)).f1.f4) == ((rd_T98 l0 a8).f1.f4))))))) = true) (fun ba => ?db) (fun ba => ?da)
case' db => (
rw [if_pos ba] at H
have cf : (!(((rd_T98 l0 (a9)).f1.f0) == ((rd_T98 l0 a8).f1.f0)) || (!(((rd_T98 l0 (a9)).f1.f1) == ((rd_T98 l0 a8).f1.f1)) || (!(((rd_T98 l0 (a9)).f1.f2) == ((rd_T98 l0 a8).f1.f2)) || (!(((rd_T98 l0 (a9)).f1.f3) == ((rd_T98 l0 a8).f1.f3)) || (!(((rd_T98 l0 (a9)).f1.f4) == ((rd_T98 l0 a8).f1.f4))))))) = true := ba
clear ba
obtain rfl := Option.some.inj H
have d4 := trivial
)
case' da => (
rw [if_neg ba] at H
have cf : (!(((rd_T98 l0 (a9)).f1.f0) == ((rd_T98 l0 a8).f1.f0)) || (!(((rd_T98 l0 (a9)).f1.f1) == ((rd_T98 l0 a8).f1.f1)) || (!(((rd_T98 l0 (a9)).f1.f2) == ((rd_T98 l0 a8).f1.f2)) || (!(((rd_T98 l0 (a9)).f1.f3) == ((rd_T98 l0 a8).f1.f3)) || (!(((rd_T98 l0 (a9)).f1.f4) == ((rd_T98 l0 a8).f1.f4))))))) = false := by simpa using ba
clear ba
have H' := am H
clear H
have d5 := trivial
)
)
case' dc => (
rw [if_neg aZ] at H
have cd : (((rd_T98 l0 (a9)).f2) == 2) = false := beq_eq_false_iff_ne.mpr aZ
have ce : (((rd_T98 l0 (a9)).f2) != 2) = true := bne_iff_ne.mpr aZ
obtain rfl := Option.some.inj H
have cq := trivial
)
)
case de => (
rw [if_neg bC] at H
exact absurd H (by simp)
)
)
case dg => (
rw [if_neg bB] at H
exact absurd H (by simp)
)
)
)
case' dk => (
rw [if_neg aX] at H
have ca : (aU == 2) = false := beq_eq_false_iff_ne.mpr aX
have cb : (aU != 2) = true := bne_iff_ne.mpr aX
obtain rfl := Option.some.inj H
have ct := trivial
)
all_goals (
have aq : 0 ≤ (a8 : Int) := dt_
have au : a8 < (l0.length : Int) := dt_
obtain ⟨ac, bc, ag, ah, ai, aj, ak, al, ao⟩ := at_T98 bh.out a8 aq au
cases bc
replace ag := mv HB.out ag
replace ah := mv HB.out ah
replace ai := mv HB.out ai
replace aj := mv HB.out aj
replace ak := mv HB.out ak
replace al := mv HB.out al
replace ao := mv HB.out ao
replace aq := eq_true aq
replace au := eq_true au
try go_wp2_with (first | (refine bx 5 #[.int .i64 0, .int .i64 0, .int .i64 0, .bool false, .bool false, .bool false, .int .i64 0] 98 ?_; intro ae hg dP hbox hb; have aa := am (hbox); have aR := am (gw hg (rb HB)); have bL := aR; replace HB := bs HB hb; clear hb hbox hg; have dH := z7 aa) | ((with_reducible refine cg 119 rfl ?_); refine gl_ (some 25) Try.func119 #[.agg #[.int .i64 ((rd_T98 l0 a8).f1.f0), .int .i64 ((rd_T98 l0 a8).f1.f1), .bool ((rd_T98 l0 a8).f1.f2), .bool ((rd_T98 l0 a8).f1.f3), .bool ((rd_T98 l0 a8).f1.f4)]] ?_; (with_reducible refine (spec_StyleOk.calls ((rd_T98 l0 a8).f1.f0) ((rd_T98 l0 a8).f1.f1) ((rd_T98 l0 a8).f1.f2) ((rd_T98 l0 a8).f1.f3) ((rd_T98 l0 a8).f1.f4) true _ A8.out).mono ?_); rintro e bQ ⟨rfl, hb⟩; refine ⟨_, rfl, ?_⟩; replace aa := kk aa hb; replace HB := bs HB hb; (try clear hb); (try clear bO); (try clear hk); (try clear hi); have dI := z7 aa))
replace aa := am (blk_drew aa.out)
replace HB := am (below_drew1 HB.out)
first
| (
have bF : 0 ≤ ((a9) : Int) := dt_
have bI : (a9) < (l0.length : Int) := dt_
obtain ⟨bR, cH, av, ax, ay, az, aA, aB, aC⟩ := at_T98 bh.out (a9) bF bI
have aJ := aC
have aI := aB
have aH := aA
have aG := az
have aF := ay
have aE := ax
have aD := av
obtain rfl : ac = bR := (by injection cH)
replace av := mv HB.out av
replace ax := mv HB.out ax
replace ay := mv HB.out ay
replace az := mv HB.out az
replace aA := mv HB.out aA
replace aB := mv HB.out aB
replace aC := mv HB.out aC
replace bF := eq_true bF
replace bI := eq_true bI
first
| (
have bG : 0 ≤ ((a9) : Int) := dt_
have bJ : (a9) < (l0.length : Int) := dt_
obtain ⟨bS, cI, aK, aL, aM, aN, aO, aP, aQ⟩ := at_T98 bh.out (a9) bG bJ
have bq := aQ
have bp := aP
have bo := aO
have bn := aN
have bl := aM
have bj := aL
have bi := aK
obtain rfl : ac = bS := (by injection cI)
replace aK := mv HB.out aK
replace aL := mv HB.out aL
replace aM := mv HB.out aM
replace aN := mv HB.out aN
replace aO := mv HB.out aO
replace aP := mv HB.out aP
replace aQ := mv HB.out aQ
replace bG := eq_true bG
replace bJ := eq_true bJ
refine start_ (n := 30) (S := fun w' => w'.cell? ⟨ae, 0, none⟩ = some (.int .i64 ((rd_T98 l0 a8).f0)) ∧ w'.cell? ⟨ae, 1, none⟩ = some (.int .i64 ((rd_T98 l0 a8).f1.f0)) ∧ w'.cell? ⟨ae, 2, none⟩ = some (.int .i64 ((rd_T98 l0 a8).f1.f1)) ∧ w'.cell? ⟨ae, 3, none⟩ = some (.bool ((rd_T98 l0 a8).f1.f2)) ∧ w'.cell? ⟨ae, 4, none⟩ = some (.bool ((rd_T98 l0 a8).f1.f3)) ∧ w'.cell? ⟨ae, 5, none⟩ = some (.bool ((rd_T98 l0 a8).f1.f4)) ∧ w'.cell? ⟨ae, 6, none⟩ = some (.int .i64 ((rd_T98 l0 a8).f2)) ∧ w'.cell? (ac.add (((a9)).toNat * 7)) = some (.int .i64 ((rd_T98 l0 (a9)).f0)) ∧ w'.cell? ⟨(ac.add (((a9)).toNat * 7)).block, (ac.add (((a9)).toNat * 7)).off + 1, none⟩ = some (.int .i64 ((rd_T98 l0 (a9)).f1.f0)) ∧ w'.cell? ⟨(ac.add (((a9)).toNat * 7)).block, (ac.add (((a9)).toNat * 7)).off + 2, none⟩ = some (.int .i64 ((rd_T98 l0 (a9)).f1.f1)) ∧ w'.cell? ⟨(ac.add (((a9)).toNat * 7)).block, (ac.add (((a9)).toNat * 7)).off + 3, none⟩ = some (.bool ((rd_T98 l0 (a9)).f1.f2)) ∧ w'.cell? ⟨(ac.add (((a9)).toNat * 7)).block, (ac.add (((a9)).toNat * 7)).off + 4, none⟩ = some (.bool ((rd_T98 l0 (a9)).f1.f3)) ∧ w'.cell? ⟨(ac.add (((a9)).toNat * 7)).block, (ac.add (((a9)).toNat * 7)).off + 5, none⟩ = some (.bool ((rd_T98 l0 (a9)).f1.f4)) ∧ w'.cell? ⟨(ac.add (((a9)).toNat * 7)).block, (ac.add (((a9)).toNat * 7)).off + 6, none⟩ = some (.int .i64 ((rd_T98 l0 (a9)).f2)) ∧ w'.cell? (ac.add (((a9)).toNat * 7)) = some (.int .i64 ((rd_T98 l0 (a9)).f0)) ∧ w'.cell? ⟨(ac.add (((a9)).toNat * 7)).block, (ac.add (((a9)).toNat * 7)).off + 1, none⟩ = some (.int .i64 ((rd_T98 l0 (a9)).f1.f0)) ∧ w'.cell? ⟨(ac.add (((a9)).toNat * 7)).block, (ac.add (((a9)).toNat * 7)).off + 2, none⟩ = some (.int .i64 ((rd_T98 l0 (a9)).f1.f1)) ∧ w'.cell? ⟨(ac.add (((a9)).toNat * 7)).block, (ac.add (((a9)).toNat * 7)).off + 3, none⟩ = some (.bool ((rd_T98 l0 (a9)).f1.f2)) ∧ w'.cell? ⟨(ac.add (((a9)).toNat * 7)).block, (ac.add (((a9)).toNat * 7)).off + 4, none⟩ = some (.bool ((rd_T98 l0 (a9)).f1.f3)) ∧ w'.cell? ⟨(ac.add (((a9)).toNat * 7)).block, (ac.add (((a9)).toNat * 7)).off + 5, none⟩ = some (.bool ((rd_T98 l0 (a9)).f1.f4)) ∧ w'.cell? ⟨(ac.add (((a9)).toNat * 7)).block, (ac.add (((a9)).toNat * 7)).off + 6, none⟩ = some (.int .i64 ((rd_T98 l0 (a9)).f2))) (ds := []) (bm 30 0) (by kernel_rfl) rfl rfl ⟨(blk_cell aa.out 0).trans rfl, (blk_cell aa.out 1).trans rfl, (blk_cell aa.out 2).trans rfl, (blk_cell aa.out 3).trans rfl, (blk_cell aa.out 4).trans rfl, (blk_cell aa.out 5).trans rfl, (blk_cell aa.out 6).trans rfl, (mv HB.out aD), (mv HB.out aE), (mv HB.out aF), (mv HB.out aG), (mv HB.out aH), (mv HB.out aI), (mv HB.out aJ), (mv HB.out bi), (mv HB.out bj), (mv HB.out bl), (mv HB.out bn), (mv HB.out bo), (mv HB.out bp), (mv HB.out bq)⟩ (fun hHeld => ?_); refine with_tabW spec_RowOk.tab16 spec_RowOk.bits16 (fun HT_ HW_ => ?_)
generalize bQ.drew = dR at aa HB av ax ay az aA aB aC aK aL aM aN aO aP aQ hHeld ⊢
)
| (
refine start_ (n := 30) (S := fun w' => w'.cell? ⟨ae, 0, none⟩ = some (.int .i64 ((rd_T98 l0 a8).f0)) ∧ w'.cell? ⟨ae, 1, none⟩ = some (.int .i64 ((rd_T98 l0 a8).f1.f0)) ∧ w'.cell? ⟨ae, 2, none⟩ = some (.int .i64 ((rd_T98 l0 a8).f1.f1)) ∧ w'.cell? ⟨ae, 3, none⟩ = some (.bool ((rd_T98 l0 a8).f1.f2)) ∧ w'.cell? ⟨ae, 4, none⟩ = some (.bool ((rd_T98 l0 a8).f1.f3)) ∧ w'.cell? ⟨ae, 5, none⟩ = some (.bool ((rd_T98 l0 a8).f1.f4)) ∧ w'.cell? ⟨ae, 6, none⟩ = some (.int .i64 ((rd_T98 l0 a8).f2)) ∧ w'.cell? (ac.add (((a9)).toNat * 7)) = some (.int .i64 ((rd_T98 l0 (a9)).f0)) ∧ w'.cell? ⟨(ac.add (((a9)).toNat * 7)).block, (ac.add (((a9)).toNat * 7)).off + 1, none⟩ = some (.int .i64 ((rd_T98 l0 (a9)).f1.f0)) ∧ w'.cell? ⟨(ac.add (((a9)).toNat * 7)).block, (ac.add (((a9)).toNat * 7)).off + 2, none⟩ = some (.int .i64 ((rd_T98 l0 (a9)).f1.f1)) ∧ w'.cell? ⟨(ac.add (((a9)).toNat * 7)).block, (ac.add (((a9)).toNat * 7)).off + 3, none⟩ = some (.bool ((rd_T98 l0 (a9)).f1.f2)) ∧ w'.cell? ⟨(ac.add (((a9)).toNat * 7)).block, (ac.add (((a9)).toNat * 7)).off + 4, none⟩ = some (.bool ((rd_T98 l0 (a9)).f1.f3)) ∧ w'.cell? ⟨(ac.add (((a9)).toNat * 7)).block, (ac.add (((a9)).toNat * 7)).off + 5, none⟩ = some (.bool ((rd_T98 l0 (a9)).f1.f4)) ∧ w'.cell? ⟨(ac.add (((a9)).toNat * 7)).block, (ac.add (((a9)).toNat * 7)).off + 6, none⟩ = some (.int .i64 ((rd_T98 l0 (a9)).f2))) (ds := []) (bm 30 0) (by kernel_rfl) rfl rfl ⟨(blk_cell aa.out 0).trans rfl, (blk_cell aa.out 1).trans rfl, (blk_cell aa.out 2).trans rfl, (blk_cell aa.out 3).trans rfl, (blk_cell aa.out 4).trans rfl, (blk_cell aa.out 5).trans rfl, (blk_cell aa.out 6).trans rfl, (mv HB.out aD), (mv HB.out aE), (mv HB.out aF), (mv HB.out aG), (mv HB.out aH), (mv HB.out aI), (mv HB.out aJ)⟩ (fun hHeld => ?_); refine with_tabW spec_RowOk.tab16 spec_RowOk.bits16 (fun HT_ HW_ => ?_)
generalize bQ.drew = dS at aa HB av ax ay az aA aB aC hHeld ⊢
)
)
| (
refine start_ (n := 30) (S := fun w' => w'.cell? ⟨ae, 0, none⟩ = some (.int .i64 ((rd_T98 l0 a8).f0)) ∧ w'.cell? ⟨ae, 1, none⟩ = some (.int .i64 ((rd_T98 l0 a8).f1.f0)) ∧ w'.cell? ⟨ae, 2, none⟩ = some (.int .i64 ((rd_T98 l0 a8).f1.f1)) ∧ w'.cell? ⟨ae, 3, none⟩ = some (.bool ((rd_T98 l0 a8).f1.f2)) ∧ w'.cell? ⟨ae, 4, none⟩ = some (.bool ((rd_T98 l0 a8).f1.f3)) ∧ w'.cell? ⟨ae, 5, none⟩ = some (.bool ((rd_T98 l0 a8).f1.f4)) ∧ w'.cell? ⟨ae, 6, none⟩ = some (.int .i64 ((rd_T98 l0 a8).f2))) (ds := []) (bm 30 0) (by kernel_rfl) rfl rfl (bc7 aa) (fun hHeld => ?_); refine with_tabW spec_RowOk.tab16 spec_RowOk.bits16 (fun HT_ HW_ => ?_)
generalize bQ.drew = dQ at aa HB hHeld ⊢
)
refine pu_ 0 37 (bm 30 1) HT_.out ?_
refine take_ (i := 1) (N := some 38) (v := ?_) (a' := ?_) (bm 30 3) rfl rfl (take_ofW HT_.out HW_.out (by kernel_rfl)) (fun _ _ _ h => h) (Or.inl ⟨by rfl, ?_⟩) hHeld ?_ ?_
rotate_left
first
| (
·(
rintro w' ⟨s0, s1, s2, s3, s4, s5, s6, s7, s8, s9, s10, s11, s12, s13, s14, s15, s16, s17, s18, s19, s20⟩
go_simp
with_reducible rfl
)
)
| (
·(
rintro w' ⟨s0, s1, s2, s3, s4, s5, s6, s7, s8, s9, s10, s11, s12, s13⟩
go_simp
with_reducible rfl
)
)
| (
·(
rintro w' ⟨s0, s1, s2, s3, s4, s5, s6⟩
go_simp
with_reducible rfl
)
)
rotate_left
·(
simp only [Act.put, List.setIfInBounds_toArray, List.set_cons_zero, List.set_cons_succ, i64_w, i32_w]
rfl
)
refine o1 2 39 (bm 30 7) HT_ (fun K hK => ?_)
refine gs Try.func120 #[.int .i64 ((rd_T98 l0 a8).f0)] ?_
with_reducible refine (spec_Width.calls k2 ((rd_T98 l0 a8).f0) aU _ cB.out).mono ?_
rintro e w' ⟨rfl, ⟨nd, rfl⟩⟩
refine ⟨_, rfl, ?_⟩
first
| refine hK.out _ _ ⟨(blk_cell aa.out 0).trans rfl, (blk_cell aa.out 1).trans rfl, (blk_cell aa.out 2).trans rfl, (blk_cell aa.out 3).trans rfl, (blk_cell aa.out 4).trans rfl, (blk_cell aa.out 5).trans rfl, (blk_cell aa.out 6).trans rfl, (mv HB.out aD), (mv HB.out aE), (mv HB.out aF), (mv HB.out aG), (mv HB.out aH), (mv HB.out aI), (mv HB.out aJ), (mv HB.out bi), (mv HB.out bj), (mv HB.out bl), (mv HB.out bn), (mv HB.out bo), (mv HB.out bp), (mv HB.out bq)⟩ (fun hHeld => ?_)
| refine hK.out _ _ ⟨(blk_cell aa.out 0).trans rfl, (blk_cell aa.out 1).trans rfl, (blk_cell aa.out 2).trans rfl, (blk_cell aa.out 3).trans rfl, (blk_cell aa.out 4).trans rfl, (blk_cell aa.out 5).trans rfl, (blk_cell aa.out 6).trans rfl, (mv HB.out aD), (mv HB.out aE), (mv HB.out aF), (mv HB.out aG), (mv HB.out aH), (mv HB.out aI), (mv HB.out aJ)⟩ (fun hHeld => ?_)
| refine hK.out _ _ (bc7 aa) (fun hHeld => ?_)
clear hK K
refine norm_ (a' := _) (show Act.put _ (some 39) _ = _ from na) ?_
refine pu_ 3 40 (bm 30 15) HT_.out ?_
refine pu_ 4 41 (bm 30 31) HT_.out ?_
first | refine pu_ 5 42 (bm 30 63) HT_.out ?_ | refine un_ 5 42 (bm 30 63) HT_.out ?_
first | refine pu_ 6 43 (bm 30 127) HT_.out ?_ | refine un_ 6 43 (bm 30 127) HT_.out ?_
first | refine pu_ 7 44 (bm 30 255) HT_.out ?_ | refine un_ 7 44 (bm 30 255) HT_.out ?_
first | refine pu_ 8 45 (bm 30 511) HT_.out ?_ | refine un_ 8 45 (bm 30 511) HT_.out ?_
refine pu_ 9 46 (bm 30 1023) HT_.out ?_
refine pu_ 10 47 (bm 30 2047) HT_.out ?_
first | refine un_ 11 48 (bm 30 4095) HT_.out ?_ | refine pu_ 11 48 (bm 30 4095) HT_.out ?_
first | refine un_ 12 49 (bm 30 8191) HT_.out ?_ | refine pu_ 12 49 (bm 30 8191) HT_.out ?_
first | refine un_ 13 50 (bm 30 16383) HT_.out ?_ | refine pu_ 13 50 (bm 30 16383) HT_.out ?_
first | refine un_ 14 51 (bm 30 32767) HT_.out ?_ | refine pu_ 14 51 (bm 30 32767) HT_.out ?_
first | refine un_ 15 52 (bm 30 65535) HT_.out ?_ | refine pu_ 15 52 (bm 30 65535) HT_.out ?_
first
| (
refine take_ (i := 16) (N := some 53) (v := ?_) (a' := ?_) (bm 30 131071) rfl rfl (take_ofW HT_.out HW_.out (by kernel_rfl)) (fun _ _ _ h => h) (Or.inl ⟨by rfl, ?_⟩) hHeld ?_ ?_
rotate_left
first
| (
·(
rintro w' ⟨s0, s1, s2, s3, s4, s5, s6, s7, s8, s9, s10, s11, s12, s13, s14, s15, s16, s17, s18, s19, s20⟩
go_simp
with_reducible rfl
)
)
| (
·(
rintro w' ⟨s0, s1, s2, s3, s4, s5, s6, s7, s8, s9, s10, s11, s12, s13⟩
go_simp
with_reducible rfl
)
)
rotate_left
·(
simp only [Act.put, List.setIfInBounds_toArray, List.set_cons_zero, List.set_cons_succ, i64_w, i32_w]
rfl
)
)
| refine un_ 16 53 (bm 30 131071) HT_.out ?_
first | refine un_ 17 54 (bm 30 262143) HT_.out ?_ | refine pu_ 17 54 (bm 30 262143) HT_.out ?_
refine pu_ 18 55 (bm 30 524287) HT_.out ?_
refine pu_ 19 56 (bm 30 1048575) HT_.out ?_
first | refine un_ 20 57 (bm 30 2097151) HT_.out ?_ | refine pu_ 20 57 (bm 30 2097151) HT_.out ?_
first | refine un_ 21 58 (bm 30 4194303) HT_.out ?_ | refine pu_ 21 58 (bm 30 4194303) HT_.out ?_
first | refine un_ 22 59 (bm 30 8388607) HT_.out ?_ | refine pu_ 22 59 (bm 30 8388607) HT_.out ?_
first | refine un_ 23 60 (bm 30 16777215) HT_.out ?_ | refine pu_ 23 60 (bm 30 16777215) HT_.out ?_
first | refine un_ 24 61 (bm 30 33554431) HT_.out ?_ | refine pu_ 24 61 (bm 30 33554431) HT_.out ?_
first
| (
refine pu_ 26 63 (bm 30 100663295) HT_.out ?_
refine tk 25 62 (bm 30 134217727) HT_ HW_ hHeld ?_
refine tk 27 64 (bm 30 268435455) HT_ HW_ hHeld ?_
)
| (
refine un_ 25 62 (bm 30 67108863) HT_.out ?_
refine un_ 26 63 (bm 30 134217727) HT_.out ?_
refine un_ 27 64 (bm 30 268435455) HT_.out ?_
)
first | refine un_ 28 65 (bm 30 536870911) HT_.out ?_ | refine pu_ 28 65 (bm 30 536870911) HT_.out ?_
refine pu_ 29 66 (bm 30 1073741823) HT_.out ?_
refine done_ (done_of HT_.out (by kernel_rfl)) ?_
try go_wp2
first
| (
have q_ := d5
go_roundg k2
case measure => have := bf.out; have := bg.out; omega
case rel => exact ⟨(a9), (by first | rfl | (simp; done) | (simp only [← ap] <;> (first | rfl | simp)) | (simp [*]; done)), H', ⟨by have := bf.out; have := bg.out; omega⟩, ⟨rb HB⟩⟩
)
| (
first | have q_ := d4 | have q_ := cq
go_ret
exact ⟨by first | rfl | (simp [errW_none, errW_some] <;> rfl) | (simp only [← ap]; first | rfl | (simp [errW_none, errW_some] <;> rfl)) | (simp [*, errW_none, errW_some] <;> rfl), rb HB⟩
)
| (
first | have q_ := d3 | have q_ := ct
go_ret
exact ⟨ew, rb HB⟩
)
)
)
·(
rw [if_neg b9] at H
have bY : (((rd_T98 l0 a8).f2) == 1) = false := beq_eq_false_iff_ne.mpr b9
have bZ : (((rd_T98 l0 a8).f2) != 1) = true := bne_iff_ne.mpr b9
refine em_ (p := ((rd_T98 l0 a8).f2) = 2) (fun b4 => ?cP) (fun b4 => ?cO)
case' cP => (
rw [if_pos b4] at H
have ch : (((rd_T98 l0 a8).f2) == 2) = true := beq_iff_eq.mpr b4
have cj : (((rd_T98 l0 a8).f2) != 2) = false := bne_eq_false_iff_eq.mpr b4
clear b4
refine em_ (p := ((rd_T98 l0 a8).f0) = 0) (fun b5 => ?cN) (fun b5 => ?cM)
case' cN => (
rw [if_pos b5] at H
have ck : (((rd_T98 l0 a8).f0) == 0) = true := beq_iff_eq.mpr b5
have cl : (((rd_T98 l0 a8).f0) != 0) = false := bne_eq_false_iff_eq.mpr b5
clear b5
refine em_ (p := a8 = 0) (fun b6 => ?cL) (fun b6 => ?cK)
case' cL => (
rw [if_pos b6] at H
have cm : (a8 == 0) = true := beq_iff_eq.mpr b6
have cn : (a8 != 0) = false := bne_eq_false_iff_eq.mpr b6
clear b6
obtain rfl := Option.some.inj H
have cu := trivial
)
case' cK => (
rw [if_neg b6] at H
have cm : (a8 == 0) = false := beq_eq_false_iff_ne.mpr b6
have cn : (a8 != 0) = true := bne_iff_ne.mpr b6
obtain ⟨af, aS⟩ : ∃ j_ : Int, (wrap64 (a8 - 1)) = j_ := ⟨_, rfl⟩
replace H : (if 0 ≤ (af) then (if (af) < (l0.length : Int) then (if ((rd_T98 l0 (af)).f2) = 1 then (spec_RowOk.l0 k2 l0 (l0.length : Int) (wrap64 (a8 + 1))) else (some false)) else (none)) else (none)) = some r := by first | (rw [aS] at H; exact H) | (simp only [aS] at H ⊢; exact H)
(try rw [aS] at A8)
have hji62w : (IntKind.i64.wrap (a8 - 1)) = af := (i64_w _).trans aS
refine em_ (p := 0 ≤ (af)) (fun bD => ?du) (fun bD => ?dt)
case' du => (
rw [if_pos bD] at H
have dz : decide (0 ≤ (af)) = true := decide_eq_true bD
clear bD
refine em_ (p := (af) < (l0.length : Int)) (fun bE => ?dr) (fun bE => ?dq)
case' dr => (
rw [if_pos bE] at H
have dA : decide ((af) < (l0.length : Int)) = true := decide_eq_true bE
clear bE
refine em_ (p := ((rd_T98 l0 (af)).f2) = 1) (fun b7 => ?dp) (fun b7 => ?dn)
case' dp => (
rw [if_pos b7] at H
have co : (((rd_T98 l0 (af)).f2) == 1) = true := beq_iff_eq.mpr b7
have cp : (((rd_T98 l0 (af)).f2) != 1) = false := bne_eq_false_iff_eq.mpr b7
clear b7
have H' := am H
clear H
have cv := trivial
)
case' dn => (
rw [if_neg b7] at H
have co : (((rd_T98 l0 (af)).f2) == 1) = false := beq_eq_false_iff_ne.mpr b7
have cp : (((rd_T98 l0 (af)).f2) != 1) = true := bne_iff_ne.mpr b7
obtain rfl := Option.some.inj H
have cw := trivial
)
)
case dq => (
rw [if_neg bE] at H
exact absurd H (by simp)
)
)
case dt => (
rw [if_neg bD] at H
exact absurd H (by simp)
)
)
)
case' cM => (
rw [if_neg b5] at H
have ck : (((rd_T98 l0 a8).f0) == 0) = false := beq_eq_false_iff_ne.mpr b5
have cl : (((rd_T98 l0 a8).f0) != 0) = true := bne_iff_ne.mpr b5
obtain rfl := Option.some.inj H
have cy := trivial
)
)
case' cO => (
rw [if_neg b4] at H
have ch : (((rd_T98 l0 a8).f2) == 2) = false := beq_eq_false_iff_ne.mpr b4
have cj : (((rd_T98 l0 a8).f2) != 2) = true := bne_iff_ne.mpr b4
obtain rfl := Option.some.inj H
have cz := trivial
)
all_goals (
have aq : 0 ≤ (a8 : Int) := dt_
have au : a8 < (l0.length : Int) := dt_
obtain ⟨ac, bc, ag, ah, ai, aj, ak, al, ao⟩ := at_T98 bh.out a8 aq au
cases bc
replace ag := mv HB.out ag
replace ah := mv HB.out ah
replace ai := mv HB.out ai
replace aj := mv HB.out aj
replace ak := mv HB.out ak
replace al := mv HB.out al
replace ao := mv HB.out ao
replace aq := eq_true aq
replace au := eq_true au
go_wp2_with (first | ((with_reducible refine cg 119 rfl ?_); refine gl_ (some 25) Try.func119 #[.agg #[.int .i64 ((rd_T98 l0 a8).f1.f0), .int .i64 ((rd_T98 l0 a8).f1.f1), .bool ((rd_T98 l0 a8).f1.f2), .bool ((rd_T98 l0 a8).f1.f3), .bool ((rd_T98 l0 a8).f1.f4)]] ?_; (with_reducible refine (spec_StyleOk.calls ((rd_T98 l0 a8).f1.f0) ((rd_T98 l0 a8).f1.f1) ((rd_T98 l0 a8).f1.f2) ((rd_T98 l0 a8).f1.f3) ((rd_T98 l0 a8).f1.f4) true _ A8.out).mono ?_); rintro e dW ⟨rfl, hb⟩; refine ⟨_, rfl, ?_⟩; replace aa := kk aa hb; replace HB := bs HB hb; (try clear hb); (try clear bO); (try clear hk); (try clear hi); have dL := z7 aa; have bH : 0 ≤ ((af) : Int) := dt_; have bK : (af) < (l0.length : Int) := dt_; obtain ⟨bT, cJ, br, bt, bu, bv, bw, bz, bA⟩ := at_T98 bh.out (af) bH bK; obtain rfl : ac = bT := (by injection cJ); replace br := (mv HB.out br); replace bt := (mv HB.out bt); replace bu := (mv HB.out bu); replace bv := (mv HB.out bv); replace bw := (mv HB.out bw); replace bz := (mv HB.out bz); replace bA := (mv HB.out bA); replace bH := eq_true bH; replace bK := eq_true bK) | ((with_reducible refine cg 119 rfl ?_); refine gl_ (some 25) Try.func119 #[.agg #[.int .i64 ((rd_T98 l0 a8).f1.f0), .int .i64 ((rd_T98 l0 a8).f1.f1), .bool ((rd_T98 l0 a8).f1.f2), .bool ((rd_T98 l0 a8).f1.f3), .bool ((rd_T98 l0 a8).f1.f4)]] ?_; (with_reducible refine (spec_StyleOk.calls ((rd_T98 l0 a8).f1.f0) ((rd_T98 l0 a8).f1.f1) ((rd_T98 l0 a8).f1.f2) ((rd_T98 l0 a8).f1.f3) ((rd_T98 l0 a8).f1.f4) true _ A8.out).mono ?_); rintro e dV ⟨rfl, hb⟩; refine ⟨_, rfl, ?_⟩; replace aa := kk aa hb; replace HB := bs HB hb; (try clear hb); (try clear bO); (try clear hk); (try clear hi); have dK := z7 aa) | (refine bx 5 #[.int .i64 0, .int .i64 0, .int .i64 0, .bool false, .bool false, .bool false, .int .i64 0] 98 ?_; intro ae hg dU hbox hb; have aa := am (hbox); have aR := am (gw hg (rb HB)); have bL := aR; replace HB := bs HB hb; clear hb hbox hg; have dJ := z7 aa))
first
| (
have q_ := cv
go_roundg k2
case measure => have := bf.out; have := bg.out; omega
case rel => exact ⟨(wrap64 (a8 + 1)), sd, H', ⟨by have := bf.out; have := bg.out; omega⟩, ⟨rb HB⟩⟩
)
| (
have q_ := cw
go_ret
exact ⟨by first | rfl | (simp [errW_none, errW_some] <;> rfl) | (simp only [← aS]; first | rfl | (simp [errW_none, errW_some] <;> rfl)) | (simp [*, errW_none, errW_some] <;> rfl), rb HB⟩
)
| (
first | have q_ := cu | have q_ := cy | have q_ := cz
go_ret
exact ⟨ew, rb HB⟩
)
)
)
)
)
case' cS => (
replace c9 := Bool.eq_false_iff.mpr c9
subst c9
have H1 : (some false) = some r := by rw [if_neg (show ¬ (false = true) by decide)] at H; exact H
clear H
have H := H1
clear H1
obtain rfl := Option.some.inj H
have cA := trivial
)
)
case cU => (
rw [if_neg c7] at H
exact absurd H (by simp)
)
)
case cW => (
rw [if_neg c6] at H
exact absurd H (by simp)
)
all_goals (
have aq : 0 ≤ (a8 : Int) := dt_
have au : a8 < (l0.length : Int) := dt_
obtain ⟨ac, bc, ag, ah, ai, aj, ak, al, ao⟩ := at_T98 bh.out a8 aq au
cases bc
replace ag := mv HB.out ag
replace ah := mv HB.out ah
replace ai := mv HB.out ai
replace aj := mv HB.out aj
replace ak := mv HB.out ak
replace al := mv HB.out al
replace ao := mv HB.out ao
replace aq := eq_true aq
replace au := eq_true au
go_wp2_with (first | ((with_reducible refine cg 119 rfl ?_); refine gl_ (some 25) Try.func119 #[.agg #[.int .i64 ((rd_T98 l0 a8).f1.f0), .int .i64 ((rd_T98 l0 a8).f1.f1), .bool ((rd_T98 l0 a8).f1.f2), .bool ((rd_T98 l0 a8).f1.f3), .bool ((rd_T98 l0 a8).f1.f4)]] ?_; (with_reducible refine (spec_StyleOk.calls ((rd_T98 l0 a8).f1.f0) ((rd_T98 l0 a8).f1.f1) ((rd_T98 l0 a8).f1.f2) ((rd_T98 l0 a8).f1.f3) ((rd_T98 l0 a8).f1.f4) true _ A8.out).mono ?_); rintro e dO ⟨rfl, hb⟩; refine ⟨_, rfl, ?_⟩; replace aa := kk aa hb; replace HB := bs HB hb; (try clear hb); (try clear bO); (try clear hk); (try clear hi); have dG := z7 aa) | ((with_reducible refine cg 119 rfl ?_); refine gl_ (some 25) Try.func119 #[.agg #[.int .i64 ((rd_T98 l0 a8).f1.f0), .int .i64 ((rd_T98 l0 a8).f1.f1), .bool ((rd_T98 l0 a8).f1.f2), .bool ((rd_T98 l0 a8).f1.f3), .bool ((rd_T98 l0 a8).f1.f4)]] ?_; (with_reducible refine (spec_StyleOk.calls ((rd_T98 l0 a8).f1.f0) ((rd_T98 l0 a8).f1.f1) ((rd_T98 l0 a8).f1.f2) ((rd_T98 l0 a8).f1.f3) ((rd_T98 l0 a8).f1.f4) false _ A8.out).mono ?_); rintro e dX ⟨rfl, hb⟩; refine ⟨_, rfl, ?_⟩; replace aa := kk aa hb; replace HB := bs HB hb; (try clear hb); (try clear bO); (try clear hk); (try clear hi)) | (refine bx 5 #[.int .i64 0, .int .i64 0, .int .i64 0, .bool false, .bool false, .bool false, .int .i64 0] 98 ?_; intro ae hg dN hbox hb; have aa := am (hbox); have aR := am (gw hg (rb HB)); have bL := aR; replace HB := bs HB hb; clear hb hbox hg; have dF := z7 aa) | ((with_reducible refine cg 120 rfl ?_); refine gl_ (some 33) Try.func120 #[.int .i64 ((rd_T98 l0 a8).f0)] ?_; (with_reducible refine (spec_Width.calls k2 ((rd_T98 l0 a8).f0) aT _ d7.out).mono ?_); rintro e w' ⟨rfl, ⟨nd, rfl⟩⟩; refine ⟨_, rfl, ?_⟩))
first
| (
have q_ := cY
go_roundg k2
case measure => have := bf.out; have := bg.out; omega
case rel => exact ⟨(wrap64 (a8 + 1)), sd, H', ⟨by have := bf.out; have := bg.out; omega⟩, ⟨rb HB⟩⟩
)
| (
first | have q_ := cZ | have q_ := cA
go_ret
exact ⟨ew, rb HB⟩
)
)
)
·(
rw [if_neg c5] at H
have cG : decide (a8 < (l0.length : Int)) = false := decide_eq_false c5
clear c5
obtain rfl := Option.some.inj H
go_wp2
go_ret
exact ⟨ew, rb HB⟩
)
)
)
)
)
)
)

end Go.Proofs.Ytalopdcephohgaa.RD

namespace Go.Proofs.Ytalopdcephohgaa.RD
open Go.RowKit Go.Proofs.YtalopdcephohgaaW.PrintWords Go.Proofs.YtalopdcephohgaaW.PrintLast Go.Proofs.YtalopdcephohgaaW.PrintMore
attribute [local go_sem] max2_int min2_int max_two min_two max_three min_three max_four min_four   -- for this text's walks alone
set_option linter.unusedVariables false
set_option linter.unusedSimpArgs false

/-! ### spec_GridOk: function 69 -/
mutual
def spec_GridOk.j0 : Nat → Bool → Int → List (List (S98)) → Option (Bool)
 | 0, _, _, _ => none
 | k + 1, aa, a8, a9 => if aa = true then (some false) else (spec_GridOk.l0 k 0 a8 a9)
def spec_GridOk.l0 : Nat → Int → Int → List (List (S98)) → Option (Bool)
 | 0, _, _, _ => none
 | k + 1, x3, a9, a8 => if x3 < (a8.length : Int) then (if 0 ≤ x3 then (if ((rd_L5 a8 x3).length : Int) = a9 then ((spec_RowOk.f k (rd_L5 a8 x3)).bind fun aa => (if aa = true then (spec_GridOk.l0 k (wrap64 (x3 + 1)) a9 a8) else (some false))) else (some false)) else (none)) else (some true)
end
def spec_GridOk.f (k : Nat) (a9 : Int) (a8 : List (List (S98))) : Option (Bool) := (spec_l1In.f a9 1 60).bind fun aa => (if aa = true then (if (a8.length : Int) < 1 then (spec_GridOk.j0 k true a9 a8) else (spec_GridOk.j0 k (decide ((a8.length : Int) > 30)) a9 a8)) else (spec_GridOk.j0 k true a9 a8))
theorem spec_GridOk.mono_l : ∀ k, (∀ y0 y1 y2, LeO (spec_GridOk.j0 k y0 y1 y2) (spec_GridOk.j0 (k + 1) y0 y1 y2)) ∧ (∀ y0 y1 y2, LeO (spec_GridOk.l0 k y0 y1 y2) (spec_GridOk.l0 (k + 1) y0 y1 y2))
 | 0 => ⟨fun _ _ _ r h => by simp [spec_GridOk.j0] at h, fun _ _ _ r h => by simp [spec_GridOk.l0] at h⟩
 | k + 1 => by
  obtain ⟨ih0, ih1⟩ := spec_GridOk.mono_l k
  refine ⟨?_, ?_⟩
  ·intro y0 y1 y2
   unfold spec_GridOk.j0
   repeat' first
   | (with_reducible exact ih0 _ _ _)
   | (with_reducible exact ih1 _ _ _)
   | (with_reducible exact spec_RowOk.mono _ _)
   | (with_reducible exact LeO.refl _)
   | (with_reducible exact LeO.none _)
   | (with_reducible refine LeO.ite ?_ ?_)
   | (with_reducible refine LeO.bind ?_ (fun _ => ?_))
  ·intro y0 y1 y2
   unfold spec_GridOk.l0
   repeat' first
   | (with_reducible exact ih0 _ _ _)
   | (with_reducible exact ih1 _ _ _)
   | (with_reducible exact spec_RowOk.mono _ _)
   | (with_reducible exact LeO.refl _)
   | (with_reducible exact LeO.none _)
   | (with_reducible refine LeO.ite ?_ ?_)
   | (with_reducible refine LeO.bind ?_ (fun _ => ?_))
theorem spec_GridOk.mono : ∀ a0 a1 k, LeO (spec_GridOk.f k a0 a1) (spec_GridOk.f (k + 1) a0 a1) := by
 intro a0 a1 k
 obtain ⟨ih0, ih1⟩ := spec_GridOk.mono_l k
 unfold spec_GridOk.f
 repeat' first
   | (with_reducible exact ih0 _ _ _)
   | (with_reducible exact ih1 _ _ _)
   | (with_reducible exact spec_RowOk.mono _ _)
   | (with_reducible exact LeO.refl _)
   | (with_reducible exact LeO.none _)
   | (with_reducible refine LeO.ite ?_ ?_)
   | (with_reducible refine LeO.bind ?_ (fun _ => ?_))
def spec_GridOk.T6 : Bool × List (List Nat × List Nat) := (true, [([], []), ([0], [0]), ([], []), ([1, 2], [1, 2]), ([3], [3]), ([4], [4]), ([], []), ([6], [6]), ([5, 7], [5, 7]), ([8], [8]), ([9], [9]), ([10, 9], [9, 10]), ([9], [9]), ([11, 12, 9], [9, 11, 12]), ([13, 9], [9, 13]), ([14, 9, 9], [9, 14]), ([15, 9], [9, 15]), ([9, 16], [9, 16])])
def spec_GridOk.B6 : List Nat := [0, 1, 0, 7, 15, 31, 0, 64, 255, 511, 1023, 2047, 1023, 8191, 16383, 32767, 65535, 131071]
theorem spec_GridOk.tab6 : rtab .any (opsOf Try.f69 6) = spec_GridOk.T6 := by kernel_rfl
theorem spec_GridOk.bits6 : waitsOk spec_GridOk.T6.2 spec_GridOk.B6 = true := by kernel_rfl
set_option maxHeartbeats 8000000 in
set_option maxRecDepth 100000 in
theorem spec_GridOk.calls (k : Nat) (ac : Int) (aq : Option Addr) (ai : Nat) (a8 : List (List (S98))) (r : Bool) (w : World) (aN : Kd.C (Kd.slice 98 k98) w aq a8.length a8) (aM : a8.length ≤ ai) (h : spec_GridOk.f k ac a8 = some r) :
  Calls Try.prog 69 #[.agg #[.int .i64 ac, .slice aq a8.length ai]] w fun e w' => e = .returned (.bool r) ∧ Below w.heap.size w w' := by
 (
have bv := Try.underlying58
have aL := am aN
have bt := am aM
clear aN aM
have HB := am (Below.refl w.heap.size w)
have H := h
unfold spec_GridOk.f at H
clear h
have aP := am H
clear H
go_enter Try.func69, Try.ntmps69
go_upto_region 1 with (first | ((with_reducible refine gate_dst (N := 1) rfl ?_); (try (refine gate_guard (by rfl) ?_; dsimp only)); refine bx 1 #[.int .i64 ac, .slice aq a8.length ai] 58 ?_; intro ah hg w3 hbox hb; have a9 := am (hbox); have aQ := am (gw hg (rb HB)); have br := aQ; replace HB := bs HB hb; clear hb hbox hg))
(try simp only [Act.put, List.setIfInBounds_toArray, List.set_cons_zero, List.set_cons_succ])
go_cut [19] (fun bq wc => ∃ (kq : Nat) (ap : Bool), bq = .bool ap ∧ Aside0 (spec_GridOk.j0 kq ap ac a8 = some r) ∧ Aside0 (kq ≤ k) ∧ Aside0 (wc.heap[ah]? = some (.cells #[.int .i64 ac, (.slice aq a8.length ai)] 58 (0, 0))) ∧ Aside0 (Below w.heap.size w wc))
case first => (
have H := aP.out
clear aP
obtain ⟨b9, A4, H⟩ := bd H
(try dsimp only at H)
refine em_ (p := b9 = true) (fun c5 => ?bh) (fun c5 => ?bg)
case bh => (
subst c5
rw [if_pos rfl] at H
by_cases c6 : (a8.length : Int) < 1
·(
rw [if_pos c6] at H
have au : decide ((a8.length : Int) < 1) = true := decide_eq_true c6
have b4 : decide (a8.length < 1) = true := decide_eq_true (by omega)
clear c6
(first | rw [au] | (simp only [i64_w, i32_w]; rw [au]) | skip)
have H' := am H
clear H
have bE := z2 a9
go_wp2_with (first | ((with_reducible refine cg 60 rfl ?_); refine gl_ (some 6) Try.func60 #[.int .i64 ac, .int .i64 1, .int .i64 60] ?_; (with_reducible refine (spec_l1In.calls ac 1 60 true _ A4.out).mono ?_); rintro e w' ⟨rfl, ⟨nd, rfl⟩⟩; refine ⟨_, rfl, ?_⟩))
go_meet
case rel => exact ⟨_, (true), sd, H', ⟨by first | omega | exact Nat.le_refl _⟩, ⟨rk a9⟩, ⟨rb HB⟩⟩
)
·(
rw [if_neg c6] at H
have au : decide ((a8.length : Int) < 1) = false := decide_eq_false c6
have b4 : decide (a8.length < 1) = false := decide_eq_false (by omega)
clear c6
(first | rw [au] | (simp only [i64_w, i32_w]; rw [au]) | skip)
have H' := am H
clear H
have bF := z2 a9
go_wp2_with (first | ((with_reducible refine cg 60 rfl ?_); refine gl_ (some 6) Try.func60 #[.int .i64 ac, .int .i64 1, .int .i64 60] ?_; (with_reducible refine (spec_l1In.calls ac 1 60 true _ A4.out).mono ?_); rintro e w' ⟨rfl, ⟨nd, rfl⟩⟩; refine ⟨_, rfl, ?_⟩))
go_meet
case rel => exact ⟨_, (decide ((a8.length : Int) > 30)), sd, H', ⟨by first | omega | exact Nat.le_refl _⟩, ⟨rk a9⟩, ⟨rb HB⟩⟩
)
)
case' bg => (
replace c5 := Bool.eq_false_iff.mpr c5
subst c5
rw [if_neg (show ¬ (false = true) by decide)] at H
have H' := am H
clear H
have bw := trivial
)
all_goals (
have bG := z2 a9
go_wp2_with (first | ((with_reducible refine cg 60 rfl ?_); refine gl_ (some 6) Try.func60 #[.int .i64 ac, .int .i64 1, .int .i64 60] ?_; (with_reducible refine (spec_l1In.calls ac 1 60 false _ A4.out).mono ?_); rintro e w' ⟨rfl, ⟨nd, rfl⟩⟩; refine ⟨_, rfl, ?_⟩))
go_meet
case rel => exact ⟨_, (true), sd, H', ⟨by first | omega | exact Nat.le_refl _⟩, ⟨rk a9⟩, ⟨rb HB⟩⟩
)
)
case rest => (
clear aP
obtain ⟨kq, ap, rfl, HA, aX, a9, HB⟩ := hcut
cases kq with
| zero => exact absurd HA.out (by simp [spec_GridOk.j0])
| succ aZ => (
have H := HA.out
clear HA
simp only [spec_GridOk.j0] at H
by_cases aE : ap = true
·(
subst aE
have H1 : (some false) = some r := by rw [if_pos rfl] at H; exact H
clear H
have H := H1
clear H1
obtain rfl := Option.some.inj H
go_wp2
go_ret
exact ⟨ew, rb HB⟩
)
·(
replace aE := Bool.eq_false_iff.mpr aE
subst aE
rw [if_neg (show ¬ (false = true) by decide)] at H
have H' := am H
clear H
go_wp2
go_loopg [3] aZ (fun kq v3 w' => ∃ (aa : Int), v3 = .int .i64 aa ∧ Aside0 (spec_GridOk.l0 kq aa ac a8 = some r) ∧ Aside0 (kq ≤ aZ) ∧ Aside0 (w'.heap[ah]? = some (.cells #[.int .i64 ac, (.slice aq a8.length ai)] 58 (0, 0))) ∧ Aside0 (Below w.heap.size w w'))
case atStart => exact ⟨(0), sd, H', ⟨Nat.le_refl _⟩, ⟨rk a9⟩, ⟨rb HB⟩⟩
case round => (
clear H'
try clear aE
obtain ⟨aa, rfl, HA, aY, a9, HB⟩ := hrel
cases gk with
| zero => exact absurd HA.out (by simp [spec_GridOk.l0])
| succ k2 => (
have H := HA.out
clear HA
simp only [spec_GridOk.l0] at H
by_cases ay : aa < (a8.length : Int)
·(
rw [if_pos ay] at H
have aS : decide (aa < (a8.length : Int)) = true := decide_eq_true ay
clear ay
refine em_ (p := 0 ≤ aa) (fun aF => ?bp) (fun aF => ?bo)
case' bp => (
rw [if_pos aF] at H
have bu : decide (0 ≤ aa) = true := decide_eq_true aF
clear aF
refine em_ (p := ((rd_L5 a8 aa).length : Int) = ac) (fun ao => ?bn) (fun ao => ?bl)
case' bn => (
rw [if_pos ao] at H
have aT : (((rd_L5 a8 aa).length : Int) == ac) = true := beq_iff_eq.mpr ao
have aU : (((rd_L5 a8 aa).length : Int) != ac) = false := bne_eq_false_iff_eq.mpr ao
clear ao
obtain ⟨ba, aW, H⟩ := bd H
(try dsimp only at H)
refine em_ (p := ba = true) (fun aG => ?bj) (fun aG => ?bi)
case' bj => (
subst aG
have H1 : (spec_GridOk.l0 k2 (wrap64 (aa + 1)) ac a8) = some r := by rw [if_pos rfl] at H; exact H
clear H
have H := H1
clear H1
have H' := am H
clear H
have b7 := trivial
)
case' bi => (
replace aG := Bool.eq_false_iff.mpr aG
subst aG
have H1 : (some false) = some r := by rw [if_neg (show ¬ (false = true) by decide)] at H; exact H
clear H
have H := H1
clear H1
obtain rfl := Option.some.inj H
have b8 := trivial
)
)
case' bl => (
rw [if_neg ao] at H
have aT : (((rd_L5 a8 aa).length : Int) == ac) = false := beq_eq_false_iff_ne.mpr ao
have aU : (((rd_L5 a8 aa).length : Int) != ac) = true := bne_iff_ne.mpr ao
obtain rfl := Option.some.inj H
have aV := trivial
)
)
case bo => (
rw [if_neg aF] at H
exact absurd H (by simp)
)
all_goals (
have bz := z2 a9
try go_wp2
replace a9 := am (blk_drew a9.out)
replace HB := am (below_drew1 HB.out)
have aH : 0 ≤ (aa : Int) := dt_
have aJ : aa < (a8.length : Int) := dt_
obtain ⟨ag, aj, ak, b5, ae, aB, az⟩ := at_L5 aL.out aa aH aJ
have al := ae
cases b5
replace ae := mv HB.out ae
have av := am az
have bb := am aB
clear az aB
replace aH := eq_true aH
replace aJ := eq_true aJ
first
| (
have aI : 0 ≤ (aa : Int) := dt_
have aK : aa < (a8.length : Int) := dt_
obtain ⟨aR, bc, bf, b6, af, aC, aA⟩ := at_L5 aL.out aa aI aK
have aD := af
obtain rfl : ag = aR := (by injection b6)
replace af := mv HB.out af
have ax := am aA
have aO := am aC
clear aA aC
replace aI := eq_true aI
replace aK := eq_true aK
have ea_ := Option.some.inj (ae.symm.trans af)
injection ea_ with ea_ en_ ec_
subst ea_
subst ec_
clear en_
refine start_ (n := 18) (S := fun w' => w'.cell? ⟨ah, 0, none⟩ = some (.int .i64 ac) ∧ w'.cell? ⟨ah, 1, none⟩ = some (.slice (some ag) a8.length ai) ∧ w'.cell? (ag.add (aa).toNat) = some (.slice aj (rd_L5 a8 aa).length ak) ∧ w'.cell? (ag.add (aa).toNat) = some (.slice aj (rd_L5 a8 aa).length ak)) (ds := []) (bm 18 0) (by kernel_rfl) rfl rfl ⟨(blk_cell a9.out 0).trans rfl, (blk_cell a9.out 1).trans rfl, (mv HB.out al), (mv HB.out aD)⟩ (fun hHeld => ?_); refine with_tabW spec_GridOk.tab6 spec_GridOk.bits6 (fun HT_ HW_ => ?_)
generalize wr.drew = bB at a9 HB av ax ae af hHeld ⊢
)
| (
refine start_ (n := 18) (S := fun w' => w'.cell? ⟨ah, 0, none⟩ = some (.int .i64 ac) ∧ w'.cell? ⟨ah, 1, none⟩ = some (.slice (some ag) a8.length ai) ∧ w'.cell? (ag.add (aa).toNat) = some (.slice aj (rd_L5 a8 aa).length ak)) (ds := []) (bm 18 0) (by kernel_rfl) rfl rfl ⟨(blk_cell a9.out 0).trans rfl, (blk_cell a9.out 1).trans rfl, (mv HB.out al)⟩ (fun hHeld => ?_); refine with_tabW spec_GridOk.tab6 spec_GridOk.bits6 (fun HT_ HW_ => ?_)
generalize wr.drew = bD at a9 HB av ae hHeld ⊢
)
refine pu_ 0 27 (bm 18 1) HT_.out ?_
refine pu_ 2 29 (bm 18 5) HT_.out ?_
refine pu_ 6 33 (bm 18 69) HT_.out ?_
refine take_ (i := 1) (N := some 28) (v := ?_) (a' := ?_) (bm 18 71) rfl rfl (take_ofW HT_.out HW_.out (by kernel_rfl)) (fun _ _ _ h => h) (Or.inl ⟨by rfl, ?_⟩) hHeld ?_ ?_
rotate_left
first
| (
·(
rintro w' ⟨s0, s1, s2, s3⟩
go_simp
with_reducible rfl
)
)
| (
·(
rintro w' ⟨s0, s1, s2⟩
go_simp
with_reducible rfl
)
)
rotate_left
·(
simp only [Act.put, List.setIfInBounds_toArray, List.set_cons_zero, List.set_cons_succ, i64_w, i32_w]
rfl
)
refine pu_ 3 30 (bm 18 79) HT_.out ?_
refine take_ (i := 4) (N := some 31) (v := ?_) (a' := ?_) (bm 18 95) rfl rfl (take_ofW HT_.out HW_.out (by kernel_rfl)) (fun _ _ _ h => h) (Or.inl ⟨by rfl, ?_⟩) hHeld ?_ ?_
rotate_left
first
| (
·(
rintro w' ⟨s0, s1, s2, s3⟩
go_simp
with_reducible rfl
)
)
| (
·(
rintro w' ⟨s0, s1, s2⟩
go_simp
with_reducible rfl
)
)
rotate_left
·(
simp only [Act.put, List.setIfInBounds_toArray, List.set_cons_zero, List.set_cons_succ, i64_w, i32_w]
rfl
)
refine pu_ 5 32 (bm 18 127) HT_.out ?_
refine take_ (i := 7) (N := some 34) (v := ?_) (a' := ?_) (bm 18 255) rfl rfl (take_ofW HT_.out HW_.out (by kernel_rfl)) (fun _ _ _ h => h) (Or.inl ⟨by rfl, ?_⟩) hHeld ?_ ?_
rotate_left
first
| (
·(
rintro w' ⟨s0, s1, s2, s3⟩
go_simp
with_reducible rfl
)
)
| (
·(
rintro w' ⟨s0, s1, s2⟩
go_simp
with_reducible rfl
)
)
rotate_left
·(
simp only [Act.put, List.setIfInBounds_toArray, List.set_cons_zero, List.set_cons_succ, i64_w, i32_w]
rfl
)
refine pu_ 8 35 (bm 18 511) HT_.out ?_
refine pu_ 9 36 (bm 18 1023) HT_.out ?_
first | refine pu_ 10 37 (bm 18 2047) HT_.out ?_ | refine un_ 10 37 (bm 18 2047) HT_.out ?_
first
| (
refine pu_ 12 39 (bm 18 6143) HT_.out ?_
refine tk 11 38 (bm 18 8191) HT_ HW_ hHeld ?_
refine pu_ 13 40 (bm 18 16383) HT_.out ?_
refine tk 14 41 (bm 18 32767) HT_ HW_ hHeld ?_
refine o1 15 42 (bm 18 65535) HT_ (fun K hK => ?_)
refine gs Try.func96 #[.slice aj (rd_L5 a8 aa).length ak] ?_
first | with_reducible refine (spec_RowOk.calls k2 _ _ (rd_L5 a8 aa) false _ ?side1 ?side2 aW.out).mono ?_ | with_reducible refine (spec_RowOk.calls k2 _ _ (rd_L5 a8 aa) true _ ?side1 ?side2 aW.out).mono ?_
(case side1 => exact rc ((Kd.C_below ax.out HB.out)))
(case side2 => exact aO.out)
rintro e bC ⟨rfl, hb⟩
refine ⟨_, rfl, ?_⟩
replace a9 := kk a9 hb
replace HB := bs HB hb
(try clear hb)
refine hK.out _ _ ⟨(blk_cell a9.out 0).trans rfl, (blk_cell a9.out 1).trans rfl, (mv HB.out al), (mv HB.out aD)⟩ (fun hHeld => ?_)
clear hK K
refine norm_ (a' := _) (show Act.put _ (some 42) _ = _ from na) ?_
)
| (
refine un_ 11 38 (bm 18 4095) HT_.out ?_
refine un_ 12 39 (bm 18 8191) HT_.out ?_
refine un_ 13 40 (bm 18 16383) HT_.out ?_
refine un_ 14 41 (bm 18 32767) HT_.out ?_
refine un_ 15 42 (bm 18 65535) HT_.out ?_
)
first | refine pu_ 16 43 (bm 18 131071) HT_.out ?_ | refine un_ 16 43 (bm 18 131071) HT_.out ?_
refine pu_ 17 44 (bm 18 262143) HT_.out ?_
refine done_ (done_of HT_.out (by kernel_rfl)) ?_
try go_wp2
first
| (
have q_ := b7
go_roundg k2
case measure => have := aX.out; have := aY.out; omega
case rel => exact ⟨(wrap64 (aa + 1)), sd, H', ⟨by have := aX.out; have := aY.out; omega⟩, ⟨rk a9⟩, ⟨rb HB⟩⟩
)
| (
first | have q_ := b8 | have q_ := aV
go_ret
exact ⟨ew, rb HB⟩
)
)
)
·(
rw [if_neg ay] at H
have aS : decide (aa < (a8.length : Int)) = false := decide_eq_false ay
clear ay
obtain rfl := Option.some.inj H
have bA := z2 a9
go_wp2
go_ret
exact ⟨ew, rb HB⟩
)
)
)
)
)
)
)

end Go.Proofs.Ytalopdcephohgaa.RD
