/- Contracts of Go functions that laws of this seat reach: each Lean function answers as its Go function does. No condition. Written by wip/tools/inj.py, over the kit's print. -/
import Derived.Test.YtalopdcephohgaaRDx0
import Derived.Test.YtalopdcephohgaaRDx11
import Derived.Test.YtalopdcephohgaaRDx1
namespace Go.Proofs.Ytalopdcephohgaa.RD
open Go.RowKit Go.Proofs.YtalopdcephohgaaW.PrintWords Go.Proofs.YtalopdcephohgaaW.PrintLast Go.Proofs.YtalopdcephohgaaW.PrintMore
attribute [local go_sem] max2_int min2_int max_two min_two max_three min_three max_four min_four   -- for this text's walks alone
set_option linter.unusedVariables false
set_option linter.unusedSimpArgs false

/-! ### impl_isCell: function 117 -/
def impl_isCell.f (k : Nat) (a8 : Int) (a9 : Int) (aa : Int) (ac : Bool) (ae : Bool) (af : Bool) (ag : Int) : Option (Bool) := if ag = 0 then ((impl_Width.f k a8).bind fun ah => (if ah = 1 then ((impl_StyleOk.f a9 aa ac ae af).bind fun ai => (some ai)) else (some false))) else (if ag = 1 then ((impl_Width.f k a8).bind fun aj => (if aj = 2 then ((impl_StyleOk.f a9 aa ac ae af).bind fun ak => (some ak)) else (some false))) else (if ag = 2 then (if a8 = 0 then ((impl_StyleOk.f a9 aa ac ae af).bind fun al => (some al)) else (some false)) else (some false)))
theorem impl_isCell.mono : ∀ a0 a1 a2 a3 a4 a5 a6 k, LeO (impl_isCell.f k a0 a1 a2 a3 a4 a5 a6) (impl_isCell.f (k + 1) a0 a1 a2 a3 a4 a5 a6) := by
 intro a0 a1 a2 a3 a4 a5 a6 k
 unfold impl_isCell.f
 repeat' first
   | (with_reducible exact impl_Width.mono _ _)
   | (with_reducible exact LeO.refl _)
   | (with_reducible exact LeO.none _)
   | (with_reducible refine LeO.ite ?_ ?_)
   | (with_reducible refine LeO.bind ?_ (fun _ => ?_))
set_option maxHeartbeats 8000000 in
set_option maxRecDepth 100000 in
theorem impl_isCell.calls (k : Nat) (a9 : Int) (ak : Int) (al : Int) (ao : Bool) (ap : Bool) (aq : Bool) (a8 : Int) (r : Bool) (w : World) (h : impl_isCell.f k a9 ak al ao ap aq a8 = some r) :
  Calls Try.prog 117 #[.agg #[.int .i64 a9, .int .i64 ak, .int .i64 al, .bool ao, .bool ap, .bool aq, .int .i64 a8]] w fun e w' => e = .returned (.bool r) ∧ Below w.heap.size w w' := by
 (
have b5 := Try.underlying98
have b4 := Try.underlying96
have HB := am (Below.refl w.heap.size w)
have H := h
unfold impl_isCell.f at H
clear h
refine em_ (p := a8 = 0) (fun c2 => ?aX) (fun c2 => ?aW)
case' aX => (
rw [if_pos c2] at H
have aH : (a8 == 0) = true := beq_iff_eq.mpr c2
have aI : (a8 != 0) = false := bne_eq_false_iff_eq.mpr c2
clear c2
obtain ⟨aa, A3, H⟩ := bd H
(try dsimp only at H)
refine em_ (p := aa = 1) (fun c4 => ?aN) (fun c4 => ?aM)
case' aN => (
rw [if_pos c4] at H
have aJ : (aa == 1) = true := beq_iff_eq.mpr c4
have aK : (aa != 1) = false := bne_eq_false_iff_eq.mpr c4
clear c4
replace H := Option.bind_eq_some_iff.mp H
obtain ⟨ac, aG, H⟩ := H
replace H : (some ac) = some r := H
have A5 := am aG
clear aG
obtain rfl := Option.some.inj H
have b6 := trivial
)
case' aM => (
rw [if_neg c4] at H
have aJ : (aa == 1) = false := beq_eq_false_iff_ne.mpr c4
have aK : (aa != 1) = true := bne_iff_ne.mpr c4
obtain rfl := Option.some.inj H
have b7 := trivial
)
)
case' aW => (
rw [if_neg c2] at H
have aH : (a8 == 0) = false := beq_eq_false_iff_ne.mpr c2
have aI : (a8 != 0) = true := bne_iff_ne.mpr c2
refine em_ (p := a8 = 1) (fun af => ?aV) (fun af => ?aU)
case' aV => (
rw [if_pos af] at H
have ay : (a8 == 1) = true := beq_iff_eq.mpr af
have az : (a8 != 1) = false := bne_eq_false_iff_eq.mpr af
clear af
obtain ⟨ae, aL, H⟩ := bd H
(try dsimp only at H)
refine em_ (p := ae = 2) (fun ag => ?aP) (fun ag => ?aO)
case' aP => (
rw [if_pos ag] at H
have aA : (ae == 2) = true := beq_iff_eq.mpr ag
have aB : (ae != 2) = false := bne_eq_false_iff_eq.mpr ag
clear ag
replace H := Option.bind_eq_some_iff.mp H
obtain ⟨ac, au, H⟩ := H
replace H : (some ac) = some r := H
have A5 := am au
clear au
obtain rfl := Option.some.inj H
have b8 := trivial
)
case' aO => (
rw [if_neg ag] at H
have aA : (ae == 2) = false := beq_eq_false_iff_ne.mpr ag
have aB : (ae != 2) = true := bne_iff_ne.mpr ag
obtain rfl := Option.some.inj H
have b9 := trivial
)
)
case' aU => (
rw [if_neg af] at H
have ay : (a8 == 1) = false := beq_eq_false_iff_ne.mpr af
have az : (a8 != 1) = true := bne_iff_ne.mpr af
refine em_ (p := a8 = 2) (fun ah => ?aT) (fun ah => ?aS)
case' aT => (
rw [if_pos ah] at H
have aC : (a8 == 2) = true := beq_iff_eq.mpr ah
have aD : (a8 != 2) = false := bne_eq_false_iff_eq.mpr ah
clear ah
refine em_ (p := a9 = 0) (fun ai => ?aR) (fun ai => ?aQ)
case' aR => (
rw [if_pos ai] at H
have aE : (a9 == 0) = true := beq_iff_eq.mpr ai
have aF : (a9 != 0) = false := bne_eq_false_iff_eq.mpr ai
clear ai
replace H := Option.bind_eq_some_iff.mp H
obtain ⟨ac, av, H⟩ := H
replace H : (some ac) = some r := H
have A5 := am av
clear av
obtain rfl := Option.some.inj H
have ba := trivial
)
case' aQ => (
rw [if_neg ai] at H
have aE : (a9 == 0) = false := beq_eq_false_iff_ne.mpr ai
have aF : (a9 != 0) = true := bne_iff_ne.mpr ai
obtain rfl := Option.some.inj H
have bb := trivial
)
)
case' aS => (
rw [if_neg ah] at H
have aC : (a8 == 2) = false := beq_eq_false_iff_ne.mpr ah
have aD : (a8 != 2) = true := bne_iff_ne.mpr ah
obtain rfl := Option.some.inj H
have bc := trivial
)
)
)
all_goals (
go_enter Try.func117, Try.ntmps117
go_wp2_with (first | (refine bx 1 #[.int .i64 a9, .int .i64 ak, .int .i64 al, .bool ao, .bool ap, .bool aq, .int .i64 a8] 98 ?_; intro aZ hg w6 hbox hb; have aj := am (hbox); have ax := am (gw hg (rb HB)); have aY := ax; replace HB := bs HB hb; clear hb hbox hg; have bg := z7 aj) | (go_at_call 130; (with_reducible refine (impl_StyleOk.calls ak al ao ap aq ac _ A5.out).mono ?_); rintro e w8 ⟨rfl, hb⟩; replace aj := kk aj hb; replace HB := bs HB hb; (try clear hb); (try clear bf); (try clear hk); (try clear hi)) | ((with_reducible refine cg 129 rfl ?_); refine gl_ (some 20) Try.func129 #[.int .i64 a9] ?_; (with_reducible refine (impl_Width.calls k a9 ae _ aL.out).mono ?_); rintro e w' ⟨rfl, ⟨nd, rfl⟩⟩; refine ⟨_, rfl, ?_⟩) | ((with_reducible refine cg 129 rfl ?_); refine gl_ (some 9) Try.func129 #[.int .i64 a9] ?_; (with_reducible refine (impl_Width.calls k a9 aa _ A3.out).mono ?_); rintro e w' ⟨rfl, ⟨nd, rfl⟩⟩; refine ⟨_, rfl, ?_⟩))
go_ret
exact ⟨ew, rb HB⟩
)
)

end Go.Proofs.Ytalopdcephohgaa.RD

namespace Go.Proofs.Ytalopdcephohgaa.RD
open Go.RowKit Go.Proofs.YtalopdcephohgaaW.PrintWords Go.Proofs.YtalopdcephohgaaW.PrintLast Go.Proofs.YtalopdcephohgaaW.PrintMore
attribute [local go_sem] max2_int min2_int max_two min_two max_three min_three max_four min_four   -- for this text's walks alone
set_option linter.unusedVariables false
set_option linter.unusedSimpArgs false

attribute [local go_sem high] eqA96
/-! ### impl_RowOk: function 89 -/
def impl_RowOk.l0 : Nat → List (S98) → List (S98) → Int → Int → Option (Bool)
 | 0, _, _, _, _ => none
 | k + 1, x0, x6, x7, x8 => if x8 < x7 then (if 0 ≤ x8 then (if x8 < (x6.length : Int) then (if x8 > 0 then (if 0 ≤ (wrap64 (x8 - 1)) then (if (wrap64 (x8 - 1)) < (x0.length : Int) then ((impl_isCell.f k ((rd_T98 x6 x8).f0) ((rd_T98 x6 x8).f1.f0) ((rd_T98 x6 x8).f1.f1) ((rd_T98 x6 x8).f1.f2) ((rd_T98 x6 x8).f1.f3) ((rd_T98 x6 x8).f1.f4) ((rd_T98 x6 x8).f2)).bind fun a8 => (if a8 = true then (if ((((rd_T98 x0 (wrap64 (x8 - 1))).f2) == 1) != (((rd_T98 x6 x8).f2) == 2)) = true then (some false) else (if ((rd_T98 x0 (wrap64 (x8 - 1))).f2) = 1 then (if (!(((rd_T98 x0 (wrap64 (x8 - 1))).f1.f0) == ((rd_T98 x6 x8).f1.f0)) || (!(((rd_T98 x0 (wrap64 (x8 - 1))).f1.f1) == ((rd_T98 x6 x8).f1.f1)) || (!(((rd_T98 x0 (wrap64 (x8 - 1))).f1.f2) == ((rd_T98 x6 x8).f1.f2)) || (!(((rd_T98 x0 (wrap64 (x8 - 1))).f1.f3) == ((rd_T98 x6 x8).f1.f3)) || (!(((rd_T98 x0 (wrap64 (x8 - 1))).f1.f4) == ((rd_T98 x6 x8).f1.f4))))))) = true then (some false) else (impl_RowOk.l0 k x0 x6 x7 (wrap64 (x8 + 1)))) else (impl_RowOk.l0 k x0 x6 x7 (wrap64 (x8 + 1))))) else (some false))) else (none)) else (none)) else ((impl_isCell.f k ((rd_T98 x6 x8).f0) ((rd_T98 x6 x8).f1.f0) ((rd_T98 x6 x8).f1.f1) ((rd_T98 x6 x8).f1.f2) ((rd_T98 x6 x8).f1.f3) ((rd_T98 x6 x8).f1.f4) ((rd_T98 x6 x8).f2)).bind fun a9 => (if a9 = true then (if (false != (((rd_T98 x6 x8).f2) == 2)) = true then (some false) else (impl_RowOk.l0 k x0 x6 x7 (wrap64 (x8 + 1)))) else (some false)))) else (none)) else (none)) else ((impl_in.f (x0.length : Int) 1 60).bind fun aa => (if aa = true then (if 0 ≤ (wrap64 ((x0.length : Int) - 1)) then (if (wrap64 ((x0.length : Int) - 1)) < (x0.length : Int) then (some (((rd_T98 x0 (wrap64 ((x0.length : Int) - 1))).f2) != 1)) else (none)) else (none)) else (some false)))
def impl_RowOk.f (k : Nat) (l0 : List (S98)) : Option (Bool) := impl_RowOk.l0 k l0 l0 (l0.length : Int) 0
theorem impl_RowOk.mono_l : ∀ k, (∀ y0 y1 y2 y3, LeO (impl_RowOk.l0 k y0 y1 y2 y3) (impl_RowOk.l0 (k + 1) y0 y1 y2 y3))
 | 0 => fun _ _ _ _ r h => by simp [impl_RowOk.l0] at h
 | k + 1 => by
  have ih0 := impl_RowOk.mono_l k
  ·intro y0 y1 y2 y3
   unfold impl_RowOk.l0
   repeat' first
   | (with_reducible exact ih0 _ _ _ _)
   | (with_reducible exact impl_isCell.mono _ _ _ _ _ _ _ _)
   | (with_reducible exact LeO.refl _)
   | (with_reducible exact LeO.none _)
   | (with_reducible refine LeO.ite ?_ ?_)
   | (with_reducible refine LeO.bind ?_ (fun _ => ?_))
theorem impl_RowOk.mono : ∀ a0 k, LeO (impl_RowOk.f k a0) (impl_RowOk.f (k + 1) a0) := by
 intro a0 k
 have ih0 := impl_RowOk.mono_l k
 unfold impl_RowOk.f
 repeat' first
   | (with_reducible exact ih0 _ _ _ _)
   | (with_reducible exact impl_isCell.mono _ _ _ _ _ _ _ _)
   | (with_reducible exact LeO.refl _)
   | (with_reducible exact LeO.none _)
   | (with_reducible refine LeO.ite ?_ ?_)
   | (with_reducible refine LeO.bind ?_ (fun _ => ?_))
def impl_RowOk.T5 : Bool × List (List Nat × List Nat) := (true, [([], []), ([0], [0]), ([1], [1]), ([2, 1], [2]), ([3], [3]), ([3], [3]), ([5, 3], [3, 5]), ([6, 3], [3, 6]), ([4, 7, 3], [3, 4, 7]), ([3, 8], [3, 8]), ([9, 3], [9]), ([10], [10]), ([11, 10, 10], [10, 11]), ([12], [12]), ([12], [12]), ([14, 12], [12, 14]), ([13, 15, 12], [12, 13, 15]), ([16, 12], [12, 16]), ([17, 12], [12, 17]), ([12], [12]), ([19, 12], [12, 19]), ([18, 20, 12], [12, 18, 20]), ([12, 21, 10], [10, 12, 21]), ([10, 22], [10, 22])])
def impl_RowOk.B5 : List Nat := [0, 1, 3, 7, 15, 15, 47, 111, 255, 511, 1023, 2047, 4095, 8191, 8191, 24575, 65535, 131071, 262143, 8191, 532479, 2097151, 4194303, 8388607]
theorem impl_RowOk.tab5 : rtab .any (opsOf Try.f89 5) = impl_RowOk.T5 := by kernel_rfl
theorem impl_RowOk.bits5 : waitsOk impl_RowOk.T5.2 impl_RowOk.B5 = true := by kernel_rfl
set_option maxHeartbeats 8000000 in
set_option maxRecDepth 100000 in
theorem impl_RowOk.calls (k : Nat) (A0 : Option Addr) (c0 : Nat) (l0 : List (S98)) (r : Bool) (w : World) (bP : Kd.C k98 w A0 l0.length l0) (bO : l0.length ≤ c0) (h : impl_RowOk.f k l0 = some r) :
  Calls Try.prog 89 #[.slice A0 l0.length c0] w fun e w' => e = .returned (.bool r) ∧ Below w.heap.size w w' := by
 (
have d5 := Try.underlying98
have d4 := Try.underlying96
have bB := am bP
have d9 := am bO
clear bP bO
have HB := am (Below.refl w.heap.size w)
have H : (impl_RowOk.l0 k l0 l0 (l0.length : Int) 0) = some r := h
clear h
have H' := am H
clear H
go_enter Try.func89, Try.ntmps89
go_wp2
go_loopg [8] k (fun kq v8 w' => ∃ (a8 : Int), v8 = .int .i64 a8 ∧ Aside0 (impl_RowOk.l0 kq l0 l0 (l0.length : Int) a8 = some r) ∧ Aside0 (kq ≤ k) ∧ Aside0 (Below w.heap.size w w'))
case atStart => exact ⟨(0), sd, H', ⟨Nat.le_refl _⟩, ⟨rb HB⟩⟩
case round => (
clear H'
obtain ⟨a8, rfl, HA, bN, HB⟩ := hrel
cases gk with
| zero => exact absurd HA.out (by simp [impl_RowOk.l0])
| succ k1 => (
have H := HA.out
clear HA
simp only [impl_RowOk.l0] at H
refine em_ (p := a8 < (l0.length : Int)) (fun c2 => ?cf) (fun c2 => ?ce)
case' cf => (
rw [if_pos c2] at H
have bR : decide (a8 < (l0.length : Int)) = true := decide_eq_true c2
clear c2
refine em_ (p := 0 ≤ a8) (fun c3 => ?bY) (fun c3 => ?bX)
case' bY => (
rw [if_pos c3] at H
have cX : decide (0 ≤ a8) = true := decide_eq_true c3
clear c3
refine em_ (p := a8 < (l0.length : Int)) (fun c4 => ?cQ) (fun c4 => ?cP)
case' cQ => (
rw [if_pos c4] at H
have cY : decide (a8 < (l0.length : Int)) = true := decide_eq_true c4
clear c4
refine em_ (p := a8 > 0) (fun c5 => ?cO) (fun c5 => ?cN)
case' cO => (
rw [if_pos c5] at H
have bS : decide (0 < a8) = true := decide_eq_true c5
clear c5
obtain ⟨aa, bh⟩ : ∃ j_ : Int, (wrap64 (a8 - 1)) = j_ := ⟨_, rfl⟩
replace H : (if 0 ≤ (aa) then (if (aa) < (l0.length : Int) then ((impl_isCell.f k1 ((rd_T98 l0 a8).f0) ((rd_T98 l0 a8).f1.f0) ((rd_T98 l0 a8).f1.f1) ((rd_T98 l0 a8).f1.f2) ((rd_T98 l0 a8).f1.f3) ((rd_T98 l0 a8).f1.f4) ((rd_T98 l0 a8).f2)).bind fun bA => (if bA = true then (if ((((rd_T98 l0 (aa)).f2) == 1) != (((rd_T98 l0 a8).f2) == 2)) = true then (some false) else (if ((rd_T98 l0 (aa)).f2) = 1 then (if (!(((rd_T98 l0 (aa)).f1.f0) == ((rd_T98 l0 a8).f1.f0)) || (!(((rd_T98 l0 (aa)).f1.f1) == ((rd_T98 l0 a8).f1.f1)) || (!(((rd_T98 l0 (aa)).f1.f2) == ((rd_T98 l0 a8).f1.f2)) || (!(((rd_T98 l0 (aa)).f1.f3) == ((rd_T98 l0 a8).f1.f3)) || (!(((rd_T98 l0 (aa)).f1.f4) == ((rd_T98 l0 a8).f1.f4))))))) = true then (some false) else (impl_RowOk.l0 k1 l0 l0 (l0.length : Int) (wrap64 (a8 + 1)))) else (impl_RowOk.l0 k1 l0 l0 (l0.length : Int) (wrap64 (a8 + 1))))) else (some false))) else (none)) else (none)) = some r := by first | (rw [bh] at H; exact H) | (simp only [bh] at H ⊢; exact H)
have hji6w : (IntKind.i64.wrap (a8 - 1)) = aa := (i64_w _).trans bh
refine em_ (p := 0 ≤ (aa)) (fun c7 => ?cI) (fun c7 => ?cH)
case' cI => (
rw [if_pos c7] at H
have cZ : decide (0 ≤ (aa)) = true := decide_eq_true c7
clear c7
refine em_ (p := (aa) < (l0.length : Int)) (fun c8 => ?cG) (fun c8 => ?cF)
case' cG => (
rw [if_pos c8] at H
have d3 : decide ((aa) < (l0.length : Int)) = true := decide_eq_true c8
clear c8
obtain ⟨bA, A9, H⟩ := bd H
(try dsimp only at H)
refine em_ (p := bA = true) (fun bi => ?cE) (fun bi => ?cD)
case' cE => (
subst bi
rw [if_pos rfl] at H
refine em_ (p := ((((rd_T98 l0 (aa)).f2) == 1) != (((rd_T98 l0 a8).f2) == 2)) = true) (fun aB => ?cC) (fun aB => ?cB)
case' cC => (
rw [if_pos aB] at H
have bc : ((((rd_T98 l0 (aa)).f2) == 1) != (((rd_T98 l0 a8).f2) == 2)) = true := aB
(try (have bH : decide ((((rd_T98 l0 (aa)).f2) == 1) = (((rd_T98 l0 a8).f2) == 2)) = false := by simpa using aB))
(try (have bI : ((((rd_T98 l0 (aa)).f2) == 1) == (((rd_T98 l0 a8).f2) == 2)) = false := by simpa using aB))
(try (have cS : ¬ ((((rd_T98 l0 (aa)).f2) == 1) = (((rd_T98 l0 a8).f2) == 2)) := by simpa using aB))
clear aB
obtain rfl := Option.some.inj H
have ck := trivial
)
case' cB => (
rw [if_neg aB] at H
have bc : ((((rd_T98 l0 (aa)).f2) == 1) != (((rd_T98 l0 a8).f2) == 2)) = false := by simpa using aB
(try (have bH : decide ((((rd_T98 l0 (aa)).f2) == 1) = (((rd_T98 l0 a8).f2) == 2)) = true := by simpa using aB))
(try (have bI : ((((rd_T98 l0 (aa)).f2) == 1) == (((rd_T98 l0 a8).f2) == 2)) = true := by simpa using aB))
clear aB
refine em_ (p := ((rd_T98 l0 (aa)).f2) = 1) (fun aL => ?cA) (fun aL => ?cz)
case' cA => (
rw [if_pos aL] at H
have bf : (((rd_T98 l0 (aa)).f2) == 1) = true := beq_iff_eq.mpr aL
(try (have c17e : (((rd_T98 l0 a8).f2) == 2) = true := by have h_ := bc; rw [bf] at h_; revert h_; cases (((rd_T98 l0 a8).f2) == 2) <;> decide))
have bJ : (((rd_T98 l0 (aa)).f2) != 1) = false := bne_eq_false_iff_eq.mpr aL
clear aL
refine em_ (p := (!(((rd_T98 l0 (aa)).f1.f0) == ((rd_T98 l0 a8).f1.f0)) || (!(((rd_T98 l0 (aa)).f1.f1) == ((rd_T98 l0 a8).f1.f1)) || (!(((rd_T98 l0 (aa)).f1.f2) == ((rd_T98 l0 a8).f1.f2)) || (!(((rd_T98 l0 (aa)).f1.f3) == ((rd_T98 l0 a8).f1.f3)) || (!(((rd_T98 l0 (aa)).f1.f4) == ((rd_T98 l0 a8).f1.f4))))))) = true) (fun aM => ?cy) (fun aM => ?cw)
case' cy => (
rw [if_pos aM] at H
have bK : (!(((rd_T98 l0 (aa)).f1.f0) == ((rd_T98 l0 a8).f1.f0)) || (!(((rd_T98 l0 (aa)).f1.f1) == ((rd_T98 l0 a8).f1.f1)) || (!(((rd_T98 l0 (aa)).f1.f2) == ((rd_T98 l0 a8).f1.f2)) || (!(((rd_T98 l0 (aa)).f1.f3) == ((rd_T98 l0 a8).f1.f3)) || (!(((rd_T98 l0 (aa)).f1.f4) == ((rd_T98 l0 a8).f1.f4))))))) = true := aM
clear aM
obtain rfl := Option.some.inj H
have cl := trivial
)
case' cw => (
rw [if_neg aM] at H
have bK : (!(((rd_T98 l0 (aa)).f1.f0) == ((rd_T98 l0 a8).f1.f0)) || (!(((rd_T98 l0 (aa)).f1.f1) == ((rd_T98 l0 a8).f1.f1)) || (!(((rd_T98 l0 (aa)).f1.f2) == ((rd_T98 l0 a8).f1.f2)) || (!(((rd_T98 l0 (aa)).f1.f3) == ((rd_T98 l0 a8).f1.f3)) || (!(((rd_T98 l0 (aa)).f1.f4) == ((rd_T98 l0 a8).f1.f4))))))) = false := by simpa using aM
clear aM
have H' := am H
clear H
have cm := trivial
)
)
case' cz => (
rw [if_neg aL] at H
have bf : (((rd_T98 l0 (aa)).f2) == 1) = false := beq_eq_false_iff_ne.mpr aL
(try (have c17e : (((rd_T98 l0 a8).f2) == 2) = false := by have h_ := bc; rw [bf] at h_; revert h_; cases (((rd_T98 l0 a8).f2) == 2) <;> decide))
have bJ : (((rd_T98 l0 (aa)).f2) != 1) = true := bne_iff_ne.mpr aL
have H' := am H
clear H
have cn := trivial
)
)
)
case' cD => (
replace bi := Bool.eq_false_iff.mpr bi
subst bi
have H1 : (some false) = some r := by rw [if_neg (show ¬ (false = true) by decide)] at H; exact H
clear H
have H := H1
clear H1
obtain rfl := Option.some.inj H
have co := trivial
)
)
case cF => (
rw [if_neg c8] at H
exact absurd H (by simp)
)
)
case cH => (
rw [if_neg c7] at H
exact absurd H (by simp)
)
)
case' cN => (
rw [if_neg c5] at H
have bS : decide (0 < a8) = false := decide_eq_false c5
clear c5
obtain ⟨cu, A9, H⟩ := bd H
(try dsimp only at H)
refine em_ (p := cu = true) (fun bj => ?cM) (fun bj => ?cL)
case' cM => (
subst bj
rw [if_pos rfl] at H
refine em_ (p := (false != (((rd_T98 l0 a8).f2) == 2)) = true) (fun aC => ?cK) (fun aC => ?cJ)
case' cK => (
rw [if_pos aC] at H
have bg : (false != (((rd_T98 l0 a8).f2) == 2)) = true := aC
(try (have c41e : (((rd_T98 l0 a8).f2) == 2) = true := by have h_ := bg; revert h_; cases (((rd_T98 l0 a8).f2) == 2) <;> decide))
(try (have bL : decide (false = (((rd_T98 l0 a8).f2) == 2)) = false := by simpa using aC))
(try (have bM : (false == (((rd_T98 l0 a8).f2) == 2)) = false := by simpa using aC))
(try (have cT : ¬ (false = (((rd_T98 l0 a8).f2) == 2)) := by simpa using aC))
clear aC
obtain rfl := Option.some.inj H
have cp := trivial
)
case' cJ => (
rw [if_neg aC] at H
have bg : (false != (((rd_T98 l0 a8).f2) == 2)) = false := by simpa using aC
(try (have c41e : (((rd_T98 l0 a8).f2) == 2) = false := by have h_ := bg; revert h_; cases (((rd_T98 l0 a8).f2) == 2) <;> decide))
(try (have bL : decide (false = (((rd_T98 l0 a8).f2) == 2)) = true := by simpa using aC))
(try (have bM : (false == (((rd_T98 l0 a8).f2) == 2)) = true := by simpa using aC))
clear aC
have H' := am H
clear H
have cq := trivial
)
)
case' cL => (
replace bj := Bool.eq_false_iff.mpr bj
subst bj
have H1 : (some false) = some r := by rw [if_neg (show ¬ (false = true) by decide)] at H; exact H
clear H
have H := H1
clear H1
obtain rfl := Option.some.inj H
have ct := trivial
)
)
)
case cP => (
rw [if_neg c4] at H
exact absurd H (by simp)
)
)
case bX => (
rw [if_neg c3] at H
exact absurd H (by simp)
)
)
case ce => (
rw [if_neg c2] at H
have bR : decide (a8 < (l0.length : Int)) = false := decide_eq_false c2
clear c2
obtain ⟨cv, bD, H⟩ := bd H
(try dsimp only at H)
refine em_ (p := cv = true) (fun bl => ?cj) (fun bl => ?ch)
case cj => (
subst bl
rw [if_pos rfl] at H
obtain ⟨aA, aK⟩ : ∃ j_ : Int, (wrap64 ((l0.length : Int) - 1)) = j_ := ⟨_, rfl⟩
replace H : (if 0 ≤ (aA) then (if (aA) < (l0.length : Int) then (some (((rd_T98 l0 (aA)).f2) != 1)) else (none)) else (none)) = some r := by first | (rw [aK] at H; exact H) | (simp only [aK] at H ⊢; exact H)
(try rw [aK] at bD)
have hji59w : (IntKind.i64.wrap ((l0.length : Int) - 1)) = aA := (i64_w _).trans aK
refine em_ (p := 0 ≤ (aA)) (fun bn => ?cd) (fun bn => ?cb)
case' cd => (
rw [if_pos bn] at H
have cU : decide (0 ≤ (aA)) = true := decide_eq_true bn
clear bn
refine em_ (p := (aA) < (l0.length : Int)) (fun bo => ?ca) (fun bo => ?bZ)
case' ca => (
rw [if_pos bo] at H
have cV : decide ((aA) < (l0.length : Int)) = true := decide_eq_true bo
clear bo
obtain rfl := Option.some.inj H
have d6 := trivial
)
case bZ => (
rw [if_neg bo] at H
exact absurd H (by simp)
)
)
case cb => (
rw [if_neg bn] at H
exact absurd H (by simp)
)
all_goals (
go_wp2_with (first | ((with_reducible refine cg 56 rfl ?_); refine gl_ (some 51) Try.func56 #[.int .i64 (l0.length : Int), .int .i64 1, .int .i64 60] ?_; (with_reducible refine (impl_in.calls (l0.length : Int) 1 60 true _ bD.out).mono ?_); rintro e w' ⟨rfl, ⟨nd, rfl⟩⟩; refine ⟨_, rfl, ?_⟩; have bt : 0 ≤ ((aA) : Int) := dt_; have bz : (aA) < (l0.length : Int) := dt_; obtain ⟨cR, bW, b5, b6, b7, b8, b9, ba, bb⟩ := at_T98 bB.out (aA) bt bz; cases bW; replace b5 := (mv HB.out b5); replace b6 := (mv HB.out b6); replace b7 := (mv HB.out b7); replace b8 := (mv HB.out b8); replace b9 := (mv HB.out b9); replace ba := (mv HB.out ba); replace bb := (mv HB.out bb); replace bt := eq_true bt; replace bz := eq_true bz))
go_ret
exact ⟨by first | rfl | (simp [errW_none, errW_some] <;> rfl) | (simp only [← aK]; first | rfl | (simp [errW_none, errW_some] <;> rfl)) | (simp [*, errW_none, errW_some] <;> rfl), rb HB⟩
)
)
case' ch => (
replace bl := Bool.eq_false_iff.mpr bl
subst bl
have H1 : (some false) = some r := by rw [if_neg (show ¬ (false = true) by decide)] at H; exact H
clear H
have H := H1
clear H1
obtain rfl := Option.some.inj H
have cW := trivial
)
all_goals (
go_wp2_with (first | ((with_reducible refine cg 56 rfl ?_); refine gl_ (some 51) Try.func56 #[.int .i64 (l0.length : Int), .int .i64 1, .int .i64 60] ?_; (with_reducible refine (impl_in.calls (l0.length : Int) 1 60 false _ bD.out).mono ?_); rintro e w' ⟨rfl, ⟨nd, rfl⟩⟩; refine ⟨_, rfl, ?_⟩))
go_ret
exact ⟨ew, rb HB⟩
)
)
all_goals (
have bp : 0 ≤ (a8 : Int) := dt_
have bu : a8 < (l0.length : Int) := dt_
obtain ⟨al, bT, aU, aV, aW, aX, aY, aZ, b4⟩ := at_T98 bB.out a8 bp bu
cases bT
replace aU := mv HB.out aU
replace aV := mv HB.out aV
replace aW := mv HB.out aW
replace aX := mv HB.out aX
replace aY := mv HB.out aY
replace aZ := mv HB.out aZ
replace b4 := mv HB.out b4
replace bp := eq_true bp
replace bu := eq_true bu
try go_wp2_with (first | ((with_reducible refine gate_dst (N := 4) rfl ?_); (try (refine gate_guard (by rfl) ?_; dsimp only)); refine bx 4 #[.int .i64 0, .int .i64 0, .int .i64 0, .bool false, .bool false, .bool false, .int .i64 0] 98 ?_; intro a9 hg bC hbox hb; have ae := am (hbox); have az := am (gw hg (rb HB)); have bE := az; replace HB := bs HB hb; clear hb hbox hg; have d7 := z7 ae; have bq : 0 ≤ ((aa) : Int) := dt_; have bv : (aa) < (l0.length : Int) := dt_; obtain ⟨bF, bU, ac, af, ag, ah, ai, aj, ak⟩ := at_T98 bB.out (aa) bq bv; obtain rfl : al = bF := (by injection bU); have ao : al.block ≠ a9 := Nat.ne_of_lt (Nat.lt_of_lt_of_le (by have := World.block_lt_of_cell? _ _ ac; first | rwa [add_block] at this | exact this) az.out); have ap : al.block ≠ a9 := Nat.ne_of_lt (Nat.lt_of_lt_of_le (by have := World.block_lt_of_cell? _ _ ac; first | rwa [add_block] at this | exact this) az.out); have aq : al.block ≠ a9 := Nat.ne_of_lt (Nat.lt_of_lt_of_le (by have := World.block_lt_of_cell? _ _ ac; first | rwa [add_block] at this | exact this) az.out); have au : al.block ≠ a9 := Nat.ne_of_lt (Nat.lt_of_lt_of_le (by have := World.block_lt_of_cell? _ _ ac; first | rwa [add_block] at this | exact this) az.out); have av : al.block ≠ a9 := Nat.ne_of_lt (Nat.lt_of_lt_of_le (by have := World.block_lt_of_cell? _ _ ac; first | rwa [add_block] at this | exact this) az.out); have ax : al.block ≠ a9 := Nat.ne_of_lt (Nat.lt_of_lt_of_le (by have := World.block_lt_of_cell? _ _ ac; first | rwa [add_block] at this | exact this) az.out); have ay : al.block ≠ a9 := Nat.ne_of_lt (Nat.lt_of_lt_of_le (by have := World.block_lt_of_cell? _ _ ac; first | rwa [add_block] at this | exact this) az.out); replace ac := (mv HB.out ac); replace af := (mv HB.out af); replace ag := (mv HB.out ag); replace ah := (mv HB.out ah); replace ai := (mv HB.out ai); replace aj := (mv HB.out aj); replace ak := (mv HB.out ak); replace ac := (cell_far (p := ⟨a9, 0, none⟩) (ab ao) (.int .i64 ((rd_T98 l0 a8).f0))).trans ac; replace af := (cell_far (p := ⟨a9, 0, none⟩) (ab ao) (.int .i64 ((rd_T98 l0 a8).f0))).trans af; replace ag := (cell_far (p := ⟨a9, 0, none⟩) (ab ao) (.int .i64 ((rd_T98 l0 a8).f0))).trans ag; replace ah := (cell_far (p := ⟨a9, 0, none⟩) (ab ao) (.int .i64 ((rd_T98 l0 a8).f0))).trans ah; replace ai := (cell_far (p := ⟨a9, 0, none⟩) (ab ao) (.int .i64 ((rd_T98 l0 a8).f0))).trans ai; replace aj := (cell_far (p := ⟨a9, 0, none⟩) (ab ao) (.int .i64 ((rd_T98 l0 a8).f0))).trans aj; replace ak := (cell_far (p := ⟨a9, 0, none⟩) (ab ao) (.int .i64 ((rd_T98 l0 a8).f0))).trans ak; replace ac := (cell_far (p := ⟨a9, 1, none⟩) (ab ap) (.int .i64 ((rd_T98 l0 a8).f1.f0))).trans ac; replace af := (cell_far (p := ⟨a9, 1, none⟩) (ab ap) (.int .i64 ((rd_T98 l0 a8).f1.f0))).trans af; replace ag := (cell_far (p := ⟨a9, 1, none⟩) (ab ap) (.int .i64 ((rd_T98 l0 a8).f1.f0))).trans ag; replace ah := (cell_far (p := ⟨a9, 1, none⟩) (ab ap) (.int .i64 ((rd_T98 l0 a8).f1.f0))).trans ah; replace ai := (cell_far (p := ⟨a9, 1, none⟩) (ab ap) (.int .i64 ((rd_T98 l0 a8).f1.f0))).trans ai; replace aj := (cell_far (p := ⟨a9, 1, none⟩) (ab ap) (.int .i64 ((rd_T98 l0 a8).f1.f0))).trans aj; replace ak := (cell_far (p := ⟨a9, 1, none⟩) (ab ap) (.int .i64 ((rd_T98 l0 a8).f1.f0))).trans ak; replace ac := (cell_far (p := ⟨a9, 2, none⟩) (ab aq) (.int .i64 ((rd_T98 l0 a8).f1.f1))).trans ac; replace af := (cell_far (p := ⟨a9, 2, none⟩) (ab aq) (.int .i64 ((rd_T98 l0 a8).f1.f1))).trans af; replace ag := (cell_far (p := ⟨a9, 2, none⟩) (ab aq) (.int .i64 ((rd_T98 l0 a8).f1.f1))).trans ag; replace ah := (cell_far (p := ⟨a9, 2, none⟩) (ab aq) (.int .i64 ((rd_T98 l0 a8).f1.f1))).trans ah; replace ai := (cell_far (p := ⟨a9, 2, none⟩) (ab aq) (.int .i64 ((rd_T98 l0 a8).f1.f1))).trans ai; replace aj := (cell_far (p := ⟨a9, 2, none⟩) (ab aq) (.int .i64 ((rd_T98 l0 a8).f1.f1))).trans aj; replace ak := (cell_far (p := ⟨a9, 2, none⟩) (ab aq) (.int .i64 ((rd_T98 l0 a8).f1.f1))).trans ak; replace ac := (cell_far (p := ⟨a9, 3, none⟩) (ab au) (.bool ((rd_T98 l0 a8).f1.f2))).trans ac; replace af := (cell_far (p := ⟨a9, 3, none⟩) (ab au) (.bool ((rd_T98 l0 a8).f1.f2))).trans af; replace ag := (cell_far (p := ⟨a9, 3, none⟩) (ab au) (.bool ((rd_T98 l0 a8).f1.f2))).trans ag; replace ah := (cell_far (p := ⟨a9, 3, none⟩) (ab au) (.bool ((rd_T98 l0 a8).f1.f2))).trans ah; replace ai := (cell_far (p := ⟨a9, 3, none⟩) (ab au) (.bool ((rd_T98 l0 a8).f1.f2))).trans ai; replace aj := (cell_far (p := ⟨a9, 3, none⟩) (ab au) (.bool ((rd_T98 l0 a8).f1.f2))).trans aj; replace ak := (cell_far (p := ⟨a9, 3, none⟩) (ab au) (.bool ((rd_T98 l0 a8).f1.f2))).trans ak; replace ac := (cell_far (p := ⟨a9, 4, none⟩) (ab av) (.bool ((rd_T98 l0 a8).f1.f3))).trans ac; replace af := (cell_far (p := ⟨a9, 4, none⟩) (ab av) (.bool ((rd_T98 l0 a8).f1.f3))).trans af; replace ag := (cell_far (p := ⟨a9, 4, none⟩) (ab av) (.bool ((rd_T98 l0 a8).f1.f3))).trans ag; replace ah := (cell_far (p := ⟨a9, 4, none⟩) (ab av) (.bool ((rd_T98 l0 a8).f1.f3))).trans ah; replace ai := (cell_far (p := ⟨a9, 4, none⟩) (ab av) (.bool ((rd_T98 l0 a8).f1.f3))).trans ai; replace aj := (cell_far (p := ⟨a9, 4, none⟩) (ab av) (.bool ((rd_T98 l0 a8).f1.f3))).trans aj; replace ak := (cell_far (p := ⟨a9, 4, none⟩) (ab av) (.bool ((rd_T98 l0 a8).f1.f3))).trans ak; replace ac := (cell_far (p := ⟨a9, 5, none⟩) (ab ax) (.bool ((rd_T98 l0 a8).f1.f4))).trans ac; replace af := (cell_far (p := ⟨a9, 5, none⟩) (ab ax) (.bool ((rd_T98 l0 a8).f1.f4))).trans af; replace ag := (cell_far (p := ⟨a9, 5, none⟩) (ab ax) (.bool ((rd_T98 l0 a8).f1.f4))).trans ag; replace ah := (cell_far (p := ⟨a9, 5, none⟩) (ab ax) (.bool ((rd_T98 l0 a8).f1.f4))).trans ah; replace ai := (cell_far (p := ⟨a9, 5, none⟩) (ab ax) (.bool ((rd_T98 l0 a8).f1.f4))).trans ai; replace aj := (cell_far (p := ⟨a9, 5, none⟩) (ab ax) (.bool ((rd_T98 l0 a8).f1.f4))).trans aj; replace ak := (cell_far (p := ⟨a9, 5, none⟩) (ab ax) (.bool ((rd_T98 l0 a8).f1.f4))).trans ak; replace ac := (cell_far (p := ⟨a9, 6, none⟩) (ab ay) (.int .i64 ((rd_T98 l0 a8).f2))).trans ac; replace af := (cell_far (p := ⟨a9, 6, none⟩) (ab ay) (.int .i64 ((rd_T98 l0 a8).f2))).trans af; replace ag := (cell_far (p := ⟨a9, 6, none⟩) (ab ay) (.int .i64 ((rd_T98 l0 a8).f2))).trans ag; replace ah := (cell_far (p := ⟨a9, 6, none⟩) (ab ay) (.int .i64 ((rd_T98 l0 a8).f2))).trans ah; replace ai := (cell_far (p := ⟨a9, 6, none⟩) (ab ay) (.int .i64 ((rd_T98 l0 a8).f2))).trans ai; replace aj := (cell_far (p := ⟨a9, 6, none⟩) (ab ay) (.int .i64 ((rd_T98 l0 a8).f2))).trans aj; replace ak := (cell_far (p := ⟨a9, 6, none⟩) (ab ay) (.int .i64 ((rd_T98 l0 a8).f2))).trans ak; clear ao; clear ap; clear aq; clear au; clear av; clear ax; clear ay; replace bq := eq_true bq; replace bv := eq_true bv) | ((with_reducible refine gate_dst (N := 4) rfl ?_); (try (refine gate_guard (by rfl) ?_; dsimp only)); refine bx 4 #[.int .i64 0, .int .i64 0, .int .i64 0, .bool false, .bool false, .bool false, .int .i64 0] 98 ?_; intro a9 hg bC hbox hb; have ae := am (hbox); have az := am (gw hg (rb HB)); have bE := az; replace HB := bs HB hb; clear hb hbox hg; have d8 := z7 ae))
have n0_ : Aside0 ((((((((bC.setCell ⟨a9, 0, none⟩ (.int .i64 ((rd_T98 l0 a8).f0))).setCell ⟨a9, 1, none⟩ (.int .i64 ((rd_T98 l0 a8).f1.f0))).setCell ⟨a9, 2, none⟩ (.int .i64 ((rd_T98 l0 a8).f1.f1))).setCell ⟨a9, 3, none⟩ (.bool ((rd_T98 l0 a8).f1.f2))).setCell ⟨a9, 4, none⟩ (.bool ((rd_T98 l0 a8).f1.f3))).setCell ⟨a9, 5, none⟩ (.bool ((rd_T98 l0 a8).f1.f4))).setCell ⟨a9, 6, none⟩ (.int .i64 ((rd_T98 l0 a8).f2))).heap[a9]? = some (.cells #[.int .i64 ((rd_T98 l0 a8).f0), .int .i64 ((rd_T98 l0 a8).f1.f0), .int .i64 ((rd_T98 l0 a8).f1.f1), .bool ((rd_T98 l0 a8).f1.f2), .bool ((rd_T98 l0 a8).f1.f3), .bool ((rd_T98 l0 a8).f1.f4), .int .i64 ((rd_T98 l0 a8).f2)] 98 (0, 0))) := ⟨rk ae⟩
have n1_ : Aside0 (Below w.heap.size w (((((((bC.setCell ⟨a9, 0, none⟩ (.int .i64 ((rd_T98 l0 a8).f0))).setCell ⟨a9, 1, none⟩ (.int .i64 ((rd_T98 l0 a8).f1.f0))).setCell ⟨a9, 2, none⟩ (.int .i64 ((rd_T98 l0 a8).f1.f1))).setCell ⟨a9, 3, none⟩ (.bool ((rd_T98 l0 a8).f1.f2))).setCell ⟨a9, 4, none⟩ (.bool ((rd_T98 l0 a8).f1.f3))).setCell ⟨a9, 5, none⟩ (.bool ((rd_T98 l0 a8).f1.f4))).setCell ⟨a9, 6, none⟩ (.int .i64 ((rd_T98 l0 a8).f2)))) := ⟨rb HB⟩
(try clear ae)
(try clear HB)
generalize (((((((bC.setCell ⟨a9, 0, none⟩ (.int .i64 ((rd_T98 l0 a8).f0))).setCell ⟨a9, 1, none⟩ (.int .i64 ((rd_T98 l0 a8).f1.f0))).setCell ⟨a9, 2, none⟩ (.int .i64 ((rd_T98 l0 a8).f1.f1))).setCell ⟨a9, 3, none⟩ (.bool ((rd_T98 l0 a8).f1.f2))).setCell ⟨a9, 4, none⟩ (.bool ((rd_T98 l0 a8).f1.f3))).setCell ⟨a9, 5, none⟩ (.bool ((rd_T98 l0 a8).f1.f4))).setCell ⟨a9, 6, none⟩ (.int .i64 ((rd_T98 l0 a8).f2))) = bQ at n0_ n1_ ⊢
have ae := n0_
have HB := n1_
clear n0_ n1_
replace ae := am (blk_drew ae.out)
replace HB := am (below_drew1 HB.out)
first
| (
have br : 0 ≤ ((aa) : Int) := dt_
have bw : (aa) < (l0.length : Int) := dt_
obtain ⟨bG, bV, aD, aE, aF, aG, aH, aI, aJ⟩ := at_T98 bB.out (aa) br bw
have aT := aJ
have aS := aI
have aR := aH
have aQ := aG
have aP := aF
have aO := aE
have aN := aD
obtain rfl : al = bG := (by injection bV)
replace aD := mv HB.out aD
replace aE := mv HB.out aE
replace aF := mv HB.out aF
replace aG := mv HB.out aG
replace aH := mv HB.out aH
replace aI := mv HB.out aI
replace aJ := mv HB.out aJ
replace br := eq_true br
replace bw := eq_true bw
refine start_ (n := 24) (S := fun w' => w'.cell? ⟨a9, 0, none⟩ = some (.int .i64 ((rd_T98 l0 a8).f0)) ∧ w'.cell? ⟨a9, 1, none⟩ = some (.int .i64 ((rd_T98 l0 a8).f1.f0)) ∧ w'.cell? ⟨a9, 2, none⟩ = some (.int .i64 ((rd_T98 l0 a8).f1.f1)) ∧ w'.cell? ⟨a9, 3, none⟩ = some (.bool ((rd_T98 l0 a8).f1.f2)) ∧ w'.cell? ⟨a9, 4, none⟩ = some (.bool ((rd_T98 l0 a8).f1.f3)) ∧ w'.cell? ⟨a9, 5, none⟩ = some (.bool ((rd_T98 l0 a8).f1.f4)) ∧ w'.cell? ⟨a9, 6, none⟩ = some (.int .i64 ((rd_T98 l0 a8).f2)) ∧ w'.cell? (al.add (((aa)).toNat * 7)) = some (.int .i64 ((rd_T98 l0 (aa)).f0)) ∧ w'.cell? ⟨(al.add (((aa)).toNat * 7)).block, (al.add (((aa)).toNat * 7)).off + 1, none⟩ = some (.int .i64 ((rd_T98 l0 (aa)).f1.f0)) ∧ w'.cell? ⟨(al.add (((aa)).toNat * 7)).block, (al.add (((aa)).toNat * 7)).off + 2, none⟩ = some (.int .i64 ((rd_T98 l0 (aa)).f1.f1)) ∧ w'.cell? ⟨(al.add (((aa)).toNat * 7)).block, (al.add (((aa)).toNat * 7)).off + 3, none⟩ = some (.bool ((rd_T98 l0 (aa)).f1.f2)) ∧ w'.cell? ⟨(al.add (((aa)).toNat * 7)).block, (al.add (((aa)).toNat * 7)).off + 4, none⟩ = some (.bool ((rd_T98 l0 (aa)).f1.f3)) ∧ w'.cell? ⟨(al.add (((aa)).toNat * 7)).block, (al.add (((aa)).toNat * 7)).off + 5, none⟩ = some (.bool ((rd_T98 l0 (aa)).f1.f4)) ∧ w'.cell? ⟨(al.add (((aa)).toNat * 7)).block, (al.add (((aa)).toNat * 7)).off + 6, none⟩ = some (.int .i64 ((rd_T98 l0 (aa)).f2))) (ds := []) (bm 24 0) (by kernel_rfl) rfl rfl ⟨(blk_cell ae.out 0).trans rfl, (blk_cell ae.out 1).trans rfl, (blk_cell ae.out 2).trans rfl, (blk_cell ae.out 3).trans rfl, (blk_cell ae.out 4).trans rfl, (blk_cell ae.out 5).trans rfl, (blk_cell ae.out 6).trans rfl, (mv HB.out aN), (mv HB.out aO), (mv HB.out aP), (mv HB.out aQ), (mv HB.out aR), (mv HB.out aS), (mv HB.out aT)⟩ (fun hHeld => ?_); refine with_tabW impl_RowOk.tab5 impl_RowOk.bits5 (fun HT_ HW_ => ?_)
generalize bQ.drew = dc at ae HB aD aE aF aG aH aI aJ hHeld ⊢
refine take_ (i := 0) (N := some 24) (v := ?_) (a' := ?_) (bm 24 1) rfl rfl (take_ofW HT_.out HW_.out (by kernel_rfl)) (fun _ _ _ h => h) (Or.inl ⟨by rfl, ?_⟩) hHeld ?_ ?_
rotate_left
·(
rintro w' ⟨s0, s1, s2, s3, s4, s5, s6, s7, s8, s9, s10, s11, s12, s13⟩
go_simp
with_reducible rfl
)
)
| (
refine start_ (n := 24) (S := fun w' => w'.cell? ⟨a9, 0, none⟩ = some (.int .i64 ((rd_T98 l0 a8).f0)) ∧ w'.cell? ⟨a9, 1, none⟩ = some (.int .i64 ((rd_T98 l0 a8).f1.f0)) ∧ w'.cell? ⟨a9, 2, none⟩ = some (.int .i64 ((rd_T98 l0 a8).f1.f1)) ∧ w'.cell? ⟨a9, 3, none⟩ = some (.bool ((rd_T98 l0 a8).f1.f2)) ∧ w'.cell? ⟨a9, 4, none⟩ = some (.bool ((rd_T98 l0 a8).f1.f3)) ∧ w'.cell? ⟨a9, 5, none⟩ = some (.bool ((rd_T98 l0 a8).f1.f4)) ∧ w'.cell? ⟨a9, 6, none⟩ = some (.int .i64 ((rd_T98 l0 a8).f2))) (ds := []) (bm 24 0) (by kernel_rfl) rfl rfl (bc7 ae) (fun hHeld => ?_); refine with_tabW impl_RowOk.tab5 impl_RowOk.bits5 (fun HT_ HW_ => ?_)
generalize bQ.drew = da at ae HB hHeld ⊢
refine take_ (i := 0) (N := some 24) (v := ?_) (a' := ?_) (bm 24 1) rfl rfl (take_ofW HT_.out HW_.out (by kernel_rfl)) (fun _ _ _ h => h) (Or.inl ⟨by rfl, ?_⟩) hHeld ?_ ?_
rotate_left
·(
rintro w' ⟨s0, s1, s2, s3, s4, s5, s6⟩
go_simp
with_reducible rfl
)
)
rotate_left
·(
simp only [Act.put, List.setIfInBounds_toArray, List.set_cons_zero, List.set_cons_succ, i64_w, i32_w]
rfl
)
refine o1 1 25 (bm 24 3) HT_ (fun K hK => ?_)
refine gs Try.func117 #[.agg #[.int .i64 ((rd_T98 l0 a8).f0), .int .i64 ((rd_T98 l0 a8).f1.f0), .int .i64 ((rd_T98 l0 a8).f1.f1), .bool ((rd_T98 l0 a8).f1.f2), .bool ((rd_T98 l0 a8).f1.f3), .bool ((rd_T98 l0 a8).f1.f4), .int .i64 ((rd_T98 l0 a8).f2)]] ?_
first
| with_reducible refine (impl_isCell.calls k1 ((rd_T98 l0 a8).f0) ((rd_T98 l0 a8).f1.f0) ((rd_T98 l0 a8).f1.f1) ((rd_T98 l0 a8).f1.f2) ((rd_T98 l0 a8).f1.f3) ((rd_T98 l0 a8).f1.f4) ((rd_T98 l0 a8).f2) false _ A9.out).mono ?_
| with_reducible refine (impl_isCell.calls k1 ((rd_T98 l0 a8).f0) ((rd_T98 l0 a8).f1.f0) ((rd_T98 l0 a8).f1.f1) ((rd_T98 l0 a8).f1.f2) ((rd_T98 l0 a8).f1.f3) ((rd_T98 l0 a8).f1.f4) ((rd_T98 l0 a8).f2) true _ A9.out).mono ?_
rintro e db ⟨rfl, hb⟩
refine ⟨_, rfl, ?_⟩
replace ae := kk ae hb
replace HB := bs HB hb
(try clear hb)
first
| refine hK.out _ _ ⟨(blk_cell ae.out 0).trans rfl, (blk_cell ae.out 1).trans rfl, (blk_cell ae.out 2).trans rfl, (blk_cell ae.out 3).trans rfl, (blk_cell ae.out 4).trans rfl, (blk_cell ae.out 5).trans rfl, (blk_cell ae.out 6).trans rfl, (mv HB.out aN), (mv HB.out aO), (mv HB.out aP), (mv HB.out aQ), (mv HB.out aR), (mv HB.out aS), (mv HB.out aT)⟩ (fun hHeld => ?_)
| refine hK.out _ _ (bc7 ae) (fun hHeld => ?_)
clear hK K
refine norm_ (a' := _) (show Act.put _ (some 25) _ = _ from na) ?_
refine pu_ 2 26 (bm 24 7) HT_.out ?_
refine pu_ 3 27 (bm 24 15) HT_.out ?_
first | refine pu_ 4 28 (bm 24 31) HT_.out ?_ | refine un_ 4 28 (bm 24 31) HT_.out ?_
first | refine pu_ 5 29 (bm 24 63) HT_.out ?_ | refine un_ 5 29 (bm 24 63) HT_.out ?_
first
| (
refine take_ (i := 6) (N := some 30) (v := ?_) (a' := ?_) (bm 24 127) rfl rfl (take_ofW HT_.out HW_.out (by kernel_rfl)) (fun _ _ _ h => h) (Or.inl ⟨by rfl, ?_⟩) hHeld ?_ ?_
rotate_left
first
| (
·(
rintro w' ⟨s0, s1, s2, s3, s4, s5, s6, s7, s8, s9, s10, s11, s12, s13⟩
go_simp
with_reducible rfl
)
)
| (
·(
rintro w' ⟨s0, s1, s2, s3, s4, s5, s6⟩
go_simp
with_reducible rfl
)
)
rotate_left
·(
simp only [Act.put, List.setIfInBounds_toArray, List.set_cons_zero, List.set_cons_succ, i64_w, i32_w]
rfl
)
)
| (
refine tk 6 30 (bm 24 127) HT_ HW_ hHeld ?_
)
| refine un_ 6 30 (bm 24 127) HT_.out ?_
first | refine pu_ 7 31 (bm 24 255) HT_.out ?_ | refine un_ 7 31 (bm 24 255) HT_.out ?_
first | refine pu_ 8 32 (bm 24 511) HT_.out ?_ | refine un_ 8 32 (bm 24 511) HT_.out ?_
refine pu_ 9 33 (bm 24 1023) HT_.out ?_
refine pu_ 10 34 (bm 24 2047) HT_.out ?_
first | refine un_ 11 35 (bm 24 4095) HT_.out ?_ | refine pu_ 11 35 (bm 24 4095) HT_.out ?_
first | refine un_ 12 36 (bm 24 8191) HT_.out ?_ | refine pu_ 12 36 (bm 24 8191) HT_.out ?_
first | refine un_ 13 37 (bm 24 16383) HT_.out ?_ | refine pu_ 13 37 (bm 24 16383) HT_.out ?_
first | refine un_ 14 38 (bm 24 32767) HT_.out ?_ | refine pu_ 14 38 (bm 24 32767) HT_.out ?_
first | refine un_ 15 39 (bm 24 65535) HT_.out ?_ | refine pu_ 15 39 (bm 24 65535) HT_.out ?_
first | refine un_ 16 40 (bm 24 131071) HT_.out ?_ | refine pu_ 16 40 (bm 24 131071) HT_.out ?_
first | refine un_ 17 41 (bm 24 262143) HT_.out ?_ | refine pu_ 17 41 (bm 24 262143) HT_.out ?_
first
| (
refine pu_ 19 43 (bm 24 786431) HT_.out ?_
refine tk 18 42 (bm 24 1048575) HT_ HW_ hHeld ?_
refine tk 20 44 (bm 24 2097151) HT_ HW_ hHeld ?_
)
| (
refine un_ 18 42 (bm 24 524287) HT_.out ?_
refine un_ 19 43 (bm 24 1048575) HT_.out ?_
refine un_ 20 44 (bm 24 2097151) HT_.out ?_
)
first | refine un_ 21 45 (bm 24 4194303) HT_.out ?_ | refine pu_ 21 45 (bm 24 4194303) HT_.out ?_
first | refine un_ 22 46 (bm 24 8388607) HT_.out ?_ | refine pu_ 22 46 (bm 24 8388607) HT_.out ?_
refine pu_ 23 47 (bm 24 16777215) HT_.out ?_
refine done_ (done_of HT_.out (by kernel_rfl)) ?_
try go_wp2
first
| (
first | have q_ := ck | have q_ := cl | have q_ := co
go_ret
exact ⟨by first | rfl | (simp [errW_none, errW_some] <;> rfl) | (simp only [← bh]; first | rfl | (simp [errW_none, errW_some] <;> rfl)) | (simp [*, errW_none, errW_some] <;> rfl), rb HB⟩
)
| (
first | have q_ := cm | have q_ := cn | have q_ := cq
go_roundg k1
case measure => have := bN.out; omega
case rel => exact ⟨(wrap64 (a8 + 1)), sd, H', ⟨by have := bN.out; omega⟩, ⟨rb HB⟩⟩
)
| (
first | have q_ := cp | have q_ := ct
go_ret
exact ⟨ew, rb HB⟩
)
)
)
)
)

end Go.Proofs.Ytalopdcephohgaa.RD

namespace Go.Proofs.Ytalopdcephohgaa.RD
open Go.RowKit Go.Proofs.YtalopdcephohgaaW.PrintWords Go.Proofs.YtalopdcephohgaaW.PrintLast Go.Proofs.YtalopdcephohgaaW.PrintMore
attribute [local go_sem] max2_int min2_int max_two min_two max_three min_three max_four min_four   -- for this text's walks alone
set_option linter.unusedVariables false
set_option linter.unusedSimpArgs false

-- NOT PRINTED: function 88 (impl_GridOk_1)

/-! ### impl_GridOk: function 48 -/
def impl_GridOk.l0 (k : Nat) (c : Int) : List (List S98) → Option Bool
 | [] => some false
 | r :: l => if (r.length : Int) = c then (impl_RowOk.f k r).bind fun t => if t = true then impl_GridOk.l0 k c l else some true else some true
theorem impl_GridOk.mono_l : ∀ (l : List (List S98)) (k : Nat) (c : Int), LeO (impl_GridOk.l0 k c l) (impl_GridOk.l0 (k + 1) c l)
 | [], _, _ => LeO.refl _
 | r :: l, k, c => by
  simp only [impl_GridOk.l0]
  exact LeO.ite (LeO.bind (impl_RowOk.mono _ _) (fun _ => LeO.ite (impl_GridOk.mono_l l k c) (LeO.refl _))) (LeO.refl _)
def impl_GridOk.f (k : Nat) (a8 : Int) (a9 : List (List S98)) : Option Bool :=
 (impl_in.f a8 1 60).bind fun t => if t = true then ((impl_in.f (a9.length : Int) 1 30).bind fun u => if u = true then ((impl_GridOk.l0 k a8 a9).bind fun b => some (!b)) else some false) else some false
theorem impl_GridOk.mono : ∀ a0 a1 k, LeO (impl_GridOk.f k a0 a1) (impl_GridOk.f (k + 1) a0 a1) := by
 intro a0 a1 k
 unfold impl_GridOk.f
 exact LeO.bind (LeO.refl _) (fun _ => LeO.ite (LeO.bind (LeO.refl _) (fun _ => LeO.ite (LeO.bind (impl_GridOk.mono_l _ _ _) (fun _ => LeO.refl _)) (LeO.refl _))) (LeO.refl _))
set_option maxHeartbeats 8000000 in
set_option maxRecDepth 100000 in
theorem impl_GridOk.lit (k : Nat) (g : Nat) (c : Int) (A0 : Option Addr) (c0 : Nat) (l0 : List S98) (w : World) (hr0 : Kd.C k98 w A0 l0.length l0) (hc0 : l0.length ≤ c0) (hg : w.cell? ⟨g, 0, none⟩ = some (.int .i64 c))
  (b : Bool) (h : (if (l0.length : Int) = c then (impl_RowOk.f k l0).bind fun t => some (!t) else some true) = some b) :
  Calls Try.prog 88 #[.slice A0 l0.length c0, .pointer (some ⟨g, 0, none⟩)] w fun e w' => e = .returned (.bool b) ∧ Below w.heap.size w w' := by
 have HR := am hr0
 have HC := am hc0
 clear hr0 hc0
 by_cases e : (l0.length : Int) = c
 ·rw [if_pos e] at h
  obtain ⟨t, et, h⟩ := Option.bind_eq_some_iff.mp h
  obtain rfl := Option.some.inj h
  have ET := am et
  clear et h
  subst e
  have d1 : ((l0.length : Int) != (l0.length : Int)) = false := bne_self_eq_false _
  go_enter Try.func88, Try.ntmps88
  go_wp2_with ((with_reducible refine gate_callee (f := 89) rfl ?_); (try (refine gate_guard (by rfl) ?_; dsimp only)); refine gl_ (some 11) Try.func89 #[.slice A0 l0.length c0] ?_; (with_reducible refine (impl_RowOk.calls k A0 c0 l0 t _ HR.out HC.out ET.out).mono ?_); rintro e w' ⟨rfl, hb⟩; refine ⟨_, rfl, ?_⟩; have HB := am hb; clear hb)
  go_ret
  exact ⟨rfl, HB.out⟩
 ·rw [if_neg e] at h
  obtain rfl := Option.some.inj h
  have d1 : ((l0.length : Int) != c) = true := bne_iff_ne.mpr e
  go_enter Try.func88, Try.ntmps88
  go_wp2
  go_ret
  exact ⟨rfl, Below.refl _ _⟩
set_option maxHeartbeats 8000000 in
set_option maxRecDepth 100000 in
theorem impl_GridOk.idx (k : Nat) (g : Nat) (c : Int) (A0 : Option Addr) (c0 : Nat) (rows : List (List S98)) (w : World) (hl : rows.length ≤ 30) (hr0 : Kd.C (Kd.slice 98 k98) w A0 rows.length rows) (hg : w.cell? ⟨g, 0, none⟩ = some (.int .i64 c))
  (b : Bool) (h : impl_GridOk.l0 k c rows = some b) :
  Calls Try.prog 116 #[.slice A0 rows.length c0, .func (.func 88) #[] #[.pointer (some ⟨g, 0, none⟩)]] w fun e w' => (∃ v : Int, e = .returned (.int .i64 v) ∧ decide (v ≥ 0) = b) ∧ Below w.heap.size w w' := by
 have HR := am hr0
 have HG := am hg
 clear hr0 hg
 have H0 := am h
 clear h
 go_enter Try.func116, Try.ntmps116
 go_wp2
 go_loopg [5, 8] rows.length (fun gk v5 v8 wr => ∃ i : Nat, v8 = .int .i64 (i : Int) ∧ Aside0 (i ≤ rows.length ∧ rows.length - i ≤ gk) ∧ Aside0 (impl_GridOk.l0 k c (rows.drop i) = some b) ∧ Aside0 (Below w.heap.size w wr))
 case atStart => exact ⟨0, rfl, ⟨Nat.zero_le _, Nat.le_refl _⟩, H0, ⟨Below.refl _ _⟩⟩
 case round =>
  clear H0
  obtain ⟨i, rfl, H1, H0, HB⟩ := hrel
  by_cases ci : i < rows.length
  ·obtain ⟨g1, rfl⟩ : ∃ q, gk = q + 1 := ⟨gk - 1, by have := H1.out; omega⟩
   obtain ⟨ad, cx, hA, -, hK, hcx⟩ := Kd.C_get HR.out [] (i : Int) (by omega) (by omega)
   obtain ⟨rw_, hrw⟩ : ∃ r, r = rows[i] := ⟨_, rfl⟩
   rw [show rows.getD (i : Int).toNat [] = rw_ by rw [hrw, Int.toNat_natCast, List.getD_eq_getElem?_getD, List.getElem?_eq_getElem ci]; rfl] at hK
   obtain ⟨Ar, cr, rfl, hlr, hCr⟩ := hK
   have hx : wr.cell? (ad.add i) = some (.slice Ar rw_.length cr) := by
    have := hcx 0 _ rfl
    rw [show (Kd.slice 98 k98).sz = 1 from rfl, Nat.mul_one, Nat.add_zero, Int.toNat_natCast] at this
    exact pw_cell_below HB.out this
   subst hA
   have HCr := am (Kd.C_below hCr HB.out)
   have HLr := am hlr
   have HGr := am (pw_cell_below HB.out HG.out)
   clear hcx hCr hlr
   have HH := H0.out
   rw [List.drop_eq_getElem_cons ci, ← hrw] at HH
   obtain ⟨lb, hlb, hnext⟩ : ∃ lb : Bool, (if (rw_.length : Int) = c then (impl_RowOk.f k rw_).bind fun t => some (!t) else some true) = some lb ∧ ((lb = true ∧ b = true) ∨ (lb = false ∧ impl_GridOk.l0 k c (rows.drop (i + 1)) = some b)) := by
    simp only [impl_GridOk.l0] at HH
    by_cases q : (rw_.length : Int) = c
    ·rw [if_pos q] at HH ⊢
     obtain ⟨t, et, HH⟩ := Option.bind_eq_some_iff.mp HH
     rw [et]
     cases t with
     | true => exact ⟨false, rfl, .inr ⟨rfl, by simpa using HH⟩⟩
     | false => exact ⟨true, rfl, .inl ⟨rfl, by simpa using HH.symm⟩⟩
    ·rw [if_neg q] at HH ⊢
     exact ⟨true, rfl, .inl ⟨rfl, (Option.some.inj HH).symm⟩⟩
   have HLB := am hlb
   clear hlb HH H0
   have p0 : 0 ≤ (i : Int) := Int.natCast_nonneg i
   have q0 : (i : Int) < (rows.length : Int) := by omega
   have dl : decide ((i : Int) < (rows.length : Int)) = true := decide_eq_true q0
   clear hrw
   rcases hnext with ⟨rfl, rfl⟩ | ⟨rfl, hnext⟩
   ·go_wp2_with (go_at_call 88; refine (impl_GridOk.lit k g c Ar cr rw_ _ HCr.out HLr.out HGr.out true HLB.out).mono ?_; rintro e w' ⟨rfl, hb⟩; have HB2 := am (below_step HB.out hb); clear hb)
    go_ret
    exact ⟨⟨(i : Int), rfl, decide_eq_true p0⟩, HB2.out⟩
   ·have HN := am hnext
    clear hnext
    have w1 : wrap64 ((i : Int) + 1) = ((i + 1 : Nat) : Int) := by unfold wrap64; omega
    go_wp2_with (go_at_call 88; refine (impl_GridOk.lit k g c Ar cr rw_ _ HCr.out HLr.out HGr.out false HLB.out).mono ?_; rintro e w' ⟨rfl, hb⟩; have HB2 := am (below_step HB.out hb); clear hb)
    go_roundg g1
    case measure => omega
    case rel => exact ⟨i + 1, (by first | rfl | (simp; done) | (simp [*]; done)), ⟨by omega, by have := H1.out; omega⟩, HN, HB2⟩
  ·have hi : i = rows.length := by have := H1.out; omega
   subst hi
   have dl : decide ((rows.length : Int) < (rows.length : Int)) = false := decide_eq_false (by omega)
   have HH := H0.out
   rw [List.drop_length] at HH
   obtain rfl := Option.some.inj HH
   go_wp2
   go_ret
   exact ⟨⟨-1, rfl, by decide⟩, HB.out⟩
set_option maxHeartbeats 8000000 in
set_option maxRecDepth 100000 in
theorem impl_GridOk.con (k : Nat) (g : Nat) (c : Int) (A0 : Option Addr) (c0 : Nat) (rows : List (List S98)) (w : World) (hl : rows.length ≤ 30) (hr0 : Kd.C (Kd.slice 98 k98) w A0 rows.length rows) (hg : w.cell? ⟨g, 0, none⟩ = some (.int .i64 c))
  (b : Bool) (h : impl_GridOk.l0 k c rows = some b) :
  Calls Try.prog 87 #[.slice A0 rows.length c0, .func (.func 88) #[] #[.pointer (some ⟨g, 0, none⟩)]] w fun e w' => e = .returned (.bool b) ∧ Below w.heap.size w w' := by
 have HI := am (impl_GridOk.idx k g c A0 c0 rows w hl hr0 hg b h)
 clear hr0 hg h
 go_enter Try.func87, Try.ntmps87
 go_wp2_with (go_at_call 116; refine HI.out.mono ?_; rintro e w' ⟨⟨v, rfl, hv⟩, hb⟩; have HV := am hv; have HB := am hb; clear hv hb)
 go_ret
 exact ⟨by first | rfl | (rw [← HV.out]; rfl) | (rw [← HV.out]), HB.out⟩
set_option maxHeartbeats 8000000 in
set_option maxRecDepth 100000 in
theorem impl_GridOk.calls (k : Nat) (a9 : Int) (aa : Option Addr) (ac : Nat) (a8 : List (List S98)) (r : Bool) (w : World) (af : Kd.C (Kd.slice 98 k98) w aa a8.length a8) (ah : a8.length ≤ ac) (h : impl_GridOk.f k a9 a8 = some r) :
  Calls Try.prog 48 #[.agg #[.int .i64 a9, .slice aa a8.length ac]] w fun e w' => e = .returned (.bool r) ∧ Below w.heap.size w w' := by
 (
have huG := Try.underlying58
have hmf : ∀ (fn : Fn) (first cap : Array Value) (w : World), (Instr.makeFunc fn first cap).run Try.prog w = .ok (.func fn first cap) w := fun _ _ _ _ => rfl
have HR := am af
clear af ah
unfold impl_GridOk.f at h
obtain ⟨t, et, h⟩ := Option.bind_eq_some_iff.mp h
have ET := am et
clear et
cases t with
| false => (
rw [if_neg (by decide)] at h
obtain rfl := Option.some.inj h
clear h
go_enter Try.func48, Try.ntmps48
go_wp2_with (first | (refine bx 1 #[.int .i64 a9, .slice aa a8.length ac] 58 ?_; intro gb hg w2 hbox hb; have HB := am hb; have ae : w2.cell? ⟨gb, 0, none⟩ = some (.int .i64 a9) := (blk_cell hbox 0).trans rfl; have ai : w2.cell? ⟨gb, 1, none⟩ = some (.slice aa a8.length ac) := (blk_cell hbox 1).trans rfl; have ag := am ae; clear hb hg hbox) | ((with_reducible refine gate_callee (f := 56) rfl ?_); (try (refine gate_guard (by rfl) ?_; dsimp only)); refine gl_ (some 5) Try.func56 #[.int .i64 a9, .int .i64 1, .int .i64 60] ?_; (with_reducible refine (impl_in.calls a9 1 60 false _ ET.out).mono ?_); rintro e w' ⟨rfl, ⟨nd, rfl⟩⟩; refine ⟨_, rfl, ?_⟩))
go_ret
exact ⟨rfl, (by repeat (first | exact HB.out | apply b1 | apply b2 | apply b3))⟩
)
| true => (
rw [if_pos rfl] at h
obtain ⟨u, eu, h⟩ := Option.bind_eq_some_iff.mp h
have EU := am eu
cases u with
| false => (
rw [if_neg (by decide)] at h
obtain rfl := Option.some.inj h
clear h eu
go_enter Try.func48, Try.ntmps48
go_wp2_with (first | (refine bx 1 #[.int .i64 a9, .slice aa a8.length ac] 58 ?_; intro gb hg w2 hbox hb; have HB := am hb; have ae : w2.cell? ⟨gb, 0, none⟩ = some (.int .i64 a9) := (blk_cell hbox 0).trans rfl; have ai : w2.cell? ⟨gb, 1, none⟩ = some (.slice aa a8.length ac) := (blk_cell hbox 1).trans rfl; have ag := am ae; clear hb hg hbox) | ((with_reducible refine gate_callee (f := 56) rfl ?_); (try (refine gate_guard (by rfl) ?_; dsimp only)); refine gl_ (some 5) Try.func56 #[.int .i64 a9, .int .i64 1, .int .i64 60] ?_; (with_reducible refine (impl_in.calls a9 1 60 true _ ET.out).mono ?_); rintro e w' ⟨rfl, ⟨nd, rfl⟩⟩; refine ⟨_, rfl, ?_⟩) | ((with_reducible refine gate_callee (f := 56) rfl ?_); (try (refine gate_guard (by rfl) ?_; dsimp only)); refine gl_ (some 10) Try.func56 #[.int .i64 (a8.length : Int), .int .i64 1, .int .i64 30] ?_; (with_reducible refine (impl_in.calls (a8.length : Int) 1 30 false _ EU.out).mono ?_); rintro e w' ⟨rfl, ⟨nd, rfl⟩⟩; refine ⟨_, rfl, ?_⟩))
go_ret
exact ⟨rfl, (by repeat (first | exact HB.out | apply b1 | apply b2 | apply b3))⟩
)
| true => (
rw [if_pos rfl] at h
obtain ⟨b, eb, h⟩ := Option.bind_eq_some_iff.mp h
obtain rfl := Option.some.inj h
have EB := am eb
have hlen : a8.length ≤ 30 := by
 unfold impl_in.f at eu
 by_cases q : (1 : Int) ≤ (a8.length : Int)
 ·rw [if_pos q] at eu
  have := of_decide_eq_true (Option.some.inj eu)
  omega
 ·omega
have HLN := am hlen
clear h eb eu hlen
go_enter Try.func48, Try.ntmps48
go_wp2_with (first | (refine bx 1 #[.int .i64 a9, .slice aa a8.length ac] 58 ?_; intro gb hg w2 hbox hb; have HB := am hb; have ae : w2.cell? ⟨gb, 0, none⟩ = some (.int .i64 a9) := (blk_cell hbox 0).trans rfl; have ai : w2.cell? ⟨gb, 1, none⟩ = some (.slice aa a8.length ac) := (blk_cell hbox 1).trans rfl; have ag := am ae; clear hb hg hbox) | ((with_reducible refine gate_callee (f := 56) rfl ?_); (try (refine gate_guard (by rfl) ?_; dsimp only)); refine gl_ (some 5) Try.func56 #[.int .i64 a9, .int .i64 1, .int .i64 60] ?_; (with_reducible refine (impl_in.calls a9 1 60 true _ ET.out).mono ?_); rintro e w' ⟨rfl, ⟨nd, rfl⟩⟩; refine ⟨_, rfl, ?_⟩) | ((with_reducible refine gate_callee (f := 56) rfl ?_); (try (refine gate_guard (by rfl) ?_; dsimp only)); refine gl_ (some 10) Try.func56 #[.int .i64 (a8.length : Int), .int .i64 1, .int .i64 30] ?_; (with_reducible refine (impl_in.calls (a8.length : Int) 1 30 true _ EU.out).mono ?_); rintro e w' ⟨rfl, ⟨nd, rfl⟩⟩; refine ⟨_, rfl, ?_⟩) | (go_at_call 87; refine (impl_GridOk.con k gb a9 aa ac a8 _ HLN.out ?s1 ?s2 b EB.out).mono ?_; (case s1 => exact Kd.C_below HR.out (by repeat (first | exact HB.out | apply b1 | apply b2 | apply b3))); (case s2 => exact ag.out); rintro e w' ⟨rfl, hb⟩; have aj := am (below_step (by repeat (first | exact HB.out | apply b1 | apply b2 | apply b3)) hb); clear hb))
go_ret
exact ⟨rfl, aj.out⟩
)
)
)

/-! ### impl_Cell_102: function 102 -/
def impl_Cell_102.f (l0 : List (S98)) : Option ((List (S98))) := (some (([] : List (S98)) : List (S98))).bind fun a8 => (if a8.length + l0.length < 3518437208883 then (some (a8 ++ l0)) else (none))
theorem impl_Cell_102.eqnilIn {P : Program} (w : World) (d : Nat) (t e : TypeId) (a : Option Addr) (n c n' c' : Nat) (h : P.underlying t = some (.slice e)) :
  (Op.equalIn (d + 1) t (.slice a n c) (.slice none n' c')).run P w = .ok a.isNone w := by
 cases a <;> simp [Op.equalIn, run_underlying h]
theorem impl_Cell_102.eqnil (W : World) (A : Option Addr) (n c : Nat) : (binOp .eql 99 (.slice A n c) (.slice none 0 0)).run Try.prog W = .ok (.bool A.isNone) W := by
 have hu : Try.prog.underlying 99 = some (.slice 98) := by kernel_rfl
 simp only [binOp]
 simp [Op.equal, Op.maxDepth, impl_Cell_102.eqnilIn W 9999 99 98 A n c 0 0 hu]
set_option maxHeartbeats 8000000 in
set_option maxRecDepth 100000 in
theorem impl_Cell_102.calls (A0 : Option Addr) (c0 : Nat) (l0 : List (S98)) (r : List (S98)) (w : World) (ag : Kd.C k98 w A0 l0.length l0) (aj : l0.length ≤ c0) (h : impl_Cell_102.f l0 = some r) :
  Calls Try.prog 102 #[.slice A0 l0.length c0] w fun e w' => ∃ v0_ : Value, e = .returned (v0_) ∧ Kd.R k98 98 w' w.heap.size (fun _ => True) v0_ r ∧ Below w.heap.size w w' := by
 (
cases A0 with
| none => (
have hl : l0 = [] := List.eq_nil_of_length_eq_zero (Nat.eq_zero_of_not_pos fun hp => by obtain ⟨ad, e, _⟩ := ag.2.2 hp; cases e)
subst hl
have hn : ([] : List _) = r := Option.some.inj ((show impl_Cell_102.f [] = some [] from rfl).symm.trans h)
subst hn
clear h ag
have heq := impl_Cell_102.eqnil
go_enter Try.func102, Try.ntmps102
go_wp2
go_ret
exact ⟨_, rfl, Kd.R_nil _ _ _ _ _, Below.refl _ _⟩
)
| some a0_ => (
have ao := am ag
have aq := am aj
clear ag aj
have HB := am (Below.refl w.heap.size w)
have H := h
unfold impl_Cell_102.f at H
clear h
obtain ⟨aa, a8⟩ : ∃ y_ : List (S98), y_ = (([] : List (S98))) := ⟨_, rfl⟩
replace H : (if aa.length + l0.length < 3518437208883 then (some (aa ++ l0)) else (none)) = some r := by first | (rw [a8]; with_reducible exact H) | (rw [a8]; exact H) | exact H
have af := am a8
clear a8
by_cases c2 : aa.length + l0.length < 3518437208883
·(
rw [if_pos c2] at H
have LMc2 := am c2
clear c2
obtain ⟨al, a9⟩ : ∃ y_ : List (S98), y_ = (aa ++ l0) := ⟨_, rfl⟩
replace H : (some al) = some r := by first | (rw [a9]; with_reducible exact H) | (rw [a9]; exact H) | exact H
have ai := am a9
clear a9
obtain rfl := Option.some.inj H
have heq := impl_Cell_102.eqnil
go_enter Try.func102, Try.ntmps102
go_wp2_with (first | ((with_reducible refine gate_dst (N := 5) rfl ?_); refine Kd.R_lit k98 _ 98 ?hg (N := 5) ?hd (xs := ([] : List (S98))) (inner := []) (ok := fun _ => True) (okp := fun _ => True) ?hr ?hp (fun _ hk => hk) trivial (Below.refl _ _) (Nat.le_refl _) (by simp) ?_; (case hd => rfl); (case hg => rfl); (case hr => first | (go_simp; done) | (go_simp; rfl)); (case hp => exact (Reps.none _ _)); intro ak w3 ac hb hg_ hnew_; clear hg_ hnew_; (first | rw [← af.out] at ac | (simp only [Int.reduceToNat] at ac; rw [← af.out] at ac)); have ae := am (Kd.R_lower ac (below_size (rb HB))); replace HB := bs HB hb; clear hb ac) | ((with_reducible refine gate_builtin (b := .append) (xs := #[.tmp 5, .tmp 6]) rfl ?_); at_builtin; refine Kd.R_append_rows k98 (w0 := w) w.heap.size rfl (.tmp 5) (.tmp 6) 99 98 (.agg #[(.int .i64 0), (.int .i64 0), (.int .i64 0), (.bool false), (.bool false), (.bool false), (.int .i64 0)]) 40 rfl Try.underlying99 info98 rfl (by decide) (by omega) ak aa l0 _ _ _ (fun _ => True) (fun _ => False) rfl rfl ?aO ?aR (fun _ _ h => h) (fun _ h => h.elim) ?aF ?aB ?aS ?aL ?_; (case aR => repeat (first | exact (Kd.C_below ao.out HB.out) | (with_reducible refine Kd.C_alloc ?_ _) | (with_reducible refine Kd.C_drewN ?_ _) | (with_reducible refine Kd.C_drew ?_))); (case aB => exact (rb HB)); (case aF => exact (fun _ _ => trivial)); (case aO => exact (rr ae)); (case aS => exact (below_size (rb HB))); (case aL => have := LMc2.out; omega); intro ap w5 ho hb hg hat; rw [← ai.out] at ho; replace HB := am (hb); have ah := am (ho); clear ae; clear ho hb hg hat))
go_ret
exact ⟨_, ew, qR_ ah, rb HB⟩
)
·(
rw [if_neg c2] at H
exact absurd H (by simp)
)
)
)

/-! ### impl_blank: function 104 -/
def impl_blank.f (a8 : Int) (a9 : Int) (aa : Bool) (ac : Bool) (ae : Bool) : Option (Int × Int × Int × Bool × Bool × Bool × Int) := some (32, a8, a9, aa, ac, ae, 0)
set_option maxHeartbeats 8000000 in
set_option maxRecDepth 100000 in
theorem impl_blank.calls (aa : Int) (ac : Int) (ae : Bool) (af : Bool) (ag : Bool) (r1 : Int) (r2 : Int) (r3 : Int) (r4 : Bool) (r5 : Bool) (r6 : Bool) (r7 : Int) (w : World) (h : impl_blank.f aa ac ae af ag = some (r1, r2, r3, r4, r5, r6, r7)) :
  Calls Try.prog 104 #[.agg #[.int .i64 aa, .int .i64 ac, .bool ae, .bool af, .bool ag]] w fun e w' => e = .returned (.agg #[.int .i64 r1, .int .i64 r2, .int .i64 r3, .bool r4, .bool r5, .bool r6, .int .i64 r7]) ∧ Below w.heap.size w w' := by
 (
have au := Try.underlying96
have av := Try.underlying98
have HB := am (Below.refl w.heap.size w)
have H : (some (32, aa, ac, ae, af, ag, 0)) = some (r1, r2, r3, r4, r5, r6, r7) := h
clear h
simp only [Option.some.injEq, Prod.mk.injEq] at H
obtain ⟨rfl, rfl, rfl, rfl, rfl, rfl, rfl⟩ := H
go_enter Try.func104, Try.ntmps104
go_wp2_with (first | (refine bx 1 #[.int .i64 aa, .int .i64 ac, .bool ae, .bool af, .bool ag] 96 ?_; intro aq hg w2 hbox hb; have a9 := am (hbox); have ai := am (gw hg (rb HB)); have ao := ai; replace HB := bs HB hb; clear hb hbox hg) | (refine bx 2 #[.int .i64 0, .int .i64 0, .int .i64 0, .bool false, .bool false, .bool false, .int .i64 0] 98 ?_; intro ak hg w3 hbox hb; have ah := am (hbox); have aj := am (gw hg (rb HB)); have ap := aj; replace HB := bs HB hb; have a8 := am (nl hg (rk a9)); have al := ns a8; replace a9 := kk a9 hb; clear hb hbox hg; have ax := nN a8; have ay := z5 a9; have az := z7 ah))
refine bodyPost_ret (results_cell_row rfl _ _ ak 98 #[.int .i64 32, .int .i64 aa, .int .i64 ac, .bool ae, .bool af, .bool ag, .int .i64 0] (0, 0) _ rfl (rk ah) Try.underlying98 rfl (by kernel_rfl)) rfl ?_
exact ⟨ew, rb HB⟩
)

end Go.Proofs.Ytalopdcephohgaa.RD
