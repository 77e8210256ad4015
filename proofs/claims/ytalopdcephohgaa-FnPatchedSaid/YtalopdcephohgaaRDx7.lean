/- Contracts of Go functions that laws of this seat reach: each Lean function answers as its Go function does. No condition. Written by wip/tools/inj.py, over the kit's print. -/
import Derived.Test.YtalopdcephohgaaRDx0
import Derived.Test.YtalopdcephohgaaRDx6
namespace Go.Proofs.Ytalopdcephohgaa.RD
open Go.RowKit Go.Proofs.YtalopdcephohgaaW.PrintWords Go.Proofs.YtalopdcephohgaaW.PrintLast Go.Proofs.YtalopdcephohgaaW.PrintMore
attribute [local go_sem] max2_int min2_int max_two min_two max_three min_three max_four min_four   -- for this text's walks alone
set_option linter.unusedVariables false
set_option linter.unusedSimpArgs false

/-! ### spec_l4Mended: function 98 -/
def spec_l4Mended.l0 : Nat → List (S98) → List (S98) → Int → Option ((List (S98)))
 | 0, _, _, _ => none
 | k + 1, x0, x3, x4 => if x4 < (x3.length : Int) then (if 0 ≤ x4 then (if ((rd_T98 x3 x4).f2) = 1 then (if (wrap64 (x4 + 1)) = (x3.length : Int) then ((spec_l4Blank.f ((rd_T98 x3 x4).f1.f0) ((rd_T98 x3 x4).f1.f1) ((rd_T98 x3 x4).f1.f2) ((rd_T98 x3 x4).f1.f3) ((rd_T98 x3 x4).f1.f4)).bind fun a8 => (spec_l4Mended.l0 k x0 (x3.set (x4 : Int).toNat (⟨a8.1, (⟨a8.2.1, a8.2.2.1, a8.2.2.2.1, a8.2.2.2.2.1, a8.2.2.2.2.2.1⟩ : S96), a8.2.2.2.2.2.2⟩ : S98)) (wrap64 (x4 + 1)))) else (if 0 ≤ (wrap64 (x4 + 1)) then (if (wrap64 (x4 + 1)) < (x3.length : Int) then (if ((rd_T98 x3 (wrap64 (x4 + 1))).f2) = 2 then (if ((rd_T98 x3 x4).f2) = 2 then (if x4 = 0 then ((spec_l4Blank.f ((rd_T98 x3 x4).f1.f0) ((rd_T98 x3 x4).f1.f1) ((rd_T98 x3 x4).f1.f2) ((rd_T98 x3 x4).f1.f3) ((rd_T98 x3 x4).f1.f4)).bind fun a9 => (spec_l4Mended.l0 k x0 (x3.set (x4 : Int).toNat (⟨a9.1, (⟨a9.2.1, a9.2.2.1, a9.2.2.2.1, a9.2.2.2.2.1, a9.2.2.2.2.2.1⟩ : S96), a9.2.2.2.2.2.2⟩ : S98)) (wrap64 (x4 + 1)))) else (if 0 ≤ (wrap64 (x4 - 1)) then (if (wrap64 (x4 - 1)) < (x0.length : Int) then (if ((rd_T98 x0 (wrap64 (x4 - 1))).f2) = 1 then (spec_l4Mended.l0 k x0 x3 (wrap64 (x4 + 1))) else ((spec_l4Blank.f ((rd_T98 x3 x4).f1.f0) ((rd_T98 x3 x4).f1.f1) ((rd_T98 x3 x4).f1.f2) ((rd_T98 x3 x4).f1.f3) ((rd_T98 x3 x4).f1.f4)).bind fun aa => (spec_l4Mended.l0 k x0 (x3.set (x4 : Int).toNat (⟨aa.1, (⟨aa.2.1, aa.2.2.1, aa.2.2.2.1, aa.2.2.2.2.1, aa.2.2.2.2.2.1⟩ : S96), aa.2.2.2.2.2.2⟩ : S98)) (wrap64 (x4 + 1))))) else (none)) else (none))) else (spec_l4Mended.l0 k x0 x3 (wrap64 (x4 + 1)))) else ((spec_l4Blank.f ((rd_T98 x3 x4).f1.f0) ((rd_T98 x3 x4).f1.f1) ((rd_T98 x3 x4).f1.f2) ((rd_T98 x3 x4).f1.f3) ((rd_T98 x3 x4).f1.f4)).bind fun ac => (spec_l4Mended.l0 k x0 (x3.set (x4 : Int).toNat (⟨ac.1, (⟨ac.2.1, ac.2.2.1, ac.2.2.2.1, ac.2.2.2.2.1, ac.2.2.2.2.2.1⟩ : S96), ac.2.2.2.2.2.2⟩ : S98)) (wrap64 (x4 + 1))))) else (none)) else (none))) else (if ((rd_T98 x3 x4).f2) = 2 then (if x4 = 0 then ((spec_l4Blank.f ((rd_T98 x3 x4).f1.f0) ((rd_T98 x3 x4).f1.f1) ((rd_T98 x3 x4).f1.f2) ((rd_T98 x3 x4).f1.f3) ((rd_T98 x3 x4).f1.f4)).bind fun ae => (spec_l4Mended.l0 k x0 (x3.set (x4 : Int).toNat (⟨ae.1, (⟨ae.2.1, ae.2.2.1, ae.2.2.2.1, ae.2.2.2.2.1, ae.2.2.2.2.2.1⟩ : S96), ae.2.2.2.2.2.2⟩ : S98)) (wrap64 (x4 + 1)))) else (if 0 ≤ (wrap64 (x4 - 1)) then (if (wrap64 (x4 - 1)) < (x0.length : Int) then (if ((rd_T98 x0 (wrap64 (x4 - 1))).f2) = 1 then (spec_l4Mended.l0 k x0 x3 (wrap64 (x4 + 1))) else ((spec_l4Blank.f ((rd_T98 x3 x4).f1.f0) ((rd_T98 x3 x4).f1.f1) ((rd_T98 x3 x4).f1.f2) ((rd_T98 x3 x4).f1.f3) ((rd_T98 x3 x4).f1.f4)).bind fun af => (spec_l4Mended.l0 k x0 (x3.set (x4 : Int).toNat (⟨af.1, (⟨af.2.1, af.2.2.1, af.2.2.2.1, af.2.2.2.2.1, af.2.2.2.2.2.1⟩ : S96), af.2.2.2.2.2.2⟩ : S98)) (wrap64 (x4 + 1))))) else (none)) else (none))) else (spec_l4Mended.l0 k x0 x3 (wrap64 (x4 + 1))))) else (none)) else (some x3)
def spec_l4Mended.f (k : Nat) (l0 : List (S98)) : Option ((List (S98))) := (some (([] : List (S98)) : List (S98))).bind fun a8 => (if a8.length + l0.length < 3518437208883 then (spec_l4Mended.l0 k l0 (a8 ++ l0) 0) else (none))
theorem spec_l4Mended.mono_l : ∀ k, (∀ y0 y1 y2, LeO (spec_l4Mended.l0 k y0 y1 y2) (spec_l4Mended.l0 (k + 1) y0 y1 y2))
 | 0 => fun _ _ _ r h => by simp [spec_l4Mended.l0] at h
 | k + 1 => by
  have ih0 := spec_l4Mended.mono_l k
  ·intro y0 y1 y2
   unfold spec_l4Mended.l0
   repeat' first
   | (with_reducible exact ih0 _ _ _)
   | (with_reducible exact LeO.refl _)
   | (with_reducible exact LeO.none _)
   | (with_reducible refine LeO.ite ?_ ?_)
   | (with_reducible refine LeO.bind ?_ (fun _ => ?_))
theorem spec_l4Mended.mono : ∀ a0 k, LeO (spec_l4Mended.f k a0) (spec_l4Mended.f (k + 1) a0) := by
 intro a0 k
 have ih0 := spec_l4Mended.mono_l k
 unfold spec_l4Mended.f
 repeat' first
   | (with_reducible exact ih0 _ _ _)
   | (with_reducible exact LeO.refl _)
   | (with_reducible exact LeO.none _)
   | (with_reducible refine LeO.ite ?_ ?_)
   | (with_reducible refine LeO.bind ?_ (fun _ => ?_))
set_option maxHeartbeats 8000000 in
set_option maxRecDepth 100000 in
theorem spec_l4Mended.calls (k : Nat) (A0 : Option Addr) (c0 : Nat) (l0 : List (S98)) (r : List (S98)) (w : World) (iZ : Kd.C k98 w A0 l0.length l0) (iY : l0.length ≤ c0) (h : spec_l4Mended.f k l0 = some r) :
  Calls Try.prog 98 #[.slice A0 l0.length c0] w fun e w' => ∃ v0_ : Value, e = .returned (v0_) ∧ Kd.R k98 98 w' w.heap.size (fun _ => True) v0_ r ∧ Below w.heap.size w w' := by
 (
have mU := Try.underlying96
have mV := Try.underlying98
have eT := am iZ
have mX := am iY
clear iZ iY
have HB := am (Below.refl w.heap.size w)
have H := h
unfold spec_l4Mended.f at H
clear h
obtain ⟨cW, cO⟩ : ∃ y_ : List (S98), y_ = (([] : List (S98))) := ⟨_, rfl⟩
replace H : (if cW.length + l0.length < 3518437208883 then (spec_l4Mended.l0 k l0 (cW ++ l0) 0) else (none)) = some r := by first | (rw [cO]; with_reducible exact H) | (rw [cO]; exact H) | exact H
have dY := am cO
clear cO
refine em_ (p := cW.length + l0.length < 3518437208883) (fun c2 => ?jS) (fun c2 => ?jR)
case' jS => (
rw [if_pos c2] at H
have LMc2 := am c2
clear c2
obtain ⟨il, cP⟩ : ∃ y_ : List (S98), y_ = (cW ++ l0) := ⟨_, rfl⟩
replace H : (spec_l4Mended.l0 k l0 il 0) = some r := by first | (rw [cP]; with_reducible exact H) | (rw [cP]; exact H) | exact H
have io := am cP
clear cP
have H' := am H
clear H
have mW := trivial
)
case jR => (
rw [if_neg c2] at H
exact absurd H (by simp)
)
all_goals (
go_enter Try.func98, Try.ntmps98
go_wp2_with (first | ((with_reducible refine gate_dst (N := 6) rfl ?_); (try (refine gate_guard (by rfl) ?_; dsimp only)); refine Kd.R_lit k98 _ 98 ?hg (N := 6) ?hd (xs := ([] : List (S98))) (inner := []) (ok := fun _ => True) (okp := fun _ => True) ?hr ?hp (fun _ hk => hk) trivial (Below.refl _ _) (Nat.le_refl _) (by simp) ?_; (case hd => rfl); (case hg => rfl); (case hr => first | (go_simp; done) | (go_simp; rfl)); (case hp => exact (Reps.none _ _)); intro jJ w3 dp hb hg_ hnew_; clear hg_ hnew_; (first | rw [← dY.out] at dp | (simp only [Int.reduceToNat] at dp; rw [← dY.out] at dp)); have dX := am (Kd.R_lower dp (below_size (rb HB))); replace HB := bs HB hb; clear hb dp) | ((with_reducible refine gate_builtin (b := .append) (xs := #[.tmp 6, .tmp 7]) rfl ?_); (try (refine gate_guard (by rfl) ?_; dsimp only)); at_builtin; refine Kd.R_append_rows k98 (w0 := w) w.heap.size rfl (.tmp 6) (.tmp 7) 99 98 (.agg #[(.int .i64 0), (.int .i64 0), (.int .i64 0), (.bool false), (.bool false), (.bool false), (.int .i64 0)]) 40 rfl Try.underlying99 info98 rfl (by decide) (by omega) jJ cW l0 _ _ _ (fun _ => True) (fun _ => False) rfl rfl ?aO ?aR (fun _ _ h => h) (fun _ h => h.elim) ?aF ?aB ?aS ?aL ?_; (case aR => repeat (first | exact (Kd.C_below eT.out HB.out) | (with_reducible refine Kd.C_alloc ?_ _) | (with_reducible refine Kd.C_drewN ?_ _) | (with_reducible refine Kd.C_drew ?_))); (case aB => exact (rb HB)); (case aF => exact (fun _ _ => trivial)); (case aO => exact (rr dX)); (case aS => exact (below_size (rb HB))); (case aL => have := LMc2.out; omega); intro jK w5 ho hb hg hat; rw [← io.out] at ho; replace HB := am (hb); have im := am (ho); clear dX; clear ho hb hg hat))
go_loopg [4] k (fun kq v4 w' => ∃ (a9 : List (S98)) (a8 : Int), v4 = .int .i64 a8 ∧ Aside0 (spec_l4Mended.l0 kq l0 a9 a8 = some r) ∧ Aside0 (kq ≤ k) ∧ Aside0 (Kd.R k98 98 w' w.heap.size (fun _ => True) jK a9) ∧ Aside0 (Below w.heap.size w w'))
case atStart => exact ⟨(il), (0), sd, H', ⟨Nat.le_refl _⟩, ⟨rr im⟩, ⟨rb HB⟩⟩
case round => (
clear H'
try clear c2
obtain ⟨a9, a8, rfl, HA, ap, aa, HB⟩ := hrel
cases gk with
| zero => exact absurd HA.out (by simp [spec_l4Mended.l0])
| succ k1 => (
have H := HA.out
clear HA
simp only [spec_l4Mended.l0] at H
by_cases c6 : a8 < (a9.length : Int)
·(
rw [if_pos c6] at H
have j3 : decide (a8 < (a9.length : Int)) = true := decide_eq_true c6
clear c6
refine em_ (p := 0 ≤ a8) (fun c7 => ?jD) (fun c7 => ?jC)
case' jD => (
rw [if_pos c7] at H
have mu : decide (0 ≤ a8) = true := decide_eq_true c7
clear c7
refine em_ (p := ((rd_T98 a9 a8).f2) = 1) (fun c8 => ?jB) (fun c8 => ?jA)
case' jB => (
rw [if_pos c8] at H
have j4 : (((rd_T98 a9 a8).f2) == 1) = true := beq_iff_eq.mpr c8
have j5 : (((rd_T98 a9 a8).f2) != 1) = false := bne_eq_false_iff_eq.mpr c8
clear c8
refine em_ (p := (wrap64 (a8 + 1)) = (a9.length : Int)) (fun c9 => ?ke) (fun c9 => ?kd)
case' ke => (
rw [if_pos c9] at H
have f5 : ((wrap64 (a8 + 1)) == (a9.length : Int)) = true := beq_iff_eq.mpr c9
have f6 : ((wrap64 (a8 + 1)) != (a9.length : Int)) = false := bne_eq_false_iff_eq.mpr c9
clear c9
obtain ⟨⟨bL, bM, bN, bO, bP, bQ, bR⟩, jL, H⟩ := bd H
(try dsimp only at H)
obtain ⟨dQ, cQ⟩ : ∃ y_ : List (S98), y_ = (a9.set (a8 : Int).toNat (⟨bL, (⟨bM, bN, bO, bP, bQ⟩ : S96), bR⟩ : S98)) := ⟨_, rfl⟩
replace H : (spec_l4Mended.l0 k1 l0 dQ (wrap64 (a8 + 1))) = some r := by first | (rw [cQ]; with_reducible exact H) | (rw [cQ]; exact H) | exact H
have ip := am cQ
clear cQ
have H' := am H
clear H
obtain ⟨m7, f7, jf⟩ := Kd.R_slice aa.out
subst jf
have jE := trivial
)
case' kd => (
rw [if_neg c9] at H
have f5 : ((wrap64 (a8 + 1)) == (a9.length : Int)) = false := beq_eq_false_iff_ne.mpr c9
have f6 : ((wrap64 (a8 + 1)) != (a9.length : Int)) = true := bne_iff_ne.mpr c9
obtain ⟨ac, aC⟩ : ∃ j_ : Int, (wrap64 (a8 + 1)) = j_ := ⟨_, rfl⟩
replace H : (if 0 ≤ (ac) then (if (ac) < (a9.length : Int) then (if ((rd_T98 a9 (ac)).f2) = 2 then (if ((rd_T98 a9 a8).f2) = 2 then (if a8 = 0 then ((spec_l4Blank.f ((rd_T98 a9 a8).f1.f0) ((rd_T98 a9 a8).f1.f1) ((rd_T98 a9 a8).f1.f2) ((rd_T98 a9 a8).f1.f3) ((rd_T98 a9 a8).f1.f4)).bind fun br => (spec_l4Mended.l0 k1 l0 (a9.set (a8 : Int).toNat (⟨br.1, (⟨br.2.1, br.2.2.1, br.2.2.2.1, br.2.2.2.2.1, br.2.2.2.2.2.1⟩ : S96), br.2.2.2.2.2.2⟩ : S98)) ac)) else (if 0 ≤ (wrap64 (a8 - 1)) then (if (wrap64 (a8 - 1)) < (l0.length : Int) then (if ((rd_T98 l0 (wrap64 (a8 - 1))).f2) = 1 then (spec_l4Mended.l0 k1 l0 a9 ac) else ((spec_l4Blank.f ((rd_T98 a9 a8).f1.f0) ((rd_T98 a9 a8).f1.f1) ((rd_T98 a9 a8).f1.f2) ((rd_T98 a9 a8).f1.f3) ((rd_T98 a9 a8).f1.f4)).bind fun ak => (spec_l4Mended.l0 k1 l0 (a9.set (a8 : Int).toNat (⟨ak.1, (⟨ak.2.1, ak.2.2.1, ak.2.2.2.1, ak.2.2.2.2.1, ak.2.2.2.2.2.1⟩ : S96), ak.2.2.2.2.2.2⟩ : S98)) ac))) else (none)) else (none))) else (spec_l4Mended.l0 k1 l0 a9 ac)) else ((spec_l4Blank.f ((rd_T98 a9 a8).f1.f0) ((rd_T98 a9 a8).f1.f1) ((rd_T98 a9 a8).f1.f2) ((rd_T98 a9 a8).f1.f3) ((rd_T98 a9 a8).f1.f4)).bind fun bt => (spec_l4Mended.l0 k1 l0 (a9.set (a8 : Int).toNat (⟨bt.1, (⟨bt.2.1, bt.2.2.1, bt.2.2.2.1, bt.2.2.2.2.1, bt.2.2.2.2.2.1⟩ : S96), bt.2.2.2.2.2.2⟩ : S98)) ac))) else (none)) else (none)) = some r := by first | (rw [aC] at H; exact H) | (simp only [aC] at H ⊢; exact H)
(try rw [aC] at f5)
(try rw [aC] at f6)
have hji16w : (IntKind.i64.wrap (a8 + 1)) = ac := (i64_w _).trans aC
refine em_ (p := 0 ≤ (ac)) (fun dg => ?kc) (fun dg => ?ka)
case' kc => (
rw [if_pos dg] at H
have m1 : decide (0 ≤ (ac)) = true := decide_eq_true dg
clear dg
refine em_ (p := (ac) < (a9.length : Int)) (fun dh => ?k9) (fun dh => ?k8)
case' k9 => (
rw [if_pos dh] at H
have m2 : decide ((ac) < (a9.length : Int)) = true := decide_eq_true dh
clear dh
refine em_ (p := ((rd_T98 a9 (ac)).f2) = 2) (fun cH => ?k7) (fun cH => ?k6)
case' k7 => (
rw [if_pos cH] at H
have iD : (((rd_T98 a9 (ac)).f2) == 2) = true := beq_iff_eq.mpr cH
have iE : (((rd_T98 a9 (ac)).f2) != 2) = false := bne_eq_false_iff_eq.mpr cH
clear cH
refine em_ (p := ((rd_T98 a9 a8).f2) = 2) (fun cI => ?k5) (fun cI => ?k4)
case' k5 => (
rw [if_pos cI] at H
have iF : (((rd_T98 a9 a8).f2) == 2) = true := beq_iff_eq.mpr cI
have iG : (((rd_T98 a9 a8).f2) != 2) = false := bne_eq_false_iff_eq.mpr cI
clear cI
refine em_ (p := a8 = 0) (fun cJ => ?k0) (fun cJ => ?jZ)
case' k0 => (
rw [if_pos cJ] at H
have iH : (a8 == 0) = true := beq_iff_eq.mpr cJ
have iI : (a8 != 0) = false := bne_eq_false_iff_eq.mpr cJ
clear cJ
obtain ⟨⟨bS, bT, bU, bV, bW, bX, bY⟩, jM, H⟩ := bd H
(try dsimp only at H)
obtain ⟨dR, cR⟩ : ∃ y_ : List (S98), y_ = (a9.set (a8 : Int).toNat (⟨bS, (⟨bT, bU, bV, bW, bX⟩ : S96), bY⟩ : S98)) := ⟨_, rfl⟩
replace H : (spec_l4Mended.l0 k1 l0 dR ac) = some r := by first | (rw [cR]; with_reducible exact H) | (rw [cR]; exact H) | exact H
have iq := am cR
clear cR
have H' := am H
clear H
obtain ⟨m8, f8, jg⟩ := Kd.R_slice aa.out
subst jg
have jF := trivial
)
case' jZ => (
rw [if_neg cJ] at H
have iH : (a8 == 0) = false := beq_eq_false_iff_ne.mpr cJ
have iI : (a8 != 0) = true := bne_iff_ne.mpr cJ
obtain ⟨al, de⟩ : ∃ j_ : Int, (wrap64 (a8 - 1)) = j_ := ⟨_, rfl⟩
replace H : (if 0 ≤ (al) then (if (al) < (l0.length : Int) then (if ((rd_T98 l0 (al)).f2) = 1 then (spec_l4Mended.l0 k1 l0 a9 ac) else ((spec_l4Blank.f ((rd_T98 a9 a8).f1.f0) ((rd_T98 a9 a8).f1.f1) ((rd_T98 a9 a8).f1.f2) ((rd_T98 a9 a8).f1.f3) ((rd_T98 a9 a8).f1.f4)).bind fun ak => (spec_l4Mended.l0 k1 l0 (a9.set (a8 : Int).toNat (⟨ak.1, (⟨ak.2.1, ak.2.2.1, ak.2.2.2.1, ak.2.2.2.2.1, ak.2.2.2.2.2.1⟩ : S96), ak.2.2.2.2.2.2⟩ : S98)) ac))) else (none)) else (none)) = some r := by first | (rw [de] at H; exact H) | (simp only [de] at H ⊢; exact H)
have hji28w : (IntKind.i64.wrap (a8 - 1)) = al := (i64_w _).trans de
refine em_ (p := 0 ≤ (al)) (fun di => ?jY) (fun di => ?jX)
case' jY => (
rw [if_pos di] at H
have m3 : decide (0 ≤ (al)) = true := decide_eq_true di
clear di
refine em_ (p := (al) < (l0.length : Int)) (fun dj => ?jW) (fun dj => ?jV)
case' jW => (
rw [if_pos dj] at H
have m4 : decide ((al) < (l0.length : Int)) = true := decide_eq_true dj
clear dj
refine em_ (p := ((rd_T98 l0 (al)).f2) = 1) (fun cK => ?jU) (fun cK => ?jT)
case' jU => (
rw [if_pos cK] at H
have iJ : (((rd_T98 l0 (al)).f2) == 1) = true := beq_iff_eq.mpr cK
have iK : (((rd_T98 l0 (al)).f2) != 1) = false := bne_eq_false_iff_eq.mpr cK
clear cK
have H' := am H
clear H
obtain ⟨m9, mL, jh⟩ := Kd.R_slice aa.out
subst jh
have hL := trivial
)
case' jT => (
rw [if_neg cK] at H
have iJ : (((rd_T98 l0 (al)).f2) == 1) = false := beq_eq_false_iff_ne.mpr cK
have iK : (((rd_T98 l0 (al)).f2) != 1) = true := bne_iff_ne.mpr cK
obtain ⟨⟨bZ, ca, cb, cd, ce, cf, ch⟩, jN, H⟩ := bd H
(try dsimp only at H)
obtain ⟨dS, cS⟩ : ∃ y_ : List (S98), y_ = (a9.set (a8 : Int).toNat (⟨bZ, (⟨ca, cb, cd, ce, cf⟩ : S96), ch⟩ : S98)) := ⟨_, rfl⟩
replace H : (spec_l4Mended.l0 k1 l0 dS ac) = some r := by first | (rw [cS]; with_reducible exact H) | (rw [cS]; exact H) | exact H
have ir := am cS
clear cS
have H' := am H
clear H
obtain ⟨ma, f9, ji⟩ := Kd.R_slice aa.out
subst ji
have hP := trivial
)
)
case jV => (
rw [if_neg dj] at H
exact absurd H (by simp)
)
)
case jX => (
rw [if_neg di] at H
exact absurd H (by simp)
)
)
)
case' k4 => (
rw [if_neg cI] at H
have iF : (((rd_T98 a9 a8).f2) == 2) = false := beq_eq_false_iff_ne.mpr cI
have iG : (((rd_T98 a9 a8).f2) != 2) = true := bne_iff_ne.mpr cI
have H' := am H
clear H
obtain ⟨mb, mN, jj⟩ := Kd.R_slice aa.out
subst jj
have jG := trivial
)
)
case' k6 => (
rw [if_neg cH] at H
have iD : (((rd_T98 a9 (ac)).f2) == 2) = false := beq_eq_false_iff_ne.mpr cH
have iE : (((rd_T98 a9 (ac)).f2) != 2) = true := bne_iff_ne.mpr cH
obtain ⟨⟨cj, ck, cl, cm, cn, co, cp⟩, jO, H⟩ := bd H
(try dsimp only at H)
obtain ⟨dU, cT⟩ : ∃ y_ : List (S98), y_ = (a9.set (a8 : Int).toNat (⟨cj, (⟨ck, cl, cm, cn, co⟩ : S96), cp⟩ : S98)) := ⟨_, rfl⟩
replace H : (spec_l4Mended.l0 k1 l0 dU ac) = some r := by first | (rw [cT]; with_reducible exact H) | (rw [cT]; exact H) | exact H
have iu := am cT
clear cT
have H' := am H
clear H
obtain ⟨mc, fa, jk⟩ := Kd.R_slice aa.out
subst jk
have jH := trivial
)
)
case k8 => (
rw [if_neg dh] at H
exact absurd H (by simp)
)
)
case ka => (
rw [if_neg dg] at H
exact absurd H (by simp)
)
)
)
case' jA => (
rw [if_neg c8] at H
have j4 : (((rd_T98 a9 a8).f2) == 1) = false := beq_eq_false_iff_ne.mpr c8
have j5 : (((rd_T98 a9 a8).f2) != 1) = true := bne_iff_ne.mpr c8
refine em_ (p := ((rd_T98 a9 a8).f2) = 2) (fun cL => ?jz) (fun cL => ?jy)
case' jz => (
rw [if_pos cL] at H
have iL : (((rd_T98 a9 a8).f2) == 2) = true := beq_iff_eq.mpr cL
have iM : (((rd_T98 a9 a8).f2) != 2) = false := bne_eq_false_iff_eq.mpr cL
clear cL
refine em_ (p := a8 = 0) (fun cM => ?jx) (fun cM => ?jw)
case' jx => (
rw [if_pos cM] at H
have iN : (a8 == 0) = true := beq_iff_eq.mpr cM
have iO : (a8 != 0) = false := bne_eq_false_iff_eq.mpr cM
clear cM
obtain ⟨⟨cq, ct, cu, cv, cw, cy, cz⟩, jP, H⟩ := bd H
(try dsimp only at H)
obtain ⟨dV, cU⟩ : ∃ y_ : List (S98), y_ = (a9.set (a8 : Int).toNat (⟨cq, (⟨ct, cu, cv, cw, cy⟩ : S96), cz⟩ : S98)) := ⟨_, rfl⟩
replace H : (spec_l4Mended.l0 k1 l0 dV (wrap64 (a8 + 1))) = some r := by first | (rw [cU]; with_reducible exact H) | (rw [cU]; exact H) | exact H
have iv := am cU
clear cU
have H' := am H
clear H
obtain ⟨me, fb, jl⟩ := Kd.R_slice aa.out
subst jl
have jI := trivial
)
case' jw => (
rw [if_neg cM] at H
have iN : (a8 == 0) = false := beq_eq_false_iff_ne.mpr cM
have iO : (a8 != 0) = true := bne_iff_ne.mpr cM
obtain ⟨ao, df⟩ : ∃ j_ : Int, (wrap64 (a8 - 1)) = j_ := ⟨_, rfl⟩
replace H : (if 0 ≤ (ao) then (if (ao) < (l0.length : Int) then (if ((rd_T98 l0 (ao)).f2) = 1 then (spec_l4Mended.l0 k1 l0 a9 (wrap64 (a8 + 1))) else ((spec_l4Blank.f ((rd_T98 a9 a8).f1.f0) ((rd_T98 a9 a8).f1.f1) ((rd_T98 a9 a8).f1.f2) ((rd_T98 a9 a8).f1.f3) ((rd_T98 a9 a8).f1.f4)).bind fun bu => (spec_l4Mended.l0 k1 l0 (a9.set (a8 : Int).toNat (⟨bu.1, (⟨bu.2.1, bu.2.2.1, bu.2.2.2.1, bu.2.2.2.2.1, bu.2.2.2.2.2.1⟩ : S96), bu.2.2.2.2.2.2⟩ : S98)) (wrap64 (a8 + 1))))) else (none)) else (none)) = some r := by first | (rw [df] at H; exact H) | (simp only [df] at H ⊢; exact H)
have hji54w : (IntKind.i64.wrap (a8 - 1)) = ao := (i64_w _).trans df
refine em_ (p := 0 ≤ (ao)) (fun dk => ?jv) (fun dk => ?ju)
case' jv => (
rw [if_pos dk] at H
have m5 : decide (0 ≤ (ao)) = true := decide_eq_true dk
clear dk
refine em_ (p := (ao) < (l0.length : Int)) (fun dm => ?jt) (fun dm => ?js)
case' jt => (
rw [if_pos dm] at H
have m6 : decide ((ao) < (l0.length : Int)) = true := decide_eq_true dm
clear dm
refine em_ (p := ((rd_T98 l0 (ao)).f2) = 1) (fun cN => ?jr) (fun cN => ?jq)
case' jr => (
rw [if_pos cN] at H
have iP : (((rd_T98 l0 (ao)).f2) == 1) = true := beq_iff_eq.mpr cN
have iQ : (((rd_T98 l0 (ao)).f2) != 1) = false := bne_eq_false_iff_eq.mpr cN
clear cN
have H' := am H
clear H
obtain ⟨mf, mQ, jm⟩ := Kd.R_slice aa.out
subst jm
have hU := trivial
)
case' jq => (
rw [if_neg cN] at H
have iP : (((rd_T98 l0 (ao)).f2) == 1) = false := beq_eq_false_iff_ne.mpr cN
have iQ : (((rd_T98 l0 (ao)).f2) != 1) = true := bne_iff_ne.mpr cN
obtain ⟨⟨cA, cB, cC, cD, cE, cF, cG⟩, jQ, H⟩ := bd H
(try dsimp only at H)
obtain ⟨dW, cV⟩ : ∃ y_ : List (S98), y_ = (a9.set (a8 : Int).toNat (⟨cA, (⟨cB, cC, cD, cE, cF⟩ : S96), cG⟩ : S98)) := ⟨_, rfl⟩
replace H : (spec_l4Mended.l0 k1 l0 dW (wrap64 (a8 + 1))) = some r := by first | (rw [cV]; with_reducible exact H) | (rw [cV]; exact H) | exact H
have iw := am cV
clear cV
have H' := am H
clear H
obtain ⟨mg, fc, jn⟩ := Kd.R_slice aa.out
subst jn
have ef := trivial
)
)
case js => (
rw [if_neg dm] at H
exact absurd H (by simp)
)
)
case ju => (
rw [if_neg dk] at H
exact absurd H (by simp)
)
)
)
case' jy => (
rw [if_neg cL] at H
have iL : (((rd_T98 a9 a8).f2) == 2) = false := beq_eq_false_iff_ne.mpr cL
have iM : (((rd_T98 a9 a8).f2) != 2) = true := bne_iff_ne.mpr cL
have H' := am H
clear H
obtain ⟨mh, mS, jo⟩ := Kd.R_slice aa.out
subst jo
have iX := trivial
)
)
)
case jC => (
rw [if_neg c7] at H
exact absurd H (by simp)
)
all_goals (
have dy : 0 ≤ (a8 : Int) := dt_
have dH : a8 < (a9.length : Int) := dt_
obtain ⟨bv, j6, aU, aV, aW, aX, aY, aZ, b4⟩ := at_T98 (Kd.R_reads' aa.out).2.2 a8 dy dH
cases j6
replace dy := eq_true dy
replace dH := eq_true dH
first
| (
have dA : 0 ≤ ((ac) : Int) := dt_
have dJ : (ac) < (a9.length : Int) := dt_
obtain ⟨iy, j8, bE, bF, bG, bH, bI, bJ, bK⟩ := at_T98 (Kd.R_reads' aa.out).2.2 (ac) dA dJ
obtain rfl : bv = iy := (by injection j8)
replace dA := eq_true dA
replace dJ := eq_true dJ
)
| skip
have dz : 0 ≤ (a8 : Int) := dt_
have dI : a8 < (a9.length : Int) := dt_
obtain ⟨ix, j7, aq, au, av, ax, ay, az, aA⟩ := at_T98 (Kd.R_reads' aa.out).2.2 a8 dz dI
obtain rfl : bv = ix := (by injection j7)
replace dz := eq_true dz
replace dI := eq_true dI
first
| (
first | have q_ := hL | have q_ := hP
have dC : 0 ≤ ((al) : Int) := dt_
have dL : (al) < (l0.length : Int) := dt_
obtain ⟨lZ, ja, cX, cY, cZ, d3, d4, d5, d6⟩ := at_T98 eT.out (al) dC dL
cases ja
replace cX := mv HB.out cX
replace cY := mv HB.out cY
replace cZ := mv HB.out cZ
replace d3 := mv HB.out d3
replace d4 := mv HB.out d4
replace d5 := mv HB.out d5
replace d6 := mv HB.out d6
replace dC := eq_true dC
replace dL := eq_true dL
first
| (
have q_ := hP
have dD : 0 ≤ (a8 : Int) := dt_
have dM : a8 < (a9.length : Int) := dt_
obtain ⟨iA, jb, ep, er, es, eu, ev, ex, ey⟩ := at_T98 (Kd.R_reads' aa.out).2.2 a8 dD dM
obtain rfl : bv = iA := (by injection jb)
replace dD := eq_true dD
replace dM := eq_true dM
go_wp2_with (first | ((with_reducible refine cg 121 rfl ?_); refine gl_ (some 66) Try.func121 #[.agg #[.int .i64 ((rd_T98 a9 a8).f1.f0), .int .i64 ((rd_T98 a9 a8).f1.f1), .bool ((rd_T98 a9 a8).f1.f2), .bool ((rd_T98 a9 a8).f1.f3), .bool ((rd_T98 a9 a8).f1.f4)]] ?_; (with_reducible refine (spec_l4Blank.calls ((rd_T98 a9 a8).f1.f0) ((rd_T98 a9 a8).f1.f1) ((rd_T98 a9 a8).f1.f2) ((rd_T98 a9 a8).f1.f3) ((rd_T98 a9 a8).f1.f4) bZ ca cb cd ce cf ch _ jN.out).mono ?_); rintro e aG ⟨rfl, hb⟩; refine ⟨_, rfl, ?_⟩; replace aa := am (Kd.R_below (rr aa) hb); replace HB := bs HB hb; (try clear hb); (try clear dn); (try clear hk); (try clear hi); have i2 : 0 ≤ (a8 : Int) := dt_; have i8 : (a8 : Int) < ((a9.length : Int) : Int) := dt_; obtain ⟨ag, mM, ff, fl, gl34, cl34, eP⟩ := Kd.R_form aa.out (by omega); (first | cases ff | (injection ff with ea_ en_ ec_; (first | subst ea_ | (injection ea_ with ea_; subst ea_)); subst ec_; clear en_)); have bA := am fl; have mo := am eP; clear fl gl34 eP; (try simp only [add_plain] at aU aV aW aX aY aZ b4 bE bF bG bH bI bJ bK aq au av ax ay az aA ep er es eu ev ex ey); obtain ⟨mB, iT, hM34, b7, bh⟩ := Kd.R_elem aa.out z98 (a8 : Int) i2 i8; obtain rfl := k98_openM hM34; have lp : aG.cell? ⟨ag, (a8 : Int).toNat * 7, none⟩ = some (.int .i64 ((rd_T98 a9 a8).f0)) := b7 0 _ rfl; have lq : aG.cell? ⟨ag, (a8 : Int).toNat * 7 + 1, none⟩ = some (.int .i64 ((rd_T98 a9 a8).f1.f0)) := b7 1 _ rfl; have lr : aG.cell? ⟨ag, (a8 : Int).toNat * 7 + 2, none⟩ = some (.int .i64 ((rd_T98 a9 a8).f1.f1)) := b7 2 _ rfl; have ls : aG.cell? ⟨ag, (a8 : Int).toNat * 7 + 3, none⟩ = some (.bool ((rd_T98 a9 a8).f1.f2)) := b7 3 _ rfl; have lu : aG.cell? ⟨ag, (a8 : Int).toNat * 7 + 4, none⟩ = some (.bool ((rd_T98 a9 a8).f1.f3)) := b7 4 _ rfl; have lv : aG.cell? ⟨ag, (a8 : Int).toNat * 7 + 5, none⟩ = some (.bool ((rd_T98 a9 a8).f1.f4)) := b7 5 _ rfl; have lx : aG.cell? ⟨ag, (a8 : Int).toNat * 7 + 6, none⟩ = some (.int .i64 ((rd_T98 a9 a8).f2)) := b7 6 _ rfl; have kz : aG.frozen? ⟨ag, (a8 : Int).toNat * 7, none⟩ = false := bh 0; have kA : aG.frozen? ⟨ag, (a8 : Int).toNat * 7 + 1, none⟩ = false := bh 1; have kB : aG.frozen? ⟨ag, (a8 : Int).toNat * 7 + 2, none⟩ = false := bh 2; have kC : aG.frozen? ⟨ag, (a8 : Int).toNat * 7 + 3, none⟩ = false := bh 3; have kD : aG.frozen? ⟨ag, (a8 : Int).toNat * 7 + 4, none⟩ = false := bh 4; have kE : aG.frozen? ⟨ag, (a8 : Int).toNat * 7 + 5, none⟩ = false := bh 5; have kF : aG.frozen? ⟨ag, (a8 : Int).toNat * 7 + 6, none⟩ = false := bh 6; clear iT b7 bh hM34; replace i2 := eq_true i2; replace i8 := eq_true i8; have eW := am (show Kd.R k98 98 aG w.heap.size (fun _ => True) (.slice (some ⟨ag, 0, none⟩) a9.length f9) a9 from (rr aa)); obtain ⟨mC, e9, hM37, aN, bi⟩ := Kd.R_elem eW.out z98 (a8 : Int) dt_ (by have h_ : (a8 : Int) < ((a9.length : Int) : Int) := dt_; first | exact h_ | (have e_ := (Kd.R_reads' aa.out).1; omega) | simpa using h_); obtain rfl := k98_openM hM37; have dt := Kd.R_seg eW.out (a8 : Int) dt_ (by have h_ : (a8 : Int) < ((a9.length : Int) : Int) := dt_; first | exact h_ | (have e_ := (Kd.R_reads' aa.out).1; omega) | simpa using h_) (seg := [.int .i64 bZ, .int .i64 ca, .int .i64 cb, .bool cd, .bool ce, .bool cf, .int .i64 ch]) (j := 0) e9 aN (show 7 ≤ 7 from by decide) (x' := (⟨bZ, (⟨ca, cb, cd, ce, cf⟩ : S96), ch⟩ : S98)) (k98_mkM _ _ _ (⟨bZ, (⟨ca, cb, cd, ce, cf⟩ : S96), ch⟩ : S98) ) (fun _ hk => hk); have gB := aN 0 _ rfl; (try simp only [show (k98).sz = 7 from rfl, Nat.mul_one, Nat.add_zero] at gB); have fG := bi 0; (try simp only [show (k98).sz = 7 from rfl, Nat.mul_one, Nat.add_zero] at fG); have gC := aN 1 _ rfl; (try simp only [show (k98).sz = 7 from rfl, Nat.mul_one, Nat.add_zero] at gC); have fH := bi 1; (try simp only [show (k98).sz = 7 from rfl, Nat.mul_one, Nat.add_zero] at fH); have gD := aN 2 _ rfl; (try simp only [show (k98).sz = 7 from rfl, Nat.mul_one, Nat.add_zero] at gD); have fI := bi 2; (try simp only [show (k98).sz = 7 from rfl, Nat.mul_one, Nat.add_zero] at fI); have gE := aN 3 _ rfl; (try simp only [show (k98).sz = 7 from rfl, Nat.mul_one, Nat.add_zero] at gE); have fJ := bi 3; (try simp only [show (k98).sz = 7 from rfl, Nat.mul_one, Nat.add_zero] at fJ); have gF := aN 4 _ rfl; (try simp only [show (k98).sz = 7 from rfl, Nat.mul_one, Nat.add_zero] at gF); have fK := bi 4; (try simp only [show (k98).sz = 7 from rfl, Nat.mul_one, Nat.add_zero] at fK); have gG := aN 5 _ rfl; (try simp only [show (k98).sz = 7 from rfl, Nat.mul_one, Nat.add_zero] at gG); have fL := bi 5; (try simp only [show (k98).sz = 7 from rfl, Nat.mul_one, Nat.add_zero] at fL); have gH := aN 6 _ rfl; (try simp only [show (k98).sz = 7 from rfl, Nat.mul_one, Nat.add_zero] at gH); have fM := bi 6; (try simp only [show (k98).sz = 7 from rfl, Nat.mul_one, Nat.add_zero] at fM); clear e9 aN bi hM37) | ((with_reducible refine gate_store (t := 98) (p := 67) rfl ?_); refine store_event (t := 98) (p := 67) (v := ?lV) (w1 := (((((((aG.setCell ⟨ag, (a8 : Int).toNat * 7, none⟩ (.int .i64 bZ)).setCell ⟨ag, (a8 : Int).toNat * 7 + 1, none⟩ (.int .i64 ca)).setCell ⟨ag, (a8 : Int).toNat * 7 + 2, none⟩ (.int .i64 cb)).setCell ⟨ag, (a8 : Int).toNat * 7 + 3, none⟩ (.bool cd)).setCell ⟨ag, (a8 : Int).toNat * 7 + 4, none⟩ (.bool ce)).setCell ⟨ag, (a8 : Int).toNat * 7 + 5, none⟩ (.bool cf)).setCell ⟨ag, (a8 : Int).toNat * 7 + 6, none⟩ (.int .i64 ch))) ?hg ?ho ?hn ?hr ?_; (case ho => rfl); (case hg => rfl); (case hn => rfl); (case hr => first | (go_simp; done) | (go_simp; rfl)); intro ig hw; have hg : aG.grownBy ig (some ag) := (by rw [hw]; exact dt.2); have hp_ : Kd.R k98 98 ig w.heap.size (fun _ => True) (.slice (some ⟨ag, 0, none⟩) a9.length f9) dS := (by rw [hw, ir.out]; exact dt.1); clear dt; replace aa := am (hp_); replace HB := am ((by rw [hw]; exact below_set (below_set (below_set (below_set (below_set (below_set (below_set (HB.out) bA.out) bA.out) bA.out) bA.out) bA.out) bA.out) bA.out : Below w.heap.size w ig)); clear hg hw hp_))
go_roundg k1
case measure => have := ap.out; omega
case rel => exact ⟨(dS), (ac), (by first | rfl | (simp; done) | (simp only [← aC] <;> (first | rfl | simp)) | (simp [*]; done)), H', ⟨by have := ap.out; omega⟩, ⟨rr aa⟩, ⟨rb HB⟩⟩
)
| (
have q_ := hL
go_wp2
go_roundg k1
case measure => have := ap.out; omega
case rel => exact ⟨(a9), (ac), (by first | rfl | (simp; done) | (simp only [← aC] <;> (first | rfl | simp)) | (simp [*]; done)), H', ⟨by have := ap.out; omega⟩, ⟨rr aa⟩, ⟨rb HB⟩⟩
)
)
| (
first | have q_ := hU | have q_ := ef
have dF : 0 ≤ ((ao) : Int) := dt_
have dO : (ao) < (l0.length : Int) := dt_
obtain ⟨m0, jd, d7, d8, d9, da, db, dc, dd⟩ := at_T98 eT.out (ao) dF dO
cases jd
replace d7 := mv HB.out d7
replace d8 := mv HB.out d8
replace d9 := mv HB.out d9
replace da := mv HB.out da
replace db := mv HB.out db
replace dc := mv HB.out dc
replace dd := mv HB.out dd
replace dF := eq_true dF
replace dO := eq_true dO
first
| (
have q_ := ef
have dG : 0 ≤ (a8 : Int) := dt_
have dP : a8 < (a9.length : Int) := dt_
obtain ⟨iC, je, eG, eH, eI, eJ, eK, eL, eM⟩ := at_T98 (Kd.R_reads' aa.out).2.2 a8 dG dP
obtain rfl : bv = iC := (by injection je)
replace dG := eq_true dG
replace dP := eq_true dP
go_wp2_with (first | ((with_reducible refine cg 121 rfl ?_); refine gl_ (some 66) Try.func121 #[.agg #[.int .i64 ((rd_T98 a9 a8).f1.f0), .int .i64 ((rd_T98 a9 a8).f1.f1), .bool ((rd_T98 a9 a8).f1.f2), .bool ((rd_T98 a9 a8).f1.f3), .bool ((rd_T98 a9 a8).f1.f4)]] ?_; (with_reducible refine (spec_l4Blank.calls ((rd_T98 a9 a8).f1.f0) ((rd_T98 a9 a8).f1.f1) ((rd_T98 a9 a8).f1.f2) ((rd_T98 a9 a8).f1.f3) ((rd_T98 a9 a8).f1.f4) cA cB cC cD cE cF cG _ jQ.out).mono ?_); rintro e aJ ⟨rfl, hb⟩; refine ⟨_, rfl, ?_⟩; replace aa := am (Kd.R_below (rr aa) hb); replace HB := bs HB hb; (try clear hb); (try clear dn); (try clear hk); (try clear hi); have i5 : 0 ≤ (a8 : Int) := dt_; have ib : (a8 : Int) < ((a9.length : Int) : Int) := dt_; obtain ⟨aj, mR, fi, fp, gl60, cl60, eS⟩ := Kd.R_form aa.out (by omega); (first | cases fi | (injection fi with ea_ en_ ec_; (first | subst ea_ | (injection ea_ with ea_; subst ea_)); subst ec_; clear en_)); have bD := am fp; have ms := am eS; clear fp gl60 eS; (try simp only [add_plain] at aU aV aW aX aY aZ b4 aq au av ax ay az aA eG eH eI eJ eK eL eM); obtain ⟨mH, iW, hM60, ba, bp⟩ := Kd.R_elem aa.out z98 (a8 : Int) i5 ib; obtain rfl := k98_openM hM60; have lM : aJ.cell? ⟨aj, (a8 : Int).toNat * 7, none⟩ = some (.int .i64 ((rd_T98 a9 a8).f0)) := ba 0 _ rfl; have lN : aJ.cell? ⟨aj, (a8 : Int).toNat * 7 + 1, none⟩ = some (.int .i64 ((rd_T98 a9 a8).f1.f0)) := ba 1 _ rfl; have lO : aJ.cell? ⟨aj, (a8 : Int).toNat * 7 + 2, none⟩ = some (.int .i64 ((rd_T98 a9 a8).f1.f1)) := ba 2 _ rfl; have lP : aJ.cell? ⟨aj, (a8 : Int).toNat * 7 + 3, none⟩ = some (.bool ((rd_T98 a9 a8).f1.f2)) := ba 3 _ rfl; have lQ : aJ.cell? ⟨aj, (a8 : Int).toNat * 7 + 4, none⟩ = some (.bool ((rd_T98 a9 a8).f1.f3)) := ba 4 _ rfl; have lR : aJ.cell? ⟨aj, (a8 : Int).toNat * 7 + 5, none⟩ = some (.bool ((rd_T98 a9 a8).f1.f4)) := ba 5 _ rfl; have lS : aJ.cell? ⟨aj, (a8 : Int).toNat * 7 + 6, none⟩ = some (.int .i64 ((rd_T98 a9 a8).f2)) := ba 6 _ rfl; have kU : aJ.frozen? ⟨aj, (a8 : Int).toNat * 7, none⟩ = false := bp 0; have kV : aJ.frozen? ⟨aj, (a8 : Int).toNat * 7 + 1, none⟩ = false := bp 1; have kW : aJ.frozen? ⟨aj, (a8 : Int).toNat * 7 + 2, none⟩ = false := bp 2; have kX : aJ.frozen? ⟨aj, (a8 : Int).toNat * 7 + 3, none⟩ = false := bp 3; have kY : aJ.frozen? ⟨aj, (a8 : Int).toNat * 7 + 4, none⟩ = false := bp 4; have kZ : aJ.frozen? ⟨aj, (a8 : Int).toNat * 7 + 5, none⟩ = false := bp 5; have l3 : aJ.frozen? ⟨aj, (a8 : Int).toNat * 7 + 6, none⟩ = false := bp 6; clear iW ba bp hM60; replace i5 := eq_true i5; replace ib := eq_true ib; have eZ := am (show Kd.R k98 98 aJ w.heap.size (fun _ => True) (.slice (some ⟨aj, 0, none⟩) a9.length fc) a9 from (rr aa)); obtain ⟨mI, ee, hM63, aT, bq⟩ := Kd.R_elem eZ.out z98 (a8 : Int) dt_ (by have h_ : (a8 : Int) < ((a9.length : Int) : Int) := dt_; first | exact h_ | (have e_ := (Kd.R_reads' aa.out).1; omega) | simpa using h_); obtain rfl := k98_openM hM63; have dx := Kd.R_seg eZ.out (a8 : Int) dt_ (by have h_ : (a8 : Int) < ((a9.length : Int) : Int) := dt_; first | exact h_ | (have e_ := (Kd.R_reads' aa.out).1; omega) | simpa using h_) (seg := [.int .i64 cA, .int .i64 cB, .int .i64 cC, .bool cD, .bool cE, .bool cF, .int .i64 cG]) (j := 0) ee aT (show 7 ≤ 7 from by decide) (x' := (⟨cA, (⟨cB, cC, cD, cE, cF⟩ : S96), cG⟩ : S98)) (k98_mkM _ _ _ (⟨cA, (⟨cB, cC, cD, cE, cF⟩ : S96), cG⟩ : S98) ) (fun _ hk => hk); have gW := aT 0 _ rfl; (try simp only [show (k98).sz = 7 from rfl, Nat.mul_one, Nat.add_zero] at gW); have g9 := bq 0; (try simp only [show (k98).sz = 7 from rfl, Nat.mul_one, Nat.add_zero] at g9); have gX := aT 1 _ rfl; (try simp only [show (k98).sz = 7 from rfl, Nat.mul_one, Nat.add_zero] at gX); have ga := bq 1; (try simp only [show (k98).sz = 7 from rfl, Nat.mul_one, Nat.add_zero] at ga); have gY := aT 2 _ rfl; (try simp only [show (k98).sz = 7 from rfl, Nat.mul_one, Nat.add_zero] at gY); have gb := bq 2; (try simp only [show (k98).sz = 7 from rfl, Nat.mul_one, Nat.add_zero] at gb); have gZ := aT 3 _ rfl; (try simp only [show (k98).sz = 7 from rfl, Nat.mul_one, Nat.add_zero] at gZ); have gc := bq 3; (try simp only [show (k98).sz = 7 from rfl, Nat.mul_one, Nat.add_zero] at gc); have hD := aT 4 _ rfl; (try simp only [show (k98).sz = 7 from rfl, Nat.mul_one, Nat.add_zero] at hD); have gf := bq 4; (try simp only [show (k98).sz = 7 from rfl, Nat.mul_one, Nat.add_zero] at gf); have hI := aT 5 _ rfl; (try simp only [show (k98).sz = 7 from rfl, Nat.mul_one, Nat.add_zero] at hI); have gg := bq 5; (try simp only [show (k98).sz = 7 from rfl, Nat.mul_one, Nat.add_zero] at gg); have hJ := aT 6 _ rfl; (try simp only [show (k98).sz = 7 from rfl, Nat.mul_one, Nat.add_zero] at hJ); have gh := bq 6; (try simp only [show (k98).sz = 7 from rfl, Nat.mul_one, Nat.add_zero] at gh); clear ee aT bq hM63) | ((with_reducible refine gate_store (t := 98) (p := 67) rfl ?_); refine store_event (t := 98) (p := 67) (v := ?lY) (w1 := (((((((aJ.setCell ⟨aj, (a8 : Int).toNat * 7, none⟩ (.int .i64 cA)).setCell ⟨aj, (a8 : Int).toNat * 7 + 1, none⟩ (.int .i64 cB)).setCell ⟨aj, (a8 : Int).toNat * 7 + 2, none⟩ (.int .i64 cC)).setCell ⟨aj, (a8 : Int).toNat * 7 + 3, none⟩ (.bool cD)).setCell ⟨aj, (a8 : Int).toNat * 7 + 4, none⟩ (.bool cE)).setCell ⟨aj, (a8 : Int).toNat * 7 + 5, none⟩ (.bool cF)).setCell ⟨aj, (a8 : Int).toNat * 7 + 6, none⟩ (.int .i64 cG))) ?hg ?ho ?hn ?hr ?_; (case ho => rfl); (case hg => rfl); (case hn => rfl); (case hr => first | (go_simp; done) | (go_simp; rfl)); intro ik hw; have hg : aJ.grownBy ik (some aj) := (by rw [hw]; exact dx.2); have hp_ : Kd.R k98 98 ik w.heap.size (fun _ => True) (.slice (some ⟨aj, 0, none⟩) a9.length fc) dW := (by rw [hw, iw.out]; exact dx.1); clear dx; replace aa := am (hp_); replace HB := am ((by rw [hw]; exact below_set (below_set (below_set (below_set (below_set (below_set (below_set (HB.out) bD.out) bD.out) bD.out) bD.out) bD.out) bD.out) bD.out : Below w.heap.size w ik)); clear hg hw hp_))
go_roundg k1
case measure => have := ap.out; omega
case rel => exact ⟨(dW), (wrap64 (a8 + 1)), sd, H', ⟨by have := ap.out; omega⟩, ⟨rr aa⟩, ⟨rb HB⟩⟩
)
| (
have q_ := hU
go_wp2
go_roundg k1
case measure => have := ap.out; omega
case rel => exact ⟨(a9), (wrap64 (a8 + 1)), sd, H', ⟨by have := ap.out; omega⟩, ⟨rr aa⟩, ⟨rb HB⟩⟩
)
)
| (
have q_ := jF
have dB : 0 ≤ (a8 : Int) := dt_
have dK : a8 < (a9.length : Int) := dt_
obtain ⟨iz, j9, eg, eh, ei, ej, ek, el, eo⟩ := at_T98 (Kd.R_reads' aa.out).2.2 a8 dB dK
obtain rfl : bv = iz := (by injection j9)
replace dB := eq_true dB
replace dK := eq_true dK
go_wp2_with (first | ((with_reducible refine cg 121 rfl ?_); refine gl_ (some 66) Try.func121 #[.agg #[.int .i64 ((rd_T98 a9 a8).f1.f0), .int .i64 ((rd_T98 a9 a8).f1.f1), .bool ((rd_T98 a9 a8).f1.f2), .bool ((rd_T98 a9 a8).f1.f3), .bool ((rd_T98 a9 a8).f1.f4)]] ?_; (with_reducible refine (spec_l4Blank.calls ((rd_T98 a9 a8).f1.f0) ((rd_T98 a9 a8).f1.f1) ((rd_T98 a9 a8).f1.f2) ((rd_T98 a9 a8).f1.f3) ((rd_T98 a9 a8).f1.f4) bS bT bU bV bW bX bY _ jM.out).mono ?_); rintro e aE ⟨rfl, hb⟩; refine ⟨_, rfl, ?_⟩; replace aa := am (Kd.R_below (rr aa) hb); replace HB := bs HB hb; (try clear hb); (try clear dn); (try clear hk); (try clear hi); have i1 : 0 ≤ (a8 : Int) := dt_; have i7 : (a8 : Int) < ((a9.length : Int) : Int) := dt_; obtain ⟨af, mK, fe, fk, gl23, cl23, eO⟩ := Kd.R_form aa.out (by omega); (first | cases fe | (injection fe with ea_ en_ ec_; (first | subst ea_ | (injection ea_ with ea_; subst ea_)); subst ec_; clear en_)); have bz := am fk; have ml := am eO; clear fk gl23 eO; (try simp only [add_plain] at aU aV aW aX aY aZ b4 bE bF bG bH bI bJ bK aq au av ax ay az aA eg eh ei ej ek el eo); obtain ⟨mz, iS, hM23, b6, bf⟩ := Kd.R_elem aa.out z98 (a8 : Int) i1 i7; obtain rfl := k98_openM hM23; have lc : aE.cell? ⟨af, (a8 : Int).toNat * 7, none⟩ = some (.int .i64 ((rd_T98 a9 a8).f0)) := b6 0 _ rfl; have ld : aE.cell? ⟨af, (a8 : Int).toNat * 7 + 1, none⟩ = some (.int .i64 ((rd_T98 a9 a8).f1.f0)) := b6 1 _ rfl; have lg : aE.cell? ⟨af, (a8 : Int).toNat * 7 + 2, none⟩ = some (.int .i64 ((rd_T98 a9 a8).f1.f1)) := b6 2 _ rfl; have lh : aE.cell? ⟨af, (a8 : Int).toNat * 7 + 3, none⟩ = some (.bool ((rd_T98 a9 a8).f1.f2)) := b6 3 _ rfl; have ll : aE.cell? ⟨af, (a8 : Int).toNat * 7 + 4, none⟩ = some (.bool ((rd_T98 a9 a8).f1.f3)) := b6 4 _ rfl; have lm : aE.cell? ⟨af, (a8 : Int).toNat * 7 + 5, none⟩ = some (.bool ((rd_T98 a9 a8).f1.f4)) := b6 5 _ rfl; have ln : aE.cell? ⟨af, (a8 : Int).toNat * 7 + 6, none⟩ = some (.int .i64 ((rd_T98 a9 a8).f2)) := b6 6 _ rfl; have kp : aE.frozen? ⟨af, (a8 : Int).toNat * 7, none⟩ = false := bf 0; have kr : aE.frozen? ⟨af, (a8 : Int).toNat * 7 + 1, none⟩ = false := bf 1; have ku : aE.frozen? ⟨af, (a8 : Int).toNat * 7 + 2, none⟩ = false := bf 2; have kv : aE.frozen? ⟨af, (a8 : Int).toNat * 7 + 3, none⟩ = false := bf 3; have kw : aE.frozen? ⟨af, (a8 : Int).toNat * 7 + 4, none⟩ = false := bf 4; have kx : aE.frozen? ⟨af, (a8 : Int).toNat * 7 + 5, none⟩ = false := bf 5; have ky : aE.frozen? ⟨af, (a8 : Int).toNat * 7 + 6, none⟩ = false := bf 6; clear iS b6 bf hM23; replace i1 := eq_true i1; replace i7 := eq_true i7; have eV := am (show Kd.R k98 98 aE w.heap.size (fun _ => True) (.slice (some ⟨af, 0, none⟩) a9.length f8) a9 from (rr aa)); obtain ⟨mA, e8, hM26, aM, bg⟩ := Kd.R_elem eV.out z98 (a8 : Int) dt_ (by have h_ : (a8 : Int) < ((a9.length : Int) : Int) := dt_; first | exact h_ | (have e_ := (Kd.R_reads' aa.out).1; omega) | simpa using h_); obtain rfl := k98_openM hM26; have dr := Kd.R_seg eV.out (a8 : Int) dt_ (by have h_ : (a8 : Int) < ((a9.length : Int) : Int) := dt_; first | exact h_ | (have e_ := (Kd.R_reads' aa.out).1; omega) | simpa using h_) (seg := [.int .i64 bS, .int .i64 bT, .int .i64 bU, .bool bV, .bool bW, .bool bX, .int .i64 bY]) (j := 0) e8 aM (show 7 ≤ 7 from by decide) (x' := (⟨bS, (⟨bT, bU, bV, bW, bX⟩ : S96), bY⟩ : S98)) (k98_mkM _ _ _ (⟨bS, (⟨bT, bU, bV, bW, bX⟩ : S96), bY⟩ : S98) ) (fun _ hk => hk); have gr := aM 0 _ rfl; (try simp only [show (k98).sz = 7 from rfl, Nat.mul_one, Nat.add_zero] at gr); have fz := bg 0; (try simp only [show (k98).sz = 7 from rfl, Nat.mul_one, Nat.add_zero] at fz); have gu := aM 1 _ rfl; (try simp only [show (k98).sz = 7 from rfl, Nat.mul_one, Nat.add_zero] at gu); have fA := bg 1; (try simp only [show (k98).sz = 7 from rfl, Nat.mul_one, Nat.add_zero] at fA); have gv := aM 2 _ rfl; (try simp only [show (k98).sz = 7 from rfl, Nat.mul_one, Nat.add_zero] at gv); have fB := bg 2; (try simp only [show (k98).sz = 7 from rfl, Nat.mul_one, Nat.add_zero] at fB); have gx := aM 3 _ rfl; (try simp only [show (k98).sz = 7 from rfl, Nat.mul_one, Nat.add_zero] at gx); have fC := bg 3; (try simp only [show (k98).sz = 7 from rfl, Nat.mul_one, Nat.add_zero] at fC); have gy := aM 4 _ rfl; (try simp only [show (k98).sz = 7 from rfl, Nat.mul_one, Nat.add_zero] at gy); have fD := bg 4; (try simp only [show (k98).sz = 7 from rfl, Nat.mul_one, Nat.add_zero] at fD); have gz := aM 5 _ rfl; (try simp only [show (k98).sz = 7 from rfl, Nat.mul_one, Nat.add_zero] at gz); have fE := bg 5; (try simp only [show (k98).sz = 7 from rfl, Nat.mul_one, Nat.add_zero] at fE); have gA := aM 6 _ rfl; (try simp only [show (k98).sz = 7 from rfl, Nat.mul_one, Nat.add_zero] at gA); have fF := bg 6; (try simp only [show (k98).sz = 7 from rfl, Nat.mul_one, Nat.add_zero] at fF); clear e8 aM bg hM26) | ((with_reducible refine gate_store (t := 98) (p := 67) rfl ?_); refine store_event (t := 98) (p := 67) (v := ?lU) (w1 := (((((((aE.setCell ⟨af, (a8 : Int).toNat * 7, none⟩ (.int .i64 bS)).setCell ⟨af, (a8 : Int).toNat * 7 + 1, none⟩ (.int .i64 bT)).setCell ⟨af, (a8 : Int).toNat * 7 + 2, none⟩ (.int .i64 bU)).setCell ⟨af, (a8 : Int).toNat * 7 + 3, none⟩ (.bool bV)).setCell ⟨af, (a8 : Int).toNat * 7 + 4, none⟩ (.bool bW)).setCell ⟨af, (a8 : Int).toNat * 7 + 5, none⟩ (.bool bX)).setCell ⟨af, (a8 : Int).toNat * 7 + 6, none⟩ (.int .i64 bY))) ?hg ?ho ?hn ?hr ?_; (case ho => rfl); (case hg => rfl); (case hn => rfl); (case hr => first | (go_simp; done) | (go_simp; rfl)); intro ie hw; have hg : aE.grownBy ie (some af) := (by rw [hw]; exact dr.2); have hp_ : Kd.R k98 98 ie w.heap.size (fun _ => True) (.slice (some ⟨af, 0, none⟩) a9.length f8) dR := (by rw [hw, iq.out]; exact dr.1); clear dr; replace aa := am (hp_); replace HB := am ((by rw [hw]; exact below_set (below_set (below_set (below_set (below_set (below_set (below_set (HB.out) bz.out) bz.out) bz.out) bz.out) bz.out) bz.out) bz.out : Below w.heap.size w ie)); clear hg hw hp_))
go_roundg k1
case measure => have := ap.out; omega
case rel => exact ⟨(dR), (ac), (by first | rfl | (simp; done) | (simp only [← aC] <;> (first | rfl | simp)) | (simp [*]; done)), H', ⟨by have := ap.out; omega⟩, ⟨rr aa⟩, ⟨rb HB⟩⟩
)
| (
have q_ := jH
go_wp2_with (first | ((with_reducible refine cg 121 rfl ?_); refine gl_ (some 66) Try.func121 #[.agg #[.int .i64 ((rd_T98 a9 a8).f1.f0), .int .i64 ((rd_T98 a9 a8).f1.f1), .bool ((rd_T98 a9 a8).f1.f2), .bool ((rd_T98 a9 a8).f1.f3), .bool ((rd_T98 a9 a8).f1.f4)]] ?_; (with_reducible refine (spec_l4Blank.calls ((rd_T98 a9 a8).f1.f0) ((rd_T98 a9 a8).f1.f1) ((rd_T98 a9 a8).f1.f2) ((rd_T98 a9 a8).f1.f3) ((rd_T98 a9 a8).f1.f4) cj ck cl cm cn co cp _ jO.out).mono ?_); rintro e aH ⟨rfl, hb⟩; refine ⟨_, rfl, ?_⟩; replace aa := am (Kd.R_below (rr aa) hb); replace HB := bs HB hb; (try clear hb); (try clear dn); (try clear hk); (try clear hi); have i3 : 0 ≤ (a8 : Int) := dt_; have i9 : (a8 : Int) < ((a9.length : Int) : Int) := dt_; obtain ⟨ah, mO, fg, fm, gl41, cl41, eQ⟩ := Kd.R_form aa.out (by omega); (first | cases fg | (injection fg with ea_ en_ ec_; (first | subst ea_ | (injection ea_ with ea_; subst ea_)); subst ec_; clear en_)); have bB := am fm; have mq := am eQ; clear fm gl41 eQ; (try simp only [add_plain] at aU aV aW aX aY aZ b4 bE bF bG bH bI bJ bK aq au av ax ay az aA aq au av ax ay az aA); obtain ⟨mD, iU, hM41, b8, bj⟩ := Kd.R_elem aa.out z98 (a8 : Int) i3 i9; obtain rfl := k98_openM hM41; have ly : aH.cell? ⟨ah, (a8 : Int).toNat * 7, none⟩ = some (.int .i64 ((rd_T98 a9 a8).f0)) := b8 0 _ rfl; have lz : aH.cell? ⟨ah, (a8 : Int).toNat * 7 + 1, none⟩ = some (.int .i64 ((rd_T98 a9 a8).f1.f0)) := b8 1 _ rfl; have lA : aH.cell? ⟨ah, (a8 : Int).toNat * 7 + 2, none⟩ = some (.int .i64 ((rd_T98 a9 a8).f1.f1)) := b8 2 _ rfl; have lB : aH.cell? ⟨ah, (a8 : Int).toNat * 7 + 3, none⟩ = some (.bool ((rd_T98 a9 a8).f1.f2)) := b8 3 _ rfl; have lC : aH.cell? ⟨ah, (a8 : Int).toNat * 7 + 4, none⟩ = some (.bool ((rd_T98 a9 a8).f1.f3)) := b8 4 _ rfl; have lD : aH.cell? ⟨ah, (a8 : Int).toNat * 7 + 5, none⟩ = some (.bool ((rd_T98 a9 a8).f1.f4)) := b8 5 _ rfl; have lE : aH.cell? ⟨ah, (a8 : Int).toNat * 7 + 6, none⟩ = some (.int .i64 ((rd_T98 a9 a8).f2)) := b8 6 _ rfl; have kG : aH.frozen? ⟨ah, (a8 : Int).toNat * 7, none⟩ = false := bj 0; have kH : aH.frozen? ⟨ah, (a8 : Int).toNat * 7 + 1, none⟩ = false := bj 1; have kI : aH.frozen? ⟨ah, (a8 : Int).toNat * 7 + 2, none⟩ = false := bj 2; have kJ : aH.frozen? ⟨ah, (a8 : Int).toNat * 7 + 3, none⟩ = false := bj 3; have kK : aH.frozen? ⟨ah, (a8 : Int).toNat * 7 + 4, none⟩ = false := bj 4; have kL : aH.frozen? ⟨ah, (a8 : Int).toNat * 7 + 5, none⟩ = false := bj 5; have kM : aH.frozen? ⟨ah, (a8 : Int).toNat * 7 + 6, none⟩ = false := bj 6; clear iU b8 bj hM41; replace i3 := eq_true i3; replace i9 := eq_true i9; have eX := am (show Kd.R k98 98 aH w.heap.size (fun _ => True) (.slice (some ⟨ah, 0, none⟩) a9.length fa) a9 from (rr aa)); obtain ⟨mE, eb, hM44, aP, bl⟩ := Kd.R_elem eX.out z98 (a8 : Int) dt_ (by have h_ : (a8 : Int) < ((a9.length : Int) : Int) := dt_; first | exact h_ | (have e_ := (Kd.R_reads' aa.out).1; omega) | simpa using h_); obtain rfl := k98_openM hM44; have du := Kd.R_seg eX.out (a8 : Int) dt_ (by have h_ : (a8 : Int) < ((a9.length : Int) : Int) := dt_; first | exact h_ | (have e_ := (Kd.R_reads' aa.out).1; omega) | simpa using h_) (seg := [.int .i64 cj, .int .i64 ck, .int .i64 cl, .bool cm, .bool cn, .bool co, .int .i64 cp]) (j := 0) eb aP (show 7 ≤ 7 from by decide) (x' := (⟨cj, (⟨ck, cl, cm, cn, co⟩ : S96), cp⟩ : S98)) (k98_mkM _ _ _ (⟨cj, (⟨ck, cl, cm, cn, co⟩ : S96), cp⟩ : S98) ) (fun _ hk => hk); have gI := aP 0 _ rfl; (try simp only [show (k98).sz = 7 from rfl, Nat.mul_one, Nat.add_zero] at gI); have fN := bl 0; (try simp only [show (k98).sz = 7 from rfl, Nat.mul_one, Nat.add_zero] at fN); have gJ := aP 1 _ rfl; (try simp only [show (k98).sz = 7 from rfl, Nat.mul_one, Nat.add_zero] at gJ); have fO := bl 1; (try simp only [show (k98).sz = 7 from rfl, Nat.mul_one, Nat.add_zero] at fO); have gK := aP 2 _ rfl; (try simp only [show (k98).sz = 7 from rfl, Nat.mul_one, Nat.add_zero] at gK); have fP := bl 2; (try simp only [show (k98).sz = 7 from rfl, Nat.mul_one, Nat.add_zero] at fP); have gL := aP 3 _ rfl; (try simp only [show (k98).sz = 7 from rfl, Nat.mul_one, Nat.add_zero] at gL); have fQ := bl 3; (try simp only [show (k98).sz = 7 from rfl, Nat.mul_one, Nat.add_zero] at fQ); have gM := aP 4 _ rfl; (try simp only [show (k98).sz = 7 from rfl, Nat.mul_one, Nat.add_zero] at gM); have fR := bl 4; (try simp only [show (k98).sz = 7 from rfl, Nat.mul_one, Nat.add_zero] at fR); have gN := aP 5 _ rfl; (try simp only [show (k98).sz = 7 from rfl, Nat.mul_one, Nat.add_zero] at gN); have fS := bl 5; (try simp only [show (k98).sz = 7 from rfl, Nat.mul_one, Nat.add_zero] at fS); have gO := aP 6 _ rfl; (try simp only [show (k98).sz = 7 from rfl, Nat.mul_one, Nat.add_zero] at gO); have fT := bl 6; (try simp only [show (k98).sz = 7 from rfl, Nat.mul_one, Nat.add_zero] at fT); clear eb aP bl hM44) | ((with_reducible refine gate_store (t := 98) (p := 67) rfl ?_); refine store_event (t := 98) (p := 67) (v := ?lW) (w1 := (((((((aH.setCell ⟨ah, (a8 : Int).toNat * 7, none⟩ (.int .i64 cj)).setCell ⟨ah, (a8 : Int).toNat * 7 + 1, none⟩ (.int .i64 ck)).setCell ⟨ah, (a8 : Int).toNat * 7 + 2, none⟩ (.int .i64 cl)).setCell ⟨ah, (a8 : Int).toNat * 7 + 3, none⟩ (.bool cm)).setCell ⟨ah, (a8 : Int).toNat * 7 + 4, none⟩ (.bool cn)).setCell ⟨ah, (a8 : Int).toNat * 7 + 5, none⟩ (.bool co)).setCell ⟨ah, (a8 : Int).toNat * 7 + 6, none⟩ (.int .i64 cp))) ?hg ?ho ?hn ?hr ?_; (case ho => rfl); (case hg => rfl); (case hn => rfl); (case hr => first | (go_simp; done) | (go_simp; rfl)); intro ii hw; have hg : aH.grownBy ii (some ah) := (by rw [hw]; exact du.2); have hp_ : Kd.R k98 98 ii w.heap.size (fun _ => True) (.slice (some ⟨ah, 0, none⟩) a9.length fa) dU := (by rw [hw, iu.out]; exact du.1); clear du; replace aa := am (hp_); replace HB := am ((by rw [hw]; exact below_set (below_set (below_set (below_set (below_set (below_set (below_set (HB.out) bB.out) bB.out) bB.out) bB.out) bB.out) bB.out) bB.out : Below w.heap.size w ii)); clear hg hw hp_))
go_roundg k1
case measure => have := ap.out; omega
case rel => exact ⟨(dU), (ac), (by first | rfl | (simp; done) | (simp only [← aC] <;> (first | rfl | simp)) | (simp [*]; done)), H', ⟨by have := ap.out; omega⟩, ⟨rr aa⟩, ⟨rb HB⟩⟩
)
| (
have q_ := jI
have dE : 0 ≤ (a8 : Int) := dt_
have dN : a8 < (a9.length : Int) := dt_
obtain ⟨iB, jc, ez, eA, eB, eC, eD, eE, eF⟩ := at_T98 (Kd.R_reads' aa.out).2.2 a8 dE dN
obtain rfl : bv = iB := (by injection jc)
replace dE := eq_true dE
replace dN := eq_true dN
go_wp2_with (first | ((with_reducible refine cg 121 rfl ?_); refine gl_ (some 66) Try.func121 #[.agg #[.int .i64 ((rd_T98 a9 a8).f1.f0), .int .i64 ((rd_T98 a9 a8).f1.f1), .bool ((rd_T98 a9 a8).f1.f2), .bool ((rd_T98 a9 a8).f1.f3), .bool ((rd_T98 a9 a8).f1.f4)]] ?_; (with_reducible refine (spec_l4Blank.calls ((rd_T98 a9 a8).f1.f0) ((rd_T98 a9 a8).f1.f1) ((rd_T98 a9 a8).f1.f2) ((rd_T98 a9 a8).f1.f3) ((rd_T98 a9 a8).f1.f4) cq ct cu cv cw cy cz _ jP.out).mono ?_); rintro e aI ⟨rfl, hb⟩; refine ⟨_, rfl, ?_⟩; replace aa := am (Kd.R_below (rr aa) hb); replace HB := bs HB hb; (try clear hb); (try clear dn); (try clear hk); (try clear hi); have i4 : 0 ≤ (a8 : Int) := dt_; have ia : (a8 : Int) < ((a9.length : Int) : Int) := dt_; obtain ⟨ai, mP, fh, fo, gl49, cl49, eR⟩ := Kd.R_form aa.out (by omega); (first | cases fh | (injection fh with ea_ en_ ec_; (first | subst ea_ | (injection ea_ with ea_; subst ea_)); subst ec_; clear en_)); have bC := am fo; have mr := am eR; clear fo gl49 eR; (try simp only [add_plain] at aU aV aW aX aY aZ b4 aq au av ax ay az aA ez eA eB eC eD eE eF); obtain ⟨mF, iV, hM49, b9, bn⟩ := Kd.R_elem aa.out z98 (a8 : Int) i4 ia; obtain rfl := k98_openM hM49; have lF : aI.cell? ⟨ai, (a8 : Int).toNat * 7, none⟩ = some (.int .i64 ((rd_T98 a9 a8).f0)) := b9 0 _ rfl; have lG : aI.cell? ⟨ai, (a8 : Int).toNat * 7 + 1, none⟩ = some (.int .i64 ((rd_T98 a9 a8).f1.f0)) := b9 1 _ rfl; have lH : aI.cell? ⟨ai, (a8 : Int).toNat * 7 + 2, none⟩ = some (.int .i64 ((rd_T98 a9 a8).f1.f1)) := b9 2 _ rfl; have lI : aI.cell? ⟨ai, (a8 : Int).toNat * 7 + 3, none⟩ = some (.bool ((rd_T98 a9 a8).f1.f2)) := b9 3 _ rfl; have lJ : aI.cell? ⟨ai, (a8 : Int).toNat * 7 + 4, none⟩ = some (.bool ((rd_T98 a9 a8).f1.f3)) := b9 4 _ rfl; have lK : aI.cell? ⟨ai, (a8 : Int).toNat * 7 + 5, none⟩ = some (.bool ((rd_T98 a9 a8).f1.f4)) := b9 5 _ rfl; have lL : aI.cell? ⟨ai, (a8 : Int).toNat * 7 + 6, none⟩ = some (.int .i64 ((rd_T98 a9 a8).f2)) := b9 6 _ rfl; have kN : aI.frozen? ⟨ai, (a8 : Int).toNat * 7, none⟩ = false := bn 0; have kO : aI.frozen? ⟨ai, (a8 : Int).toNat * 7 + 1, none⟩ = false := bn 1; have kP : aI.frozen? ⟨ai, (a8 : Int).toNat * 7 + 2, none⟩ = false := bn 2; have kQ : aI.frozen? ⟨ai, (a8 : Int).toNat * 7 + 3, none⟩ = false := bn 3; have kR : aI.frozen? ⟨ai, (a8 : Int).toNat * 7 + 4, none⟩ = false := bn 4; have kS : aI.frozen? ⟨ai, (a8 : Int).toNat * 7 + 5, none⟩ = false := bn 5; have kT : aI.frozen? ⟨ai, (a8 : Int).toNat * 7 + 6, none⟩ = false := bn 6; clear iV b9 bn hM49; replace i4 := eq_true i4; replace ia := eq_true ia; have eY := am (show Kd.R k98 98 aI w.heap.size (fun _ => True) (.slice (some ⟨ai, 0, none⟩) a9.length fb) a9 from (rr aa)); obtain ⟨mG, ed, hM52, aQ, bo⟩ := Kd.R_elem eY.out z98 (a8 : Int) dt_ (by have h_ : (a8 : Int) < ((a9.length : Int) : Int) := dt_; first | exact h_ | (have e_ := (Kd.R_reads' aa.out).1; omega) | simpa using h_); obtain rfl := k98_openM hM52; have dv := Kd.R_seg eY.out (a8 : Int) dt_ (by have h_ : (a8 : Int) < ((a9.length : Int) : Int) := dt_; first | exact h_ | (have e_ := (Kd.R_reads' aa.out).1; omega) | simpa using h_) (seg := [.int .i64 cq, .int .i64 ct, .int .i64 cu, .bool cv, .bool cw, .bool cy, .int .i64 cz]) (j := 0) ed aQ (show 7 ≤ 7 from by decide) (x' := (⟨cq, (⟨ct, cu, cv, cw, cy⟩ : S96), cz⟩ : S98)) (k98_mkM _ _ _ (⟨cq, (⟨ct, cu, cv, cw, cy⟩ : S96), cz⟩ : S98) ) (fun _ hk => hk); have gP := aQ 0 _ rfl; (try simp only [show (k98).sz = 7 from rfl, Nat.mul_one, Nat.add_zero] at gP); have fU := bo 0; (try simp only [show (k98).sz = 7 from rfl, Nat.mul_one, Nat.add_zero] at fU); have gQ := aQ 1 _ rfl; (try simp only [show (k98).sz = 7 from rfl, Nat.mul_one, Nat.add_zero] at gQ); have fV := bo 1; (try simp only [show (k98).sz = 7 from rfl, Nat.mul_one, Nat.add_zero] at fV); have gR := aQ 2 _ rfl; (try simp only [show (k98).sz = 7 from rfl, Nat.mul_one, Nat.add_zero] at gR); have fW := bo 2; (try simp only [show (k98).sz = 7 from rfl, Nat.mul_one, Nat.add_zero] at fW); have gS := aQ 3 _ rfl; (try simp only [show (k98).sz = 7 from rfl, Nat.mul_one, Nat.add_zero] at gS); have fX := bo 3; (try simp only [show (k98).sz = 7 from rfl, Nat.mul_one, Nat.add_zero] at fX); have gT := aQ 4 _ rfl; (try simp only [show (k98).sz = 7 from rfl, Nat.mul_one, Nat.add_zero] at gT); have fY := bo 4; (try simp only [show (k98).sz = 7 from rfl, Nat.mul_one, Nat.add_zero] at fY); have gU := aQ 5 _ rfl; (try simp only [show (k98).sz = 7 from rfl, Nat.mul_one, Nat.add_zero] at gU); have fZ := bo 5; (try simp only [show (k98).sz = 7 from rfl, Nat.mul_one, Nat.add_zero] at fZ); have gV := aQ 6 _ rfl; (try simp only [show (k98).sz = 7 from rfl, Nat.mul_one, Nat.add_zero] at gV); have g8 := bo 6; (try simp only [show (k98).sz = 7 from rfl, Nat.mul_one, Nat.add_zero] at g8); clear ed aQ bo hM52) | ((with_reducible refine gate_store (t := 98) (p := 67) rfl ?_); refine store_event (t := 98) (p := 67) (v := ?lX) (w1 := (((((((aI.setCell ⟨ai, (a8 : Int).toNat * 7, none⟩ (.int .i64 cq)).setCell ⟨ai, (a8 : Int).toNat * 7 + 1, none⟩ (.int .i64 ct)).setCell ⟨ai, (a8 : Int).toNat * 7 + 2, none⟩ (.int .i64 cu)).setCell ⟨ai, (a8 : Int).toNat * 7 + 3, none⟩ (.bool cv)).setCell ⟨ai, (a8 : Int).toNat * 7 + 4, none⟩ (.bool cw)).setCell ⟨ai, (a8 : Int).toNat * 7 + 5, none⟩ (.bool cy)).setCell ⟨ai, (a8 : Int).toNat * 7 + 6, none⟩ (.int .i64 cz))) ?hg ?ho ?hn ?hr ?_; (case ho => rfl); (case hg => rfl); (case hn => rfl); (case hr => first | (go_simp; done) | (go_simp; rfl)); intro ij hw; have hg : aI.grownBy ij (some ai) := (by rw [hw]; exact dv.2); have hp_ : Kd.R k98 98 ij w.heap.size (fun _ => True) (.slice (some ⟨ai, 0, none⟩) a9.length fb) dV := (by rw [hw, iv.out]; exact dv.1); clear dv; replace aa := am (hp_); replace HB := am ((by rw [hw]; exact below_set (below_set (below_set (below_set (below_set (below_set (below_set (HB.out) bC.out) bC.out) bC.out) bC.out) bC.out) bC.out) bC.out : Below w.heap.size w ij)); clear hg hw hp_))
go_roundg k1
case measure => have := ap.out; omega
case rel => exact ⟨(dV), (wrap64 (a8 + 1)), sd, H', ⟨by have := ap.out; omega⟩, ⟨rr aa⟩, ⟨rb HB⟩⟩
)
| (
have q_ := jE
go_wp2_with (first | ((with_reducible refine cg 121 rfl ?_); refine gl_ (some 66) Try.func121 #[.agg #[.int .i64 ((rd_T98 a9 a8).f1.f0), .int .i64 ((rd_T98 a9 a8).f1.f1), .bool ((rd_T98 a9 a8).f1.f2), .bool ((rd_T98 a9 a8).f1.f3), .bool ((rd_T98 a9 a8).f1.f4)]] ?_; (with_reducible refine (spec_l4Blank.calls ((rd_T98 a9 a8).f1.f0) ((rd_T98 a9 a8).f1.f1) ((rd_T98 a9 a8).f1.f2) ((rd_T98 a9 a8).f1.f3) ((rd_T98 a9 a8).f1.f4) bL bM bN bO bP bQ bR _ jL.out).mono ?_); rintro e aD ⟨rfl, hb⟩; refine ⟨_, rfl, ?_⟩; replace aa := am (Kd.R_below (rr aa) hb); replace HB := bs HB hb; (try clear hb); (try clear dn); (try clear hk); (try clear hi); have hV : 0 ≤ (a8 : Int) := dt_; have i6 : (a8 : Int) < ((a9.length : Int) : Int) := dt_; obtain ⟨ae, mJ, fd, fj, gl11, cl11, eN⟩ := Kd.R_form aa.out (by omega); (first | cases fd | (injection fd with ea_ en_ ec_; (first | subst ea_ | (injection ea_ with ea_; subst ea_)); subst ec_; clear en_)); have bw := am fj; have mj := am eN; clear fj gl11 eN; (try simp only [add_plain] at aU aV aW aX aY aZ b4 aq au av ax ay az aA); obtain ⟨mw, iR, hM11, b5, bb⟩ := Kd.R_elem aa.out z98 (a8 : Int) hV i6; obtain rfl := k98_openM hM11; have l4 : aD.cell? ⟨ae, (a8 : Int).toNat * 7, none⟩ = some (.int .i64 ((rd_T98 a9 a8).f0)) := b5 0 _ rfl; have l5 : aD.cell? ⟨ae, (a8 : Int).toNat * 7 + 1, none⟩ = some (.int .i64 ((rd_T98 a9 a8).f1.f0)) := b5 1 _ rfl; have l6 : aD.cell? ⟨ae, (a8 : Int).toNat * 7 + 2, none⟩ = some (.int .i64 ((rd_T98 a9 a8).f1.f1)) := b5 2 _ rfl; have l7 : aD.cell? ⟨ae, (a8 : Int).toNat * 7 + 3, none⟩ = some (.bool ((rd_T98 a9 a8).f1.f2)) := b5 3 _ rfl; have l8 : aD.cell? ⟨ae, (a8 : Int).toNat * 7 + 4, none⟩ = some (.bool ((rd_T98 a9 a8).f1.f3)) := b5 4 _ rfl; have l9 : aD.cell? ⟨ae, (a8 : Int).toNat * 7 + 5, none⟩ = some (.bool ((rd_T98 a9 a8).f1.f4)) := b5 5 _ rfl; have la : aD.cell? ⟨ae, (a8 : Int).toNat * 7 + 6, none⟩ = some (.int .i64 ((rd_T98 a9 a8).f2)) := b5 6 _ rfl; have kf : aD.frozen? ⟨ae, (a8 : Int).toNat * 7, none⟩ = false := bb 0; have kg : aD.frozen? ⟨ae, (a8 : Int).toNat * 7 + 1, none⟩ = false := bb 1; have ki : aD.frozen? ⟨ae, (a8 : Int).toNat * 7 + 2, none⟩ = false := bb 2; have kj : aD.frozen? ⟨ae, (a8 : Int).toNat * 7 + 3, none⟩ = false := bb 3; have km : aD.frozen? ⟨ae, (a8 : Int).toNat * 7 + 4, none⟩ = false := bb 4; have kn : aD.frozen? ⟨ae, (a8 : Int).toNat * 7 + 5, none⟩ = false := bb 5; have ko : aD.frozen? ⟨ae, (a8 : Int).toNat * 7 + 6, none⟩ = false := bb 6; clear iR b5 bb hM11; replace hV := eq_true hV; replace i6 := eq_true i6; have eU := am (show Kd.R k98 98 aD w.heap.size (fun _ => True) (.slice (some ⟨ae, 0, none⟩) a9.length f7) a9 from (rr aa)); obtain ⟨my, dZ, hM14, aK, bc⟩ := Kd.R_elem eU.out z98 (a8 : Int) dt_ (by have h_ : (a8 : Int) < ((a9.length : Int) : Int) := dt_; first | exact h_ | (have e_ := (Kd.R_reads' aa.out).1; omega) | simpa using h_); obtain rfl := k98_openM hM14; have dq := Kd.R_seg eU.out (a8 : Int) dt_ (by have h_ : (a8 : Int) < ((a9.length : Int) : Int) := dt_; first | exact h_ | (have e_ := (Kd.R_reads' aa.out).1; omega) | simpa using h_) (seg := [.int .i64 bL, .int .i64 bM, .int .i64 bN, .bool bO, .bool bP, .bool bQ, .int .i64 bR]) (j := 0) dZ aK (show 7 ≤ 7 from by decide) (x' := (⟨bL, (⟨bM, bN, bO, bP, bQ⟩ : S96), bR⟩ : S98)) (k98_mkM _ _ _ (⟨bL, (⟨bM, bN, bO, bP, bQ⟩ : S96), bR⟩ : S98) ) (fun _ hk => hk); have gi := aK 0 _ rfl; (try simp only [show (k98).sz = 7 from rfl, Nat.mul_one, Nat.add_zero] at gi); have fq := bc 0; (try simp only [show (k98).sz = 7 from rfl, Nat.mul_one, Nat.add_zero] at fq); have gj := aK 1 _ rfl; (try simp only [show (k98).sz = 7 from rfl, Nat.mul_one, Nat.add_zero] at gj); have ft := bc 1; (try simp only [show (k98).sz = 7 from rfl, Nat.mul_one, Nat.add_zero] at ft); have gl := aK 2 _ rfl; (try simp only [show (k98).sz = 7 from rfl, Nat.mul_one, Nat.add_zero] at gl); have fu := bc 2; (try simp only [show (k98).sz = 7 from rfl, Nat.mul_one, Nat.add_zero] at fu); have gm := aK 3 _ rfl; (try simp only [show (k98).sz = 7 from rfl, Nat.mul_one, Nat.add_zero] at gm); have fv := bc 3; (try simp only [show (k98).sz = 7 from rfl, Nat.mul_one, Nat.add_zero] at fv); have gn := aK 4 _ rfl; (try simp only [show (k98).sz = 7 from rfl, Nat.mul_one, Nat.add_zero] at gn); have fw := bc 4; (try simp only [show (k98).sz = 7 from rfl, Nat.mul_one, Nat.add_zero] at fw); have gp := aK 5 _ rfl; (try simp only [show (k98).sz = 7 from rfl, Nat.mul_one, Nat.add_zero] at gp); have fx := bc 5; (try simp only [show (k98).sz = 7 from rfl, Nat.mul_one, Nat.add_zero] at fx); have gq := aK 6 _ rfl; (try simp only [show (k98).sz = 7 from rfl, Nat.mul_one, Nat.add_zero] at gq); have fy := bc 6; (try simp only [show (k98).sz = 7 from rfl, Nat.mul_one, Nat.add_zero] at fy); clear dZ aK bc hM14) | ((with_reducible refine gate_store (t := 98) (p := 67) rfl ?_); refine store_event (t := 98) (p := 67) (v := ?lT) (w1 := (((((((aD.setCell ⟨ae, (a8 : Int).toNat * 7, none⟩ (.int .i64 bL)).setCell ⟨ae, (a8 : Int).toNat * 7 + 1, none⟩ (.int .i64 bM)).setCell ⟨ae, (a8 : Int).toNat * 7 + 2, none⟩ (.int .i64 bN)).setCell ⟨ae, (a8 : Int).toNat * 7 + 3, none⟩ (.bool bO)).setCell ⟨ae, (a8 : Int).toNat * 7 + 4, none⟩ (.bool bP)).setCell ⟨ae, (a8 : Int).toNat * 7 + 5, none⟩ (.bool bQ)).setCell ⟨ae, (a8 : Int).toNat * 7 + 6, none⟩ (.int .i64 bR))) ?hg ?ho ?hn ?hr ?_; (case ho => rfl); (case hg => rfl); (case hn => rfl); (case hr => first | (go_simp; done) | (go_simp; rfl)); intro ic hw; have hg : aD.grownBy ic (some ae) := (by rw [hw]; exact dq.2); have hp_ : Kd.R k98 98 ic w.heap.size (fun _ => True) (.slice (some ⟨ae, 0, none⟩) a9.length f7) dQ := (by rw [hw, ip.out]; exact dq.1); clear dq; replace aa := am (hp_); replace HB := am ((by rw [hw]; exact below_set (below_set (below_set (below_set (below_set (below_set (below_set (HB.out) bw.out) bw.out) bw.out) bw.out) bw.out) bw.out) bw.out : Below w.heap.size w ic)); clear hg hw hp_))
go_roundg k1
case measure => have := ap.out; omega
case rel => exact ⟨(dQ), (wrap64 (a8 + 1)), sd, H', ⟨by have := ap.out; omega⟩, ⟨rr aa⟩, ⟨rb HB⟩⟩
)
| (
have q_ := jG
go_wp2
go_roundg k1
case measure => have := ap.out; omega
case rel => exact ⟨(a9), (ac), (by first | rfl | (simp; done) | (simp only [← aC] <;> (first | rfl | simp)) | (simp [*]; done)), H', ⟨by have := ap.out; omega⟩, ⟨rr aa⟩, ⟨rb HB⟩⟩
)
| (
have q_ := iX
go_wp2
go_roundg k1
case measure => have := ap.out; omega
case rel => exact ⟨(a9), (wrap64 (a8 + 1)), sd, H', ⟨by have := ap.out; omega⟩, ⟨rr aa⟩, ⟨rb HB⟩⟩
)
)
)
·(
rw [if_neg c6] at H
have j3 : decide (a8 < (a9.length : Int)) = false := decide_eq_false c6
clear c6
obtain rfl := Option.some.inj H
obtain ⟨mi, mT, jp⟩ := Kd.R_slice aa.out
subst jp
go_wp2
go_ret
exact ⟨_, ew, qR_ aa, rb HB⟩
)
)
)
)
)

end Go.Proofs.Ytalopdcephohgaa.RD
