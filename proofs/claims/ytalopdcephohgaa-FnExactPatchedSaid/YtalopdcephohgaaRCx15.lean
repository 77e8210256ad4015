/- Contracts of Go functions that laws of this seat reach: each Lean function answers as its Go function does. No condition. Written by wip/tools/inj.py, over the kit's print. -/
import Derived.Test.YtalopdcephohgaaRCx0
import Derived.Test.YtalopdcephohgaaRCx16
namespace Go.Proofs.Ytalopdcephohgaa.RC
open Go.RowKit Go.Proofs.YtalopdcephohgaaW.PrintWords Go.Proofs.YtalopdcephohgaaW.PrintLast Go.Proofs.YtalopdcephohgaaW.PrintMore
attribute [local go_sem] max2_int min2_int max_two min_two max_three min_three max_four min_four   -- for this text's walks alone
set_option linter.unusedVariables false
set_option linter.unusedSimpArgs false

/-! ### spec_l4Mended: function 98 -/
def spec_l4Mended.l0 : Nat → List (S98) → List (S98) → Int → Option ((List (S98)))
 | 0, _, _, _ => none
 | k + 1, x0, x3, x4 => if x4 < (x3.length : Int) then (if 0 ≤ x4 then (if ((rd_T98 x3 x4).f2) = 1 then (if (wrap64 (x4 + 1)) = (x3.length : Int) then ((spec_l4Blank.f ((rd_T98 x3 x4).f1.f0) ((rd_T98 x3 x4).f1.f1) ((rd_T98 x3 x4).f1.f2) ((rd_T98 x3 x4).f1.f3) ((rd_T98 x3 x4).f1.f4)).bind fun bt212 => (spec_l4Mended.l0 k x0 (x3.set (x4 : Int).toNat (⟨bt212.1, (⟨bt212.2.1, bt212.2.2.1, bt212.2.2.2.1, bt212.2.2.2.2.1, bt212.2.2.2.2.2.1⟩ : S96), bt212.2.2.2.2.2.2⟩ : S98)) (wrap64 (x4 + 1)))) else (if 0 ≤ (wrap64 (x4 + 1)) then (if (wrap64 (x4 + 1)) < (x3.length : Int) then (if ((rd_T98 x3 (wrap64 (x4 + 1))).f2) = 2 then (if ((rd_T98 x3 x4).f2) = 2 then (if x4 = 0 then ((spec_l4Blank.f ((rd_T98 x3 x4).f1.f0) ((rd_T98 x3 x4).f1.f1) ((rd_T98 x3 x4).f1.f2) ((rd_T98 x3 x4).f1.f3) ((rd_T98 x3 x4).f1.f4)).bind fun bt223 => (spec_l4Mended.l0 k x0 (x3.set (x4 : Int).toNat (⟨bt223.1, (⟨bt223.2.1, bt223.2.2.1, bt223.2.2.2.1, bt223.2.2.2.2.1, bt223.2.2.2.2.2.1⟩ : S96), bt223.2.2.2.2.2.2⟩ : S98)) (wrap64 (x4 + 1)))) else (if 0 ≤ (wrap64 (x4 - 1)) then (if (wrap64 (x4 - 1)) < (x0.length : Int) then (if ((rd_T98 x0 (wrap64 (x4 - 1))).f2) = 1 then (spec_l4Mended.l0 k x0 x3 (wrap64 (x4 + 1))) else ((spec_l4Blank.f ((rd_T98 x3 x4).f1.f0) ((rd_T98 x3 x4).f1.f1) ((rd_T98 x3 x4).f1.f2) ((rd_T98 x3 x4).f1.f3) ((rd_T98 x3 x4).f1.f4)).bind fun bt233 => (spec_l4Mended.l0 k x0 (x3.set (x4 : Int).toNat (⟨bt233.1, (⟨bt233.2.1, bt233.2.2.1, bt233.2.2.2.1, bt233.2.2.2.2.1, bt233.2.2.2.2.2.1⟩ : S96), bt233.2.2.2.2.2.2⟩ : S98)) (wrap64 (x4 + 1))))) else (none)) else (none))) else (spec_l4Mended.l0 k x0 x3 (wrap64 (x4 + 1)))) else ((spec_l4Blank.f ((rd_T98 x3 x4).f1.f0) ((rd_T98 x3 x4).f1.f1) ((rd_T98 x3 x4).f1.f2) ((rd_T98 x3 x4).f1.f3) ((rd_T98 x3 x4).f1.f4)).bind fun bt242 => (spec_l4Mended.l0 k x0 (x3.set (x4 : Int).toNat (⟨bt242.1, (⟨bt242.2.1, bt242.2.2.1, bt242.2.2.2.1, bt242.2.2.2.2.1, bt242.2.2.2.2.2.1⟩ : S96), bt242.2.2.2.2.2.2⟩ : S98)) (wrap64 (x4 + 1))))) else (none)) else (none))) else (if ((rd_T98 x3 x4).f2) = 2 then (if x4 = 0 then ((spec_l4Blank.f ((rd_T98 x3 x4).f1.f0) ((rd_T98 x3 x4).f1.f1) ((rd_T98 x3 x4).f1.f2) ((rd_T98 x3 x4).f1.f3) ((rd_T98 x3 x4).f1.f4)).bind fun bt252 => (spec_l4Mended.l0 k x0 (x3.set (x4 : Int).toNat (⟨bt252.1, (⟨bt252.2.1, bt252.2.2.1, bt252.2.2.2.1, bt252.2.2.2.2.1, bt252.2.2.2.2.2.1⟩ : S96), bt252.2.2.2.2.2.2⟩ : S98)) (wrap64 (x4 + 1)))) else (if 0 ≤ (wrap64 (x4 - 1)) then (if (wrap64 (x4 - 1)) < (x0.length : Int) then (if ((rd_T98 x0 (wrap64 (x4 - 1))).f2) = 1 then (spec_l4Mended.l0 k x0 x3 (wrap64 (x4 + 1))) else ((spec_l4Blank.f ((rd_T98 x3 x4).f1.f0) ((rd_T98 x3 x4).f1.f1) ((rd_T98 x3 x4).f1.f2) ((rd_T98 x3 x4).f1.f3) ((rd_T98 x3 x4).f1.f4)).bind fun bt262 => (spec_l4Mended.l0 k x0 (x3.set (x4 : Int).toNat (⟨bt262.1, (⟨bt262.2.1, bt262.2.2.1, bt262.2.2.2.1, bt262.2.2.2.2.1, bt262.2.2.2.2.2.1⟩ : S96), bt262.2.2.2.2.2.2⟩ : S98)) (wrap64 (x4 + 1))))) else (none)) else (none))) else (spec_l4Mended.l0 k x0 x3 (wrap64 (x4 + 1))))) else (none)) else (some x3)
def spec_l4Mended.f (k : Nat) (l0 : List (S98)) : Option ((List (S98))) := (some (([] : List (S98)) : List (S98))).bind fun y204 => (if y204.length + l0.length < 3518437208883 then (spec_l4Mended.l0 k l0 (y204 ++ l0) 0) else (none))
theorem spec_l4Mended.mono_l : ∀ k, (∀ y0 y1 y2, LeO (spec_l4Mended.l0 k y0 y1 y2) (spec_l4Mended.l0 (k + 1) y0 y1 y2))
 | 0 => fun _ _ _ r h => by simp [spec_l4Mended.l0] at h
 | k + 1 => by
  have ih0 := spec_l4Mended.mono_l k
  ·intro y0 y1 y2
   unfold spec_l4Mended.l0
   repeat' first
   | (with_reducible exact ih0 _ _ _)
   | (with_reducible exact LeO.refl _)
   | (with_reducible exact LeO.none _)
   | (with_reducible refine LeO.ite ?_ ?_)
   | (with_reducible refine LeO.bind ?_ (fun _ => ?_))
theorem spec_l4Mended.mono : ∀ a0 k, LeO (spec_l4Mended.f k a0) (spec_l4Mended.f (k + 1) a0) := by
 intro a0 k
 have ih0 := spec_l4Mended.mono_l k
 unfold spec_l4Mended.f
 repeat' first
   | (with_reducible exact ih0 _ _ _)
   | (with_reducible exact LeO.refl _)
   | (with_reducible exact LeO.none _)
   | (with_reducible refine LeO.ite ?_ ?_)
   | (with_reducible refine LeO.bind ?_ (fun _ => ?_))
set_option maxHeartbeats 8000000 in
set_option maxRecDepth 100000 in
theorem spec_l4Mended.calls (k : Nat) (A0 : Option Addr) (c0 : Nat) (l0 : List (S98)) (r : List (S98)) (w : World) (hr0 : Kd.C k98 w A0 l0.length l0) (hc0 : l0.length ≤ c0) (h : spec_l4Mended.f k l0 = some r) :
  Calls Try.prog 98 #[.slice A0 l0.length c0] w fun e w' => ∃ v0_ : Value, e = .returned (v0_) ∧ Kd.R k98 98 w' w.heap.size (fun _ => True) v0_ r ∧ Below w.heap.size w w' := by
 (
have hu96 := Try.underlying96
have hu98 := Try.underlying98
have HR0 := am hr0
have HC0 := am hc0
clear hr0 hc0
have HB := am (Below.refl w.heap.size w)
have H := h
unfold spec_l4Mended.f at H
clear h
obtain ⟨y204, hy204⟩ : ∃ y_ : List (S98), y_ = (([] : List (S98))) := ⟨_, rfl⟩
replace H : (if y204.length + l0.length < 3518437208883 then (spec_l4Mended.l0 k l0 (y204 ++ l0) 0) else (none)) = some r := by first | (rw [hy204]; with_reducible exact H) | (rw [hy204]; exact H) | exact H
have Ny204 := am hy204
clear hy204
refine em_ (p := y204.length + l0.length < 3518437208883) (fun c2 => ?g0p) (fun c2 => ?g0n)
case' g0p => (
rw [if_pos c2] at H
have LMc2 := am c2
clear c2
obtain ⟨y207, hy207⟩ : ∃ y_ : List (S98), y_ = (y204 ++ l0) := ⟨_, rfl⟩
replace H : (spec_l4Mended.l0 k l0 y207 0) = some r := by first | (rw [hy207]; with_reducible exact H) | (rw [hy207]; exact H) | exact H
have Ny207 := am hy207
clear hy207
have H' := am H
clear H
have lf1_ := trivial
)
case g0n => (
rw [if_neg c2] at H
exact absurd H (by simp)
)
all_goals (
go_enter Try.func98, Try.ntmps98
go_wp2_with (first | ((with_reducible refine gate_dst (N := 6) rfl ?_); (try (refine gate_guard (by rfl) ?_; dsimp only)); refine Kd.R_lit k98 _ 98 ?hg (N := 6) ?hd (xs := ([] : List (S98))) (inner := []) (ok := fun _ => True) (okp := fun _ => True) ?hr ?hp (fun _ hk => hk) trivial (Below.refl _ _) (Nat.le_refl _) (by simp) ?_; (case hd => rfl); (case hg => rfl); (case hr => first | (go_simp; done) | (go_simp; rfl)); (case hp => exact (Reps.none _ _)); intro v205 w3 ho4 hb hg_ hnew_; clear hg_ hnew_; (first | rw [← Ny204.out] at ho4 | (simp only [Int.reduceToNat] at ho4; rw [← Ny204.out] at ho4)); have HO206 := am (Kd.R_lower ho4 (below_size (rb HB))); replace HB := am (below_step (rb HB) hb); clear hb ho4) | ((with_reducible refine gate_builtin (b := .append) (xs := #[.tmp 6, .tmp 7]) rfl ?_); (try (refine gate_guard (by rfl) ?_; dsimp only)); at_builtin; refine Kd.R_append_rows k98 (w0 := w) w.heap.size rfl (.tmp 6) (.tmp 7) 99 98 (.agg #[(.int .i64 0), (.int .i64 0), (.int .i64 0), (.bool false), (.bool false), (.bool false), (.int .i64 0)]) 40 rfl Try.underlying99 info98 rfl (by decide) (by omega) v205 y204 l0 _ _ _ (fun _ => True) (fun _ => False) rfl rfl ?aO ?aR (fun _ _ h => h) (fun _ h => h.elim) ?aF ?aB ?aS ?aL ?_; (case aR => repeat (first | exact (Kd.C_below HR0.out HB.out) | (with_reducible refine Kd.C_alloc ?_ _) | (with_reducible refine Kd.C_drewN ?_ _) | (with_reducible refine Kd.C_drew ?_))); (case aB => exact (rb HB)); (case aF => exact (fun _ _ => trivial)); (case aO => exact (rr HO206)); (case aS => exact (below_size (rb HB))); (case aL => have := LMc2.out; omega); intro v208 w5 ho hb hg hat; rw [← Ny207.out] at ho; replace HB := am (hb); have HO209 := am (ho); clear HO206; clear ho hb hg hat))
go_loopg [4] k (fun kq v4 w' => ∃ (x3_1 : List (S98)) (x4_1 : Int), v4 = .int .i64 x4_1 ∧ Aside0 (spec_l4Mended.l0 kq l0 x3_1 x4_1 = some r) ∧ Aside0 (kq ≤ k) ∧ Aside0 (Kd.R k98 98 w' w.heap.size (fun _ => True) v208 x3_1) ∧ Aside0 (Below w.heap.size w w'))
case atStart => exact ⟨(y207), (0), (by first | rfl | (simp; done) | (simp [*]; done)), H', ⟨Nat.le_refl _⟩, ⟨rr HO209⟩, ⟨rb HB⟩⟩
case round => (
clear H'
try clear c2
try clear p2
obtain ⟨x3_1, x4_1, rfl, HA, HK1, HO_3, HB⟩ := hrel
cases gk with
| zero => exact absurd HA.out (by simp [spec_l4Mended.l0])
| succ k1 => (
have H := HA.out
clear HA
simp only [spec_l4Mended.l0] at H
by_cases c6 : x4_1 < (x3_1.length : Int)
·(
rw [if_pos c6] at H
have c6b0 : decide (x4_1 < (x3_1.length : Int)) = true := decide_eq_true c6
clear c6
refine em_ (p := 0 ≤ x4_1) (fun c7 => ?g16p) (fun c7 => ?g16n)
case' g16p => (
rw [if_pos c7] at H
have c7b0 : decide (0 ≤ x4_1) = true := decide_eq_true c7
clear c7
refine em_ (p := ((rd_T98 x3_1 x4_1).f2) = 1) (fun c8 => ?g15p) (fun c8 => ?g15n)
case' g15p => (
rw [if_pos c8] at H
have c8b0 : (((rd_T98 x3_1 x4_1).f2) == 1) = true := beq_iff_eq.mpr c8
have c8b1 : (((rd_T98 x3_1 x4_1).f2) != 1) = false := bne_eq_false_iff_eq.mpr c8
clear c8
refine em_ (p := (wrap64 (x4_1 + 1)) = (x3_1.length : Int)) (fun c9 => ?g9p) (fun c9 => ?g9n)
case' g9p => (
rw [if_pos c9] at H
have c9b0 : ((wrap64 (x4_1 + 1)) == (x3_1.length : Int)) = true := beq_iff_eq.mpr c9
have c9b1 : ((wrap64 (x4_1 + 1)) != (x3_1.length : Int)) = false := bne_eq_false_iff_eq.mpr c9
clear c9
replace H := Option.bind_eq_some_iff.mp H
obtain ⟨⟨t212, t213, t214, t215, t216, t217, t218⟩, A100, H⟩ := H
(try dsimp only at H)
have A10 := am A100
clear A100
obtain ⟨y219, hy219⟩ : ∃ y_ : List (S98), y_ = (x3_1.set (x4_1 : Int).toNat (⟨t212, (⟨t213, t214, t215, t216, t217⟩ : S96), t218⟩ : S98)) := ⟨_, rfl⟩
replace H : (spec_l4Mended.l0 k1 l0 y219 (wrap64 (x4_1 + 1))) = some r := by first | (rw [hy219]; with_reducible exact H) | (rw [hy219]; exact H) | exact H
have Ny219 := am hy219
clear hy219
have H' := am H
clear H
obtain ⟨Ao12, co12, eo12⟩ := Kd.R_slice HO_3.out
subst eo12
have lf2_ := trivial
)
case' g9n => (
rw [if_neg c9] at H
have c9b0 : ((wrap64 (x4_1 + 1)) == (x3_1.length : Int)) = false := beq_eq_false_iff_ne.mpr c9
have c9b1 : ((wrap64 (x4_1 + 1)) != (x3_1.length : Int)) = true := bne_iff_ne.mpr c9
obtain ⟨ji16, hji16⟩ : ∃ j_ : Int, (wrap64 (x4_1 + 1)) = j_ := ⟨_, rfl⟩
replace H : (if 0 ≤ (ji16) then (if (ji16) < (x3_1.length : Int) then (if ((rd_T98 x3_1 (ji16)).f2) = 2 then (if ((rd_T98 x3_1 x4_1).f2) = 2 then (if x4_1 = 0 then ((spec_l4Blank.f ((rd_T98 x3_1 x4_1).f1.f0) ((rd_T98 x3_1 x4_1).f1.f1) ((rd_T98 x3_1 x4_1).f1.f2) ((rd_T98 x3_1 x4_1).f1.f3) ((rd_T98 x3_1 x4_1).f1.f4)).bind fun bt223 => (spec_l4Mended.l0 k1 l0 (x3_1.set (x4_1 : Int).toNat (⟨bt223.1, (⟨bt223.2.1, bt223.2.2.1, bt223.2.2.2.1, bt223.2.2.2.2.1, bt223.2.2.2.2.2.1⟩ : S96), bt223.2.2.2.2.2.2⟩ : S98)) ji16)) else (if 0 ≤ (wrap64 (x4_1 - 1)) then (if (wrap64 (x4_1 - 1)) < (l0.length : Int) then (if ((rd_T98 l0 (wrap64 (x4_1 - 1))).f2) = 1 then (spec_l4Mended.l0 k1 l0 x3_1 ji16) else ((spec_l4Blank.f ((rd_T98 x3_1 x4_1).f1.f0) ((rd_T98 x3_1 x4_1).f1.f1) ((rd_T98 x3_1 x4_1).f1.f2) ((rd_T98 x3_1 x4_1).f1.f3) ((rd_T98 x3_1 x4_1).f1.f4)).bind fun bt233 => (spec_l4Mended.l0 k1 l0 (x3_1.set (x4_1 : Int).toNat (⟨bt233.1, (⟨bt233.2.1, bt233.2.2.1, bt233.2.2.2.1, bt233.2.2.2.2.1, bt233.2.2.2.2.2.1⟩ : S96), bt233.2.2.2.2.2.2⟩ : S98)) ji16))) else (none)) else (none))) else (spec_l4Mended.l0 k1 l0 x3_1 ji16)) else ((spec_l4Blank.f ((rd_T98 x3_1 x4_1).f1.f0) ((rd_T98 x3_1 x4_1).f1.f1) ((rd_T98 x3_1 x4_1).f1.f2) ((rd_T98 x3_1 x4_1).f1.f3) ((rd_T98 x3_1 x4_1).f1.f4)).bind fun bt242 => (spec_l4Mended.l0 k1 l0 (x3_1.set (x4_1 : Int).toNat (⟨bt242.1, (⟨bt242.2.1, bt242.2.2.1, bt242.2.2.2.1, bt242.2.2.2.2.1, bt242.2.2.2.2.2.1⟩ : S96), bt242.2.2.2.2.2.2⟩ : S98)) ji16))) else (none)) else (none)) = some r := by first | (rw [hji16] at H; exact H) | (simp only [hji16] at H ⊢; exact H)
(try rw [hji16] at c9b0)
(try rw [hji16] at c9b1)
have hji16w : (IntKind.i64.wrap (x4_1 + 1)) = ji16 := (i64_w _).trans hji16
refine em_ (p := 0 ≤ (ji16)) (fun c17 => ?g8p) (fun c17 => ?g8n)
case' g8p => (
rw [if_pos c17] at H
have c17b0 : decide (0 ≤ (ji16)) = true := decide_eq_true c17
clear c17
refine em_ (p := (ji16) < (x3_1.length : Int)) (fun c18 => ?g7p) (fun c18 => ?g7n)
case' g7p => (
rw [if_pos c18] at H
have c18b0 : decide ((ji16) < (x3_1.length : Int)) = true := decide_eq_true c18
clear c18
refine em_ (p := ((rd_T98 x3_1 (ji16)).f2) = 2) (fun c19 => ?g6p) (fun c19 => ?g6n)
case' g6p => (
rw [if_pos c19] at H
have c19b0 : (((rd_T98 x3_1 (ji16)).f2) == 2) = true := beq_iff_eq.mpr c19
have c19b1 : (((rd_T98 x3_1 (ji16)).f2) != 2) = false := bne_eq_false_iff_eq.mpr c19
clear c19
refine em_ (p := ((rd_T98 x3_1 x4_1).f2) = 2) (fun c20 => ?g5p) (fun c20 => ?g5n)
case' g5p => (
rw [if_pos c20] at H
have c20b0 : (((rd_T98 x3_1 x4_1).f2) == 2) = true := beq_iff_eq.mpr c20
have c20b1 : (((rd_T98 x3_1 x4_1).f2) != 2) = false := bne_eq_false_iff_eq.mpr c20
clear c20
refine em_ (p := x4_1 = 0) (fun c21 => ?g4p) (fun c21 => ?g4n)
case' g4p => (
rw [if_pos c21] at H
have c21b0 : (x4_1 == 0) = true := beq_iff_eq.mpr c21
have c21b1 : (x4_1 != 0) = false := bne_eq_false_iff_eq.mpr c21
clear c21
replace H := Option.bind_eq_some_iff.mp H
obtain ⟨⟨t223, t224, t225, t226, t227, t228, t229⟩, A220, H⟩ := H
(try dsimp only at H)
have A22 := am A220
clear A220
obtain ⟨y230, hy230⟩ : ∃ y_ : List (S98), y_ = (x3_1.set (x4_1 : Int).toNat (⟨t223, (⟨t224, t225, t226, t227, t228⟩ : S96), t229⟩ : S98)) := ⟨_, rfl⟩
replace H : (spec_l4Mended.l0 k1 l0 y230 ji16) = some r := by first | (rw [hy230]; with_reducible exact H) | (rw [hy230]; exact H) | exact H
have Ny230 := am hy230
clear hy230
have H' := am H
clear H
obtain ⟨Ao24, co24, eo24⟩ := Kd.R_slice HO_3.out
subst eo24
have lf3_ := trivial
)
case' g4n => (
rw [if_neg c21] at H
have c21b0 : (x4_1 == 0) = false := beq_eq_false_iff_ne.mpr c21
have c21b1 : (x4_1 != 0) = true := bne_iff_ne.mpr c21
obtain ⟨ji28, hji28⟩ : ∃ j_ : Int, (wrap64 (x4_1 - 1)) = j_ := ⟨_, rfl⟩
replace H : (if 0 ≤ (ji28) then (if (ji28) < (l0.length : Int) then (if ((rd_T98 l0 (ji28)).f2) = 1 then (spec_l4Mended.l0 k1 l0 x3_1 ji16) else ((spec_l4Blank.f ((rd_T98 x3_1 x4_1).f1.f0) ((rd_T98 x3_1 x4_1).f1.f1) ((rd_T98 x3_1 x4_1).f1.f2) ((rd_T98 x3_1 x4_1).f1.f3) ((rd_T98 x3_1 x4_1).f1.f4)).bind fun bt233 => (spec_l4Mended.l0 k1 l0 (x3_1.set (x4_1 : Int).toNat (⟨bt233.1, (⟨bt233.2.1, bt233.2.2.1, bt233.2.2.2.1, bt233.2.2.2.2.1, bt233.2.2.2.2.2.1⟩ : S96), bt233.2.2.2.2.2.2⟩ : S98)) ji16))) else (none)) else (none)) = some r := by first | (rw [hji28] at H; exact H) | (simp only [hji28] at H ⊢; exact H)
have hji28w : (IntKind.i64.wrap (x4_1 - 1)) = ji28 := (i64_w _).trans hji28
refine em_ (p := 0 ≤ (ji28)) (fun c29 => ?g3p) (fun c29 => ?g3n)
case' g3p => (
rw [if_pos c29] at H
have c29b0 : decide (0 ≤ (ji28)) = true := decide_eq_true c29
clear c29
refine em_ (p := (ji28) < (l0.length : Int)) (fun c30 => ?g2p) (fun c30 => ?g2n)
case' g2p => (
rw [if_pos c30] at H
have c30b0 : decide ((ji28) < (l0.length : Int)) = true := decide_eq_true c30
clear c30
refine em_ (p := ((rd_T98 l0 (ji28)).f2) = 1) (fun c31 => ?g1p) (fun c31 => ?g1n)
case' g1p => (
rw [if_pos c31] at H
have c31b0 : (((rd_T98 l0 (ji28)).f2) == 1) = true := beq_iff_eq.mpr c31
have c31b1 : (((rd_T98 l0 (ji28)).f2) != 1) = false := bne_eq_false_iff_eq.mpr c31
clear c31
have H' := am H
clear H
obtain ⟨Ao32, co32, eo32⟩ := Kd.R_slice HO_3.out
subst eo32
have lf4_ := trivial
)
case' g1n => (
rw [if_neg c31] at H
have c31b0 : (((rd_T98 l0 (ji28)).f2) == 1) = false := beq_eq_false_iff_ne.mpr c31
have c31b1 : (((rd_T98 l0 (ji28)).f2) != 1) = true := bne_iff_ne.mpr c31
replace H := Option.bind_eq_some_iff.mp H
obtain ⟨⟨t233, t234, t235, t236, t237, t238, t239⟩, A330, H⟩ := H
(try dsimp only at H)
have A33 := am A330
clear A330
obtain ⟨y240, hy240⟩ : ∃ y_ : List (S98), y_ = (x3_1.set (x4_1 : Int).toNat (⟨t233, (⟨t234, t235, t236, t237, t238⟩ : S96), t239⟩ : S98)) := ⟨_, rfl⟩
replace H : (spec_l4Mended.l0 k1 l0 y240 ji16) = some r := by first | (rw [hy240]; with_reducible exact H) | (rw [hy240]; exact H) | exact H
have Ny240 := am hy240
clear hy240
have H' := am H
clear H
obtain ⟨Ao35, co35, eo35⟩ := Kd.R_slice HO_3.out
subst eo35
have lf5_ := trivial
)
)
case g2n => (
rw [if_neg c30] at H
exact absurd H (by simp)
)
)
case g3n => (
rw [if_neg c29] at H
exact absurd H (by simp)
)
)
)
case' g5n => (
rw [if_neg c20] at H
have c20b0 : (((rd_T98 x3_1 x4_1).f2) == 2) = false := beq_eq_false_iff_ne.mpr c20
have c20b1 : (((rd_T98 x3_1 x4_1).f2) != 2) = true := bne_iff_ne.mpr c20
have H' := am H
clear H
obtain ⟨Ao39, co39, eo39⟩ := Kd.R_slice HO_3.out
subst eo39
have lf6_ := trivial
)
)
case' g6n => (
rw [if_neg c19] at H
have c19b0 : (((rd_T98 x3_1 (ji16)).f2) == 2) = false := beq_eq_false_iff_ne.mpr c19
have c19b1 : (((rd_T98 x3_1 (ji16)).f2) != 2) = true := bne_iff_ne.mpr c19
replace H := Option.bind_eq_some_iff.mp H
obtain ⟨⟨t242, t243, t244, t245, t246, t247, t248⟩, A400, H⟩ := H
(try dsimp only at H)
have A40 := am A400
clear A400
obtain ⟨y249, hy249⟩ : ∃ y_ : List (S98), y_ = (x3_1.set (x4_1 : Int).toNat (⟨t242, (⟨t243, t244, t245, t246, t247⟩ : S96), t248⟩ : S98)) := ⟨_, rfl⟩
replace H : (spec_l4Mended.l0 k1 l0 y249 ji16) = some r := by first | (rw [hy249]; with_reducible exact H) | (rw [hy249]; exact H) | exact H
have Ny249 := am hy249
clear hy249
have H' := am H
clear H
obtain ⟨Ao42, co42, eo42⟩ := Kd.R_slice HO_3.out
subst eo42
have lf7_ := trivial
)
)
case g7n => (
rw [if_neg c18] at H
exact absurd H (by simp)
)
)
case g8n => (
rw [if_neg c17] at H
exact absurd H (by simp)
)
)
)
case' g15n => (
rw [if_neg c8] at H
have c8b0 : (((rd_T98 x3_1 x4_1).f2) == 1) = false := beq_eq_false_iff_ne.mpr c8
have c8b1 : (((rd_T98 x3_1 x4_1).f2) != 1) = true := bne_iff_ne.mpr c8
refine em_ (p := ((rd_T98 x3_1 x4_1).f2) = 2) (fun c46 => ?g14p) (fun c46 => ?g14n)
case' g14p => (
rw [if_pos c46] at H
have c46b0 : (((rd_T98 x3_1 x4_1).f2) == 2) = true := beq_iff_eq.mpr c46
have c46b1 : (((rd_T98 x3_1 x4_1).f2) != 2) = false := bne_eq_false_iff_eq.mpr c46
clear c46
refine em_ (p := x4_1 = 0) (fun c47 => ?g13p) (fun c47 => ?g13n)
case' g13p => (
rw [if_pos c47] at H
have c47b0 : (x4_1 == 0) = true := beq_iff_eq.mpr c47
have c47b1 : (x4_1 != 0) = false := bne_eq_false_iff_eq.mpr c47
clear c47
replace H := Option.bind_eq_some_iff.mp H
obtain ⟨⟨t252, t253, t254, t255, t256, t257, t258⟩, A480, H⟩ := H
(try dsimp only at H)
have A48 := am A480
clear A480
obtain ⟨y259, hy259⟩ : ∃ y_ : List (S98), y_ = (x3_1.set (x4_1 : Int).toNat (⟨t252, (⟨t253, t254, t255, t256, t257⟩ : S96), t258⟩ : S98)) := ⟨_, rfl⟩
replace H : (spec_l4Mended.l0 k1 l0 y259 (wrap64 (x4_1 + 1))) = some r := by first | (rw [hy259]; with_reducible exact H) | (rw [hy259]; exact H) | exact H
have Ny259 := am hy259
clear hy259
have H' := am H
clear H
obtain ⟨Ao50, co50, eo50⟩ := Kd.R_slice HO_3.out
subst eo50
have lf8_ := trivial
)
case' g13n => (
rw [if_neg c47] at H
have c47b0 : (x4_1 == 0) = false := beq_eq_false_iff_ne.mpr c47
have c47b1 : (x4_1 != 0) = true := bne_iff_ne.mpr c47
obtain ⟨ji54, hji54⟩ : ∃ j_ : Int, (wrap64 (x4_1 - 1)) = j_ := ⟨_, rfl⟩
replace H : (if 0 ≤ (ji54) then (if (ji54) < (l0.length : Int) then (if ((rd_T98 l0 (ji54)).f2) = 1 then (spec_l4Mended.l0 k1 l0 x3_1 (wrap64 (x4_1 + 1))) else ((spec_l4Blank.f ((rd_T98 x3_1 x4_1).f1.f0) ((rd_T98 x3_1 x4_1).f1.f1) ((rd_T98 x3_1 x4_1).f1.f2) ((rd_T98 x3_1 x4_1).f1.f3) ((rd_T98 x3_1 x4_1).f1.f4)).bind fun bt262 => (spec_l4Mended.l0 k1 l0 (x3_1.set (x4_1 : Int).toNat (⟨bt262.1, (⟨bt262.2.1, bt262.2.2.1, bt262.2.2.2.1, bt262.2.2.2.2.1, bt262.2.2.2.2.2.1⟩ : S96), bt262.2.2.2.2.2.2⟩ : S98)) (wrap64 (x4_1 + 1))))) else (none)) else (none)) = some r := by first | (rw [hji54] at H; exact H) | (simp only [hji54] at H ⊢; exact H)
have hji54w : (IntKind.i64.wrap (x4_1 - 1)) = ji54 := (i64_w _).trans hji54
refine em_ (p := 0 ≤ (ji54)) (fun c55 => ?g12p) (fun c55 => ?g12n)
case' g12p => (
rw [if_pos c55] at H
have c55b0 : decide (0 ≤ (ji54)) = true := decide_eq_true c55
clear c55
refine em_ (p := (ji54) < (l0.length : Int)) (fun c56 => ?g11p) (fun c56 => ?g11n)
case' g11p => (
rw [if_pos c56] at H
have c56b0 : decide ((ji54) < (l0.length : Int)) = true := decide_eq_true c56
clear c56
refine em_ (p := ((rd_T98 l0 (ji54)).f2) = 1) (fun c57 => ?g10p) (fun c57 => ?g10n)
case' g10p => (
rw [if_pos c57] at H
have c57b0 : (((rd_T98 l0 (ji54)).f2) == 1) = true := beq_iff_eq.mpr c57
have c57b1 : (((rd_T98 l0 (ji54)).f2) != 1) = false := bne_eq_false_iff_eq.mpr c57
clear c57
have H' := am H
clear H
obtain ⟨Ao58, co58, eo58⟩ := Kd.R_slice HO_3.out
subst eo58
have lf9_ := trivial
)
case' g10n => (
rw [if_neg c57] at H
have c57b0 : (((rd_T98 l0 (ji54)).f2) == 1) = false := beq_eq_false_iff_ne.mpr c57
have c57b1 : (((rd_T98 l0 (ji54)).f2) != 1) = true := bne_iff_ne.mpr c57
replace H := Option.bind_eq_some_iff.mp H
obtain ⟨⟨t262, t263, t264, t265, t266, t267, t268⟩, A590, H⟩ := H
(try dsimp only at H)
have A59 := am A590
clear A590
obtain ⟨y269, hy269⟩ : ∃ y_ : List (S98), y_ = (x3_1.set (x4_1 : Int).toNat (⟨t262, (⟨t263, t264, t265, t266, t267⟩ : S96), t268⟩ : S98)) := ⟨_, rfl⟩
replace H : (spec_l4Mended.l0 k1 l0 y269 (wrap64 (x4_1 + 1))) = some r := by first | (rw [hy269]; with_reducible exact H) | (rw [hy269]; exact H) | exact H
have Ny269 := am hy269
clear hy269
have H' := am H
clear H
obtain ⟨Ao61, co61, eo61⟩ := Kd.R_slice HO_3.out
subst eo61
have lf10_ := trivial
)
)
case g11n => (
rw [if_neg c56] at H
exact absurd H (by simp)
)
)
case g12n => (
rw [if_neg c55] at H
exact absurd H (by simp)
)
)
)
case' g14n => (
rw [if_neg c46] at H
have c46b0 : (((rd_T98 x3_1 x4_1).f2) == 2) = false := beq_eq_false_iff_ne.mpr c46
have c46b1 : (((rd_T98 x3_1 x4_1).f2) != 2) = true := bne_iff_ne.mpr c46
have H' := am H
clear H
obtain ⟨Ao65, co65, eo65⟩ := Kd.R_slice HO_3.out
subst eo65
have lf11_ := trivial
)
)
)
case g16n => (
rw [if_neg c7] at H
exact absurd H (by simp)
)
all_goals (
have p210 : 0 ≤ (x4_1 : Int) := dt_
have q210 : x4_1 < (x3_1.length : Int) := dt_
obtain ⟨ad210, e210, hx210_0, hx210_1, hx210_2, hx210_3, hx210_4, hx210_5, hx210_6⟩ := at_T98 (Kd.R_reads' HO_3.out).2.2 x4_1 p210 q210
cases e210
replace p210 := eq_true p210
replace q210 := eq_true q210
first
| (
have p220 : 0 ≤ ((ji16) : Int) := dt_
have q220 : (ji16) < (x3_1.length : Int) := dt_
obtain ⟨ad220, e220, hx220_0, hx220_1, hx220_2, hx220_3, hx220_4, hx220_5, hx220_6⟩ := at_T98 (Kd.R_reads' HO_3.out).2.2 (ji16) p220 q220
obtain rfl : ad210 = ad220 := (by injection e220)
replace p220 := eq_true p220
replace q220 := eq_true q220
)
| skip
have p211 : 0 ≤ (x4_1 : Int) := dt_
have q211 : x4_1 < (x3_1.length : Int) := dt_
obtain ⟨ad211, e211, hx211_0, hx211_1, hx211_2, hx211_3, hx211_4, hx211_5, hx211_6⟩ := at_T98 (Kd.R_reads' HO_3.out).2.2 x4_1 p211 q211
obtain rfl : ad210 = ad211 := (by injection e211)
replace p211 := eq_true p211
replace q211 := eq_true q211
first
| (
first | have q_ := lf4_ | have q_ := lf5_
have p231 : 0 ≤ ((ji28) : Int) := dt_
have q231 : (ji28) < (l0.length : Int) := dt_
obtain ⟨ad231, e231, hx231_0, hx231_1, hx231_2, hx231_3, hx231_4, hx231_5, hx231_6⟩ := at_T98 HR0.out (ji28) p231 q231
cases e231
replace hx231_0 := mv HB.out hx231_0
replace hx231_1 := mv HB.out hx231_1
replace hx231_2 := mv HB.out hx231_2
replace hx231_3 := mv HB.out hx231_3
replace hx231_4 := mv HB.out hx231_4
replace hx231_5 := mv HB.out hx231_5
replace hx231_6 := mv HB.out hx231_6
replace p231 := eq_true p231
replace q231 := eq_true q231
first
| (
have q_ := lf5_
have p232 : 0 ≤ (x4_1 : Int) := dt_
have q232 : x4_1 < (x3_1.length : Int) := dt_
obtain ⟨ad232, e232, hx232_0, hx232_1, hx232_2, hx232_3, hx232_4, hx232_5, hx232_6⟩ := at_T98 (Kd.R_reads' HO_3.out).2.2 x4_1 p232 q232
obtain rfl : ad210 = ad232 := (by injection e232)
replace p232 := eq_true p232
replace q232 := eq_true q232
go_wp2_with (first | ((with_reducible refine gate_callee (f := 121) rfl ?_); refine gl_ (some 66) Try.func121 #[.agg #[.int .i64 ((rd_T98 x3_1 x4_1).f1.f0), .int .i64 ((rd_T98 x3_1 x4_1).f1.f1), .bool ((rd_T98 x3_1 x4_1).f1.f2), .bool ((rd_T98 x3_1 x4_1).f1.f3), .bool ((rd_T98 x3_1 x4_1).f1.f4)]] ?_; (with_reducible refine (spec_l4Blank.calls ((rd_T98 x3_1 x4_1).f1.f0) ((rd_T98 x3_1 x4_1).f1.f1) ((rd_T98 x3_1 x4_1).f1.f2) ((rd_T98 x3_1 x4_1).f1.f3) ((rd_T98 x3_1 x4_1).f1.f4) t233 t234 t235 t236 t237 t238 t239 _ A33.out).mono ?_); rintro e w36 ⟨rfl, hb⟩; refine ⟨_, rfl, ?_⟩; replace HO_3 := am (Kd.R_below (rr HO_3) hb); replace HB := am (below_step (rb HB) hb); (try clear hb); (try clear hb2); (try clear hk); (try clear hi); have p34 : 0 ≤ (x4_1 : Int) := dt_; have q34 : (x4_1 : Int) < ((x3_1.length : Int) : Int) := dt_; obtain ⟨go34, co34, eo34, gb34, gl34, cl34, HG34⟩ := Kd.R_form HO_3.out (by omega); (first | cases eo34 | (injection eo34 with ea_ en_ ec_; (first | subst ea_ | (injection ea_ with ea_; subst ea_)); subst ec_; clear en_)); have GB34 := am gb34; have GG34 := am HG34; clear gb34 gl34 HG34; (first | simp only [add_plain] at hx210_0 | skip); (first | simp only [add_plain] at hx210_1 | skip); (first | simp only [add_plain] at hx210_2 | skip); (first | simp only [add_plain] at hx210_3 | skip); (first | simp only [add_plain] at hx210_4 | skip); (first | simp only [add_plain] at hx210_5 | skip); (first | simp only [add_plain] at hx210_6 | skip); (first | simp only [add_plain] at hx220_0 | skip); (first | simp only [add_plain] at hx220_1 | skip); (first | simp only [add_plain] at hx220_2 | skip); (first | simp only [add_plain] at hx220_3 | skip); (first | simp only [add_plain] at hx220_4 | skip); (first | simp only [add_plain] at hx220_5 | skip); (first | simp only [add_plain] at hx220_6 | skip); (first | simp only [add_plain] at hx211_0 | skip); (first | simp only [add_plain] at hx211_1 | skip); (first | simp only [add_plain] at hx211_2 | skip); (first | simp only [add_plain] at hx211_3 | skip); (first | simp only [add_plain] at hx211_4 | skip); (first | simp only [add_plain] at hx211_5 | skip); (first | simp only [add_plain] at hx211_6 | skip); (first | simp only [add_plain] at hx232_0 | skip); (first | simp only [add_plain] at hx232_1 | skip); (first | simp only [add_plain] at hx232_2 | skip); (first | simp only [add_plain] at hx232_3 | skip); (first | simp only [add_plain] at hx232_4 | skip); (first | simp only [add_plain] at hx232_5 | skip); (first | simp only [add_plain] at hx232_6 | skip); obtain ⟨ce34, hcl34, hM34, hcc34, hfr34⟩ := Kd.R_elem HO_3.out z98 (x4_1 : Int) p34 q34; obtain rfl := k98_openM hM34; have hx34_0 : w36.cell? ⟨go34, (x4_1 : Int).toNat * 7, none⟩ = some (.int .i64 ((rd_T98 x3_1 x4_1).f0)) := hcc34 0 _ rfl; have hx34_1 : w36.cell? ⟨go34, (x4_1 : Int).toNat * 7 + 1, none⟩ = some (.int .i64 ((rd_T98 x3_1 x4_1).f1.f0)) := hcc34 1 _ rfl; have hx34_2 : w36.cell? ⟨go34, (x4_1 : Int).toNat * 7 + 2, none⟩ = some (.int .i64 ((rd_T98 x3_1 x4_1).f1.f1)) := hcc34 2 _ rfl; have hx34_3 : w36.cell? ⟨go34, (x4_1 : Int).toNat * 7 + 3, none⟩ = some (.bool ((rd_T98 x3_1 x4_1).f1.f2)) := hcc34 3 _ rfl; have hx34_4 : w36.cell? ⟨go34, (x4_1 : Int).toNat * 7 + 4, none⟩ = some (.bool ((rd_T98 x3_1 x4_1).f1.f3)) := hcc34 4 _ rfl; have hx34_5 : w36.cell? ⟨go34, (x4_1 : Int).toNat * 7 + 5, none⟩ = some (.bool ((rd_T98 x3_1 x4_1).f1.f4)) := hcc34 5 _ rfl; have hx34_6 : w36.cell? ⟨go34, (x4_1 : Int).toNat * 7 + 6, none⟩ = some (.int .i64 ((rd_T98 x3_1 x4_1).f2)) := hcc34 6 _ rfl; have hf34_0 : w36.frozen? ⟨go34, (x4_1 : Int).toNat * 7, none⟩ = false := hfr34 0; have hf34_1 : w36.frozen? ⟨go34, (x4_1 : Int).toNat * 7 + 1, none⟩ = false := hfr34 1; have hf34_2 : w36.frozen? ⟨go34, (x4_1 : Int).toNat * 7 + 2, none⟩ = false := hfr34 2; have hf34_3 : w36.frozen? ⟨go34, (x4_1 : Int).toNat * 7 + 3, none⟩ = false := hfr34 3; have hf34_4 : w36.frozen? ⟨go34, (x4_1 : Int).toNat * 7 + 4, none⟩ = false := hfr34 4; have hf34_5 : w36.frozen? ⟨go34, (x4_1 : Int).toNat * 7 + 5, none⟩ = false := hfr34 5; have hf34_6 : w36.frozen? ⟨go34, (x4_1 : Int).toNat * 7 + 6, none⟩ = false := hfr34 6; clear hcl34 hcc34 hfr34 hM34; replace p34 := eq_true p34; replace q34 := eq_true q34; have HX37 := am (show Kd.R k98 98 w36 w.heap.size (fun _ => True) (.slice (some ⟨go34, 0, none⟩) x3_1.length co35) x3_1 from (rr HO_3)); obtain ⟨ce37, hcl37, hM37, hcc37, hfr37⟩ := Kd.R_elem HX37.out z98 (x4_1 : Int) dt_ (by have h_ : (x4_1 : Int) < ((x3_1.length : Int) : Int) := dt_; first | exact h_ | (have e_ := (Kd.R_reads' HO_3.out).1; omega) | simpa using h_); obtain rfl := k98_openM hM37; have HP37 := Kd.R_seg HX37.out (x4_1 : Int) dt_ (by have h_ : (x4_1 : Int) < ((x3_1.length : Int) : Int) := dt_; first | exact h_ | (have e_ := (Kd.R_reads' HO_3.out).1; omega) | simpa using h_) (seg := [.int .i64 t233, .int .i64 t234, .int .i64 t235, .bool t236, .bool t237, .bool t238, .int .i64 t239]) (j := 0) hcl37 hcc37 (show 7 ≤ 7 from by decide) (x' := (⟨t233, (⟨t234, t235, t236, t237, t238⟩ : S96), t239⟩ : S98)) (k98_mkM _ _ _ (⟨t233, (⟨t234, t235, t236, t237, t238⟩ : S96), t239⟩ : S98) ) (fun _ hk => hk); have hx37_0 := hcc37 0 _ rfl; (try simp only [show (k98).sz = 7 from rfl, Nat.mul_one, Nat.add_zero] at hx37_0); have hf37_0 := hfr37 0; (try simp only [show (k98).sz = 7 from rfl, Nat.mul_one, Nat.add_zero] at hf37_0); have hx37_1 := hcc37 1 _ rfl; (try simp only [show (k98).sz = 7 from rfl, Nat.mul_one, Nat.add_zero] at hx37_1); have hf37_1 := hfr37 1; (try simp only [show (k98).sz = 7 from rfl, Nat.mul_one, Nat.add_zero] at hf37_1); have hx37_2 := hcc37 2 _ rfl; (try simp only [show (k98).sz = 7 from rfl, Nat.mul_one, Nat.add_zero] at hx37_2); have hf37_2 := hfr37 2; (try simp only [show (k98).sz = 7 from rfl, Nat.mul_one, Nat.add_zero] at hf37_2); have hx37_3 := hcc37 3 _ rfl; (try simp only [show (k98).sz = 7 from rfl, Nat.mul_one, Nat.add_zero] at hx37_3); have hf37_3 := hfr37 3; (try simp only [show (k98).sz = 7 from rfl, Nat.mul_one, Nat.add_zero] at hf37_3); have hx37_4 := hcc37 4 _ rfl; (try simp only [show (k98).sz = 7 from rfl, Nat.mul_one, Nat.add_zero] at hx37_4); have hf37_4 := hfr37 4; (try simp only [show (k98).sz = 7 from rfl, Nat.mul_one, Nat.add_zero] at hf37_4); have hx37_5 := hcc37 5 _ rfl; (try simp only [show (k98).sz = 7 from rfl, Nat.mul_one, Nat.add_zero] at hx37_5); have hf37_5 := hfr37 5; (try simp only [show (k98).sz = 7 from rfl, Nat.mul_one, Nat.add_zero] at hf37_5); have hx37_6 := hcc37 6 _ rfl; (try simp only [show (k98).sz = 7 from rfl, Nat.mul_one, Nat.add_zero] at hx37_6); have hf37_6 := hfr37 6; (try simp only [show (k98).sz = 7 from rfl, Nat.mul_one, Nat.add_zero] at hf37_6); clear hcl37 hcc37 hfr37 hM37) | ((with_reducible refine gate_store (t := 98) (p := 67) rfl ?_); refine store_event (t := 98) (p := 67) (v := ?vo_w38) (w1 := (((((((w36.setCell ⟨go34, (x4_1 : Int).toNat * 7, none⟩ (.int .i64 t233)).setCell ⟨go34, (x4_1 : Int).toNat * 7 + 1, none⟩ (.int .i64 t234)).setCell ⟨go34, (x4_1 : Int).toNat * 7 + 2, none⟩ (.int .i64 t235)).setCell ⟨go34, (x4_1 : Int).toNat * 7 + 3, none⟩ (.bool t236)).setCell ⟨go34, (x4_1 : Int).toNat * 7 + 4, none⟩ (.bool t237)).setCell ⟨go34, (x4_1 : Int).toNat * 7 + 5, none⟩ (.bool t238)).setCell ⟨go34, (x4_1 : Int).toNat * 7 + 6, none⟩ (.int .i64 t239))) ?hg ?ho ?hn ?hr ?_; (case ho => rfl); (case hg => rfl); (case hn => rfl); (case hr => first | (go_simp; done) | (go_simp; rfl)); intro w38 hw; have hg : w36.grownBy w38 (some go34) := (by rw [hw]; exact HP37.2); have hp_ : Kd.R k98 98 w38 w.heap.size (fun _ => True) (.slice (some ⟨go34, 0, none⟩) x3_1.length co35) y240 := (by rw [hw, Ny240.out]; exact HP37.1); clear HP37; replace HO_3 := am (hp_); replace HB := am ((by rw [hw]; exact below_set (below_set (below_set (below_set (below_set (below_set (below_set (HB.out) GB34.out) GB34.out) GB34.out) GB34.out) GB34.out) GB34.out) GB34.out : Below w.heap.size w w38)); clear hg hw hp_))
go_roundg k1
case measure => have := HK1.out; omega
case rel => exact ⟨(y240), (ji16), (by first | rfl | (simp; done) | (simp only [← hji16] <;> (first | rfl | simp)) | (simp [*]; done)), H', ⟨by have := HK1.out; omega⟩, ⟨rr HO_3⟩, ⟨rb HB⟩⟩
)
| (
have q_ := lf4_
go_wp2
go_roundg k1
case measure => have := HK1.out; omega
case rel => exact ⟨(x3_1), (ji16), (by first | rfl | (simp; done) | (simp only [← hji16] <;> (first | rfl | simp)) | (simp [*]; done)), H', ⟨by have := HK1.out; omega⟩, ⟨rr HO_3⟩, ⟨rb HB⟩⟩
)
)
| (
first | have q_ := lf9_ | have q_ := lf10_
have p260 : 0 ≤ ((ji54) : Int) := dt_
have q260 : (ji54) < (l0.length : Int) := dt_
obtain ⟨ad260, e260, hx260_0, hx260_1, hx260_2, hx260_3, hx260_4, hx260_5, hx260_6⟩ := at_T98 HR0.out (ji54) p260 q260
cases e260
replace hx260_0 := mv HB.out hx260_0
replace hx260_1 := mv HB.out hx260_1
replace hx260_2 := mv HB.out hx260_2
replace hx260_3 := mv HB.out hx260_3
replace hx260_4 := mv HB.out hx260_4
replace hx260_5 := mv HB.out hx260_5
replace hx260_6 := mv HB.out hx260_6
replace p260 := eq_true p260
replace q260 := eq_true q260
first
| (
have q_ := lf10_
have p261 : 0 ≤ (x4_1 : Int) := dt_
have q261 : x4_1 < (x3_1.length : Int) := dt_
obtain ⟨ad261, e261, hx261_0, hx261_1, hx261_2, hx261_3, hx261_4, hx261_5, hx261_6⟩ := at_T98 (Kd.R_reads' HO_3.out).2.2 x4_1 p261 q261
obtain rfl : ad210 = ad261 := (by injection e261)
replace p261 := eq_true p261
replace q261 := eq_true q261
go_wp2_with (first | ((with_reducible refine gate_callee (f := 121) rfl ?_); refine gl_ (some 66) Try.func121 #[.agg #[.int .i64 ((rd_T98 x3_1 x4_1).f1.f0), .int .i64 ((rd_T98 x3_1 x4_1).f1.f1), .bool ((rd_T98 x3_1 x4_1).f1.f2), .bool ((rd_T98 x3_1 x4_1).f1.f3), .bool ((rd_T98 x3_1 x4_1).f1.f4)]] ?_; (with_reducible refine (spec_l4Blank.calls ((rd_T98 x3_1 x4_1).f1.f0) ((rd_T98 x3_1 x4_1).f1.f1) ((rd_T98 x3_1 x4_1).f1.f2) ((rd_T98 x3_1 x4_1).f1.f3) ((rd_T98 x3_1 x4_1).f1.f4) t262 t263 t264 t265 t266 t267 t268 _ A59.out).mono ?_); rintro e w62 ⟨rfl, hb⟩; refine ⟨_, rfl, ?_⟩; replace HO_3 := am (Kd.R_below (rr HO_3) hb); replace HB := am (below_step (rb HB) hb); (try clear hb); (try clear hb2); (try clear hk); (try clear hi); have p60 : 0 ≤ (x4_1 : Int) := dt_; have q60 : (x4_1 : Int) < ((x3_1.length : Int) : Int) := dt_; obtain ⟨go60, co60, eo60, gb60, gl60, cl60, HG60⟩ := Kd.R_form HO_3.out (by omega); (first | cases eo60 | (injection eo60 with ea_ en_ ec_; (first | subst ea_ | (injection ea_ with ea_; subst ea_)); subst ec_; clear en_)); have GB60 := am gb60; have GG60 := am HG60; clear gb60 gl60 HG60; (first | simp only [add_plain] at hx210_0 | skip); (first | simp only [add_plain] at hx210_1 | skip); (first | simp only [add_plain] at hx210_2 | skip); (first | simp only [add_plain] at hx210_3 | skip); (first | simp only [add_plain] at hx210_4 | skip); (first | simp only [add_plain] at hx210_5 | skip); (first | simp only [add_plain] at hx210_6 | skip); (first | simp only [add_plain] at hx211_0 | skip); (first | simp only [add_plain] at hx211_1 | skip); (first | simp only [add_plain] at hx211_2 | skip); (first | simp only [add_plain] at hx211_3 | skip); (first | simp only [add_plain] at hx211_4 | skip); (first | simp only [add_plain] at hx211_5 | skip); (first | simp only [add_plain] at hx211_6 | skip); (first | simp only [add_plain] at hx261_0 | skip); (first | simp only [add_plain] at hx261_1 | skip); (first | simp only [add_plain] at hx261_2 | skip); (first | simp only [add_plain] at hx261_3 | skip); (first | simp only [add_plain] at hx261_4 | skip); (first | simp only [add_plain] at hx261_5 | skip); (first | simp only [add_plain] at hx261_6 | skip); obtain ⟨ce60, hcl60, hM60, hcc60, hfr60⟩ := Kd.R_elem HO_3.out z98 (x4_1 : Int) p60 q60; obtain rfl := k98_openM hM60; have hx60_0 : w62.cell? ⟨go60, (x4_1 : Int).toNat * 7, none⟩ = some (.int .i64 ((rd_T98 x3_1 x4_1).f0)) := hcc60 0 _ rfl; have hx60_1 : w62.cell? ⟨go60, (x4_1 : Int).toNat * 7 + 1, none⟩ = some (.int .i64 ((rd_T98 x3_1 x4_1).f1.f0)) := hcc60 1 _ rfl; have hx60_2 : w62.cell? ⟨go60, (x4_1 : Int).toNat * 7 + 2, none⟩ = some (.int .i64 ((rd_T98 x3_1 x4_1).f1.f1)) := hcc60 2 _ rfl; have hx60_3 : w62.cell? ⟨go60, (x4_1 : Int).toNat * 7 + 3, none⟩ = some (.bool ((rd_T98 x3_1 x4_1).f1.f2)) := hcc60 3 _ rfl; have hx60_4 : w62.cell? ⟨go60, (x4_1 : Int).toNat * 7 + 4, none⟩ = some (.bool ((rd_T98 x3_1 x4_1).f1.f3)) := hcc60 4 _ rfl; have hx60_5 : w62.cell? ⟨go60, (x4_1 : Int).toNat * 7 + 5, none⟩ = some (.bool ((rd_T98 x3_1 x4_1).f1.f4)) := hcc60 5 _ rfl; have hx60_6 : w62.cell? ⟨go60, (x4_1 : Int).toNat * 7 + 6, none⟩ = some (.int .i64 ((rd_T98 x3_1 x4_1).f2)) := hcc60 6 _ rfl; have hf60_0 : w62.frozen? ⟨go60, (x4_1 : Int).toNat * 7, none⟩ = false := hfr60 0; have hf60_1 : w62.frozen? ⟨go60, (x4_1 : Int).toNat * 7 + 1, none⟩ = false := hfr60 1; have hf60_2 : w62.frozen? ⟨go60, (x4_1 : Int).toNat * 7 + 2, none⟩ = false := hfr60 2; have hf60_3 : w62.frozen? ⟨go60, (x4_1 : Int).toNat * 7 + 3, none⟩ = false := hfr60 3; have hf60_4 : w62.frozen? ⟨go60, (x4_1 : Int).toNat * 7 + 4, none⟩ = false := hfr60 4; have hf60_5 : w62.frozen? ⟨go60, (x4_1 : Int).toNat * 7 + 5, none⟩ = false := hfr60 5; have hf60_6 : w62.frozen? ⟨go60, (x4_1 : Int).toNat * 7 + 6, none⟩ = false := hfr60 6; clear hcl60 hcc60 hfr60 hM60; replace p60 := eq_true p60; replace q60 := eq_true q60; have HX63 := am (show Kd.R k98 98 w62 w.heap.size (fun _ => True) (.slice (some ⟨go60, 0, none⟩) x3_1.length co61) x3_1 from (rr HO_3)); obtain ⟨ce63, hcl63, hM63, hcc63, hfr63⟩ := Kd.R_elem HX63.out z98 (x4_1 : Int) dt_ (by have h_ : (x4_1 : Int) < ((x3_1.length : Int) : Int) := dt_; first | exact h_ | (have e_ := (Kd.R_reads' HO_3.out).1; omega) | simpa using h_); obtain rfl := k98_openM hM63; have HP63 := Kd.R_seg HX63.out (x4_1 : Int) dt_ (by have h_ : (x4_1 : Int) < ((x3_1.length : Int) : Int) := dt_; first | exact h_ | (have e_ := (Kd.R_reads' HO_3.out).1; omega) | simpa using h_) (seg := [.int .i64 t262, .int .i64 t263, .int .i64 t264, .bool t265, .bool t266, .bool t267, .int .i64 t268]) (j := 0) hcl63 hcc63 (show 7 ≤ 7 from by decide) (x' := (⟨t262, (⟨t263, t264, t265, t266, t267⟩ : S96), t268⟩ : S98)) (k98_mkM _ _ _ (⟨t262, (⟨t263, t264, t265, t266, t267⟩ : S96), t268⟩ : S98) ) (fun _ hk => hk); have hx63_0 := hcc63 0 _ rfl; (try simp only [show (k98).sz = 7 from rfl, Nat.mul_one, Nat.add_zero] at hx63_0); have hf63_0 := hfr63 0; (try simp only [show (k98).sz = 7 from rfl, Nat.mul_one, Nat.add_zero] at hf63_0); have hx63_1 := hcc63 1 _ rfl; (try simp only [show (k98).sz = 7 from rfl, Nat.mul_one, Nat.add_zero] at hx63_1); have hf63_1 := hfr63 1; (try simp only [show (k98).sz = 7 from rfl, Nat.mul_one, Nat.add_zero] at hf63_1); have hx63_2 := hcc63 2 _ rfl; (try simp only [show (k98).sz = 7 from rfl, Nat.mul_one, Nat.add_zero] at hx63_2); have hf63_2 := hfr63 2; (try simp only [show (k98).sz = 7 from rfl, Nat.mul_one, Nat.add_zero] at hf63_2); have hx63_3 := hcc63 3 _ rfl; (try simp only [show (k98).sz = 7 from rfl, Nat.mul_one, Nat.add_zero] at hx63_3); have hf63_3 := hfr63 3; (try simp only [show (k98).sz = 7 from rfl, Nat.mul_one, Nat.add_zero] at hf63_3); have hx63_4 := hcc63 4 _ rfl; (try simp only [show (k98).sz = 7 from rfl, Nat.mul_one, Nat.add_zero] at hx63_4); have hf63_4 := hfr63 4; (try simp only [show (k98).sz = 7 from rfl, Nat.mul_one, Nat.add_zero] at hf63_4); have hx63_5 := hcc63 5 _ rfl; (try simp only [show (k98).sz = 7 from rfl, Nat.mul_one, Nat.add_zero] at hx63_5); have hf63_5 := hfr63 5; (try simp only [show (k98).sz = 7 from rfl, Nat.mul_one, Nat.add_zero] at hf63_5); have hx63_6 := hcc63 6 _ rfl; (try simp only [show (k98).sz = 7 from rfl, Nat.mul_one, Nat.add_zero] at hx63_6); have hf63_6 := hfr63 6; (try simp only [show (k98).sz = 7 from rfl, Nat.mul_one, Nat.add_zero] at hf63_6); clear hcl63 hcc63 hfr63 hM63) | ((with_reducible refine gate_store (t := 98) (p := 67) rfl ?_); refine store_event (t := 98) (p := 67) (v := ?vo_w64) (w1 := (((((((w62.setCell ⟨go60, (x4_1 : Int).toNat * 7, none⟩ (.int .i64 t262)).setCell ⟨go60, (x4_1 : Int).toNat * 7 + 1, none⟩ (.int .i64 t263)).setCell ⟨go60, (x4_1 : Int).toNat * 7 + 2, none⟩ (.int .i64 t264)).setCell ⟨go60, (x4_1 : Int).toNat * 7 + 3, none⟩ (.bool t265)).setCell ⟨go60, (x4_1 : Int).toNat * 7 + 4, none⟩ (.bool t266)).setCell ⟨go60, (x4_1 : Int).toNat * 7 + 5, none⟩ (.bool t267)).setCell ⟨go60, (x4_1 : Int).toNat * 7 + 6, none⟩ (.int .i64 t268))) ?hg ?ho ?hn ?hr ?_; (case ho => rfl); (case hg => rfl); (case hn => rfl); (case hr => first | (go_simp; done) | (go_simp; rfl)); intro w64 hw; have hg : w62.grownBy w64 (some go60) := (by rw [hw]; exact HP63.2); have hp_ : Kd.R k98 98 w64 w.heap.size (fun _ => True) (.slice (some ⟨go60, 0, none⟩) x3_1.length co61) y269 := (by rw [hw, Ny269.out]; exact HP63.1); clear HP63; replace HO_3 := am (hp_); replace HB := am ((by rw [hw]; exact below_set (below_set (below_set (below_set (below_set (below_set (below_set (HB.out) GB60.out) GB60.out) GB60.out) GB60.out) GB60.out) GB60.out) GB60.out : Below w.heap.size w w64)); clear hg hw hp_))
go_roundg k1
case measure => have := HK1.out; omega
case rel => exact ⟨(y269), (wrap64 (x4_1 + 1)), (by first | rfl | (simp; done) | (simp [*]; done)), H', ⟨by have := HK1.out; omega⟩, ⟨rr HO_3⟩, ⟨rb HB⟩⟩
)
| (
have q_ := lf9_
go_wp2
go_roundg k1
case measure => have := HK1.out; omega
case rel => exact ⟨(x3_1), (wrap64 (x4_1 + 1)), (by first | rfl | (simp; done) | (simp [*]; done)), H', ⟨by have := HK1.out; omega⟩, ⟨rr HO_3⟩, ⟨rb HB⟩⟩
)
)
| (
have q_ := lf3_
have p222 : 0 ≤ (x4_1 : Int) := dt_
have q222 : x4_1 < (x3_1.length : Int) := dt_
obtain ⟨ad222, e222, hx222_0, hx222_1, hx222_2, hx222_3, hx222_4, hx222_5, hx222_6⟩ := at_T98 (Kd.R_reads' HO_3.out).2.2 x4_1 p222 q222
obtain rfl : ad210 = ad222 := (by injection e222)
replace p222 := eq_true p222
replace q222 := eq_true q222
go_wp2_with (first | ((with_reducible refine gate_callee (f := 121) rfl ?_); refine gl_ (some 66) Try.func121 #[.agg #[.int .i64 ((rd_T98 x3_1 x4_1).f1.f0), .int .i64 ((rd_T98 x3_1 x4_1).f1.f1), .bool ((rd_T98 x3_1 x4_1).f1.f2), .bool ((rd_T98 x3_1 x4_1).f1.f3), .bool ((rd_T98 x3_1 x4_1).f1.f4)]] ?_; (with_reducible refine (spec_l4Blank.calls ((rd_T98 x3_1 x4_1).f1.f0) ((rd_T98 x3_1 x4_1).f1.f1) ((rd_T98 x3_1 x4_1).f1.f2) ((rd_T98 x3_1 x4_1).f1.f3) ((rd_T98 x3_1 x4_1).f1.f4) t223 t224 t225 t226 t227 t228 t229 _ A22.out).mono ?_); rintro e w25 ⟨rfl, hb⟩; refine ⟨_, rfl, ?_⟩; replace HO_3 := am (Kd.R_below (rr HO_3) hb); replace HB := am (below_step (rb HB) hb); (try clear hb); (try clear hb2); (try clear hk); (try clear hi); have p23 : 0 ≤ (x4_1 : Int) := dt_; have q23 : (x4_1 : Int) < ((x3_1.length : Int) : Int) := dt_; obtain ⟨go23, co23, eo23, gb23, gl23, cl23, HG23⟩ := Kd.R_form HO_3.out (by omega); (first | cases eo23 | (injection eo23 with ea_ en_ ec_; (first | subst ea_ | (injection ea_ with ea_; subst ea_)); subst ec_; clear en_)); have GB23 := am gb23; have GG23 := am HG23; clear gb23 gl23 HG23; (first | simp only [add_plain] at hx210_0 | skip); (first | simp only [add_plain] at hx210_1 | skip); (first | simp only [add_plain] at hx210_2 | skip); (first | simp only [add_plain] at hx210_3 | skip); (first | simp only [add_plain] at hx210_4 | skip); (first | simp only [add_plain] at hx210_5 | skip); (first | simp only [add_plain] at hx210_6 | skip); (first | simp only [add_plain] at hx220_0 | skip); (first | simp only [add_plain] at hx220_1 | skip); (first | simp only [add_plain] at hx220_2 | skip); (first | simp only [add_plain] at hx220_3 | skip); (first | simp only [add_plain] at hx220_4 | skip); (first | simp only [add_plain] at hx220_5 | skip); (first | simp only [add_plain] at hx220_6 | skip); (first | simp only [add_plain] at hx211_0 | skip); (first | simp only [add_plain] at hx211_1 | skip); (first | simp only [add_plain] at hx211_2 | skip); (first | simp only [add_plain] at hx211_3 | skip); (first | simp only [add_plain] at hx211_4 | skip); (first | simp only [add_plain] at hx211_5 | skip); (first | simp only [add_plain] at hx211_6 | skip); (first | simp only [add_plain] at hx222_0 | skip); (first | simp only [add_plain] at hx222_1 | skip); (first | simp only [add_plain] at hx222_2 | skip); (first | simp only [add_plain] at hx222_3 | skip); (first | simp only [add_plain] at hx222_4 | skip); (first | simp only [add_plain] at hx222_5 | skip); (first | simp only [add_plain] at hx222_6 | skip); obtain ⟨ce23, hcl23, hM23, hcc23, hfr23⟩ := Kd.R_elem HO_3.out z98 (x4_1 : Int) p23 q23; obtain rfl := k98_openM hM23; have hx23_0 : w25.cell? ⟨go23, (x4_1 : Int).toNat * 7, none⟩ = some (.int .i64 ((rd_T98 x3_1 x4_1).f0)) := hcc23 0 _ rfl; have hx23_1 : w25.cell? ⟨go23, (x4_1 : Int).toNat * 7 + 1, none⟩ = some (.int .i64 ((rd_T98 x3_1 x4_1).f1.f0)) := hcc23 1 _ rfl; have hx23_2 : w25.cell? ⟨go23, (x4_1 : Int).toNat * 7 + 2, none⟩ = some (.int .i64 ((rd_T98 x3_1 x4_1).f1.f1)) := hcc23 2 _ rfl; have hx23_3 : w25.cell? ⟨go23, (x4_1 : Int).toNat * 7 + 3, none⟩ = some (.bool ((rd_T98 x3_1 x4_1).f1.f2)) := hcc23 3 _ rfl; have hx23_4 : w25.cell? ⟨go23, (x4_1 : Int).toNat * 7 + 4, none⟩ = some (.bool ((rd_T98 x3_1 x4_1).f1.f3)) := hcc23 4 _ rfl; have hx23_5 : w25.cell? ⟨go23, (x4_1 : Int).toNat * 7 + 5, none⟩ = some (.bool ((rd_T98 x3_1 x4_1).f1.f4)) := hcc23 5 _ rfl; have hx23_6 : w25.cell? ⟨go23, (x4_1 : Int).toNat * 7 + 6, none⟩ = some (.int .i64 ((rd_T98 x3_1 x4_1).f2)) := hcc23 6 _ rfl; have hf23_0 : w25.frozen? ⟨go23, (x4_1 : Int).toNat * 7, none⟩ = false := hfr23 0; have hf23_1 : w25.frozen? ⟨go23, (x4_1 : Int).toNat * 7 + 1, none⟩ = false := hfr23 1; have hf23_2 : w25.frozen? ⟨go23, (x4_1 : Int).toNat * 7 + 2, none⟩ = false := hfr23 2; have hf23_3 : w25.frozen? ⟨go23, (x4_1 : Int).toNat * 7 + 3, none⟩ = false := hfr23 3; have hf23_4 : w25.frozen? ⟨go23, (x4_1 : Int).toNat * 7 + 4, none⟩ = false := hfr23 4; have hf23_5 : w25.frozen? ⟨go23, (x4_1 : Int).toNat * 7 + 5, none⟩ = false := hfr23 5; have hf23_6 : w25.frozen? ⟨go23, (x4_1 : Int).toNat * 7 + 6, none⟩ = false := hfr23 6; clear hcl23 hcc23 hfr23 hM23; replace p23 := eq_true p23; replace q23 := eq_true q23; have HX26 := am (show Kd.R k98 98 w25 w.heap.size (fun _ => True) (.slice (some ⟨go23, 0, none⟩) x3_1.length co24) x3_1 from (rr HO_3)); obtain ⟨ce26, hcl26, hM26, hcc26, hfr26⟩ := Kd.R_elem HX26.out z98 (x4_1 : Int) dt_ (by have h_ : (x4_1 : Int) < ((x3_1.length : Int) : Int) := dt_; first | exact h_ | (have e_ := (Kd.R_reads' HO_3.out).1; omega) | simpa using h_); obtain rfl := k98_openM hM26; have HP26 := Kd.R_seg HX26.out (x4_1 : Int) dt_ (by have h_ : (x4_1 : Int) < ((x3_1.length : Int) : Int) := dt_; first | exact h_ | (have e_ := (Kd.R_reads' HO_3.out).1; omega) | simpa using h_) (seg := [.int .i64 t223, .int .i64 t224, .int .i64 t225, .bool t226, .bool t227, .bool t228, .int .i64 t229]) (j := 0) hcl26 hcc26 (show 7 ≤ 7 from by decide) (x' := (⟨t223, (⟨t224, t225, t226, t227, t228⟩ : S96), t229⟩ : S98)) (k98_mkM _ _ _ (⟨t223, (⟨t224, t225, t226, t227, t228⟩ : S96), t229⟩ : S98) ) (fun _ hk => hk); have hx26_0 := hcc26 0 _ rfl; (try simp only [show (k98).sz = 7 from rfl, Nat.mul_one, Nat.add_zero] at hx26_0); have hf26_0 := hfr26 0; (try simp only [show (k98).sz = 7 from rfl, Nat.mul_one, Nat.add_zero] at hf26_0); have hx26_1 := hcc26 1 _ rfl; (try simp only [show (k98).sz = 7 from rfl, Nat.mul_one, Nat.add_zero] at hx26_1); have hf26_1 := hfr26 1; (try simp only [show (k98).sz = 7 from rfl, Nat.mul_one, Nat.add_zero] at hf26_1); have hx26_2 := hcc26 2 _ rfl; (try simp only [show (k98).sz = 7 from rfl, Nat.mul_one, Nat.add_zero] at hx26_2); have hf26_2 := hfr26 2; (try simp only [show (k98).sz = 7 from rfl, Nat.mul_one, Nat.add_zero] at hf26_2); have hx26_3 := hcc26 3 _ rfl; (try simp only [show (k98).sz = 7 from rfl, Nat.mul_one, Nat.add_zero] at hx26_3); have hf26_3 := hfr26 3; (try simp only [show (k98).sz = 7 from rfl, Nat.mul_one, Nat.add_zero] at hf26_3); have hx26_4 := hcc26 4 _ rfl; (try simp only [show (k98).sz = 7 from rfl, Nat.mul_one, Nat.add_zero] at hx26_4); have hf26_4 := hfr26 4; (try simp only [show (k98).sz = 7 from rfl, Nat.mul_one, Nat.add_zero] at hf26_4); have hx26_5 := hcc26 5 _ rfl; (try simp only [show (k98).sz = 7 from rfl, Nat.mul_one, Nat.add_zero] at hx26_5); have hf26_5 := hfr26 5; (try simp only [show (k98).sz = 7 from rfl, Nat.mul_one, Nat.add_zero] at hf26_5); have hx26_6 := hcc26 6 _ rfl; (try simp only [show (k98).sz = 7 from rfl, Nat.mul_one, Nat.add_zero] at hx26_6); have hf26_6 := hfr26 6; (try simp only [show (k98).sz = 7 from rfl, Nat.mul_one, Nat.add_zero] at hf26_6); clear hcl26 hcc26 hfr26 hM26) | ((with_reducible refine gate_store (t := 98) (p := 67) rfl ?_); refine store_event (t := 98) (p := 67) (v := ?vo_w27) (w1 := (((((((w25.setCell ⟨go23, (x4_1 : Int).toNat * 7, none⟩ (.int .i64 t223)).setCell ⟨go23, (x4_1 : Int).toNat * 7 + 1, none⟩ (.int .i64 t224)).setCell ⟨go23, (x4_1 : Int).toNat * 7 + 2, none⟩ (.int .i64 t225)).setCell ⟨go23, (x4_1 : Int).toNat * 7 + 3, none⟩ (.bool t226)).setCell ⟨go23, (x4_1 : Int).toNat * 7 + 4, none⟩ (.bool t227)).setCell ⟨go23, (x4_1 : Int).toNat * 7 + 5, none⟩ (.bool t228)).setCell ⟨go23, (x4_1 : Int).toNat * 7 + 6, none⟩ (.int .i64 t229))) ?hg ?ho ?hn ?hr ?_; (case ho => rfl); (case hg => rfl); (case hn => rfl); (case hr => first | (go_simp; done) | (go_simp; rfl)); intro w27 hw; have hg : w25.grownBy w27 (some go23) := (by rw [hw]; exact HP26.2); have hp_ : Kd.R k98 98 w27 w.heap.size (fun _ => True) (.slice (some ⟨go23, 0, none⟩) x3_1.length co24) y230 := (by rw [hw, Ny230.out]; exact HP26.1); clear HP26; replace HO_3 := am (hp_); replace HB := am ((by rw [hw]; exact below_set (below_set (below_set (below_set (below_set (below_set (below_set (HB.out) GB23.out) GB23.out) GB23.out) GB23.out) GB23.out) GB23.out) GB23.out : Below w.heap.size w w27)); clear hg hw hp_))
go_roundg k1
case measure => have := HK1.out; omega
case rel => exact ⟨(y230), (ji16), (by first | rfl | (simp; done) | (simp only [← hji16] <;> (first | rfl | simp)) | (simp [*]; done)), H', ⟨by have := HK1.out; omega⟩, ⟨rr HO_3⟩, ⟨rb HB⟩⟩
)
| (
have q_ := lf7_
go_wp2_with (first | ((with_reducible refine gate_callee (f := 121) rfl ?_); refine gl_ (some 66) Try.func121 #[.agg #[.int .i64 ((rd_T98 x3_1 x4_1).f1.f0), .int .i64 ((rd_T98 x3_1 x4_1).f1.f1), .bool ((rd_T98 x3_1 x4_1).f1.f2), .bool ((rd_T98 x3_1 x4_1).f1.f3), .bool ((rd_T98 x3_1 x4_1).f1.f4)]] ?_; (with_reducible refine (spec_l4Blank.calls ((rd_T98 x3_1 x4_1).f1.f0) ((rd_T98 x3_1 x4_1).f1.f1) ((rd_T98 x3_1 x4_1).f1.f2) ((rd_T98 x3_1 x4_1).f1.f3) ((rd_T98 x3_1 x4_1).f1.f4) t242 t243 t244 t245 t246 t247 t248 _ A40.out).mono ?_); rintro e w43 ⟨rfl, hb⟩; refine ⟨_, rfl, ?_⟩; replace HO_3 := am (Kd.R_below (rr HO_3) hb); replace HB := am (below_step (rb HB) hb); (try clear hb); (try clear hb2); (try clear hk); (try clear hi); have p41 : 0 ≤ (x4_1 : Int) := dt_; have q41 : (x4_1 : Int) < ((x3_1.length : Int) : Int) := dt_; obtain ⟨go41, co41, eo41, gb41, gl41, cl41, HG41⟩ := Kd.R_form HO_3.out (by omega); (first | cases eo41 | (injection eo41 with ea_ en_ ec_; (first | subst ea_ | (injection ea_ with ea_; subst ea_)); subst ec_; clear en_)); have GB41 := am gb41; have GG41 := am HG41; clear gb41 gl41 HG41; (first | simp only [add_plain] at hx210_0 | skip); (first | simp only [add_plain] at hx210_1 | skip); (first | simp only [add_plain] at hx210_2 | skip); (first | simp only [add_plain] at hx210_3 | skip); (first | simp only [add_plain] at hx210_4 | skip); (first | simp only [add_plain] at hx210_5 | skip); (first | simp only [add_plain] at hx210_6 | skip); (first | simp only [add_plain] at hx220_0 | skip); (first | simp only [add_plain] at hx220_1 | skip); (first | simp only [add_plain] at hx220_2 | skip); (first | simp only [add_plain] at hx220_3 | skip); (first | simp only [add_plain] at hx220_4 | skip); (first | simp only [add_plain] at hx220_5 | skip); (first | simp only [add_plain] at hx220_6 | skip); (first | simp only [add_plain] at hx211_0 | skip); (first | simp only [add_plain] at hx211_1 | skip); (first | simp only [add_plain] at hx211_2 | skip); (first | simp only [add_plain] at hx211_3 | skip); (first | simp only [add_plain] at hx211_4 | skip); (first | simp only [add_plain] at hx211_5 | skip); (first | simp only [add_plain] at hx211_6 | skip); (first | simp only [add_plain] at hx211_0 | skip); (first | simp only [add_plain] at hx211_1 | skip); (first | simp only [add_plain] at hx211_2 | skip); (first | simp only [add_plain] at hx211_3 | skip); (first | simp only [add_plain] at hx211_4 | skip); (first | simp only [add_plain] at hx211_5 | skip); (first | simp only [add_plain] at hx211_6 | skip); obtain ⟨ce41, hcl41, hM41, hcc41, hfr41⟩ := Kd.R_elem HO_3.out z98 (x4_1 : Int) p41 q41; obtain rfl := k98_openM hM41; have hx41_0 : w43.cell? ⟨go41, (x4_1 : Int).toNat * 7, none⟩ = some (.int .i64 ((rd_T98 x3_1 x4_1).f0)) := hcc41 0 _ rfl; have hx41_1 : w43.cell? ⟨go41, (x4_1 : Int).toNat * 7 + 1, none⟩ = some (.int .i64 ((rd_T98 x3_1 x4_1).f1.f0)) := hcc41 1 _ rfl; have hx41_2 : w43.cell? ⟨go41, (x4_1 : Int).toNat * 7 + 2, none⟩ = some (.int .i64 ((rd_T98 x3_1 x4_1).f1.f1)) := hcc41 2 _ rfl; have hx41_3 : w43.cell? ⟨go41, (x4_1 : Int).toNat * 7 + 3, none⟩ = some (.bool ((rd_T98 x3_1 x4_1).f1.f2)) := hcc41 3 _ rfl; have hx41_4 : w43.cell? ⟨go41, (x4_1 : Int).toNat * 7 + 4, none⟩ = some (.bool ((rd_T98 x3_1 x4_1).f1.f3)) := hcc41 4 _ rfl; have hx41_5 : w43.cell? ⟨go41, (x4_1 : Int).toNat * 7 + 5, none⟩ = some (.bool ((rd_T98 x3_1 x4_1).f1.f4)) := hcc41 5 _ rfl; have hx41_6 : w43.cell? ⟨go41, (x4_1 : Int).toNat * 7 + 6, none⟩ = some (.int .i64 ((rd_T98 x3_1 x4_1).f2)) := hcc41 6 _ rfl; have hf41_0 : w43.frozen? ⟨go41, (x4_1 : Int).toNat * 7, none⟩ = false := hfr41 0; have hf41_1 : w43.frozen? ⟨go41, (x4_1 : Int).toNat * 7 + 1, none⟩ = false := hfr41 1; have hf41_2 : w43.frozen? ⟨go41, (x4_1 : Int).toNat * 7 + 2, none⟩ = false := hfr41 2; have hf41_3 : w43.frozen? ⟨go41, (x4_1 : Int).toNat * 7 + 3, none⟩ = false := hfr41 3; have hf41_4 : w43.frozen? ⟨go41, (x4_1 : Int).toNat * 7 + 4, none⟩ = false := hfr41 4; have hf41_5 : w43.frozen? ⟨go41, (x4_1 : Int).toNat * 7 + 5, none⟩ = false := hfr41 5; have hf41_6 : w43.frozen? ⟨go41, (x4_1 : Int).toNat * 7 + 6, none⟩ = false := hfr41 6; clear hcl41 hcc41 hfr41 hM41; replace p41 := eq_true p41; replace q41 := eq_true q41; have HX44 := am (show Kd.R k98 98 w43 w.heap.size (fun _ => True) (.slice (some ⟨go41, 0, none⟩) x3_1.length co42) x3_1 from (rr HO_3)); obtain ⟨ce44, hcl44, hM44, hcc44, hfr44⟩ := Kd.R_elem HX44.out z98 (x4_1 : Int) dt_ (by have h_ : (x4_1 : Int) < ((x3_1.length : Int) : Int) := dt_; first | exact h_ | (have e_ := (Kd.R_reads' HO_3.out).1; omega) | simpa using h_); obtain rfl := k98_openM hM44; have HP44 := Kd.R_seg HX44.out (x4_1 : Int) dt_ (by have h_ : (x4_1 : Int) < ((x3_1.length : Int) : Int) := dt_; first | exact h_ | (have e_ := (Kd.R_reads' HO_3.out).1; omega) | simpa using h_) (seg := [.int .i64 t242, .int .i64 t243, .int .i64 t244, .bool t245, .bool t246, .bool t247, .int .i64 t248]) (j := 0) hcl44 hcc44 (show 7 ≤ 7 from by decide) (x' := (⟨t242, (⟨t243, t244, t245, t246, t247⟩ : S96), t248⟩ : S98)) (k98_mkM _ _ _ (⟨t242, (⟨t243, t244, t245, t246, t247⟩ : S96), t248⟩ : S98) ) (fun _ hk => hk); have hx44_0 := hcc44 0 _ rfl; (try simp only [show (k98).sz = 7 from rfl, Nat.mul_one, Nat.add_zero] at hx44_0); have hf44_0 := hfr44 0; (try simp only [show (k98).sz = 7 from rfl, Nat.mul_one, Nat.add_zero] at hf44_0); have hx44_1 := hcc44 1 _ rfl; (try simp only [show (k98).sz = 7 from rfl, Nat.mul_one, Nat.add_zero] at hx44_1); have hf44_1 := hfr44 1; (try simp only [show (k98).sz = 7 from rfl, Nat.mul_one, Nat.add_zero] at hf44_1); have hx44_2 := hcc44 2 _ rfl; (try simp only [show (k98).sz = 7 from rfl, Nat.mul_one, Nat.add_zero] at hx44_2); have hf44_2 := hfr44 2; (try simp only [show (k98).sz = 7 from rfl, Nat.mul_one, Nat.add_zero] at hf44_2); have hx44_3 := hcc44 3 _ rfl; (try simp only [show (k98).sz = 7 from rfl, Nat.mul_one, Nat.add_zero] at hx44_3); have hf44_3 := hfr44 3; (try simp only [show (k98).sz = 7 from rfl, Nat.mul_one, Nat.add_zero] at hf44_3); have hx44_4 := hcc44 4 _ rfl; (try simp only [show (k98).sz = 7 from rfl, Nat.mul_one, Nat.add_zero] at hx44_4); have hf44_4 := hfr44 4; (try simp only [show (k98).sz = 7 from rfl, Nat.mul_one, Nat.add_zero] at hf44_4); have hx44_5 := hcc44 5 _ rfl; (try simp only [show (k98).sz = 7 from rfl, Nat.mul_one, Nat.add_zero] at hx44_5); have hf44_5 := hfr44 5; (try simp only [show (k98).sz = 7 from rfl, Nat.mul_one, Nat.add_zero] at hf44_5); have hx44_6 := hcc44 6 _ rfl; (try simp only [show (k98).sz = 7 from rfl, Nat.mul_one, Nat.add_zero] at hx44_6); have hf44_6 := hfr44 6; (try simp only [show (k98).sz = 7 from rfl, Nat.mul_one, Nat.add_zero] at hf44_6); clear hcl44 hcc44 hfr44 hM44) | ((with_reducible refine gate_store (t := 98) (p := 67) rfl ?_); refine store_event (t := 98) (p := 67) (v := ?vo_w45) (w1 := (((((((w43.setCell ⟨go41, (x4_1 : Int).toNat * 7, none⟩ (.int .i64 t242)).setCell ⟨go41, (x4_1 : Int).toNat * 7 + 1, none⟩ (.int .i64 t243)).setCell ⟨go41, (x4_1 : Int).toNat * 7 + 2, none⟩ (.int .i64 t244)).setCell ⟨go41, (x4_1 : Int).toNat * 7 + 3, none⟩ (.bool t245)).setCell ⟨go41, (x4_1 : Int).toNat * 7 + 4, none⟩ (.bool t246)).setCell ⟨go41, (x4_1 : Int).toNat * 7 + 5, none⟩ (.bool t247)).setCell ⟨go41, (x4_1 : Int).toNat * 7 + 6, none⟩ (.int .i64 t248))) ?hg ?ho ?hn ?hr ?_; (case ho => rfl); (case hg => rfl); (case hn => rfl); (case hr => first | (go_simp; done) | (go_simp; rfl)); intro w45 hw; have hg : w43.grownBy w45 (some go41) := (by rw [hw]; exact HP44.2); have hp_ : Kd.R k98 98 w45 w.heap.size (fun _ => True) (.slice (some ⟨go41, 0, none⟩) x3_1.length co42) y249 := (by rw [hw, Ny249.out]; exact HP44.1); clear HP44; replace HO_3 := am (hp_); replace HB := am ((by rw [hw]; exact below_set (below_set (below_set (below_set (below_set (below_set (below_set (HB.out) GB41.out) GB41.out) GB41.out) GB41.out) GB41.out) GB41.out) GB41.out : Below w.heap.size w w45)); clear hg hw hp_))
go_roundg k1
case measure => have := HK1.out; omega
case rel => exact ⟨(y249), (ji16), (by first | rfl | (simp; done) | (simp only [← hji16] <;> (first | rfl | simp)) | (simp [*]; done)), H', ⟨by have := HK1.out; omega⟩, ⟨rr HO_3⟩, ⟨rb HB⟩⟩
)
| (
have q_ := lf8_
have p251 : 0 ≤ (x4_1 : Int) := dt_
have q251 : x4_1 < (x3_1.length : Int) := dt_
obtain ⟨ad251, e251, hx251_0, hx251_1, hx251_2, hx251_3, hx251_4, hx251_5, hx251_6⟩ := at_T98 (Kd.R_reads' HO_3.out).2.2 x4_1 p251 q251
obtain rfl : ad210 = ad251 := (by injection e251)
replace p251 := eq_true p251
replace q251 := eq_true q251
go_wp2_with (first | ((with_reducible refine gate_callee (f := 121) rfl ?_); refine gl_ (some 66) Try.func121 #[.agg #[.int .i64 ((rd_T98 x3_1 x4_1).f1.f0), .int .i64 ((rd_T98 x3_1 x4_1).f1.f1), .bool ((rd_T98 x3_1 x4_1).f1.f2), .bool ((rd_T98 x3_1 x4_1).f1.f3), .bool ((rd_T98 x3_1 x4_1).f1.f4)]] ?_; (with_reducible refine (spec_l4Blank.calls ((rd_T98 x3_1 x4_1).f1.f0) ((rd_T98 x3_1 x4_1).f1.f1) ((rd_T98 x3_1 x4_1).f1.f2) ((rd_T98 x3_1 x4_1).f1.f3) ((rd_T98 x3_1 x4_1).f1.f4) t252 t253 t254 t255 t256 t257 t258 _ A48.out).mono ?_); rintro e w51 ⟨rfl, hb⟩; refine ⟨_, rfl, ?_⟩; replace HO_3 := am (Kd.R_below (rr HO_3) hb); replace HB := am (below_step (rb HB) hb); (try clear hb); (try clear hb2); (try clear hk); (try clear hi); have p49 : 0 ≤ (x4_1 : Int) := dt_; have q49 : (x4_1 : Int) < ((x3_1.length : Int) : Int) := dt_; obtain ⟨go49, co49, eo49, gb49, gl49, cl49, HG49⟩ := Kd.R_form HO_3.out (by omega); (first | cases eo49 | (injection eo49 with ea_ en_ ec_; (first | subst ea_ | (injection ea_ with ea_; subst ea_)); subst ec_; clear en_)); have GB49 := am gb49; have GG49 := am HG49; clear gb49 gl49 HG49; (first | simp only [add_plain] at hx210_0 | skip); (first | simp only [add_plain] at hx210_1 | skip); (first | simp only [add_plain] at hx210_2 | skip); (first | simp only [add_plain] at hx210_3 | skip); (first | simp only [add_plain] at hx210_4 | skip); (first | simp only [add_plain] at hx210_5 | skip); (first | simp only [add_plain] at hx210_6 | skip); (first | simp only [add_plain] at hx211_0 | skip); (first | simp only [add_plain] at hx211_1 | skip); (first | simp only [add_plain] at hx211_2 | skip); (first | simp only [add_plain] at hx211_3 | skip); (first | simp only [add_plain] at hx211_4 | skip); (first | simp only [add_plain] at hx211_5 | skip); (first | simp only [add_plain] at hx211_6 | skip); (first | simp only [add_plain] at hx251_0 | skip); (first | simp only [add_plain] at hx251_1 | skip); (first | simp only [add_plain] at hx251_2 | skip); (first | simp only [add_plain] at hx251_3 | skip); (first | simp only [add_plain] at hx251_4 | skip); (first | simp only [add_plain] at hx251_5 | skip); (first | simp only [add_plain] at hx251_6 | skip); obtain ⟨ce49, hcl49, hM49, hcc49, hfr49⟩ := Kd.R_elem HO_3.out z98 (x4_1 : Int) p49 q49; obtain rfl := k98_openM hM49; have hx49_0 : w51.cell? ⟨go49, (x4_1 : Int).toNat * 7, none⟩ = some (.int .i64 ((rd_T98 x3_1 x4_1).f0)) := hcc49 0 _ rfl; have hx49_1 : w51.cell? ⟨go49, (x4_1 : Int).toNat * 7 + 1, none⟩ = some (.int .i64 ((rd_T98 x3_1 x4_1).f1.f0)) := hcc49 1 _ rfl; have hx49_2 : w51.cell? ⟨go49, (x4_1 : Int).toNat * 7 + 2, none⟩ = some (.int .i64 ((rd_T98 x3_1 x4_1).f1.f1)) := hcc49 2 _ rfl; have hx49_3 : w51.cell? ⟨go49, (x4_1 : Int).toNat * 7 + 3, none⟩ = some (.bool ((rd_T98 x3_1 x4_1).f1.f2)) := hcc49 3 _ rfl; have hx49_4 : w51.cell? ⟨go49, (x4_1 : Int).toNat * 7 + 4, none⟩ = some (.bool ((rd_T98 x3_1 x4_1).f1.f3)) := hcc49 4 _ rfl; have hx49_5 : w51.cell? ⟨go49, (x4_1 : Int).toNat * 7 + 5, none⟩ = some (.bool ((rd_T98 x3_1 x4_1).f1.f4)) := hcc49 5 _ rfl; have hx49_6 : w51.cell? ⟨go49, (x4_1 : Int).toNat * 7 + 6, none⟩ = some (.int .i64 ((rd_T98 x3_1 x4_1).f2)) := hcc49 6 _ rfl; have hf49_0 : w51.frozen? ⟨go49, (x4_1 : Int).toNat * 7, none⟩ = false := hfr49 0; have hf49_1 : w51.frozen? ⟨go49, (x4_1 : Int).toNat * 7 + 1, none⟩ = false := hfr49 1; have hf49_2 : w51.frozen? ⟨go49, (x4_1 : Int).toNat * 7 + 2, none⟩ = false := hfr49 2; have hf49_3 : w51.frozen? ⟨go49, (x4_1 : Int).toNat * 7 + 3, none⟩ = false := hfr49 3; have hf49_4 : w51.frozen? ⟨go49, (x4_1 : Int).toNat * 7 + 4, none⟩ = false := hfr49 4; have hf49_5 : w51.frozen? ⟨go49, (x4_1 : Int).toNat * 7 + 5, none⟩ = false := hfr49 5; have hf49_6 : w51.frozen? ⟨go49, (x4_1 : Int).toNat * 7 + 6, none⟩ = false := hfr49 6; clear hcl49 hcc49 hfr49 hM49; replace p49 := eq_true p49; replace q49 := eq_true q49; have HX52 := am (show Kd.R k98 98 w51 w.heap.size (fun _ => True) (.slice (some ⟨go49, 0, none⟩) x3_1.length co50) x3_1 from (rr HO_3)); obtain ⟨ce52, hcl52, hM52, hcc52, hfr52⟩ := Kd.R_elem HX52.out z98 (x4_1 : Int) dt_ (by have h_ : (x4_1 : Int) < ((x3_1.length : Int) : Int) := dt_; first | exact h_ | (have e_ := (Kd.R_reads' HO_3.out).1; omega) | simpa using h_); obtain rfl := k98_openM hM52; have HP52 := Kd.R_seg HX52.out (x4_1 : Int) dt_ (by have h_ : (x4_1 : Int) < ((x3_1.length : Int) : Int) := dt_; first | exact h_ | (have e_ := (Kd.R_reads' HO_3.out).1; omega) | simpa using h_) (seg := [.int .i64 t252, .int .i64 t253, .int .i64 t254, .bool t255, .bool t256, .bool t257, .int .i64 t258]) (j := 0) hcl52 hcc52 (show 7 ≤ 7 from by decide) (x' := (⟨t252, (⟨t253, t254, t255, t256, t257⟩ : S96), t258⟩ : S98)) (k98_mkM _ _ _ (⟨t252, (⟨t253, t254, t255, t256, t257⟩ : S96), t258⟩ : S98) ) (fun _ hk => hk); have hx52_0 := hcc52 0 _ rfl; (try simp only [show (k98).sz = 7 from rfl, Nat.mul_one, Nat.add_zero] at hx52_0); have hf52_0 := hfr52 0; (try simp only [show (k98).sz = 7 from rfl, Nat.mul_one, Nat.add_zero] at hf52_0); have hx52_1 := hcc52 1 _ rfl; (try simp only [show (k98).sz = 7 from rfl, Nat.mul_one, Nat.add_zero] at hx52_1); have hf52_1 := hfr52 1; (try simp only [show (k98).sz = 7 from rfl, Nat.mul_one, Nat.add_zero] at hf52_1); have hx52_2 := hcc52 2 _ rfl; (try simp only [show (k98).sz = 7 from rfl, Nat.mul_one, Nat.add_zero] at hx52_2); have hf52_2 := hfr52 2; (try simp only [show (k98).sz = 7 from rfl, Nat.mul_one, Nat.add_zero] at hf52_2); have hx52_3 := hcc52 3 _ rfl; (try simp only [show (k98).sz = 7 from rfl, Nat.mul_one, Nat.add_zero] at hx52_3); have hf52_3 := hfr52 3; (try simp only [show (k98).sz = 7 from rfl, Nat.mul_one, Nat.add_zero] at hf52_3); have hx52_4 := hcc52 4 _ rfl; (try simp only [show (k98).sz = 7 from rfl, Nat.mul_one, Nat.add_zero] at hx52_4); have hf52_4 := hfr52 4; (try simp only [show (k98).sz = 7 from rfl, Nat.mul_one, Nat.add_zero] at hf52_4); have hx52_5 := hcc52 5 _ rfl; (try simp only [show (k98).sz = 7 from rfl, Nat.mul_one, Nat.add_zero] at hx52_5); have hf52_5 := hfr52 5; (try simp only [show (k98).sz = 7 from rfl, Nat.mul_one, Nat.add_zero] at hf52_5); have hx52_6 := hcc52 6 _ rfl; (try simp only [show (k98).sz = 7 from rfl, Nat.mul_one, Nat.add_zero] at hx52_6); have hf52_6 := hfr52 6; (try simp only [show (k98).sz = 7 from rfl, Nat.mul_one, Nat.add_zero] at hf52_6); clear hcl52 hcc52 hfr52 hM52) | ((with_reducible refine gate_store (t := 98) (p := 67) rfl ?_); refine store_event (t := 98) (p := 67) (v := ?vo_w53) (w1 := (((((((w51.setCell ⟨go49, (x4_1 : Int).toNat * 7, none⟩ (.int .i64 t252)).setCell ⟨go49, (x4_1 : Int).toNat * 7 + 1, none⟩ (.int .i64 t253)).setCell ⟨go49, (x4_1 : Int).toNat * 7 + 2, none⟩ (.int .i64 t254)).setCell ⟨go49, (x4_1 : Int).toNat * 7 + 3, none⟩ (.bool t255)).setCell ⟨go49, (x4_1 : Int).toNat * 7 + 4, none⟩ (.bool t256)).setCell ⟨go49, (x4_1 : Int).toNat * 7 + 5, none⟩ (.bool t257)).setCell ⟨go49, (x4_1 : Int).toNat * 7 + 6, none⟩ (.int .i64 t258))) ?hg ?ho ?hn ?hr ?_; (case ho => rfl); (case hg => rfl); (case hn => rfl); (case hr => first | (go_simp; done) | (go_simp; rfl)); intro w53 hw; have hg : w51.grownBy w53 (some go49) := (by rw [hw]; exact HP52.2); have hp_ : Kd.R k98 98 w53 w.heap.size (fun _ => True) (.slice (some ⟨go49, 0, none⟩) x3_1.length co50) y259 := (by rw [hw, Ny259.out]; exact HP52.1); clear HP52; replace HO_3 := am (hp_); replace HB := am ((by rw [hw]; exact below_set (below_set (below_set (below_set (below_set (below_set (below_set (HB.out) GB49.out) GB49.out) GB49.out) GB49.out) GB49.out) GB49.out) GB49.out : Below w.heap.size w w53)); clear hg hw hp_))
go_roundg k1
case measure => have := HK1.out; omega
case rel => exact ⟨(y259), (wrap64 (x4_1 + 1)), (by first | rfl | (simp; done) | (simp [*]; done)), H', ⟨by have := HK1.out; omega⟩, ⟨rr HO_3⟩, ⟨rb HB⟩⟩
)
| (
have q_ := lf2_
go_wp2_with (first | ((with_reducible refine gate_callee (f := 121) rfl ?_); refine gl_ (some 66) Try.func121 #[.agg #[.int .i64 ((rd_T98 x3_1 x4_1).f1.f0), .int .i64 ((rd_T98 x3_1 x4_1).f1.f1), .bool ((rd_T98 x3_1 x4_1).f1.f2), .bool ((rd_T98 x3_1 x4_1).f1.f3), .bool ((rd_T98 x3_1 x4_1).f1.f4)]] ?_; (with_reducible refine (spec_l4Blank.calls ((rd_T98 x3_1 x4_1).f1.f0) ((rd_T98 x3_1 x4_1).f1.f1) ((rd_T98 x3_1 x4_1).f1.f2) ((rd_T98 x3_1 x4_1).f1.f3) ((rd_T98 x3_1 x4_1).f1.f4) t212 t213 t214 t215 t216 t217 t218 _ A10.out).mono ?_); rintro e w13 ⟨rfl, hb⟩; refine ⟨_, rfl, ?_⟩; replace HO_3 := am (Kd.R_below (rr HO_3) hb); replace HB := am (below_step (rb HB) hb); (try clear hb); (try clear hb2); (try clear hk); (try clear hi); have p11 : 0 ≤ (x4_1 : Int) := dt_; have q11 : (x4_1 : Int) < ((x3_1.length : Int) : Int) := dt_; obtain ⟨go11, co11, eo11, gb11, gl11, cl11, HG11⟩ := Kd.R_form HO_3.out (by omega); (first | cases eo11 | (injection eo11 with ea_ en_ ec_; (first | subst ea_ | (injection ea_ with ea_; subst ea_)); subst ec_; clear en_)); have GB11 := am gb11; have GG11 := am HG11; clear gb11 gl11 HG11; (first | simp only [add_plain] at hx210_0 | skip); (first | simp only [add_plain] at hx210_1 | skip); (first | simp only [add_plain] at hx210_2 | skip); (first | simp only [add_plain] at hx210_3 | skip); (first | simp only [add_plain] at hx210_4 | skip); (first | simp only [add_plain] at hx210_5 | skip); (first | simp only [add_plain] at hx210_6 | skip); (first | simp only [add_plain] at hx211_0 | skip); (first | simp only [add_plain] at hx211_1 | skip); (first | simp only [add_plain] at hx211_2 | skip); (first | simp only [add_plain] at hx211_3 | skip); (first | simp only [add_plain] at hx211_4 | skip); (first | simp only [add_plain] at hx211_5 | skip); (first | simp only [add_plain] at hx211_6 | skip); obtain ⟨ce11, hcl11, hM11, hcc11, hfr11⟩ := Kd.R_elem HO_3.out z98 (x4_1 : Int) p11 q11; obtain rfl := k98_openM hM11; have hx11_0 : w13.cell? ⟨go11, (x4_1 : Int).toNat * 7, none⟩ = some (.int .i64 ((rd_T98 x3_1 x4_1).f0)) := hcc11 0 _ rfl; have hx11_1 : w13.cell? ⟨go11, (x4_1 : Int).toNat * 7 + 1, none⟩ = some (.int .i64 ((rd_T98 x3_1 x4_1).f1.f0)) := hcc11 1 _ rfl; have hx11_2 : w13.cell? ⟨go11, (x4_1 : Int).toNat * 7 + 2, none⟩ = some (.int .i64 ((rd_T98 x3_1 x4_1).f1.f1)) := hcc11 2 _ rfl; have hx11_3 : w13.cell? ⟨go11, (x4_1 : Int).toNat * 7 + 3, none⟩ = some (.bool ((rd_T98 x3_1 x4_1).f1.f2)) := hcc11 3 _ rfl; have hx11_4 : w13.cell? ⟨go11, (x4_1 : Int).toNat * 7 + 4, none⟩ = some (.bool ((rd_T98 x3_1 x4_1).f1.f3)) := hcc11 4 _ rfl; have hx11_5 : w13.cell? ⟨go11, (x4_1 : Int).toNat * 7 + 5, none⟩ = some (.bool ((rd_T98 x3_1 x4_1).f1.f4)) := hcc11 5 _ rfl; have hx11_6 : w13.cell? ⟨go11, (x4_1 : Int).toNat * 7 + 6, none⟩ = some (.int .i64 ((rd_T98 x3_1 x4_1).f2)) := hcc11 6 _ rfl; have hf11_0 : w13.frozen? ⟨go11, (x4_1 : Int).toNat * 7, none⟩ = false := hfr11 0; have hf11_1 : w13.frozen? ⟨go11, (x4_1 : Int).toNat * 7 + 1, none⟩ = false := hfr11 1; have hf11_2 : w13.frozen? ⟨go11, (x4_1 : Int).toNat * 7 + 2, none⟩ = false := hfr11 2; have hf11_3 : w13.frozen? ⟨go11, (x4_1 : Int).toNat * 7 + 3, none⟩ = false := hfr11 3; have hf11_4 : w13.frozen? ⟨go11, (x4_1 : Int).toNat * 7 + 4, none⟩ = false := hfr11 4; have hf11_5 : w13.frozen? ⟨go11, (x4_1 : Int).toNat * 7 + 5, none⟩ = false := hfr11 5; have hf11_6 : w13.frozen? ⟨go11, (x4_1 : Int).toNat * 7 + 6, none⟩ = false := hfr11 6; clear hcl11 hcc11 hfr11 hM11; replace p11 := eq_true p11; replace q11 := eq_true q11; have HX14 := am (show Kd.R k98 98 w13 w.heap.size (fun _ => True) (.slice (some ⟨go11, 0, none⟩) x3_1.length co12) x3_1 from (rr HO_3)); obtain ⟨ce14, hcl14, hM14, hcc14, hfr14⟩ := Kd.R_elem HX14.out z98 (x4_1 : Int) dt_ (by have h_ : (x4_1 : Int) < ((x3_1.length : Int) : Int) := dt_; first | exact h_ | (have e_ := (Kd.R_reads' HO_3.out).1; omega) | simpa using h_); obtain rfl := k98_openM hM14; have HP14 := Kd.R_seg HX14.out (x4_1 : Int) dt_ (by have h_ : (x4_1 : Int) < ((x3_1.length : Int) : Int) := dt_; first | exact h_ | (have e_ := (Kd.R_reads' HO_3.out).1; omega) | simpa using h_) (seg := [.int .i64 t212, .int .i64 t213, .int .i64 t214, .bool t215, .bool t216, .bool t217, .int .i64 t218]) (j := 0) hcl14 hcc14 (show 7 ≤ 7 from by decide) (x' := (⟨t212, (⟨t213, t214, t215, t216, t217⟩ : S96), t218⟩ : S98)) (k98_mkM _ _ _ (⟨t212, (⟨t213, t214, t215, t216, t217⟩ : S96), t218⟩ : S98) ) (fun _ hk => hk); have hx14_0 := hcc14 0 _ rfl; (try simp only [show (k98).sz = 7 from rfl, Nat.mul_one, Nat.add_zero] at hx14_0); have hf14_0 := hfr14 0; (try simp only [show (k98).sz = 7 from rfl, Nat.mul_one, Nat.add_zero] at hf14_0); have hx14_1 := hcc14 1 _ rfl; (try simp only [show (k98).sz = 7 from rfl, Nat.mul_one, Nat.add_zero] at hx14_1); have hf14_1 := hfr14 1; (try simp only [show (k98).sz = 7 from rfl, Nat.mul_one, Nat.add_zero] at hf14_1); have hx14_2 := hcc14 2 _ rfl; (try simp only [show (k98).sz = 7 from rfl, Nat.mul_one, Nat.add_zero] at hx14_2); have hf14_2 := hfr14 2; (try simp only [show (k98).sz = 7 from rfl, Nat.mul_one, Nat.add_zero] at hf14_2); have hx14_3 := hcc14 3 _ rfl; (try simp only [show (k98).sz = 7 from rfl, Nat.mul_one, Nat.add_zero] at hx14_3); have hf14_3 := hfr14 3; (try simp only [show (k98).sz = 7 from rfl, Nat.mul_one, Nat.add_zero] at hf14_3); have hx14_4 := hcc14 4 _ rfl; (try simp only [show (k98).sz = 7 from rfl, Nat.mul_one, Nat.add_zero] at hx14_4); have hf14_4 := hfr14 4; (try simp only [show (k98).sz = 7 from rfl, Nat.mul_one, Nat.add_zero] at hf14_4); have hx14_5 := hcc14 5 _ rfl; (try simp only [show (k98).sz = 7 from rfl, Nat.mul_one, Nat.add_zero] at hx14_5); have hf14_5 := hfr14 5; (try simp only [show (k98).sz = 7 from rfl, Nat.mul_one, Nat.add_zero] at hf14_5); have hx14_6 := hcc14 6 _ rfl; (try simp only [show (k98).sz = 7 from rfl, Nat.mul_one, Nat.add_zero] at hx14_6); have hf14_6 := hfr14 6; (try simp only [show (k98).sz = 7 from rfl, Nat.mul_one, Nat.add_zero] at hf14_6); clear hcl14 hcc14 hfr14 hM14) | ((with_reducible refine gate_store (t := 98) (p := 67) rfl ?_); refine store_event (t := 98) (p := 67) (v := ?vo_w15) (w1 := (((((((w13.setCell ⟨go11, (x4_1 : Int).toNat * 7, none⟩ (.int .i64 t212)).setCell ⟨go11, (x4_1 : Int).toNat * 7 + 1, none⟩ (.int .i64 t213)).setCell ⟨go11, (x4_1 : Int).toNat * 7 + 2, none⟩ (.int .i64 t214)).setCell ⟨go11, (x4_1 : Int).toNat * 7 + 3, none⟩ (.bool t215)).setCell ⟨go11, (x4_1 : Int).toNat * 7 + 4, none⟩ (.bool t216)).setCell ⟨go11, (x4_1 : Int).toNat * 7 + 5, none⟩ (.bool t217)).setCell ⟨go11, (x4_1 : Int).toNat * 7 + 6, none⟩ (.int .i64 t218))) ?hg ?ho ?hn ?hr ?_; (case ho => rfl); (case hg => rfl); (case hn => rfl); (case hr => first | (go_simp; done) | (go_simp; rfl)); intro w15 hw; have hg : w13.grownBy w15 (some go11) := (by rw [hw]; exact HP14.2); have hp_ : Kd.R k98 98 w15 w.heap.size (fun _ => True) (.slice (some ⟨go11, 0, none⟩) x3_1.length co12) y219 := (by rw [hw, Ny219.out]; exact HP14.1); clear HP14; replace HO_3 := am (hp_); replace HB := am ((by rw [hw]; exact below_set (below_set (below_set (below_set (below_set (below_set (below_set (HB.out) GB11.out) GB11.out) GB11.out) GB11.out) GB11.out) GB11.out) GB11.out : Below w.heap.size w w15)); clear hg hw hp_))
go_roundg k1
case measure => have := HK1.out; omega
case rel => exact ⟨(y219), (wrap64 (x4_1 + 1)), (by first | rfl | (simp; done) | (simp [*]; done)), H', ⟨by have := HK1.out; omega⟩, ⟨rr HO_3⟩, ⟨rb HB⟩⟩
)
| (
have q_ := lf6_
go_wp2
go_roundg k1
case measure => have := HK1.out; omega
case rel => exact ⟨(x3_1), (ji16), (by first | rfl | (simp; done) | (simp only [← hji16] <;> (first | rfl | simp)) | (simp [*]; done)), H', ⟨by have := HK1.out; omega⟩, ⟨rr HO_3⟩, ⟨rb HB⟩⟩
)
| (
have q_ := lf11_
go_wp2
go_roundg k1
case measure => have := HK1.out; omega
case rel => exact ⟨(x3_1), (wrap64 (x4_1 + 1)), (by first | rfl | (simp; done) | (simp [*]; done)), H', ⟨by have := HK1.out; omega⟩, ⟨rr HO_3⟩, ⟨rb HB⟩⟩
)
)
)
·(
rw [if_neg c6] at H
have c6b0 : decide (x4_1 < (x3_1.length : Int)) = false := decide_eq_false c6
clear c6
obtain rfl := Option.some.inj H
obtain ⟨Ao66, co66, eo66⟩ := Kd.R_slice HO_3.out
subst eo66
go_wp2
go_ret
exact ⟨_, by first | rfl | (simp [errW_none, errW_some] <;> rfl) | (simp [*, errW_none, errW_some] <;> rfl), by (with_reducible repeat (first | apply r1 | apply r2 | apply r3)); exact HO_3.out, by repeat (first | (with_reducible first | exact HB.out | apply b1 | apply b2 | apply b3) | exact HB.out)⟩
)
)
)
)
)

end Go.Proofs.Ytalopdcephohgaa.RC
