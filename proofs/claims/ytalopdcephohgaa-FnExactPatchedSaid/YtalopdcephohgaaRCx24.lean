/- Contracts of Go functions that laws of this seat reach: each Lean function answers as its Go function does. No condition. Written by wip/tools/inj.py, over the kit's print. -/
import Derived.Test.YtalopdcephohgaaRCx0
import Derived.Test.YtalopdcephohgaaRCx20
import Derived.Test.YtalopdcephohgaaRCx23
namespace Go.Proofs.Ytalopdcephohgaa.RC
open Go.RowKit Go.Proofs.YtalopdcephohgaaW.PrintWords Go.Proofs.YtalopdcephohgaaW.PrintLast Go.Proofs.YtalopdcephohgaaW.PrintMore
attribute [local go_sem] max2_int min2_int max_two min_two max_three min_three max_four min_four   -- for this text's walks alone
set_option linter.unusedVariables false
set_option linter.unusedSimpArgs false

/-! ### impl_part: function 103 -/
def impl_part.j0 : Nat → List (S98) → Int → Bool → Option ((List (S98)))
 | 0, _, _, _ => none
 | k + 1, x0, x1, x16 => if x16 = true then (if 0 ≤ (wrap64 (x1 - 1)) then (if (wrap64 (x1 - 1)) < (x0.length : Int) then ((impl_blank.f ((rd_T98 x0 (wrap64 (x1 - 1))).f1.f0) ((rd_T98 x0 (wrap64 (x1 - 1))).f1.f1) ((rd_T98 x0 (wrap64 (x1 - 1))).f1.f2) ((rd_T98 x0 (wrap64 (x1 - 1))).f1.f3) ((rd_T98 x0 (wrap64 (x1 - 1))).f1.f4)).bind fun bt403 => (if 0 ≤ x1 then (if x1 < (x0.length : Int) then ((impl_blank.f ((rd_T98 x0 x1).f1.f0) ((rd_T98 x0 x1).f1.f1) ((rd_T98 x0 x1).f1.f2) ((rd_T98 x0 x1).f1.f3) ((rd_T98 x0 x1).f1.f4)).bind fun bt411 => (some ((x0.set ((wrap64 (x1 - 1)) : Int).toNat (⟨bt403.1, (⟨bt403.2.1, bt403.2.2.1, bt403.2.2.2.1, bt403.2.2.2.2.1, bt403.2.2.2.2.2.1⟩ : S96), bt403.2.2.2.2.2.2⟩ : S98)).set (x1 : Int).toNat (⟨bt411.1, (⟨bt411.2.1, bt411.2.2.1, bt411.2.2.2.1, bt411.2.2.2.2.1, bt411.2.2.2.2.2.1⟩ : S96), bt411.2.2.2.2.2.2⟩ : S98)))) else (none)) else (none))) else (none)) else (none)) else (some x0)
def impl_part.f (k : Nat) (l0 : List (S98)) (a1 : Int) : Option ((List (S98))) := (impl_in.f a1 1 (wrap64 ((l0.length : Int) - 1))).bind fun t400 => (if t400 = true then (if 0 ≤ a1 then (if a1 < (l0.length : Int) then (impl_part.j0 k l0 a1 (((rd_T98 l0 a1).f2) == 2)) else (none)) else (none)) else (impl_part.j0 k l0 a1 false))
theorem impl_part.mono_l : ∀ k, (∀ y0 y1 y2, LeO (impl_part.j0 k y0 y1 y2) (impl_part.j0 (k + 1) y0 y1 y2))
 | 0 => fun _ _ _ r h => by simp [impl_part.j0] at h
 | k + 1 => by
  have ih0 := impl_part.mono_l k
  ·intro y0 y1 y2
   unfold impl_part.j0
   repeat' first
   | (with_reducible exact ih0 _ _ _)
   | (with_reducible exact LeO.refl _)
   | (with_reducible exact LeO.none _)
   | (with_reducible refine LeO.ite ?_ ?_)
   | (with_reducible refine LeO.bind ?_ (fun _ => ?_))
theorem impl_part.mono : ∀ a0 a1 k, LeO (impl_part.f k a0 a1) (impl_part.f (k + 1) a0 a1) := by
 intro a0 a1 k
 have ih0 := impl_part.mono_l k
 unfold impl_part.f
 repeat' first
   | (with_reducible exact ih0 _ _ _)
   | (with_reducible exact LeO.refl _)
   | (with_reducible exact LeO.none _)
   | (with_reducible refine LeO.ite ?_ ?_)
   | (with_reducible refine LeO.bind ?_ (fun _ => ?_))
def impl_part.T1 : Bool × List (List Nat × List Nat) := (true, [([], []), ([], []), ([1], [1]), ([], []), ([], []), ([], []), ([], []), ([6], [6]), ([5, 7], [5, 7]), ([8], [8]), ([9], [9]), ([10], [10]), ([], []), ([], []), ([12, 13], [12, 13]), ([14], [14]), ([15], [15]), ([16, 11], [16]), ([0, 2, 0, 1, 2, 5, 6, 7, 8, 9, 10, 11, 16, 17], [0, 2]), ([18, 11, 17, 0, 1, 2, 5, 6, 7, 8, 9, 10, 11, 16, 17], [11, 18]), ([3, 4, 0, 1, 2, 3, 4, 5, 6, 7, 8, 9, 10, 11, 12, 13, 14, 15, 16, 17, 18, 19], [3, 4]), ([20, 17, 19, 0, 1, 2, 3, 4, 5, 6, 7, 8, 9, 10, 11, 12, 13, 14, 15, 16, 17, 18, 19], [17, 20])])
def impl_part.B1 : List Nat := [0, 0, 2, 0, 0, 0, 0, 64, 224, 480, 992, 2016, 0, 0, 12288, 28672, 61440, 131040, 262119, 524263, 1048575, 2097151]
theorem impl_part.tab1 : rtab .any (opsOf Try.f103 1) = impl_part.T1 := by kernel_rfl
theorem impl_part.bits1 : waitsOk impl_part.T1.2 impl_part.B1 = true := by kernel_rfl
theorem impl_part.bset {w0 w : World} {g : Nat} (hg : w0.heap.size ≤ g) : ∀ (vs : List Value) (o : Nat), Below w0.heap.size w0 w → Below w0.heap.size w0 (w.setCells g o vs)
 | [], _, h => h
 | v :: r, o, h => impl_part.bset (w := w.setCell ⟨g, o, none⟩ v) hg r (o + 1) (below_set h hg)
theorem impl_part.lw {f : World → Prop} {w' w : World} (e : w' = w) (h : f w) : f w' := e ▸ h
theorem impl_part.kset {w0 w : World} {S : Nat → Prop} {g : Nat} (hg : S g ∨ w0.heap.size ≤ g) : ∀ (vs : List Value) (o : Nat), Kept w0 w S → Kept w0 (w.setCells g o vs) S
 | [], _, h => h
 | v :: r, o, h => impl_part.kset (w := w.setCell ⟨g, o, none⟩ v) hg r (o + 1) (Kept.setCell h hg v)
set_option maxHeartbeats 8000000 in
set_option maxRecDepth 100000 in
theorem impl_part.calls (k : Nat) (P0_ : Nat → Prop) (u9000_ : Value) (l0 : List (S98)) (a1 : Int) (r : List (S98)) (w0 w : World) (hB : Below w0.heap.size w0 w) (ho0 : Kd.R k98 98 w w0.heap.size P0_ u9000_ l0) (h : impl_part.f k l0 a1 = some r) :
  Calls Try.prog 103 #[u9000_, .int .i64 a1] w fun e w' => e = .returned (.tuple #[]) ∧ Kd.R k98 98 w' w0.heap.size (fun k_ => (P0_ k_ ∨ w.heap.size ≤ k_)) u9000_ r ∧ Below w0.heap.size w0 w' ∧ Kept w w' (fun k_ => P0_ k_) := by
 (
have hu96 := Try.underlying96
have hu98 := Try.underlying98
have HO0 := am (show Kd.R k98 98 w w0.heap.size (fun k_ => (P0_ k_ ∨ w.heap.size ≤ k_)) u9000_ l0 from Kd.R_mono ho0 (fun k_ hk => (.inl hk)))
have HK := am (Kept.refl w (fun k_ => P0_ k_))
have HW0 := am hB.size
have HB := am hB
clear hB
have H := h
unfold impl_part.f at H
clear h
have HC3 := am H
clear H
go_enter Try.func103, Try.ntmps103
go_upto_region 0 with (fail)
go_cut [16] (fun v16 wc => ∃ (kq : Nat) (x16_2 : Bool), v16 = .bool x16_2 ∧ Aside0 (impl_part.j0 kq l0 a1 x16_2 = some r) ∧ Aside0 (kq ≤ k) ∧ Aside0 (Kd.R k98 98 wc w0.heap.size (fun k_ => (P0_ k_ ∨ w.heap.size ≤ k_)) u9000_ l0) ∧ Aside0 (Kept w wc (fun k_ => P0_ k_)) ∧ Aside0 (Below w0.heap.size w0 wc))
case first => (
have H := HC3.out
clear HC3
replace H := Option.bind_eq_some_iff.mp H
obtain ⟨t400, A40, H⟩ := H
(try dsimp only at H)
have A4 := am A40
clear A40
by_cases c5 : t400 = true
·(
subst c5
rw [if_pos rfl] at H
refine em_ (p := 0 ≤ a1) (fun c6 => ?g1p) (fun c6 => ?g1n)
case' g1p => (
rw [if_pos c6] at H
have c6b0 : decide (0 ≤ a1) = true := decide_eq_true c6
clear c6
(first | rw [c6b0] | (simp only [i64_w, i32_w]; rw [c6b0]) | skip)
refine em_ (p := a1 < (l0.length : Int)) (fun c7 => ?g0p) (fun c7 => ?g0n)
case' g0p => (
rw [if_pos c7] at H
have c7b0 : decide (a1 < (l0.length : Int)) = true := decide_eq_true c7
clear c7
have H' := am H
clear H
obtain ⟨Ao8, co8, eo8⟩ := Kd.R_slice HO0.out
subst eo8
have lf1_ := trivial
)
case g0n => (
rw [if_neg c7] at H
exact absurd H (by simp)
)
)
case g1n => (
rw [if_neg c6] at H
exact absurd H (by simp)
)
all_goals (
go_wp2_with (first | ((with_reducible refine gate_callee (f := 56) rfl ?_); refine gl_ (some 8) Try.func56 #[.int .i64 a1, .int .i64 1, .int .i64 (wrap64 ((l0.length : Int) - 1))] ?_; (with_reducible refine (impl_in.calls a1 1 (wrap64 ((l0.length : Int) - 1)) true _ A4.out).mono ?_); rintro e w' ⟨rfl, ⟨nd, rfl⟩⟩; refine ⟨_, rfl, ?_⟩; have p401 : 0 ≤ (a1 : Int) := dt_; have q401 : a1 < (l0.length : Int) := dt_; obtain ⟨ad401, e401, hx401_0, hx401_1, hx401_2, hx401_3, hx401_4, hx401_5, hx401_6⟩ := at_T98 (Kd.R_reads' HO0.out).2.2 a1 p401 q401; cases e401; replace p401 := eq_true p401; replace q401 := eq_true q401))
go_meet
case rel => exact ⟨_, ((((rd_T98 l0 a1).f2) == 2)), (by first | rfl | (simp; done) | (simp [*]; done)), H', ⟨by first | omega | exact Nat.le_refl _⟩, ⟨rr HO0⟩, ⟨by repeat (first | (with_reducible first | exact HK.out | apply Kept.alloc | apply Kept.drewN | apply Kept.drew) | exact HK.out)⟩, ⟨rb HB⟩⟩
)
)
·(
replace c5 := Bool.eq_false_iff.mpr c5
subst c5
have H1 : (impl_part.j0 k l0 a1 false) = some r := by rw [if_neg (show ¬ (false = true) by decide)] at H; exact H
clear H
have H := H1
clear H1
have H' := am H
clear H
obtain ⟨Ao9, co9, eo9⟩ := Kd.R_slice HO0.out
subst eo9
go_wp2_with (first | ((with_reducible refine gate_callee (f := 56) rfl ?_); refine gl_ (some 8) Try.func56 #[.int .i64 a1, .int .i64 1, .int .i64 (wrap64 ((l0.length : Int) - 1))] ?_; (with_reducible refine (impl_in.calls a1 1 (wrap64 ((l0.length : Int) - 1)) false _ A4.out).mono ?_); rintro e w' ⟨rfl, ⟨nd, rfl⟩⟩; refine ⟨_, rfl, ?_⟩))
go_meet
case rel => exact ⟨_, (false), (by first | rfl | (simp; done) | (simp [*]; done)), H', ⟨by first | omega | exact Nat.le_refl _⟩, ⟨rr HO0⟩, ⟨by repeat (first | (with_reducible first | exact HK.out | apply Kept.alloc | apply Kept.drewN | apply Kept.drew) | exact HK.out)⟩, ⟨rb HB⟩⟩
)
)
case rest => (
clear HC3
try clear c1
try clear p2
try clear p4
try clear q4
try clear hx4
try clear c5
try clear c6
try clear c6b0
try clear p6
try clear c7
try clear c7b0
try clear hx401_0
try clear hx401_1
try clear hx401_2
try clear hx401_3
try clear hx401_4
try clear hx401_5
try clear hx401_6
try clear p401
try clear q401
obtain ⟨kq, x16_2, rfl, HA, HJ2, HO_0, HK, HB⟩ := hcut
cases kq with
| zero => exact absurd HA.out (by simp [impl_part.j0])
| succ kj2 => (
have H := HA.out
clear HA
simp only [impl_part.j0] at H
by_cases c10 : x16_2 = true
·(
subst c10
rw [if_pos rfl] at H
obtain ⟨ji11, hji11⟩ : ∃ j_ : Int, (wrap64 (a1 - 1)) = j_ := ⟨_, rfl⟩
replace H : (if 0 ≤ (ji11) then (if (ji11) < (l0.length : Int) then ((impl_blank.f ((rd_T98 l0 (ji11)).f1.f0) ((rd_T98 l0 (ji11)).f1.f1) ((rd_T98 l0 (ji11)).f1.f2) ((rd_T98 l0 (ji11)).f1.f3) ((rd_T98 l0 (ji11)).f1.f4)).bind fun bt403 => (if 0 ≤ a1 then (if a1 < (l0.length : Int) then ((impl_blank.f ((rd_T98 l0 a1).f1.f0) ((rd_T98 l0 a1).f1.f1) ((rd_T98 l0 a1).f1.f2) ((rd_T98 l0 a1).f1.f3) ((rd_T98 l0 a1).f1.f4)).bind fun bt411 => (some ((l0.set ((ji11) : Int).toNat (⟨bt403.1, (⟨bt403.2.1, bt403.2.2.1, bt403.2.2.2.1, bt403.2.2.2.2.1, bt403.2.2.2.2.2.1⟩ : S96), bt403.2.2.2.2.2.2⟩ : S98)).set (a1 : Int).toNat (⟨bt411.1, (⟨bt411.2.1, bt411.2.2.1, bt411.2.2.2.1, bt411.2.2.2.2.1, bt411.2.2.2.2.2.1⟩ : S96), bt411.2.2.2.2.2.2⟩ : S98)))) else (none)) else (none))) else (none)) else (none)) = some r := by first | (rw [hji11] at H; exact H) | (simp only [hji11] at H ⊢; exact H)
have hji11w : (IntKind.i64.wrap (a1 - 1)) = ji11 := (i64_w _).trans hji11
refine em_ (p := 0 ≤ (ji11)) (fun c12 => ?g5p) (fun c12 => ?g5n)
case' g5p => (
rw [if_pos c12] at H
have c12b0 : decide (0 ≤ (ji11)) = true := decide_eq_true c12
clear c12
refine em_ (p := (ji11) < (l0.length : Int)) (fun c13 => ?g4p) (fun c13 => ?g4n)
case' g4p => (
rw [if_pos c13] at H
have c13b0 : decide ((ji11) < (l0.length : Int)) = true := decide_eq_true c13
clear c13
replace H := Option.bind_eq_some_iff.mp H
obtain ⟨⟨t403, t404, t405, t406, t407, t408, t409⟩, A140, H⟩ := H
(try dsimp only at H)
have A14 := am A140
clear A140
refine em_ (p := 0 ≤ a1) (fun c15 => ?g3p) (fun c15 => ?g3n)
case' g3p => (
rw [if_pos c15] at H
have c15b0 : decide (0 ≤ a1) = true := decide_eq_true c15
clear c15
refine em_ (p := a1 < (l0.length : Int)) (fun c16 => ?g2p) (fun c16 => ?g2n)
case' g2p => (
rw [if_pos c16] at H
have c16b0 : decide (a1 < (l0.length : Int)) = true := decide_eq_true c16
clear c16
replace H := Option.bind_eq_some_iff.mp H
obtain ⟨⟨t411, t412, t413, t414, t415, t416, t417⟩, A170, H⟩ := H
(try dsimp only at H)
have A17 := am A170
clear A170
obtain ⟨y418, hy418⟩ : ∃ y_ : List (S98), y_ = (l0.set ((ji11) : Int).toNat (⟨t403, (⟨t404, t405, t406, t407, t408⟩ : S96), t409⟩ : S98)) := ⟨_, rfl⟩
replace H : (some (y418.set (a1 : Int).toNat (⟨t411, (⟨t412, t413, t414, t415, t416⟩ : S96), t417⟩ : S98))) = some r := by first | (rw [hy418]; with_reducible exact H) | (rw [hy418]; exact H) | exact H
have Ny418 := am hy418
clear hy418
obtain ⟨y419, hy419⟩ : ∃ y_ : List (S98), y_ = (y418.set (a1 : Int).toNat (⟨t411, (⟨t412, t413, t414, t415, t416⟩ : S96), t417⟩ : S98)) := ⟨_, rfl⟩
replace H : (some y419) = some r := by first | (rw [hy419]; with_reducible exact H) | (rw [hy419]; exact H) | exact H
have Ny419 := am hy419
clear hy419
obtain rfl := Option.some.inj H
have lf3_ := trivial
)
case g2n => (
rw [if_neg c16] at H
exact absurd H (by simp)
)
)
case g3n => (
rw [if_neg c15] at H
exact absurd H (by simp)
)
)
case g4n => (
rw [if_neg c13] at H
exact absurd H (by simp)
)
)
case g5n => (
rw [if_neg c12] at H
exact absurd H (by simp)
)
all_goals (
try go_wp2
replace HO_0 := am (Kd.R_drew HO_0.out)
replace HK := am (Kept.drew HK.out)
replace HB := am (below_drew1 HB.out)
obtain ⟨Ao21, co21, eo21⟩ := Kd.R_slice HO_0.out
(first | subst eo21 | (injection eo21 with f1_ f2_ f3_; have f4_ := f1_.symm; have f5_ := f3_.symm; clear f1_ f2_ f3_; subst f4_; subst f5_))
have p402 : 0 ≤ ((ji11) : Int) := dt_
have q402 : (ji11) < (l0.length : Int) := dt_
obtain ⟨ad402, e402, hx402_0, hx402_1, hx402_2, hx402_3, hx402_4, hx402_5, hx402_6⟩ := at_T98 (Kd.R_reads' HO_0.out).2.2 (ji11) p402 q402
cases e402
replace p402 := eq_true p402
replace q402 := eq_true q402
have p410 : 0 ≤ (a1 : Int) := dt_
have q410 : a1 < (l0.length : Int) := dt_
obtain ⟨ad410, e410, hx410_0, hx410_1, hx410_2, hx410_3, hx410_4, hx410_5, hx410_6⟩ := at_T98 (Kd.R_reads' HO_0.out).2.2 a1 p410 q410
obtain rfl : ad402 = ad410 := (by injection e410)
replace p410 := eq_true p410
replace q410 := eq_true q410
refine start_ (n := 22) (S := fun w' => w'.cell? (ad402.add (((ji11)).toNat * 7)) = some (.int .i64 ((rd_T98 l0 (ji11)).f0)) ∧ w'.cell? ⟨(ad402.add (((ji11)).toNat * 7)).block, (ad402.add (((ji11)).toNat * 7)).off + 1, none⟩ = some (.int .i64 ((rd_T98 l0 (ji11)).f1.f0)) ∧ w'.cell? ⟨(ad402.add (((ji11)).toNat * 7)).block, (ad402.add (((ji11)).toNat * 7)).off + 2, none⟩ = some (.int .i64 ((rd_T98 l0 (ji11)).f1.f1)) ∧ w'.cell? ⟨(ad402.add (((ji11)).toNat * 7)).block, (ad402.add (((ji11)).toNat * 7)).off + 3, none⟩ = some (.bool ((rd_T98 l0 (ji11)).f1.f2)) ∧ w'.cell? ⟨(ad402.add (((ji11)).toNat * 7)).block, (ad402.add (((ji11)).toNat * 7)).off + 4, none⟩ = some (.bool ((rd_T98 l0 (ji11)).f1.f3)) ∧ w'.cell? ⟨(ad402.add (((ji11)).toNat * 7)).block, (ad402.add (((ji11)).toNat * 7)).off + 5, none⟩ = some (.bool ((rd_T98 l0 (ji11)).f1.f4)) ∧ w'.cell? ⟨(ad402.add (((ji11)).toNat * 7)).block, (ad402.add (((ji11)).toNat * 7)).off + 6, none⟩ = some (.int .i64 ((rd_T98 l0 (ji11)).f2)) ∧ w'.cell? (ad402.add ((a1).toNat * 7)) = some (.int .i64 ((rd_T98 l0 a1).f0)) ∧ w'.cell? ⟨(ad402.add ((a1).toNat * 7)).block, (ad402.add ((a1).toNat * 7)).off + 1, none⟩ = some (.int .i64 ((rd_T98 l0 a1).f1.f0)) ∧ w'.cell? ⟨(ad402.add ((a1).toNat * 7)).block, (ad402.add ((a1).toNat * 7)).off + 2, none⟩ = some (.int .i64 ((rd_T98 l0 a1).f1.f1)) ∧ w'.cell? ⟨(ad402.add ((a1).toNat * 7)).block, (ad402.add ((a1).toNat * 7)).off + 3, none⟩ = some (.bool ((rd_T98 l0 a1).f1.f2)) ∧ w'.cell? ⟨(ad402.add ((a1).toNat * 7)).block, (ad402.add ((a1).toNat * 7)).off + 4, none⟩ = some (.bool ((rd_T98 l0 a1).f1.f3)) ∧ w'.cell? ⟨(ad402.add ((a1).toNat * 7)).block, (ad402.add ((a1).toNat * 7)).off + 5, none⟩ = some (.bool ((rd_T98 l0 a1).f1.f4)) ∧ w'.cell? ⟨(ad402.add ((a1).toNat * 7)).block, (ad402.add ((a1).toNat * 7)).off + 6, none⟩ = some (.int .i64 ((rd_T98 l0 a1).f2))) (ds := [19, 21]) (bm 22 0) (by kernel_rfl) rfl rfl ⟨hx402_0, hx402_1, hx402_2, hx402_3, hx402_4, hx402_5, hx402_6, hx410_0, hx410_1, hx410_2, hx410_3, hx410_4, hx410_5, hx410_6⟩ (fun hHeld => ?_); refine with_tabW impl_part.tab1 impl_part.bits1 (fun HT_ HW_ => ?_)
generalize wc.drew = w20 at HO_0 HK HB hx402_0 hx402_1 hx402_2 hx402_3 hx402_4 hx402_5 hx402_6 hx410_0 hx410_1 hx410_2 hx410_3 hx410_4 hx410_5 hx410_6 hHeld ⊢
refine pu_ 0 17 (bm 22 1) HT_.out ?_
refine pu_ 1 18 (bm 22 3) HT_.out ?_
refine pu_ 2 19 (bm 22 7) HT_.out ?_
refine pu_ 3 20 (bm 22 15) HT_.out ?_
refine pu_ 4 21 (bm 22 31) HT_.out ?_
refine pu_ 5 22 (bm 22 63) HT_.out ?_
refine pu_ 6 23 (bm 22 127) HT_.out ?_
refine pu_ 7 24 (bm 22 255) HT_.out ?_
refine pu_ 8 25 (bm 22 511) HT_.out ?_
refine pu_ 9 26 (bm 22 1023) HT_.out ?_
refine pu_ 12 29 (bm 22 5119) HT_.out ?_
refine pu_ 13 30 (bm 22 13311) HT_.out ?_
refine pu_ 14 31 (bm 22 29695) HT_.out ?_
refine pu_ 15 32 (bm 22 62463) HT_.out ?_
refine take_ (i := 10) (N := some 27) (v := ?_) (a' := ?_) (bm 22 63487) rfl rfl (take_ofW HT_.out HW_.out (by kernel_rfl)) (fun _ _ _ h => h) (Or.inl ⟨by rfl, ?_⟩) hHeld ?_ ?_
rotate_left
·(
rintro w' ⟨s0, s1, s2, s3, s4, s5, s6, s7, s8, s9, s10, s11, s12, s13⟩
go_simp
with_reducible rfl
)
rotate_left
·(
simp only [Act.put, List.setIfInBounds_toArray, List.set_cons_zero, List.set_cons_succ, i64_w, i32_w]
rfl
)
refine take_ (i := 16) (N := some 33) (v := ?_) (a' := ?_) (bm 22 129023) rfl rfl (take_ofW HT_.out HW_.out (by kernel_rfl)) (fun _ _ _ h => h) (Or.inl ⟨by rfl, ?_⟩) hHeld ?_ ?_
rotate_left
·(
rintro w' ⟨s0, s1, s2, s3, s4, s5, s6, s7, s8, s9, s10, s11, s12, s13⟩
go_simp
with_reducible rfl
)
rotate_left
·(
simp only [Act.put, List.setIfInBounds_toArray, List.set_cons_zero, List.set_cons_succ, i64_w, i32_w]
rfl
)
refine one_ (i := 11) (N := some 28) (bm 22 131071) rfl rfl (one_of HT_.out (by kernel_rfl)) (by decide) (fun K hK => ?_)
refine goes_ Try.func104 (by kernel_rfl) rfl #[.agg #[.int .i64 ((rd_T98 l0 (ji11)).f1.f0), .int .i64 ((rd_T98 l0 (ji11)).f1.f1), .bool ((rd_T98 l0 (ji11)).f1.f2), .bool ((rd_T98 l0 (ji11)).f1.f3), .bool ((rd_T98 l0 (ji11)).f1.f4)]] (by rfl) rfl rfl (by (try simp only [List.map_toArray, List.map_cons, List.map_nil]); first | done | (simp only [hji11]; rfl) | rfl | (simp only [List.length_drop, List.length_take]; rfl)) ?_
with_reducible refine (impl_blank.calls ((rd_T98 l0 (ji11)).f1.f0) ((rd_T98 l0 (ji11)).f1.f1) ((rd_T98 l0 (ji11)).f1.f2) ((rd_T98 l0 (ji11)).f1.f3) ((rd_T98 l0 (ji11)).f1.f4) t403 t404 t405 t406 t407 t408 t409 _ A14.out).mono ?_
rintro e w22 ⟨rfl, hb⟩
have HS0_ := (hb.cell (World.block_lt_of_cell? _ _ (hHeld.1))).trans (hHeld.1)
have HS1_ := (hb.cell (World.block_lt_of_cell? _ _ (hHeld.2.1))).trans (hHeld.2.1)
have HS2_ := (hb.cell (World.block_lt_of_cell? _ _ (hHeld.2.2.1))).trans (hHeld.2.2.1)
have HS3_ := (hb.cell (World.block_lt_of_cell? _ _ (hHeld.2.2.2.1))).trans (hHeld.2.2.2.1)
have HS4_ := (hb.cell (World.block_lt_of_cell? _ _ (hHeld.2.2.2.2.1))).trans (hHeld.2.2.2.2.1)
have HS5_ := (hb.cell (World.block_lt_of_cell? _ _ (hHeld.2.2.2.2.2.1))).trans (hHeld.2.2.2.2.2.1)
have HS6_ := (hb.cell (World.block_lt_of_cell? _ _ (hHeld.2.2.2.2.2.2.1))).trans (hHeld.2.2.2.2.2.2.1)
have HS7_ := (hb.cell (World.block_lt_of_cell? _ _ (hHeld.2.2.2.2.2.2.2.1))).trans (hHeld.2.2.2.2.2.2.2.1)
have HS8_ := (hb.cell (World.block_lt_of_cell? _ _ (hHeld.2.2.2.2.2.2.2.2.1))).trans (hHeld.2.2.2.2.2.2.2.2.1)
have HS9_ := (hb.cell (World.block_lt_of_cell? _ _ (hHeld.2.2.2.2.2.2.2.2.2.1))).trans (hHeld.2.2.2.2.2.2.2.2.2.1)
have HS10_ := (hb.cell (World.block_lt_of_cell? _ _ (hHeld.2.2.2.2.2.2.2.2.2.2.1))).trans (hHeld.2.2.2.2.2.2.2.2.2.2.1)
have HS11_ := (hb.cell (World.block_lt_of_cell? _ _ (hHeld.2.2.2.2.2.2.2.2.2.2.2.1))).trans (hHeld.2.2.2.2.2.2.2.2.2.2.2.1)
have HS12_ := (hb.cell (World.block_lt_of_cell? _ _ (hHeld.2.2.2.2.2.2.2.2.2.2.2.2.1))).trans (hHeld.2.2.2.2.2.2.2.2.2.2.2.2.1)
have HS13_ := (hb.cell (World.block_lt_of_cell? _ _ (hHeld.2.2.2.2.2.2.2.2.2.2.2.2.2))).trans (hHeld.2.2.2.2.2.2.2.2.2.2.2.2.2)
refine ⟨_, rfl, ?_⟩
replace HO_0 := am (Kd.R_below (rr HO_0) hb)
replace HK := am (Kept.below (S := (fun k_ => P0_ k_)) (by repeat (first | (with_reducible first | exact HK.out | apply Kept.alloc | apply Kept.drewN | apply Kept.drew) | exact HK.out)) hb)
replace HB := am (below_step (rb HB) hb)
(try clear hb)
refine hK.out _ _ ⟨HS0_, HS1_, HS2_, HS3_, HS4_, HS5_, HS6_, HS7_, HS8_, HS9_, HS10_, HS11_, HS12_, HS13_⟩ (fun hHeld => ?_)
clear hK K
refine norm_ (a' := _) (show Act.put _ (some 28) _ = _ from na) ?_
refine one_ (i := 17) (N := some 34) (bm 22 262143) rfl rfl (one_of HT_.out (by kernel_rfl)) (by decide) (fun K hK => ?_)
refine goes_ Try.func104 (by kernel_rfl) rfl #[.agg #[.int .i64 ((rd_T98 l0 a1).f1.f0), .int .i64 ((rd_T98 l0 a1).f1.f1), .bool ((rd_T98 l0 a1).f1.f2), .bool ((rd_T98 l0 a1).f1.f3), .bool ((rd_T98 l0 a1).f1.f4)]] (by rfl) rfl rfl mt ?_
with_reducible refine (impl_blank.calls ((rd_T98 l0 a1).f1.f0) ((rd_T98 l0 a1).f1.f1) ((rd_T98 l0 a1).f1.f2) ((rd_T98 l0 a1).f1.f3) ((rd_T98 l0 a1).f1.f4) t411 t412 t413 t414 t415 t416 t417 _ A17.out).mono ?_
rintro e w23 ⟨rfl, hb⟩
have HS0_ := (hb.cell (World.block_lt_of_cell? _ _ (hHeld.1))).trans (hHeld.1)
have HS1_ := (hb.cell (World.block_lt_of_cell? _ _ (hHeld.2.1))).trans (hHeld.2.1)
have HS2_ := (hb.cell (World.block_lt_of_cell? _ _ (hHeld.2.2.1))).trans (hHeld.2.2.1)
have HS3_ := (hb.cell (World.block_lt_of_cell? _ _ (hHeld.2.2.2.1))).trans (hHeld.2.2.2.1)
have HS4_ := (hb.cell (World.block_lt_of_cell? _ _ (hHeld.2.2.2.2.1))).trans (hHeld.2.2.2.2.1)
have HS5_ := (hb.cell (World.block_lt_of_cell? _ _ (hHeld.2.2.2.2.2.1))).trans (hHeld.2.2.2.2.2.1)
have HS6_ := (hb.cell (World.block_lt_of_cell? _ _ (hHeld.2.2.2.2.2.2.1))).trans (hHeld.2.2.2.2.2.2.1)
have HS7_ := (hb.cell (World.block_lt_of_cell? _ _ (hHeld.2.2.2.2.2.2.2.1))).trans (hHeld.2.2.2.2.2.2.2.1)
have HS8_ := (hb.cell (World.block_lt_of_cell? _ _ (hHeld.2.2.2.2.2.2.2.2.1))).trans (hHeld.2.2.2.2.2.2.2.2.1)
have HS9_ := (hb.cell (World.block_lt_of_cell? _ _ (hHeld.2.2.2.2.2.2.2.2.2.1))).trans (hHeld.2.2.2.2.2.2.2.2.2.1)
have HS10_ := (hb.cell (World.block_lt_of_cell? _ _ (hHeld.2.2.2.2.2.2.2.2.2.2.1))).trans (hHeld.2.2.2.2.2.2.2.2.2.2.1)
have HS11_ := (hb.cell (World.block_lt_of_cell? _ _ (hHeld.2.2.2.2.2.2.2.2.2.2.2.1))).trans (hHeld.2.2.2.2.2.2.2.2.2.2.2.1)
have HS12_ := (hb.cell (World.block_lt_of_cell? _ _ (hHeld.2.2.2.2.2.2.2.2.2.2.2.2.1))).trans (hHeld.2.2.2.2.2.2.2.2.2.2.2.2.1)
have HS13_ := (hb.cell (World.block_lt_of_cell? _ _ (hHeld.2.2.2.2.2.2.2.2.2.2.2.2.2))).trans (hHeld.2.2.2.2.2.2.2.2.2.2.2.2.2)
refine ⟨_, rfl, ?_⟩
replace HO_0 := am (Kd.R_below (rr HO_0) hb)
replace HK := am (Kept.below (S := (fun k_ => P0_ k_)) (by repeat (first | (with_reducible first | exact HK.out | apply Kept.alloc | apply Kept.drewN | apply Kept.drew) | exact HK.out)) hb)
replace HB := am (below_step (rb HB) hb)
(try clear hb)
have p18 : 0 ≤ ((ji11) : Int) := dt_
have q18 : ((ji11) : Int) < ((l0.length : Int) : Int) := dt_
obtain ⟨go18, co18, eo18, gb18, gl18, cl18, HG18⟩ := Kd.R_form HO_0.out (by omega)
(first | cases eo18 | (injection eo18 with ea_ en_ ec_; (first | subst ea_ | (injection ea_ with ea_; subst ea_)); subst ec_; clear en_))
have GB18 := am gb18
have GG18 := am HG18
clear gb18 gl18 HG18
have HMgo18 := am (show (P0_ go18 ∨ w.heap.size ≤ go18) from (HO_0.out.1 _ rfl))
(first | simp only [add_plain] at hx402_0 | skip)
(first | simp only [add_plain] at hx402_1 | skip)
(first | simp only [add_plain] at hx402_2 | skip)
(first | simp only [add_plain] at hx402_3 | skip)
(first | simp only [add_plain] at hx402_4 | skip)
(first | simp only [add_plain] at hx402_5 | skip)
(first | simp only [add_plain] at hx402_6 | skip)
(first | simp only [add_plain] at hx410_0 | skip)
(first | simp only [add_plain] at hx410_1 | skip)
(first | simp only [add_plain] at hx410_2 | skip)
(first | simp only [add_plain] at hx410_3 | skip)
(first | simp only [add_plain] at hx410_4 | skip)
(first | simp only [add_plain] at hx410_5 | skip)
(first | simp only [add_plain] at hx410_6 | skip)
obtain ⟨ce18, hcl18, hM18, hcc18, hfr18⟩ := Kd.R_elem HO_0.out z98 ((ji11) : Int) p18 q18
obtain rfl := k98_openM hM18
have hx18_0 : World.cell? _ ⟨go18, ((ji11) : Int).toNat * 7, none⟩ = some (.int .i64 ((rd_T98 l0 (ji11)).f0)) := hcc18 0 _ rfl
have hx18_1 : World.cell? _ ⟨go18, ((ji11) : Int).toNat * 7 + 1, none⟩ = some (.int .i64 ((rd_T98 l0 (ji11)).f1.f0)) := hcc18 1 _ rfl
have hx18_2 : World.cell? _ ⟨go18, ((ji11) : Int).toNat * 7 + 2, none⟩ = some (.int .i64 ((rd_T98 l0 (ji11)).f1.f1)) := hcc18 2 _ rfl
have hx18_3 : World.cell? _ ⟨go18, ((ji11) : Int).toNat * 7 + 3, none⟩ = some (.bool ((rd_T98 l0 (ji11)).f1.f2)) := hcc18 3 _ rfl
have hx18_4 : World.cell? _ ⟨go18, ((ji11) : Int).toNat * 7 + 4, none⟩ = some (.bool ((rd_T98 l0 (ji11)).f1.f3)) := hcc18 4 _ rfl
have hx18_5 : World.cell? _ ⟨go18, ((ji11) : Int).toNat * 7 + 5, none⟩ = some (.bool ((rd_T98 l0 (ji11)).f1.f4)) := hcc18 5 _ rfl
have hx18_6 : World.cell? _ ⟨go18, ((ji11) : Int).toNat * 7 + 6, none⟩ = some (.int .i64 ((rd_T98 l0 (ji11)).f2)) := hcc18 6 _ rfl
have hf18_0 : World.frozen? _ ⟨go18, ((ji11) : Int).toNat * 7, none⟩ = false := hfr18 0
have hf18_1 : World.frozen? _ ⟨go18, ((ji11) : Int).toNat * 7 + 1, none⟩ = false := hfr18 1
have hf18_2 : World.frozen? _ ⟨go18, ((ji11) : Int).toNat * 7 + 2, none⟩ = false := hfr18 2
have hf18_3 : World.frozen? _ ⟨go18, ((ji11) : Int).toNat * 7 + 3, none⟩ = false := hfr18 3
have hf18_4 : World.frozen? _ ⟨go18, ((ji11) : Int).toNat * 7 + 4, none⟩ = false := hfr18 4
have hf18_5 : World.frozen? _ ⟨go18, ((ji11) : Int).toNat * 7 + 5, none⟩ = false := hfr18 5
have hf18_6 : World.frozen? _ ⟨go18, ((ji11) : Int).toNat * 7 + 6, none⟩ = false := hfr18 6
clear hcl18 hcc18 hfr18 hM18
replace p18 := eq_true p18
replace q18 := eq_true q18
obtain ⟨ce24, hcl24, hM24, hcc24, hfr24⟩ := Kd.R_elem HO_0.out z98 ((ji11) : Int) dt_ (by have h_ : ((ji11) : Int) < ((l0.length : Int) : Int) := dt_; first | exact h_ | (have e_ := (Kd.R_reads' HO_0.out).1; omega) | simpa using h_)
obtain rfl := k98_openM hM24
have HP24 := (Kd.R_seg HO_0.out ((ji11) : Int) dt_ (by have h_ : ((ji11) : Int) < ((l0.length : Int) : Int) := dt_; first | exact h_ | (have e_ := (Kd.R_reads' HO_0.out).1; omega) | simpa using h_) (seg := [.int .i64 t403, .int .i64 t404, .int .i64 t405, .bool t406, .bool t407, .bool t408, .int .i64 t409]) (j := 0) hcl24 hcc24 (show 7 ≤ 7 from by decide) (x' := (⟨t403, (⟨t404, t405, t406, t407, t408⟩ : S96), t409⟩ : S98)) (k98_mkM _ _ _ (⟨t403, (⟨t404, t405, t406, t407, t408⟩ : S96), t409⟩ : S98) ) (fun _ hk => hk)).1
rw [← Ny418.out] at HP24
have HQ24 := am HP24
clear hcl24 hcc24 hfr24 hM24 HP24
have p19 : 0 ≤ (a1 : Int) := dt_
have q19 : (a1 : Int) < ((l0.length : Int) : Int) := dt_
obtain ⟨ce19, hcl19, hM19, hcc19, hfr19⟩ := Kd.R_elem HQ24.out z98 (a1 : Int) p19 q19
obtain rfl := k98_openM hM19
have hx19_0 : World.cell? _ ⟨go18, (a1 : Int).toNat * 7, none⟩ = some (.int .i64 ((rd_T98 y418 a1).f0)) := hcc19 0 _ rfl
have hx19_1 : World.cell? _ ⟨go18, (a1 : Int).toNat * 7 + 1, none⟩ = some (.int .i64 ((rd_T98 y418 a1).f1.f0)) := hcc19 1 _ rfl
have hx19_2 : World.cell? _ ⟨go18, (a1 : Int).toNat * 7 + 2, none⟩ = some (.int .i64 ((rd_T98 y418 a1).f1.f1)) := hcc19 2 _ rfl
have hx19_3 : World.cell? _ ⟨go18, (a1 : Int).toNat * 7 + 3, none⟩ = some (.bool ((rd_T98 y418 a1).f1.f2)) := hcc19 3 _ rfl
have hx19_4 : World.cell? _ ⟨go18, (a1 : Int).toNat * 7 + 4, none⟩ = some (.bool ((rd_T98 y418 a1).f1.f3)) := hcc19 4 _ rfl
have hx19_5 : World.cell? _ ⟨go18, (a1 : Int).toNat * 7 + 5, none⟩ = some (.bool ((rd_T98 y418 a1).f1.f4)) := hcc19 5 _ rfl
have hx19_6 : World.cell? _ ⟨go18, (a1 : Int).toNat * 7 + 6, none⟩ = some (.int .i64 ((rd_T98 y418 a1).f2)) := hcc19 6 _ rfl
have hf19_0 : World.frozen? _ ⟨go18, (a1 : Int).toNat * 7, none⟩ = false := hfr19 0
have hf19_1 : World.frozen? _ ⟨go18, (a1 : Int).toNat * 7 + 1, none⟩ = false := hfr19 1
have hf19_2 : World.frozen? _ ⟨go18, (a1 : Int).toNat * 7 + 2, none⟩ = false := hfr19 2
have hf19_3 : World.frozen? _ ⟨go18, (a1 : Int).toNat * 7 + 3, none⟩ = false := hfr19 3
have hf19_4 : World.frozen? _ ⟨go18, (a1 : Int).toNat * 7 + 4, none⟩ = false := hfr19 4
have hf19_5 : World.frozen? _ ⟨go18, (a1 : Int).toNat * 7 + 5, none⟩ = false := hfr19 5
have hf19_6 : World.frozen? _ ⟨go18, (a1 : Int).toNat * 7 + 6, none⟩ = false := hfr19 6
clear hcl19 hcc19 hfr19 hM19
replace p19 := eq_true p19
replace q19 := eq_true q19
obtain ⟨ce25, hcl25, hM25, hcc25, hfr25⟩ := Kd.R_elem HQ24.out z98 (a1 : Int) dt_ (by have h_ : (a1 : Int) < ((l0.length : Int) : Int) := dt_; first | exact h_ | (have e_ := (Kd.R_reads' HO_0.out).1; omega) | simpa using h_)
obtain rfl := k98_openM hM25
have HP25 := (Kd.R_seg HQ24.out (a1 : Int) dt_ (by have h_ : (a1 : Int) < ((l0.length : Int) : Int) := dt_; first | exact h_ | (have e_ := (Kd.R_reads' HO_0.out).1; omega) | simpa using h_) (seg := [.int .i64 t411, .int .i64 t412, .int .i64 t413, .bool t414, .bool t415, .bool t416, .int .i64 t417]) (j := 0) hcl25 hcc25 (show 7 ≤ 7 from by decide) (x' := (⟨t411, (⟨t412, t413, t414, t415, t416⟩ : S96), t417⟩ : S98)) (k98_mkM _ _ _ (⟨t411, (⟨t412, t413, t414, t415, t416⟩ : S96), t417⟩ : S98) ) (fun _ hk => hk)).1
rw [← Ny419.out] at HP25
have HQ25 := am HP25
clear hcl25 hcc25 hfr25 hM25 HP25
refine hK.out _ _ ⟨HS0_, HS1_, HS2_, HS3_, HS4_, HS5_, HS6_, HS7_, HS8_, HS9_, HS10_, HS11_, HS12_, HS13_⟩ (fun hHeld => ?_)
clear hK K
refine norm_ (a' := _) (show Act.put _ (some 34) _ = _ from na) ?_
refine pu_ 18 35 (bm 22 524287) HT_.out ?_
refine last_ (i := 19) (N := none) (bm 22 1048575) rfl rfl (one_of HT_.out (by kernel_rfl)) (by decide) (fun K hK => ?_)
refine skip_ (w1 := ?_) (by rfl) rfl ?_ ?_
rotate_left
·(
go_simp
rfl
)
refine hK.out _ _ ?_
clear hK K
refine impl_part.lw (w := (w23.setCells go18 (((ji11) : Int).toNat * (k98).sz + 0) [.int .i64 t403, .int .i64 t404, .int .i64 t405, .bool t406, .bool t407, .bool t408, .int .i64 t409])) rfl ?_
have HBa_ := am (impl_part.bset GB18.out [.int .i64 t403, .int .i64 t404, .int .i64 t405, .bool t406, .bool t407, .bool t408, .int .i64 t409] (((ji11) : Int).toNat * (k98).sz + 0) HB.out)
have HKa_ := am (impl_part.kset HMgo18.out [.int .i64 t403, .int .i64 t404, .int .i64 t405, .bool t406, .bool t407, .bool t408, .int .i64 t409] (((ji11) : Int).toNat * (k98).sz + 0) HK.out)
clear HB HK
have HB := HBa_
have HK := HKa_
clear HBa_ HKa_
generalize (w23.setCells go18 (((ji11) : Int).toNat * (k98).sz + 0) [.int .i64 t403, .int .i64 t404, .int .i64 t405, .bool t406, .bool t407, .bool t408, .int .i64 t409]) = wz_ at HB HK HQ24 HQ25 hx19_0 hx19_1 hx19_2 hx19_3 hx19_4 hx19_5 hx19_6 hf19_0 hf19_1 hf19_2 hf19_3 hf19_4 hf19_5 hf19_6 ⊢
refine pu_ 20 36 (bm 22 2097151) HT_.out ?_
refine last_ (i := 21) (N := none) (bm 22 4194303) rfl rfl (one_of HT_.out (by kernel_rfl)) (by decide) (fun K hK => ?_)
refine skip_ (w1 := ?_) (by rfl) rfl ?_ ?_
rotate_left
·(
go_simp
rfl
)
refine hK.out _ _ ?_
clear hK K
refine done_ (done_of HT_.out (by kernel_rfl)) ?_
try go_wp2
first | go_end0 | ((try simp only [Exit.inBlock, Exit.then]); refine bodyPost_ret (results_none rfl _ _ _) rfl ?_)
exact ⟨by first | rfl | (simp [errW_none, errW_some] <;> rfl) | (simp only [← hji11]; first | rfl | (simp [errW_none, errW_some] <;> rfl)) | (simp [*, errW_none, errW_some] <;> rfl), by (with_reducible repeat (first | apply r1 | apply r2 | apply r3)); exact HQ25.out, by repeat (first | (with_reducible first | exact HB.out | apply b1 | apply b2 | apply b3 | refine below_set ?_ GB18.out | refine below_set ?_ GB18.out | refine below_set ?_ GB18.out | refine below_set ?_ GB18.out | refine below_set ?_ GB18.out | refine below_set ?_ GB18.out | refine below_set ?_ GB18.out | refine below_set ?_ GB18.out | refine below_set ?_ GB18.out | refine below_set ?_ GB18.out | refine below_set ?_ GB18.out | refine below_set ?_ GB18.out | refine below_set ?_ GB18.out | refine below_set ?_ GB18.out) | exact HB.out), by repeat (first | (with_reducible first | exact HK.out | apply Kept.alloc | apply Kept.drewN | apply Kept.drew | refine Kept.setCell ?_ HMgo18.out _ | refine Kept.setCell ?_ HMgo18.out _ | refine Kept.setCell ?_ HMgo18.out _ | refine Kept.setCell ?_ HMgo18.out _ | refine Kept.setCell ?_ HMgo18.out _ | refine Kept.setCell ?_ HMgo18.out _ | refine Kept.setCell ?_ HMgo18.out _ | refine Kept.setCell ?_ HMgo18.out _ | refine Kept.setCell ?_ HMgo18.out _ | refine Kept.setCell ?_ HMgo18.out _ | refine Kept.setCell ?_ HMgo18.out _ | refine Kept.setCell ?_ HMgo18.out _ | refine Kept.setCell ?_ HMgo18.out _ | refine Kept.setCell ?_ HMgo18.out _) | exact HK.out)⟩
)
)
·(
replace c10 := Bool.eq_false_iff.mpr c10
subst c10
have H1 : (some l0) = some r := by rw [if_neg (show ¬ (false = true) by decide)] at H; exact H
clear H
have H := H1
clear H1
obtain rfl := Option.some.inj H
go_wp2
first | go_end0 | ((try simp only [Exit.inBlock, Exit.then]); refine bodyPost_ret (results_none rfl _ _ _) rfl ?_)
exact ⟨by first | rfl | (simp [errW_none, errW_some] <;> rfl) | (simp [*, errW_none, errW_some] <;> rfl), by (with_reducible repeat (first | apply r1 | apply r2 | apply r3)); exact HO_0.out, by repeat (first | (with_reducible first | exact HB.out | apply b1 | apply b2 | apply b3) | exact HB.out), by repeat (first | (with_reducible first | exact HK.out | apply Kept.alloc | apply Kept.drewN | apply Kept.drew) | exact HK.out)⟩
)
)
)
)

end Go.Proofs.Ytalopdcephohgaa.RC
