/- Contracts of Go functions that laws of this seat reach: each Lean function answers as its Go function does. No condition. Written by wip/tools/inj.py, over the kit's print. -/
import Derived.Test.YtalopdcephohgaaRDx0
import Derived.Test.YtalopdcephohgaaRDx11
import Derived.Test.YtalopdcephohgaaRDx14
import Derived.Test.YtalopdcephohgaaRDx17
namespace Go.Proofs.Ytalopdcephohgaa.RD
open Go.RowKit Go.Proofs.YtalopdcephohgaaW.PrintWords Go.Proofs.YtalopdcephohgaaW.PrintLast Go.Proofs.YtalopdcephohgaaW.PrintMore
attribute [local go_sem] max2_int min2_int max_two min_two max_three min_three max_four min_four   -- for this text's walks alone
set_option linter.unusedVariables false
set_option linter.unusedSimpArgs false

/-! ### impl_part: function 103 -/
def impl_part.j0 : Nat → List (S98) → Int → Bool → Option ((List (S98)))
 | 0, _, _, _ => none
 | k + 1, x0, x1, aa => if aa = true then (if 0 ≤ (wrap64 (x1 - 1)) then (if (wrap64 (x1 - 1)) < (x0.length : Int) then ((impl_blank.f ((rd_T98 x0 (wrap64 (x1 - 1))).f1.f0) ((rd_T98 x0 (wrap64 (x1 - 1))).f1.f1) ((rd_T98 x0 (wrap64 (x1 - 1))).f1.f2) ((rd_T98 x0 (wrap64 (x1 - 1))).f1.f3) ((rd_T98 x0 (wrap64 (x1 - 1))).f1.f4)).bind fun a8 => (if 0 ≤ x1 then (if x1 < (x0.length : Int) then ((impl_blank.f ((rd_T98 x0 x1).f1.f0) ((rd_T98 x0 x1).f1.f1) ((rd_T98 x0 x1).f1.f2) ((rd_T98 x0 x1).f1.f3) ((rd_T98 x0 x1).f1.f4)).bind fun a9 => (some ((x0.set ((wrap64 (x1 - 1)) : Int).toNat (⟨a8.1, (⟨a8.2.1, a8.2.2.1, a8.2.2.2.1, a8.2.2.2.2.1, a8.2.2.2.2.2.1⟩ : S96), a8.2.2.2.2.2.2⟩ : S98)).set (x1 : Int).toNat (⟨a9.1, (⟨a9.2.1, a9.2.2.1, a9.2.2.2.1, a9.2.2.2.2.1, a9.2.2.2.2.2.1⟩ : S96), a9.2.2.2.2.2.2⟩ : S98)))) else (none)) else (none))) else (none)) else (none)) else (some x0)
def impl_part.f (k : Nat) (l0 : List (S98)) (a1 : Int) : Option ((List (S98))) := (impl_in.f a1 1 (wrap64 ((l0.length : Int) - 1))).bind fun a8 => (if a8 = true then (if 0 ≤ a1 then (if a1 < (l0.length : Int) then (impl_part.j0 k l0 a1 (((rd_T98 l0 a1).f2) == 2)) else (none)) else (none)) else (impl_part.j0 k l0 a1 false))
theorem impl_part.mono_l : ∀ k, (∀ y0 y1 y2, LeO (impl_part.j0 k y0 y1 y2) (impl_part.j0 (k + 1) y0 y1 y2))
 | 0 => fun _ _ _ r h => by simp [impl_part.j0] at h
 | k + 1 => by
  have ih0 := impl_part.mono_l k
  ·intro y0 y1 y2
   unfold impl_part.j0
   repeat' first
   | (with_reducible exact ih0 _ _ _)
   | (with_reducible exact LeO.refl _)
   | (with_reducible exact LeO.none _)
   | (with_reducible refine LeO.ite ?_ ?_)
   | (with_reducible refine LeO.bind ?_ (fun _ => ?_))
theorem impl_part.mono : ∀ a0 a1 k, LeO (impl_part.f k a0 a1) (impl_part.f (k + 1) a0 a1) := by
 intro a0 a1 k
 have ih0 := impl_part.mono_l k
 unfold impl_part.f
 repeat' first
   | (with_reducible exact ih0 _ _ _)
   | (with_reducible exact LeO.refl _)
   | (with_reducible exact LeO.none _)
   | (with_reducible refine LeO.ite ?_ ?_)
   | (with_reducible refine LeO.bind ?_ (fun _ => ?_))
def impl_part.T1 : Bool × List (List Nat × List Nat) := (true, [([], []), ([], []), ([1], [1]), ([], []), ([], []), ([], []), ([], []), ([6], [6]), ([5, 7], [5, 7]), ([8], [8]), ([9], [9]), ([10], [10]), ([], []), ([], []), ([12, 13], [12, 13]), ([14], [14]), ([15], [15]), ([16, 11], [16]), ([0, 2, 0, 1, 2, 5, 6, 7, 8, 9, 10, 11, 16, 17], [0, 2]), ([18, 11, 17, 0, 1, 2, 5, 6, 7, 8, 9, 10, 11, 16, 17], [11, 18]), ([3, 4, 0, 1, 2, 3, 4, 5, 6, 7, 8, 9, 10, 11, 12, 13, 14, 15, 16, 17, 18, 19], [3, 4]), ([20, 17, 19, 0, 1, 2, 3, 4, 5, 6, 7, 8, 9, 10, 11, 12, 13, 14, 15, 16, 17, 18, 19], [17, 20])])
def impl_part.B1 : List Nat := [0, 0, 2, 0, 0, 0, 0, 64, 224, 480, 992, 2016, 0, 0, 12288, 28672, 61440, 131040, 262119, 524263, 1048575, 2097151]
theorem impl_part.tab1 : rtab .any (opsOf Try.f103 1) = impl_part.T1 := by kernel_rfl
theorem impl_part.bits1 : waitsOk impl_part.T1.2 impl_part.B1 = true := by kernel_rfl
theorem impl_part.bset {w0 w : World} {g : Nat} (hg : w0.heap.size ≤ g) : ∀ (vs : List Value) (o : Nat), Below w0.heap.size w0 w → Below w0.heap.size w0 (w.setCells g o vs)
 | [], _, h => h
 | v :: r, o, h => impl_part.bset (w := w.setCell ⟨g, o, none⟩ v) hg r (o + 1) (below_set h hg)
theorem impl_part.lw {f : World → Prop} {w' w : World} (e : w' = w) (h : f w) : f w' := e ▸ h
theorem impl_part.kset {w0 w : World} {S : Nat → Prop} {g : Nat} (hg : S g ∨ w0.heap.size ≤ g) : ∀ (vs : List Value) (o : Nat), Kept w0 w S → Kept w0 (w.setCells g o vs) S
 | [], _, h => h
 | v :: r, o, h => impl_part.kset (w := w.setCell ⟨g, o, none⟩ v) hg r (o + 1) (Kept.setCell h hg v)
set_option maxHeartbeats 8000000 in
set_option maxRecDepth 100000 in
theorem impl_part.calls (k : Nat) (P0_ : Nat → Prop) (u9000_ : Value) (l0 : List (S98)) (a1 : Int) (r : List (S98)) (w0 w : World) (hB : Below w0.heap.size w0 w) (d6 : Kd.R k98 98 w w0.heap.size P0_ u9000_ l0) (h : impl_part.f k l0 a1 = some r) :
  Calls Try.prog 103 #[u9000_, .int .i64 a1] w fun e w' => e = .returned (.tuple #[]) ∧ Kd.R k98 98 w' w0.heap.size (fun k_ => (P0_ k_ ∨ w.heap.size ≤ k_)) u9000_ r ∧ Below w0.heap.size w0 w' ∧ Kept w w' (fun k_ => P0_ k_) := by
 (
have dx := Try.underlying96
have dy := Try.underlying98
have b7 := am (show Kd.R k98 98 w w0.heap.size (fun k_ => (P0_ k_ ∨ w.heap.size ≤ k_)) u9000_ l0 from Kd.R_mono d6 (fun k_ hk => (.inl hk)))
have HK := am (Kept.refl w (fun k_ => P0_ k_))
have dE := am hB.size
have HB := am hB
clear hB
have H := h
unfold impl_part.f at H
clear h
have bG := am H
clear H
go_enter Try.func103, Try.ntmps103
go_upto_region 0 with (fail)
go_cut [16] (fun de wc => ∃ (kq : Nat) (aX : Bool), de = .bool aX ∧ Aside0 (impl_part.j0 kq l0 a1 aX = some r) ∧ Aside0 (kq ≤ k) ∧ Aside0 (Kd.R k98 98 wc w0.heap.size (fun k_ => (P0_ k_ ∨ w.heap.size ≤ k_)) u9000_ l0) ∧ Aside0 (Kept w wc (fun k_ => P0_ k_)) ∧ Aside0 (Below w0.heap.size w0 wc))
case first => (
have H := bG.out
clear bG
obtain ⟨cw, A4, H⟩ := bd H
(try dsimp only at H)
by_cases c5 : cw = true
·(
subst c5
rw [if_pos rfl] at H
refine em_ (p := 0 ≤ a1) (fun c6 => ?cN) (fun c6 => ?cM)
case' cN => (
rw [if_pos c6] at H
have bJ : decide (0 ≤ a1) = true := decide_eq_true c6
clear c6
(first | rw [bJ] | (simp only [i64_w, i32_w]; rw [bJ]) | skip)
refine em_ (p := a1 < (l0.length : Int)) (fun c7 => ?cL) (fun c7 => ?cK)
case' cL => (
rw [if_pos c7] at H
have dn : decide (a1 < (l0.length : Int)) = true := decide_eq_true c7
clear c7
have H' := am H
clear H
obtain ⟨dB, dF, cI⟩ := Kd.R_slice b7.out
subst cI
have dz := trivial
)
case cK => (
rw [if_neg c7] at H
exact absurd H (by simp)
)
)
case cM => (
rw [if_neg c6] at H
exact absurd H (by simp)
)
all_goals (
go_wp2_with (first | ((with_reducible refine cg 56 rfl ?_); refine gl_ (some 8) Try.func56 #[.int .i64 a1, .int .i64 1, .int .i64 (wrap64 ((l0.length : Int) - 1))] ?_; (with_reducible refine (impl_in.calls a1 1 (wrap64 ((l0.length : Int) - 1)) true _ A4.out).mono ?_); rintro e w' ⟨rfl, ⟨nd, rfl⟩⟩; refine ⟨_, rfl, ?_⟩; have bt : 0 ≤ (a1 : Int) := dt_; have bw : a1 < (l0.length : Int) := dt_; obtain ⟨df, ct, cz, cA, cB, cC, cD, cE, cF⟩ := at_T98 (Kd.R_reads' b7.out).2.2 a1 bt bw; cases ct; replace bt := eq_true bt; replace bw := eq_true bw))
go_meet
case rel => exact ⟨_, ((((rd_T98 l0 a1).f2) == 2)), sd, H', ⟨by first | omega | exact Nat.le_refl _⟩, ⟨rr b7⟩, ⟨by repeat (first | (with_reducible first | exact HK.out | apply Kept.alloc | apply Kept.drewN | apply Kept.drew) | exact HK.out)⟩, ⟨rb HB⟩⟩
)
)
·(
replace c5 := Bool.eq_false_iff.mpr c5
subst c5
have H1 : (impl_part.j0 k l0 a1 false) = some r := by rw [if_neg (show ¬ (false = true) by decide)] at H; exact H
clear H
have H := H1
clear H1
have H' := am H
clear H
obtain ⟨dC, dG, cJ⟩ := Kd.R_slice b7.out
subst cJ
go_wp2_with (first | ((with_reducible refine cg 56 rfl ?_); refine gl_ (some 8) Try.func56 #[.int .i64 a1, .int .i64 1, .int .i64 (wrap64 ((l0.length : Int) - 1))] ?_; (with_reducible refine (impl_in.calls a1 1 (wrap64 ((l0.length : Int) - 1)) false _ A4.out).mono ?_); rintro e w' ⟨rfl, ⟨nd, rfl⟩⟩; refine ⟨_, rfl, ?_⟩))
go_meet
case rel => exact ⟨_, (false), sd, H', ⟨by first | omega | exact Nat.le_refl _⟩, ⟨rr b7⟩, ⟨by repeat (first | (with_reducible first | exact HK.out | apply Kept.alloc | apply Kept.drewN | apply Kept.drew) | exact HK.out)⟩, ⟨rb HB⟩⟩
)
)
case rest => (
clear bG
obtain ⟨kq, aX, rfl, HA, dD, ae, HK, HB⟩ := hcut
cases kq with
| zero => exact absurd HA.out (by simp [impl_part.j0])
| succ dH => (
have H := HA.out
clear HA
simp only [impl_part.j0] at H
by_cases bB : aX = true
·(
subst bB
rw [if_pos rfl] at H
obtain ⟨a8, az⟩ : ∃ j_ : Int, (wrap64 (a1 - 1)) = j_ := ⟨_, rfl⟩
replace H : (if 0 ≤ (a8) then (if (a8) < (l0.length : Int) then ((impl_blank.f ((rd_T98 l0 (a8)).f1.f0) ((rd_T98 l0 (a8)).f1.f1) ((rd_T98 l0 (a8)).f1.f2) ((rd_T98 l0 (a8)).f1.f3) ((rd_T98 l0 (a8)).f1.f4)).bind fun aj => (if 0 ≤ a1 then (if a1 < (l0.length : Int) then ((impl_blank.f ((rd_T98 l0 a1).f1.f0) ((rd_T98 l0 a1).f1.f1) ((rd_T98 l0 a1).f1.f2) ((rd_T98 l0 a1).f1.f3) ((rd_T98 l0 a1).f1.f4)).bind fun ak => (some ((l0.set ((a8) : Int).toNat (⟨aj.1, (⟨aj.2.1, aj.2.2.1, aj.2.2.2.1, aj.2.2.2.2.1, aj.2.2.2.2.2.1⟩ : S96), aj.2.2.2.2.2.2⟩ : S98)).set (a1 : Int).toNat (⟨ak.1, (⟨ak.2.1, ak.2.2.1, ak.2.2.2.1, ak.2.2.2.2.1, ak.2.2.2.2.2.1⟩ : S96), ak.2.2.2.2.2.2⟩ : S98)))) else (none)) else (none))) else (none)) else (none)) = some r := by first | (rw [az] at H; exact H) | (simp only [az] at H ⊢; exact H)
have hji11w : (IntKind.i64.wrap (a1 - 1)) = a8 := (i64_w _).trans az
refine em_ (p := 0 ≤ (a8)) (fun b8 => ?cV) (fun b8 => ?cU)
case' cV => (
rw [if_pos b8] at H
have dg : decide (0 ≤ (a8)) = true := decide_eq_true b8
clear b8
refine em_ (p := (a8) < (l0.length : Int)) (fun b9 => ?cT) (fun b9 => ?cS)
case' cT => (
rw [if_pos b9] at H
have dh : decide ((a8) < (l0.length : Int)) = true := decide_eq_true b9
clear b9
obtain ⟨⟨al, ao, ap, aq, au, av, ax⟩, cG, H⟩ := bd H
(try dsimp only at H)
refine em_ (p := 0 ≤ a1) (fun ba => ?cR) (fun ba => ?cQ)
case' cR => (
rw [if_pos ba] at H
have di : decide (0 ≤ a1) = true := decide_eq_true ba
clear ba
refine em_ (p := a1 < (l0.length : Int)) (fun bb => ?cP) (fun bb => ?cO)
case' cP => (
rw [if_pos bb] at H
have dj : decide (a1 < (l0.length : Int)) = true := decide_eq_true bb
clear bb
obtain ⟨⟨aO, aP, aQ, aR, aS, aT, aU⟩, cH, H⟩ := bd H
(try dsimp only at H)
obtain ⟨ay, aV⟩ : ∃ y_ : List (S98), y_ = (l0.set ((a8) : Int).toNat (⟨al, (⟨ao, ap, aq, au, av⟩ : S96), ax⟩ : S98)) := ⟨_, rfl⟩
replace H : (some (ay.set (a1 : Int).toNat (⟨aO, (⟨aP, aQ, aR, aS, aT⟩ : S96), aU⟩ : S98))) = some r := by first | (rw [aV]; with_reducible exact H) | (rw [aV]; exact H) | exact H
have ch := am aV
clear aV
obtain ⟨cy, aW⟩ : ∃ y_ : List (S98), y_ = (ay.set (a1 : Int).toNat (⟨aO, (⟨aP, aQ, aR, aS, aT⟩ : S96), aU⟩ : S98)) := ⟨_, rfl⟩
replace H : (some cy) = some r := by first | (rw [aW]; with_reducible exact H) | (rw [aW]; exact H) | exact H
have cj := am aW
clear aW
obtain rfl := Option.some.inj H
have dA := trivial
)
case cO => (
rw [if_neg bb] at H
exact absurd H (by simp)
)
)
case cQ => (
rw [if_neg ba] at H
exact absurd H (by simp)
)
)
case cS => (
rw [if_neg b9] at H
exact absurd H (by simp)
)
)
case cU => (
rw [if_neg b8] at H
exact absurd H (by simp)
)
all_goals (
try go_wp2
replace ae := am (Kd.R_drew ae.out)
replace HK := am (Kept.drew HK.out)
replace HB := am (below_drew1 HB.out)
obtain ⟨dk, dv, bL⟩ := Kd.R_slice ae.out
(first | subst bL | (injection bL with f1_ f2_ f3_; have f4_ := f1_.symm; have f5_ := f3_.symm; clear f1_ f2_ f3_; subst f4_; subst f5_))
have bu : 0 ≤ ((a8) : Int) := dt_
have bz : (a8) < (l0.length : Int) := dt_
obtain ⟨a9, cu, aA, aB, aC, aD, aE, aF, aG⟩ := at_T98 (Kd.R_reads' ae.out).2.2 (a8) bu bz
cases cu
replace bu := eq_true bu
replace bz := eq_true bz
have bv : 0 ≤ (a1 : Int) := dt_
have bA : a1 < (l0.length : Int) := dt_
obtain ⟨ck, cv, aH, aI, aJ, aK, aL, aM, aN⟩ := at_T98 (Kd.R_reads' ae.out).2.2 a1 bv bA
obtain rfl : a9 = ck := (by injection cv)
replace bv := eq_true bv
replace bA := eq_true bA
refine start_ (n := 22) (S := fun w' => w'.cell? (a9.add (((a8)).toNat * 7)) = some (.int .i64 ((rd_T98 l0 (a8)).f0)) ∧ w'.cell? ⟨(a9.add (((a8)).toNat * 7)).block, (a9.add (((a8)).toNat * 7)).off + 1, none⟩ = some (.int .i64 ((rd_T98 l0 (a8)).f1.f0)) ∧ w'.cell? ⟨(a9.add (((a8)).toNat * 7)).block, (a9.add (((a8)).toNat * 7)).off + 2, none⟩ = some (.int .i64 ((rd_T98 l0 (a8)).f1.f1)) ∧ w'.cell? ⟨(a9.add (((a8)).toNat * 7)).block, (a9.add (((a8)).toNat * 7)).off + 3, none⟩ = some (.bool ((rd_T98 l0 (a8)).f1.f2)) ∧ w'.cell? ⟨(a9.add (((a8)).toNat * 7)).block, (a9.add (((a8)).toNat * 7)).off + 4, none⟩ = some (.bool ((rd_T98 l0 (a8)).f1.f3)) ∧ w'.cell? ⟨(a9.add (((a8)).toNat * 7)).block, (a9.add (((a8)).toNat * 7)).off + 5, none⟩ = some (.bool ((rd_T98 l0 (a8)).f1.f4)) ∧ w'.cell? ⟨(a9.add (((a8)).toNat * 7)).block, (a9.add (((a8)).toNat * 7)).off + 6, none⟩ = some (.int .i64 ((rd_T98 l0 (a8)).f2)) ∧ w'.cell? (a9.add ((a1).toNat * 7)) = some (.int .i64 ((rd_T98 l0 a1).f0)) ∧ w'.cell? ⟨(a9.add ((a1).toNat * 7)).block, (a9.add ((a1).toNat * 7)).off + 1, none⟩ = some (.int .i64 ((rd_T98 l0 a1).f1.f0)) ∧ w'.cell? ⟨(a9.add ((a1).toNat * 7)).block, (a9.add ((a1).toNat * 7)).off + 2, none⟩ = some (.int .i64 ((rd_T98 l0 a1).f1.f1)) ∧ w'.cell? ⟨(a9.add ((a1).toNat * 7)).block, (a9.add ((a1).toNat * 7)).off + 3, none⟩ = some (.bool ((rd_T98 l0 a1).f1.f2)) ∧ w'.cell? ⟨(a9.add ((a1).toNat * 7)).block, (a9.add ((a1).toNat * 7)).off + 4, none⟩ = some (.bool ((rd_T98 l0 a1).f1.f3)) ∧ w'.cell? ⟨(a9.add ((a1).toNat * 7)).block, (a9.add ((a1).toNat * 7)).off + 5, none⟩ = some (.bool ((rd_T98 l0 a1).f1.f4)) ∧ w'.cell? ⟨(a9.add ((a1).toNat * 7)).block, (a9.add ((a1).toNat * 7)).off + 6, none⟩ = some (.int .i64 ((rd_T98 l0 a1).f2))) (ds := [19, 21]) (bm 22 0) (by kernel_rfl) rfl rfl ⟨aA, aB, aC, aD, aE, aF, aG, aH, aI, aJ, aK, aL, aM, aN⟩ (fun hHeld => ?_); refine with_tabW impl_part.tab1 impl_part.bits1 (fun HT_ HW_ => ?_)
generalize wc.drew = dI at ae HK HB aA aB aC aD aE aF aG aH aI aJ aK aL aM aN hHeld ⊢
refine pu_ 0 17 (bm 22 1) HT_.out ?_
refine pu_ 1 18 (bm 22 3) HT_.out ?_
refine pu_ 2 19 (bm 22 7) HT_.out ?_
refine pu_ 3 20 (bm 22 15) HT_.out ?_
refine pu_ 4 21 (bm 22 31) HT_.out ?_
refine pu_ 5 22 (bm 22 63) HT_.out ?_
refine pu_ 6 23 (bm 22 127) HT_.out ?_
refine pu_ 7 24 (bm 22 255) HT_.out ?_
refine pu_ 8 25 (bm 22 511) HT_.out ?_
refine pu_ 9 26 (bm 22 1023) HT_.out ?_
refine pu_ 12 29 (bm 22 5119) HT_.out ?_
refine pu_ 13 30 (bm 22 13311) HT_.out ?_
refine pu_ 14 31 (bm 22 29695) HT_.out ?_
refine pu_ 15 32 (bm 22 62463) HT_.out ?_
refine tk 10 27 (bm 22 63487) HT_ HW_ hHeld ?_
refine tk 16 33 (bm 22 129023) HT_ HW_ hHeld ?_
refine o1 11 28 (bm 22 131071) HT_ (fun K hK => ?_)
refine goes_ Try.func104 (by kernel_rfl) rfl #[.agg #[.int .i64 ((rd_T98 l0 (a8)).f1.f0), .int .i64 ((rd_T98 l0 (a8)).f1.f1), .bool ((rd_T98 l0 (a8)).f1.f2), .bool ((rd_T98 l0 (a8)).f1.f3), .bool ((rd_T98 l0 (a8)).f1.f4)]] (by rfl) rfl rfl (by (try simp only [List.map_toArray, List.map_cons, List.map_nil]); first | done | (simp only [az]; rfl) | rfl | (simp only [List.length_drop, List.length_take]; rfl)) ?_
with_reducible refine (impl_blank.calls ((rd_T98 l0 (a8)).f1.f0) ((rd_T98 l0 (a8)).f1.f1) ((rd_T98 l0 (a8)).f1.f2) ((rd_T98 l0 (a8)).f1.f3) ((rd_T98 l0 (a8)).f1.f4) al ao ap aq au av ax _ cG.out).mono ?_
rintro e dJ ⟨rfl, hb⟩
have bg := (mv hb (hHeld.1))
have bh := (mv hb (hHeld.2.1))
have bi := (mv hb (hHeld.2.2.1))
have bj := (mv hb (hHeld.2.2.2.1))
have bl := (mv hb (hHeld.2.2.2.2.1))
have bn := (mv hb (hHeld.2.2.2.2.2.1))
have bo := (mv hb (hHeld.2.2.2.2.2.2.1))
have bp := (mv hb (hHeld.2.2.2.2.2.2.2.1))
have bq := (mv hb (hHeld.2.2.2.2.2.2.2.2.1))
have br := (mv hb (hHeld.2.2.2.2.2.2.2.2.2.1))
have aZ := (mv hb (hHeld.2.2.2.2.2.2.2.2.2.2.1))
have b4 := (mv hb (hHeld.2.2.2.2.2.2.2.2.2.2.2.1))
have b5 := (mv hb (hHeld.2.2.2.2.2.2.2.2.2.2.2.2.1))
have b6 := (mv hb (hHeld.2.2.2.2.2.2.2.2.2.2.2.2.2))
refine ⟨_, rfl, ?_⟩
replace ae := am (Kd.R_below (rr ae) hb)
replace HK := am (Kept.below (S := (fun k_ => P0_ k_)) (by repeat (first | (with_reducible first | exact HK.out | apply Kept.alloc | apply Kept.drewN | apply Kept.drew) | exact HK.out)) hb)
replace HB := bs HB hb
(try clear hb)
refine hK.out _ _ ⟨bg, bh, bi, bj, bl, bn, bo, bp, bq, br, aZ, b4, b5, b6⟩ (fun hHeld => ?_)
clear hK K
refine norm_ (a' := _) (show Act.put _ (some 28) _ = _ from na) ?_
refine o1 17 34 (bm 22 262143) HT_ (fun K hK => ?_)
refine gs Try.func104 #[.agg #[.int .i64 ((rd_T98 l0 a1).f1.f0), .int .i64 ((rd_T98 l0 a1).f1.f1), .bool ((rd_T98 l0 a1).f1.f2), .bool ((rd_T98 l0 a1).f1.f3), .bool ((rd_T98 l0 a1).f1.f4)]] ?_
with_reducible refine (impl_blank.calls ((rd_T98 l0 a1).f1.f0) ((rd_T98 l0 a1).f1.f1) ((rd_T98 l0 a1).f1.f2) ((rd_T98 l0 a1).f1.f3) ((rd_T98 l0 a1).f1.f4) aO aP aQ aR aS aT aU _ cH.out).mono ?_
rintro e cp ⟨rfl, hb⟩
have bg := (mv hb (hHeld.1))
have bh := (mv hb (hHeld.2.1))
have bi := (mv hb (hHeld.2.2.1))
have bj := (mv hb (hHeld.2.2.2.1))
have bl := (mv hb (hHeld.2.2.2.2.1))
have bn := (mv hb (hHeld.2.2.2.2.2.1))
have bo := (mv hb (hHeld.2.2.2.2.2.2.1))
have bp := (mv hb (hHeld.2.2.2.2.2.2.2.1))
have bq := (mv hb (hHeld.2.2.2.2.2.2.2.2.1))
have br := (mv hb (hHeld.2.2.2.2.2.2.2.2.2.1))
have aZ := (mv hb (hHeld.2.2.2.2.2.2.2.2.2.2.1))
have b4 := (mv hb (hHeld.2.2.2.2.2.2.2.2.2.2.2.1))
have b5 := (mv hb (hHeld.2.2.2.2.2.2.2.2.2.2.2.2.1))
have b6 := (mv hb (hHeld.2.2.2.2.2.2.2.2.2.2.2.2.2))
refine ⟨_, rfl, ?_⟩
replace ae := am (Kd.R_below (rr ae) hb)
replace HK := am (Kept.below (S := (fun k_ => P0_ k_)) (by repeat (first | (with_reducible first | exact HK.out | apply Kept.alloc | apply Kept.drewN | apply Kept.drew) | exact HK.out)) hb)
replace HB := bs HB hb
(try clear hb)
have cb : 0 ≤ ((a8) : Int) := dt_
have ce : ((a8) : Int) < ((l0.length : Int) : Int) := dt_
obtain ⟨aa, du, bK, bM, gl18, cl18, bH⟩ := Kd.R_form ae.out (by omega)
(first | cases bK | (injection bK with ea_ en_ ec_; (first | subst ea_ | (injection ea_ with ea_; subst ea_)); subst ec_; clear en_))
have cq := am bM
have dm := am bH
clear bM gl18 bH
have ac := am (show (P0_ aa ∨ w.heap.size ≤ aa) from (ae.out.1 _ rfl))
(try simp only [add_plain] at aA aB aC aD aE aF aG aH aI aJ aK aL aM aN)
obtain ⟨dp, cl, hM18, af, ah⟩ := Kd.R_elem ae.out z98 ((a8) : Int) cb ce
obtain rfl := k98_openM hM18
have d7 : World.cell? _ ⟨aa, ((a8) : Int).toNat * 7, none⟩ = some (.int .i64 ((rd_T98 l0 (a8)).f0)) := af 0 _ rfl
have d8 : World.cell? _ ⟨aa, ((a8) : Int).toNat * 7 + 1, none⟩ = some (.int .i64 ((rd_T98 l0 (a8)).f1.f0)) := af 1 _ rfl
have d9 : World.cell? _ ⟨aa, ((a8) : Int).toNat * 7 + 2, none⟩ = some (.int .i64 ((rd_T98 l0 (a8)).f1.f1)) := af 2 _ rfl
have da : World.cell? _ ⟨aa, ((a8) : Int).toNat * 7 + 3, none⟩ = some (.bool ((rd_T98 l0 (a8)).f1.f2)) := af 3 _ rfl
have db : World.cell? _ ⟨aa, ((a8) : Int).toNat * 7 + 4, none⟩ = some (.bool ((rd_T98 l0 (a8)).f1.f3)) := af 4 _ rfl
have dc : World.cell? _ ⟨aa, ((a8) : Int).toNat * 7 + 5, none⟩ = some (.bool ((rd_T98 l0 (a8)).f1.f4)) := af 5 _ rfl
have dd : World.cell? _ ⟨aa, ((a8) : Int).toNat * 7 + 6, none⟩ = some (.int .i64 ((rd_T98 l0 (a8)).f2)) := af 6 _ rfl
have cW : World.frozen? _ ⟨aa, ((a8) : Int).toNat * 7, none⟩ = false := ah 0
have cX : World.frozen? _ ⟨aa, ((a8) : Int).toNat * 7 + 1, none⟩ = false := ah 1
have cY : World.frozen? _ ⟨aa, ((a8) : Int).toNat * 7 + 2, none⟩ = false := ah 2
have cZ : World.frozen? _ ⟨aa, ((a8) : Int).toNat * 7 + 3, none⟩ = false := ah 3
have d3 : World.frozen? _ ⟨aa, ((a8) : Int).toNat * 7 + 4, none⟩ = false := ah 4
have d4 : World.frozen? _ ⟨aa, ((a8) : Int).toNat * 7 + 5, none⟩ = false := ah 5
have d5 : World.frozen? _ ⟨aa, ((a8) : Int).toNat * 7 + 6, none⟩ = false := ah 6
clear cl af ah hM18
replace cb := eq_true cb
replace ce := eq_true ce
obtain ⟨dr, bE, hM24, bC, cn⟩ := Kd.R_elem ae.out z98 ((a8) : Int) dt_ (by have h_ : ((a8) : Int) < ((l0.length : Int) : Int) := dt_; first | exact h_ | (have e_ := (Kd.R_reads' ae.out).1; omega) | simpa using h_)
obtain rfl := k98_openM hM24
have bc := (Kd.R_seg ae.out ((a8) : Int) dt_ (by have h_ : ((a8) : Int) < ((l0.length : Int) : Int) := dt_; first | exact h_ | (have e_ := (Kd.R_reads' ae.out).1; omega) | simpa using h_) (seg := [.int .i64 al, .int .i64 ao, .int .i64 ap, .bool aq, .bool au, .bool av, .int .i64 ax]) (j := 0) bE bC (show 7 ≤ 7 from by decide) (x' := (⟨al, (⟨ao, ap, aq, au, av⟩ : S96), ax⟩ : S98)) (k98_mkM _ _ _ (⟨al, (⟨ao, ap, aq, au, av⟩ : S96), ax⟩ : S98) ) (fun _ hk => hk)).1
rw [← ch.out] at bc
have aY := am bc
clear bE bC cn hM24 bc
have cd : 0 ≤ (a1 : Int) := dt_
have cf : (a1 : Int) < ((l0.length : Int) : Int) := dt_
obtain ⟨dq, cm, hM19, ag, ai⟩ := Kd.R_elem aY.out z98 (a1 : Int) cd cf
obtain rfl := k98_openM hM19
have bU : World.cell? _ ⟨aa, (a1 : Int).toNat * 7, none⟩ = some (.int .i64 ((rd_T98 ay a1).f0)) := ag 0 _ rfl
have bV : World.cell? _ ⟨aa, (a1 : Int).toNat * 7 + 1, none⟩ = some (.int .i64 ((rd_T98 ay a1).f1.f0)) := ag 1 _ rfl
have bW : World.cell? _ ⟨aa, (a1 : Int).toNat * 7 + 2, none⟩ = some (.int .i64 ((rd_T98 ay a1).f1.f1)) := ag 2 _ rfl
have bX : World.cell? _ ⟨aa, (a1 : Int).toNat * 7 + 3, none⟩ = some (.bool ((rd_T98 ay a1).f1.f2)) := ag 3 _ rfl
have bY : World.cell? _ ⟨aa, (a1 : Int).toNat * 7 + 4, none⟩ = some (.bool ((rd_T98 ay a1).f1.f3)) := ag 4 _ rfl
have bZ : World.cell? _ ⟨aa, (a1 : Int).toNat * 7 + 5, none⟩ = some (.bool ((rd_T98 ay a1).f1.f4)) := ag 5 _ rfl
have ca : World.cell? _ ⟨aa, (a1 : Int).toNat * 7 + 6, none⟩ = some (.int .i64 ((rd_T98 ay a1).f2)) := ag 6 _ rfl
have bN : World.frozen? _ ⟨aa, (a1 : Int).toNat * 7, none⟩ = false := ai 0
have bO : World.frozen? _ ⟨aa, (a1 : Int).toNat * 7 + 1, none⟩ = false := ai 1
have bP : World.frozen? _ ⟨aa, (a1 : Int).toNat * 7 + 2, none⟩ = false := ai 2
have bQ : World.frozen? _ ⟨aa, (a1 : Int).toNat * 7 + 3, none⟩ = false := ai 3
have bR : World.frozen? _ ⟨aa, (a1 : Int).toNat * 7 + 4, none⟩ = false := ai 4
have bS : World.frozen? _ ⟨aa, (a1 : Int).toNat * 7 + 5, none⟩ = false := ai 5
have bT : World.frozen? _ ⟨aa, (a1 : Int).toNat * 7 + 6, none⟩ = false := ai 6
clear cm ag ai hM19
replace cd := eq_true cd
replace cf := eq_true cf
obtain ⟨dt, bF, hM25, bD, co⟩ := Kd.R_elem aY.out z98 (a1 : Int) dt_ (by have h_ : (a1 : Int) < ((l0.length : Int) : Int) := dt_; first | exact h_ | (have e_ := (Kd.R_reads' ae.out).1; omega) | simpa using h_)
obtain rfl := k98_openM hM25
have bf := (Kd.R_seg aY.out (a1 : Int) dt_ (by have h_ : (a1 : Int) < ((l0.length : Int) : Int) := dt_; first | exact h_ | (have e_ := (Kd.R_reads' ae.out).1; omega) | simpa using h_) (seg := [.int .i64 aO, .int .i64 aP, .int .i64 aQ, .bool aR, .bool aS, .bool aT, .int .i64 aU]) (j := 0) bF bD (show 7 ≤ 7 from by decide) (x' := (⟨aO, (⟨aP, aQ, aR, aS, aT⟩ : S96), aU⟩ : S98)) (k98_mkM _ _ _ (⟨aO, (⟨aP, aQ, aR, aS, aT⟩ : S96), aU⟩ : S98) ) (fun _ hk => hk)).1
rw [← cj.out] at bf
have bI := am bf
clear bF bD co hM25 bf
refine hK.out _ _ ⟨bg, bh, bi, bj, bl, bn, bo, bp, bq, br, aZ, b4, b5, b6⟩ (fun hHeld => ?_)
clear hK K
refine norm_ (a' := _) (show Act.put _ (some 34) _ = _ from na) ?_
refine pu_ 18 35 (bm 22 524287) HT_.out ?_
refine last_ (i := 19) (N := none) (bm 22 1048575) rfl rfl (one_of HT_.out (by kernel_rfl)) (by decide) (fun K hK => ?_)
refine skip_ (w1 := ?_) (by rfl) rfl ?_ ?_
rotate_left
·(
go_simp
rfl
)
refine hK.out _ _ ?_
clear hK K
refine impl_part.lw (w := (cp.setCells aa (((a8) : Int).toNat * (k98).sz + 0) [.int .i64 al, .int .i64 ao, .int .i64 ap, .bool aq, .bool au, .bool av, .int .i64 ax])) rfl ?_
have HBa_ := am (impl_part.bset cq.out [.int .i64 al, .int .i64 ao, .int .i64 ap, .bool aq, .bool au, .bool av, .int .i64 ax] (((a8) : Int).toNat * (k98).sz + 0) HB.out)
have HKa_ := am (impl_part.kset ac.out [.int .i64 al, .int .i64 ao, .int .i64 ap, .bool aq, .bool au, .bool av, .int .i64 ax] (((a8) : Int).toNat * (k98).sz + 0) HK.out)
clear HB HK
have HB := HBa_
have HK := HKa_
clear HBa_ HKa_
generalize (cp.setCells aa (((a8) : Int).toNat * (k98).sz + 0) [.int .i64 al, .int .i64 ao, .int .i64 ap, .bool aq, .bool au, .bool av, .int .i64 ax]) = wz_ at HB HK aY bI bU bV bW bX bY bZ ca bN bO bP bQ bR bS bT ⊢
refine pu_ 20 36 (bm 22 2097151) HT_.out ?_
refine last_ (i := 21) (N := none) (bm 22 4194303) rfl rfl (one_of HT_.out (by kernel_rfl)) (by decide) (fun K hK => ?_)
refine skip_ (w1 := ?_) (by rfl) rfl ?_ ?_
rotate_left
·(
go_simp
rfl
)
refine hK.out _ _ ?_
clear hK K
refine done_ (done_of HT_.out (by kernel_rfl)) ?_
try go_wp2
first | go_end0 | ((try simp only [Exit.inBlock, Exit.then]); refine bodyPost_ret (results_none rfl _ _ _) rfl ?_)
exact ⟨by first | rfl | (simp [errW_none, errW_some] <;> rfl) | (simp only [← az]; first | rfl | (simp [errW_none, errW_some] <;> rfl)) | (simp [*, errW_none, errW_some] <;> rfl), qR_ bI, rb HB, by repeat (first | (with_reducible first | exact HK.out | apply Kept.alloc | apply Kept.drewN | apply Kept.drew | refine Kept.setCell ?_ ac.out _ | refine Kept.setCell ?_ ac.out _ | refine Kept.setCell ?_ ac.out _ | refine Kept.setCell ?_ ac.out _ | refine Kept.setCell ?_ ac.out _ | refine Kept.setCell ?_ ac.out _ | refine Kept.setCell ?_ ac.out _ | refine Kept.setCell ?_ ac.out _ | refine Kept.setCell ?_ ac.out _ | refine Kept.setCell ?_ ac.out _ | refine Kept.setCell ?_ ac.out _ | refine Kept.setCell ?_ ac.out _ | refine Kept.setCell ?_ ac.out _ | refine Kept.setCell ?_ ac.out _) | exact HK.out)⟩
)
)
·(
replace bB := Bool.eq_false_iff.mpr bB
subst bB
have H1 : (some l0) = some r := by rw [if_neg (show ¬ (false = true) by decide)] at H; exact H
clear H
have H := H1
clear H1
obtain rfl := Option.some.inj H
go_wp2
first | go_end0 | ((try simp only [Exit.inBlock, Exit.then]); refine bodyPost_ret (results_none rfl _ _ _) rfl ?_)
exact ⟨ew, qR_ ae, rb HB, by repeat (first | (with_reducible first | exact HK.out | apply Kept.alloc | apply Kept.drewN | apply Kept.drew) | exact HK.out)⟩
)
)
)
)

end Go.Proofs.Ytalopdcephohgaa.RD

namespace Go.Proofs.Ytalopdcephohgaa.RD
open Go.RowKit Go.Proofs.YtalopdcephohgaaW.PrintWords Go.Proofs.YtalopdcephohgaaW.PrintLast Go.Proofs.YtalopdcephohgaaW.PrintMore
attribute [local go_sem] max2_int min2_int max_two min_two max_three min_three max_four min_four   -- for this text's walks alone
set_option linter.unusedVariables false
set_option linter.unusedSimpArgs false

/-! ### impl_Grid_resized: function 72 -/
theorem Sx_cap {α : Type} {d : Kd α} {e : Nat} {w : World} {base : Nat} {ok : Nat → Prop} {v : Value} {xs : List α} (h : Kd.S d e w base ok v xs) : Kd.S d e w base (fun k => ok k ∧ k < w.heap.size) v xs := Kd.S_mono (Kd.S_bound h) (fun k hk => ⟨hk.1, hk.2.2.1⟩)
theorem Sx_floor {α : Type} {d : Kd α} {e : Nat} {w : World} {base : Nat} {ok : Nat → Prop} {v : Value} {xs : List α} (h : Kd.S d e w base ok v xs) : Kd.S d e w base (fun k => ok k ∧ base ≤ k) v xs := Kd.S_mono (Kd.S_bound h) (fun k hk => ⟨hk.1, hk.2.1⟩)
section
variable {P : Program} {ops : Array Oper} {rest : List Oper} {o : Oper} {a : Act} {Q : Exit → Act → World → Prop} {Kc : Act → World → Prop} {α : Type}
open Classical in
theorem Sx_join {d : Kd α} {e : Nat} {W : World} {base m c : Nat} {A : Option Addr} {v : Value} {xs ys : List α} {ok okp : Nat → Prop} (HO : Kd.S d e W base (fun k => ok k ∧ ¬ okp k) v xs) (HY : Kd.S d e W base okp (.slice A m c) ys) :
  ∃ f, (Kd.tag f d).R e W base ok v xs.zipIdx ∧ ReadsRow ((Kd.tag f d).M W base okp) d.sz W A m (ys.zipIdx xs.length) := by
 obtain ⟨f2, hY⟩ := HY
 obtain ⟨f1, hO⟩ := HO
 obtain ⟨A', c', e', _, hrd⟩ := OwnRow.reads hY.2
 injection e' with ea en ec
 subst ea
 have hm : ys.length = m := by rw [en, List.length_zipIdx]
 refine ⟨fun k => if okp k then f2 k + xs.length else f1 k, Kd.R_mono (Kd.R_tag hO (fun k hk _ => if_neg hk.2)) (fun _ hk => hk.1), ?_⟩
 obtain ⟨h1, h2, h3⟩ := hrd
 rw [List.length_zipIdx] at h2 h3
 refine ⟨by rw [List.length_zipIdx]; exact hm, by omega, fun h0 => ?_⟩
 obtain ⟨ad, e, hc⟩ := h3 (by omega)
 refine ⟨ad, e, fun j p hj => ?_⟩
 rw [List.getElem?_zipIdx] at hj
 obtain ⟨y, hy, rfl⟩ := Option.map_eq_some_iff.1 hj
 obtain ⟨cs, hl, hM, hcc⟩ := hc j (y, j) (Kd.zip_at hy)
 refine ⟨cs, hl, d.M_mono (fun k hk => ?_) hM, hcc⟩
 refine ⟨hk.1.1, ?_⟩
 show (if okp k then f2 k + xs.length else f1 k) = xs.length + j
 rw [if_pos hk.1.1, hk.2]
 exact Nat.add_comm _ _
theorem Kd.S_append_rows_step (d : Kd α) {w0 W : World} (base : Nat) (hw : Region.wanted o (yielded ops a.tmps) = true) (s x : Operand) (t e : TypeId) (z : Value) (bytes : Nat)
  (ho : o.op = .call { callee := .builtin .append, args := #[s, x], argTypes := #[t, t] })
  (ht : P.underlying t = some (.slice e)) (hinfo : (P.info? e).map (fun i => (i.zero, i.size, i.bytes)) = some (some z, d.sz, bytes)) (hz : z.cells.size = d.sz) (hs0 : 0 < d.sz) (hb0 : 0 < bytes)
  (v : Value) (xs ys : List α) (A : Option Addr) (m c : Nat) (ok okp : Nat → Prop) (hs : a.eval s = v) (hx : a.eval x = .slice A m c)
  (HO : Kd.S d e W base (fun k => ok k ∧ ¬ okp k) v xs) (HY : Kd.S d e W base okp (.slice A m c) ys) (hokp : ∀ k, okp k → ok k ∧ some k ≠ v.ownBlock) (hfresh : ∀ k, W.heap.size ≤ k → ok k)
  (HB : Below base w0 W) (hbase : base ≤ W.heap.size) (hl : (xs.length + m) * bytes ≤ 140737488355328)
  (h : ∀ v1 w1, Kd.S d e w1 base ok v1 (xs ++ ys) → Below base w0 w1 → W.grownBy w1 v.ownBlock → (v1.ownBlock = v.ownBlock ∨ ∃ b, v1.ownBlock = some b ∧ W.heap.size ≤ b) → Kc (a.put o.dst v1) w1) :
  if Region.wanted o (yielded ops a.tmps) = true then Oper.wp P o a W Kc Q else Kc (a.put o.dst undef) W := by
 obtain ⟨f, h1, h2⟩ := Sx_join HO HY
 refine Kd.R_append_rows_step (Kd.tag f d) base hw s x t e z bytes ho ht hinfo hz hs0 hb0 v xs.zipIdx (ys.zipIdx xs.length) A m c ok okp hs hx h1 h2 (fun _ _ hk => hk) hokp hfresh HB hbase (by rw [List.length_zipIdx]; exact hl) ?_
 intro v1 w1 hr
 rw [show xs.zipIdx ++ ys.zipIdx xs.length = (xs ++ ys).zipIdx by rw [List.zipIdx_append]; simp] at hr
 exact h v1 w1 ⟨f, hr⟩
end
mutual
def impl_Grid_resized.l0 : Nat → Int → Int → List (List (S98)) → Int → Int → Int → List (List (S98)) → Int → List (List (S98)) → Option (Int × (List (List (S98))))
 | 0, _, _, _, _, _, _, _, _, _ => none
 | k + 1, x1, x2, ah, ai, ac, a9, ae, aa, a8 => if ac < ai then (if 0 ≤ ac then (if ac < (ah.length : Int) then ((impl_Cell_102.f (rd_L5 ah ac)).bind fun ag => ((impl_part.f k ag x1).bind fun aj => (if 0 ≤ (mn x1 a9) then (if (mn x1 a9) ≤ (ag.length : Int) then (impl_Grid_resized.l1 k x1 x2 (aj.take ((mn x1 a9) : Int).toNat) ah ai ac a9 ae aa a8) else (none)) else (none)))) else (none)) else (none)) else ((impl_Grid_blanks.f k aa a8 (wrap64 (x2 - (a8.length : Int))) 0 0 false false false).bind fun af => (if a8.length + af.length < 5864062014805 then (some (aa, (a8 ++ af))) else (none)))
def impl_Grid_resized.l1 : Nat → Int → Int → List (S98) → List (List (S98)) → Int → Int → Int → List (List (S98)) → Int → List (List (S98)) → Option (Int × (List (List (S98))))
 | 0, _, _, _, _, _, _, _, _, _, _ => none
 | k + 1, x1, x2, af, ag, ah, ai, aa, ac, ae, a9 => if (af.length : Int) < x1 then ((impl_blank.f 0 0 false false false).bind fun a8 => (if af.length < 3518437208883 then (impl_Grid_resized.l1 k x1 x2 (af ++ [(⟨a8.1, (⟨a8.2.1, a8.2.2.1, a8.2.2.2.1, a8.2.2.2.2.1, a8.2.2.2.2.2.1⟩ : S96), a8.2.2.2.2.2.2⟩ : S98)]) ag ah ai aa ac ae a9) else (none))) else (if a9.length < 5864062014805 then (impl_Grid_resized.l0 k x1 x2 ag ah (wrap64 (ai + 1)) aa ac ae (a9 ++ [af])) else (none))
end
def impl_Grid_resized.f (k : Nat) (aa : Int) (a8 : List (List (S98))) (a1 : Int) (a2 : Int) : Option (Int × (List (List (S98)))) := if 0 ≤ (mx 0 (wrap64 ((a8.length : Int) - a2))) then (if (mx 0 (wrap64 ((a8.length : Int) - a2))) ≤ (a8.length : Int) then ((some (a8.drop ((mx 0 (wrap64 ((a8.length : Int) - a2))) : Int).toNat : List (List (S98)))).bind fun a9 => (impl_Grid_resized.l0 k a1 a2 a9 (a9.length : Int) 0 aa a8 a1 ([] : List (List (S98))))) else (none)) else (none)
theorem impl_Grid_resized.mono_l : ∀ k, (∀ y0 y1 y2 y3 y4 y5 y6 y7 y8, LeO (impl_Grid_resized.l0 k y0 y1 y2 y3 y4 y5 y6 y7 y8) (impl_Grid_resized.l0 (k + 1) y0 y1 y2 y3 y4 y5 y6 y7 y8)) ∧ (∀ y0 y1 y2 y3 y4 y5 y6 y7 y8 y9, LeO (impl_Grid_resized.l1 k y0 y1 y2 y3 y4 y5 y6 y7 y8 y9) (impl_Grid_resized.l1 (k + 1) y0 y1 y2 y3 y4 y5 y6 y7 y8 y9))
 | 0 => ⟨fun _ _ _ _ _ _ _ _ _ r h => by simp [impl_Grid_resized.l0] at h, fun _ _ _ _ _ _ _ _ _ _ r h => by simp [impl_Grid_resized.l1] at h⟩
 | k + 1 => by
  obtain ⟨ih0, ih1⟩ := impl_Grid_resized.mono_l k
  refine ⟨?_, ?_⟩
  ·intro y0 y1 y2 y3 y4 y5 y6 y7 y8
   unfold impl_Grid_resized.l0
   repeat' first
   | (with_reducible exact ih0 _ _ _ _ _ _ _ _ _)
   | (with_reducible exact ih1 _ _ _ _ _ _ _ _ _ _)
   | (with_reducible exact impl_Grid_blanks.mono _ _ _ _ _ _ _ _ _)
   | (with_reducible exact impl_part.mono _ _ _)
   | (with_reducible exact LeO.refl _)
   | (with_reducible exact LeO.none _)
   | (with_reducible refine LeO.ite ?_ ?_)
   | (with_reducible refine LeO.bind ?_ (fun _ => ?_))
  ·intro y0 y1 y2 y3 y4 y5 y6 y7 y8 y9
   unfold impl_Grid_resized.l1
   repeat' first
   | (with_reducible exact ih0 _ _ _ _ _ _ _ _ _)
   | (with_reducible exact ih1 _ _ _ _ _ _ _ _ _ _)
   | (with_reducible exact impl_Grid_blanks.mono _ _ _ _ _ _ _ _ _)
   | (with_reducible exact impl_part.mono _ _ _)
   | (with_reducible exact LeO.refl _)
   | (with_reducible exact LeO.none _)
   | (with_reducible refine LeO.ite ?_ ?_)
   | (with_reducible refine LeO.bind ?_ (fun _ => ?_))
theorem impl_Grid_resized.mono : ∀ a0 a1 a2 a3 k, LeO (impl_Grid_resized.f k a0 a1 a2 a3) (impl_Grid_resized.f (k + 1) a0 a1 a2 a3) := by
 intro a0 a1 a2 a3 k
 obtain ⟨ih0, ih1⟩ := impl_Grid_resized.mono_l k
 unfold impl_Grid_resized.f
 repeat' first
   | (with_reducible exact ih0 _ _ _ _ _ _ _ _ _)
   | (with_reducible exact ih1 _ _ _ _ _ _ _ _ _ _)
   | (with_reducible exact impl_Grid_blanks.mono _ _ _ _ _ _ _ _ _)
   | (with_reducible exact impl_part.mono _ _ _)
   | (with_reducible exact LeO.refl _)
   | (with_reducible exact LeO.none _)
   | (with_reducible refine LeO.ite ?_ ?_)
   | (with_reducible refine LeO.bind ?_ (fun _ => ?_))
def impl_Grid_resized.T12 : Bool × List (List Nat × List Nat) := (true, [([], []), ([0], [0]), ([], []), ([], []), ([], []), ([4], [4]), ([5], [5]), ([3, 6], [3, 6]), ([], []), ([2, 7, 8], [2, 7, 8]), ([1, 9, 9], [1, 9]), ([0, 1, 2, 3, 4, 5, 6, 7, 8, 9, 10], []), ([11, 10, 10, 0, 1, 2, 3, 4, 5, 6, 7, 8, 9, 10], [10, 11])])
def impl_Grid_resized.B12 : List Nat := [0, 1, 0, 0, 0, 16, 48, 120, 0, 508, 1023, 2047, 4095]
theorem impl_Grid_resized.tab12 : rtab .any (opsOf Try.f72 12) = impl_Grid_resized.T12 := by kernel_rfl
theorem impl_Grid_resized.bits12 : waitsOk impl_Grid_resized.T12.2 impl_Grid_resized.B12 = true := by kernel_rfl
set_option maxHeartbeats 8000000 in
set_option maxRecDepth 100000 in
theorem impl_Grid_resized.calls (k : Nat) (aj : Int) (aA : Option Addr) (au : Nat) (af : List (List (S98))) (a1 : Int) (a2 : Int) (r1 : Int) (r2 : List (List (S98))) (w : World) (bV : Kd.C (Kd.slice 98 k98) w aA af.length af) (bS : af.length ≤ au) (h : impl_Grid_resized.f k aj af a1 a2 = some (r1, r2)) :
  Calls Try.prog 72 #[.agg #[.int .i64 aj, .slice aA af.length au], .int .i64 a1, .int .i64 a2] w fun e w' => ∃ v1_ : Value, e = .returned (.agg #[.int .i64 r1, v1_]) ∧ Kd.S (Kd.slice 98 k98) 99 w' w.heap.size (fun _ => True) v1_ r2 ∧ Below w.heap.size w w' := by
 (
have dP := Try.underlying58
have dQ := Try.underlying96
have cA := am bV
have cw := am bS
clear bV bS
have HB := am (Below.refl w.heap.size w)
have H := h
unfold impl_Grid_resized.f at H
clear h
obtain ⟨ao, aX⟩ : ∃ j_ : Int, (mx 0 (wrap64 ((af.length : Int) - a2))) = j_ := ⟨_, rfl⟩
replace H : (if 0 ≤ (ao) then (if (ao) ≤ (af.length : Int) then ((some (af.drop ((ao) : Int).toNat : List (List (S98)))).bind fun ag => (impl_Grid_resized.l0 k a1 a2 ag (ag.length : Int) 0 aj af a1 ([] : List (List (S98))))) else (none)) else (none)) = some (r1, r2) := by first | (rw [aX] at H; exact H) | (simp only [aX] at H ⊢; exact H)
(try (have hji4l : 0 ≤ ao := by (rw [← aX]; unfold mx; (repeat' split) <;> omega)))
(try (have hji4m : 0 ≤ ao := by omega))
have hji4_ : (if 0 < (wrap64 ((af.length : Int) - a2)) then (wrap64 ((af.length : Int) - a2)) else 0) = ao := aX
refine em_ (p := 0 ≤ (ao)) (fun c5 => ?d9) (fun c5 => ?d8)
case' d9 => (
rw [if_pos c5] at H
have dJ := eq_true c5
have dK : decide (0 ≤ (ao)) = true := decide_eq_true c5
clear c5
refine em_ (p := (ao) ≤ (af.length : Int)) (fun c6 => ?d7) (fun c6 => ?d6)
case' d7 => (
rw [if_pos c6] at H
have dL := eq_true c6
have dM : decide ((ao) ≤ (af.length : Int)) = true := decide_eq_true c6
clear c6
obtain ⟨ag, aQ⟩ : ∃ y_ : List (List (S98)), y_ = (af.drop ((ao) : Int).toNat) := ⟨_, rfl⟩
replace H : (impl_Grid_resized.l0 k a1 a2 ag (ag.length : Int) 0 aj af a1 ([] : List (List (S98)))) = some (r1, r2) := by first | (rw [aQ]; with_reducible exact H) | (rw [aQ]; exact H) | exact H
have bP := am aQ
clear aQ
have H' := am H
clear H
have dR := trivial
)
case d6 => (
rw [if_neg c6] at H
exact absurd H (by simp)
)
)
case d8 => (
rw [if_neg c5] at H
exact absurd H (by simp)
)
all_goals (
go_enter Try.func72, Try.ntmps72
go_wp2_with (first | (refine bx 3 #[.int .i64 aj, .slice aA af.length au] 58 ?_; intro bp hg w7 hbox hb; have ac := am (hbox); have ct := am (gw hg (rb HB)); have dv := ct; replace HB := bs HB hb; clear hb hbox hg) | (refine bx 6 #[.int .i64 0, .slice none 0 0] 58 ?_; intro aN hg w8 hbox hb; have ae := am (hbox); have cu := am (gw hg (rb HB)); have dx := cu; replace HB := bs HB hb; have aC := am (nl hg (rk ac)); have bB := ns aC; replace ac := kk ac hb; clear hb hbox hg) | (refine bx 7 #[.int .i64 0, .slice none 0 0] 58 ?_; intro az hg w9 hbox hb; have a9 := am (hbox); have cv := am (gw hg (rb HB)); have dy := cv; replace HB := bs HB hb; have aD := am (nl hg (rk ac)); have ax := ns aD; replace ac := kk ac hb; have aM := am (nl hg (rk ae)); have ay := ns aM; replace ae := kk ae hb; clear hb hbox hg; have dX := nN ax; have dY := nN ay; have bz := z2 a9) | ((with_reducible refine gate_store (t := 58) (p := 7) rfl ?_); refine store_event (t := 58) (p := 7) (v := ?dt) (w1 := ((w9.setCell ⟨az, 0, none⟩ (.int .i64 a1)).setCell ⟨az, 1, none⟩ (.slice none 0 0))) ?hg ?ho ?hn ?hr ?_; (case ho => rfl); (case hg => rfl); (case hn => rfl); (case hr => first | (go_simp; done) | (go_simp; rfl)); intro bX hw; have n0_ : Aside0 (bX.heap[bp]? = some (.cells #[.int .i64 aj, .slice aA af.length au] 58 (0, 0))) := ⟨(by rw [hw]; exact (rk ac))⟩; have n1_ : Aside0 (bX.heap[aN]? = some (.cells #[.int .i64 0, .slice none 0 0] 58 (0, 0))) := ⟨(by rw [hw]; exact (rk ae))⟩; have n2_ : Aside0 (bX.heap[az]? = some (.cells #[.int .i64 a1, .slice none 0 0] 58 (0, 0))) := ⟨(by rw [hw]; exact (rk a9))⟩; have n3_ : Aside0 (Below w.heap.size w bX) := ⟨(by rw [hw]; exact (rb HB))⟩; clear hw; clear ac; clear ae; clear a9; clear HB; have ac := n0_; have ae := n1_; have a9 := n2_; have HB := n3_; clear n0_ n1_ n2_ n3_; have dZ := nN aC; have bA := z2 ac; have b4 : ((ao) : Int) ≤ ((af.length : Int) : Int) := dt_; obtain ⟨i016, bT, _, bW, _⟩ := info_parts info99; have aI : af.length ≤ au := cw.out; have hC16 : Kd.C (Kd.slice 98 k98) _ aA af.length af := cA.out; have bI : (0 : Int) ≤ ((ao) : Int) := dt_; have cl := cut_from (P := Try.prog) 56 99 .i64 Try.underlying56 bT 1 bW aA af.length au (ao) bI b4; have aZ := Kd.C_drop (m := ((ao) : Int).toNat) (c := au) hC16 (by omega) aI; obtain ⟨d3, hA16⟩ : ∃ A1, A1 = (if au = ((ao) : Int).toNat then aA else (aA : Option Addr).map (·.add (((ao) : Int).toNat * 1))) := ⟨_, rfl⟩; obtain ⟨cd, bH⟩ : ∃ c1, c1 = au - ((ao) : Int).toNat := ⟨_, rfl⟩; have br : ag.length = af.length - ((ao) : Int).toNat := (by rw [bP.out, List.length_drop] <;> omega); rw [show (af).drop ((ao) : Int).toNat = ag from bP.out.symm] at aZ; replace aZ : Kd.C (Kd.slice 98 k98) _ d3 ag.length ag := (by rw [hA16]; exact aZ); rw [← br, ← hA16, ← bH] at cl; have cB := am aZ; have dz := am (show ag.length ≤ cd from by rw [br, bH]; exact Nat.sub_le_sub_right aI _); clear aZ hC16 aI bT bW bH; have KY16 := am br; have KA16 := am hA16; clear br hA16; replace b4 := eq_true b4))
go_loopg [23] k (fun kq dr w' => ∃ (ah : Int) (aa : List (List (S98))) (ap : Value), dr = .int .i64 ah ∧ Aside0 (impl_Grid_resized.l0 kq a1 a2 ag (ag.length : Int) ah aj af a1 aa = some (r1, r2)) ∧ Aside0 (kq ≤ k) ∧ Aside0 (Kd.S (Kd.slice 98 k98) 99 w' w.heap.size (fun _ => True) ap aa) ∧ Aside0 (w'.heap[bp]? = some (.cells #[.int .i64 aj, (.slice aA af.length au)] 58 (0, 0))) ∧ Aside0 (w'.heap[aN]? = some (.cells #[.int .i64 0, (.slice none 0 0)] 58 (0, 0))) ∧ Aside0 (w'.heap[az]? = some (.cells #[.int .i64 a1, ap] 58 (0, 0))) ∧ Aside0 (Below w.heap.size w w'))
case atStart => exact ⟨(0), (([] : List (List (S98)))), (.slice none 0 0), sd, H', ⟨Nat.le_refl _⟩, ⟨xn⟩, ⟨rk ac⟩, ⟨rk ae⟩, ⟨rk a9⟩, ⟨rb HB⟩⟩
case round => (
clear H'
try clear c1
try clear c5
try clear cd
try clear b4
try clear bz
try clear bA
try clear bz
try clear bA
try clear bI
try clear b4
obtain ⟨ah, aa, ap, rfl, HA, bL, a8, ac, ae, a9, HB⟩ := hrel
cases gk with
| zero => exact absurd HA.out (by simp [impl_Grid_resized.l0])
| succ k1 => (
have H := HA.out
clear HA
simp only [impl_Grid_resized.l0] at H
by_cases aW : ah < (ag.length : Int)
·(
rw [if_pos aW] at H
have bR : decide (ah < (ag.length : Int)) = true := decide_eq_true aW
clear aW
refine em_ (p := 0 ≤ ah) (fun bc => ?dh) (fun bc => ?dg)
case' dh => (
rw [if_pos bc] at H
have dB : decide (0 ≤ ah) = true := decide_eq_true bc
clear bc
refine em_ (p := ah < (ag.length : Int)) (fun bC => ?df) (fun bC => ?de)
case' df => (
rw [if_pos bC] at H
have dC : decide (ah < (ag.length : Int)) = true := decide_eq_true bC
clear bC
obtain ⟨av, cH, H⟩ := bd H
(try dsimp only at H)
obtain ⟨bJ, cI, H⟩ := bd H
(try dsimp only at H)
obtain ⟨aq, aG⟩ : ∃ j_ : Int, (mn a1 aj) = j_ := ⟨_, rfl⟩
replace H : (if 0 ≤ (aq) then (if (aq) ≤ (av.length : Int) then (impl_Grid_resized.l1 k1 a1 a2 (bJ.take ((aq) : Int).toNat) ag (ag.length : Int) ah aj af a1 aa) else (none)) else (none)) = some (r1, r2) := by first | (rw [aG] at H; exact H) | (simp only [aG] at H ⊢; exact H)
(try rw [aG] at cH)
(try rw [aG] at cI)
have hji22_ : (if aj < a1 then aj else a1) = aq := aG
refine em_ (p := 0 ≤ (aq)) (fun bf => ?dd) (fun bf => ?dc)
case' dd => (
rw [if_pos bf] at H
have dD := eq_true bf
have dE : decide (0 ≤ (aq)) = true := decide_eq_true bf
clear bf
refine em_ (p := (aq) ≤ (av.length : Int)) (fun bg => ?db) (fun bg => ?da)
case' db => (
rw [if_pos bg] at H
have dF := eq_true bg
have dG : decide ((aq) ≤ (av.length : Int)) = true := decide_eq_true bg
clear bg
obtain ⟨bw, aT⟩ : ∃ y_ : List (S98), y_ = (bJ.take ((aq) : Int).toNat) := ⟨_, rfl⟩
replace H : (impl_Grid_resized.l1 k1 a1 a2 bw ag (ag.length : Int) ah aj af a1 aa) = some (r1, r2) := by first | (rw [aT]; with_reducible exact H) | (rw [aT]; exact H) | exact H
have bQ := am aT
clear aT
have H' := am H
clear H
have dS := trivial
)
case da => (
rw [if_neg bg] at H
exact absurd H (by simp)
)
)
case dc => (
rw [if_neg bf] at H
exact absurd H (by simp)
)
)
case de => (
rw [if_neg bC] at H
exact absurd H (by simp)
)
)
case dg => (
rw [if_neg bc] at H
exact absurd H (by simp)
)
all_goals (
have bt : 0 ≤ (ah : Int) := dt_
have bu : ah < (ag.length : Int) := dt_
obtain ⟨dA, ca, ce, cR, aJ, bj, bi⟩ := at_L5 cB.out ah bt bu
cases cR
replace aJ := mv HB.out aJ
have bZ := am bi
have bY := am bj
clear bi bj
replace bt := eq_true bt
replace bu := eq_true bu
go_wp2_with (first | ((with_reducible refine cg 102 rfl ?_); refine gl_ (some 28) Try.func102 #[.slice ca (rd_L5 ag ah).length ce] ?_; (with_reducible refine (impl_Cell_102.calls _ _ (rd_L5 ag ah) av _ ?side1 ?side2 cH.out).mono ?_); (case side1 => exact rc ((Kd.C_below bZ.out HB.out))); (case side2 => exact bY.out); rintro e eu ⟨ej, rfl, aY, hb⟩; refine ⟨_, rfl, ?_⟩; replace a8 := am (Kd.S_elder' (rs a8) (Kd.R_base aY) hb); have ak := am (Kd.R_lower aY (below_size (rb HB))); replace ac := kk ac hb; replace ae := kk ae hb; replace a9 := kk a9 hb; replace HB := bs HB hb; (try clear hb); (try clear dq); (try clear hk); (try clear hi); (try clear aY); obtain ⟨aE, aH, cS⟩ := Kd.R_slice ak.out; subst cS) | ((with_reducible refine cg 103 rfl ?_); refine gl_ (some 31) Try.func103 #[.slice aE av.length aH, .int .i64 a1] ?_; (with_reducible refine (impl_part.calls k1 (fun k_ => some k_ = (.slice aE av.length aH : Value).ownBlock) (.slice aE av.length aH) av a1 bJ w _ ?side1 ?side2 cI.out).mono ?_); (case side1 => exact rb HB); (case side2 => exact Kd.R_tight rfl ak.out); rintro e ev ⟨rfl, cJ, hb, hkp⟩; refine ⟨_, rfl, ?_⟩; replace a8 := am (Kd.S_mono (ok' := fun k_ => some k_ ≠ (.slice aE av.length aH : Value).ownBlock) (Kd.S_keptB (a8.out) hkp (fun k_ hk_ hs_ => (hk_.2) hs_)) (fun k_ hk_ => hk_.1.2)); replace ac := am (blk_kept (rk ac) hkp (fun hs_ => (fun e_ => (Kd.R_ne ak.out ac.out (by decide)) e_) hs_)); replace ae := am (blk_kept (rk ae) hkp (fun hs_ => (fun e_ => (Kd.R_ne ak.out ae.out (by decide)) e_) hs_)); replace a9 := am (blk_kept (rk a9) hkp (fun hs_ => (fun e_ => (Kd.R_ne ak.out a9.out (by decide)) e_) hs_)); replace ak := am (Kd.R_reok rfl cJ (fun k_ e_ => ak.out.1 k_ e_)); replace HB := am (hb); (try clear hb); (try clear hkp); (try clear cJ); have e8 := nN aC; have e9 := nN aD; have cq := z2 ac; have bG : ((aq) : Int) ≤ ((av.length : Int) : Int) := dt_; obtain ⟨i031, bU, _, cG, _⟩ := info_parts info98; have cm := cut_to (P := Try.prog) 99 98 .i64 Try.underlying99 bU aE av.length aH (aq) dt_ bG (Kd.R_reads' ak.out).2.1; have bq := Kd.R_take (m := ((aq) : Int).toNat) ak.out (by have e_ := (Kd.R_reads' ak.out).1; omega); have cn : bw.length = ((aq) : Int).toNat := (by have e_ := (Kd.R_reads' ak.out).1; rw [bQ.out, List.length_take]; omega); rw [← bQ.out] at bq; rw [← cn] at bq cm; clear cn bU cG ak; have cy := am bq; clear bq; replace bG := eq_true bG; have n9_ := am (Kd.S_mono (ok' := fun k_ => some k_ ≠ (.slice aE bw.length aH : Value).ownBlock) a8.out (fun k_ h_ e_ => h_ (e_.trans (by generalize (aE : Option Addr) = q_; cases q_ <;> rfl)))); clear a8; have a8 := n9_; clear n9_))
go_loopg [10] k1 (fun kq cK w' => ∃ (ai : List (S98)), Aside0 (impl_Grid_resized.l1 kq a1 a2 ai ag (ag.length : Int) ah aj af a1 aa = some (r1, r2)) ∧ Aside0 (kq ≤ k1) ∧ Aside0 (Kd.R k98 98 w' w.heap.size (fun _ => True) cK ai) ∧ Aside0 (Kd.S (Kd.slice 98 k98) 99 w' w.heap.size (fun k_ => some k_ ≠ (cK : Value).ownBlock) ap aa) ∧ Aside0 (w'.heap[bp]? = some (.cells #[.int .i64 aj, (.slice aA af.length au)] 58 (0, 0))) ∧ Aside0 (w'.heap[aN]? = some (.cells #[.int .i64 0, (.slice none 0 0)] 58 (0, 0))) ∧ Aside0 (w'.heap[az]? = some (.cells #[.int .i64 a1, ap] 58 (0, 0))) ∧ Aside0 (Below w.heap.size w w'))
case atStart => exact ⟨(bw), H', ⟨Nat.le_refl _⟩, ⟨rr cy⟩, ⟨rs a8⟩, ⟨rk ac⟩, ⟨rk ae⟩, ⟨rk a9⟩, ⟨rb HB⟩⟩
case round => (
clear H'
try clear c1
try clear c5
try clear cd
try clear b4
try clear aW
try clear bR
try clear bc
try clear bG
try clear bz
try clear bA
try clear cq
try clear bz
try clear bA
try clear cq
try clear aJ
try clear bt
try clear bI
try clear b4
try clear bG
try clear bu
obtain ⟨ai, HA, bM, al, a8, ac, ae, a9, HB⟩ := hrel
cases gk with
| zero => exact absurd HA.out (by simp [impl_Grid_resized.l1])
| succ k2 => (
have H := HA.out
clear HA
simp only [impl_Grid_resized.l1] at H
by_cases bh : (ai.length : Int) < a1
·(
rw [if_pos bh] at H
have cF : decide ((ai.length : Int) < a1) = true := decide_eq_true bh
clear bh
obtain ⟨⟨b5, b6, b7, b8, b9, ba, bb⟩, d4, H⟩ := bd H
(try dsimp only at H)
refine em_ (p := ai.length < 3518437208883) (fun bD => ?dm) (fun bD => ?dk)
case' dm => (
rw [if_pos bD] at H
have LMc34 := am bD
clear bD
obtain ⟨cp, aU⟩ : ∃ y_ : List (S98), y_ = (ai ++ [(⟨b5, (⟨b6, b7, b8, b9, ba⟩ : S96), bb⟩ : S98)]) := ⟨_, rfl⟩
replace H : (impl_Grid_resized.l1 k2 a1 a2 cp ag (ag.length : Int) ah aj af a1 aa) = some (r1, r2) := by first | (rw [aU]; with_reducible exact H) | (rw [aU]; exact H) | exact H
have cD := am aU
clear aU
have H' := am H
clear H
obtain ⟨cL, cO, cT⟩ := Kd.R_slice al.out
subst cT
have dV := trivial
)
case dk => (
rw [if_neg bD] at H
exact absurd H (by simp)
)
all_goals (
go_wp2_with (first | ((with_reducible refine cg 104 rfl ?_); refine gl_ (some 44) Try.func104 #[.agg #[.int .i64 0, .int .i64 0, .bool false, .bool false, .bool false]] ?_; (with_reducible refine (impl_blank.calls 0 0 false false false b5 b6 b7 b8 b9 ba bb _ d4.out).mono ?_); rintro e ex ⟨rfl, hb⟩; refine ⟨_, rfl, ?_⟩; replace al := am (Kd.R_below (rr al) hb); replace a8 := am (Kd.S_below (rs a8) hb); replace ac := kk ac hb; replace ae := kk ae hb; replace a9 := kk a9 hb; replace HB := bs HB hb; (try clear hb); (try clear dq); (try clear hk); (try clear hi)) | ((with_reducible refine gate_builtin (b := .append) (xs := #[.tmp 42, .tmp 45]) rfl ?_); at_builtin; refine Kd.R_append k98 (w0 := w) w.heap.size rfl (.tmp 42) (.tmp 45) 99 98 (.agg #[(.int .i64 0), (.int .i64 0), (.int .i64 0), (.bool false), (.bool false), (.bool false), (.int .i64 0)]) 40 rfl Try.underlying99 info98 rfl (by decide) (by omega) (.slice cL ai.length cO) ai (⟨b5, (⟨b6, b7, b8, b9, ba⟩ : S96), bb⟩ : S98) [.int .i64 b5, .int .i64 b6, .int .i64 b7, .bool b8, .bool b9, .bool ba, .int .i64 bb] (fun _ => True) (fun _ => False) rfl rfl ?aP (fun _ hk => hk.elim) ?aF ?aO ?aB ?aS ?aL ?_; (case aP => exact k98_mkM _ _ _ (⟨b5, (⟨b6, b7, b8, b9, ba⟩ : S96), bb⟩ : S98)); (case aB => exact (rb HB)); (case aF => exact (fun _ _ => trivial)); (case aO => exact (rr al)); (case aS => exact (below_size (rb HB))); (case aL => have := LMc34.out; omega); intro ek ey ho hb hg hat; rw [← cD.out] at ho; replace a8 := am (Kd.S_after (ok := (fun _ => True)) (qS_ a8) hg hat); replace ac := am (blk_grown (rk ac) hg (Kd.R_ne al.out ac.out (by decide))); replace ae := am (blk_grown (rk ae) hg (Kd.R_ne al.out ae.out (by decide))); replace a9 := am (blk_grown (rk a9) hg (Kd.R_ne al.out a9.out (by decide))); replace HB := am (hb); have cz := am (ho); clear al; clear ho hb hg hat))
go_roundg k2
case measure => have := bL.out; have := bM.out; omega
case rel => exact ⟨(cp), H', ⟨by have := bL.out; have := bM.out; omega⟩, ⟨rr cz⟩, ⟨qS_ a8⟩, ⟨rk ac⟩, ⟨rk ae⟩, ⟨rk a9⟩, ⟨rb HB⟩⟩
)
)
·(
rw [if_neg bh] at H
have cF : decide ((ai.length : Int) < a1) = false := decide_eq_false bh
clear bh
refine em_ (p := aa.length < 5864062014805) (fun bE => ?dp) (fun bE => ?dn)
case' dp => (
rw [if_pos bE] at H
have LMc38 := am bE
clear bE
obtain ⟨bK, aV⟩ : ∃ y_ : List (List (S98)), y_ = (aa ++ [ai]) := ⟨_, rfl⟩
replace H : (impl_Grid_resized.l0 k2 a1 a2 ag (ag.length : Int) (wrap64 (ah + 1)) aj af a1 bK) = some (r1, r2) := by first | (rw [aV]; with_reducible exact H) | (rw [aV]; exact H) | exact H
have cE := am aV
clear aV
have H' := am H
clear H
obtain ⟨cb, cf, cU⟩ := Kd.R_slice al.out
subst cU
have dW := trivial
)
case dn => (
rw [if_neg bE] at H
exact absurd H (by simp)
)
all_goals (
have eb := nN ax
have ed := nN ay
have eo := z2 a9
go_wp2_with (first | ((with_reducible refine gate_builtin (b := .append) (xs := #[.tmp 48, .tmp 50]) rfl ?_); at_builtin; refine Kd.S_append (Kd.slice 98 k98) (w0 := w) w.heap.size rfl (.tmp 48) (.tmp 50) 56 99 (.slice none 0 0) 24 rfl Try.underlying56 info99 rfl (by decide) (by omega) ap aa ai [.slice cb ai.length cf] (fun _ => True) (fun k_ => some k_ = (.slice cb ai.length cf : Value).ownBlock) rfl rfl ?aP (fun k_ hk_ => ((Kd.R_mono (ok' := fun k_ => ((fun _ => True)) k_ ∧ some k_ ≠ (ap : Value).ownBlock) (Kd.R_apart' (al.out) (Kd.S_typed a8.out) (by decide)) (fun k_ hk => ⟨trivial, hk.2⟩))).1 k_ hk_.symm) ?aF ?aO ?aB ?aS ?aL ?_; (case aP => exact Kd.M_row (Kd.R_mono (Kd.R_tight rfl (Kd.R_mono (ok' := fun k_ => ((fun _ => True)) k_ ∧ some k_ ≠ (ap : Value).ownBlock) (Kd.R_apart' (al.out) (Kd.S_typed a8.out) (by decide)) (fun k_ hk => ⟨trivial, hk.2⟩))) (fun _ h_ => h_))); (case aB => exact (rb HB)); (case aF => exact (fun _ _ => trivial)); (case aO => exact (by (with_reducible repeat (first | apply Kd.S_alloc | apply Kd.S_drewN | apply Kd.S_drew)); exact Kd.S_mono a8.out (fun k_ hk => ⟨trivial, fun e_ => hk e_⟩))); (case aS => exact (below_size (rb HB))); (case aL => have := LMc38.out; omega); intro el ez ho hb hg hat; rw [← cE.out] at ho; replace ac := am (blk_grown (rk ac) hg (Kd.S_ne a8.out ac.out (by decide))); replace ae := am (blk_grown (rk ae) hg (Kd.S_ne a8.out ae.out (by decide))); replace a9 := am (blk_grown (rk a9) hg (Kd.S_ne a8.out a9.out (by decide))); replace HB := am (hb); have bO := am (ho); clear a8 al; clear ho hb hg hat; obtain ⟨cM, cP, cV⟩ := Kd.S_slice bO.out; subst cV; have ep := z2 a9))
go_roundg k2
case measure => have := bL.out; have := bM.out; omega
case rel => exact ⟨(wrap64 (ah + 1)), (bK), (.slice cM bK.length cP), sd, H', ⟨by have := bL.out; have := bM.out; omega⟩, ⟨tS1 bO a9⟩, ⟨rk ac⟩, ⟨rk ae⟩, ⟨rk a9⟩, ⟨rb HB⟩⟩
)
)
)
)
)
)
·(
rw [if_neg aW] at H
have bR : decide (ah < (ag.length : Int)) = false := decide_eq_false aW
clear aW
obtain ⟨bv, d5, H⟩ := bd H
(try dsimp only at H)
refine em_ (p := aa.length + bv.length < 5864062014805) (fun bF => ?dj) (fun bF => ?di)
case' dj => (
rw [if_pos bF] at H
have LMc47 := am bF
clear bF
obtain ⟨co, aR⟩ : ∃ y_ : List (List (S98)), y_ = (aa ++ bv) := ⟨_, rfl⟩
replace H : (some (a1, co)) = some (r1, r2) := by first | (rw [aR]; with_reducible exact H) | (rw [aR]; exact H) | exact H
have cC := am aR
clear aR
simp only [Option.some.injEq, Prod.mk.injEq] at H
obtain ⟨rfl, rfl⟩ := H
have dU := trivial
)
case di => (
rw [if_neg bF] at H
exact absurd H (by simp)
)
all_goals (
try go_wp2
replace a8 := am (Kd.S_drew a8.out)
replace ac := am (blk_drew ac.out)
replace ae := am (blk_drew ae.out)
replace a9 := am (blk_drew a9.out)
replace HB := am (below_drew1 HB.out)
obtain ⟨bl, bo, ch⟩ := Kd.S_slice a8.out
(first | subst ch | (injection ch with f1_ f2_ f3_; have f4_ := f1_.symm; have f5_ := f3_.symm; clear f1_ f2_ f3_; subst f4_; subst f5_))
refine start_ (n := 13) (S := fun w' => w'.cell? ⟨az, 0, none⟩ = some (.int .i64 a1) ∧ w'.cell? ⟨az, 1, none⟩ = some (.slice bl aa.length bo)) (ds := [12]) (bm 13 0) (by kernel_rfl) rfl rfl (bc2 a9) (fun hHeld => ?_); refine with_tabW impl_Grid_resized.tab12 impl_Grid_resized.bits12 (fun HT_ HW_ => ?_)
generalize wr.drew = eA at a8 ac ae a9 HB hHeld ⊢
refine pu_ 0 54 (bm 13 1) HT_.out ?_
refine pu_ 3 57 (bm 13 9) HT_.out ?_
refine pu_ 4 58 (bm 13 25) HT_.out ?_
refine pu_ 8 62 (bm 13 281) HT_.out ?_
refine tk 1 55 (bm 13 283) HT_ HW_ hHeld ?_
refine tk 2 56 (bm 13 287) HT_ HW_ hHeld ?_
refine tk 5 59 (bm 13 319) HT_ HW_ hHeld ?_
refine pu_ 6 60 (bm 13 383) HT_.out ?_
refine pu_ 7 61 (bm 13 511) HT_.out ?_
refine o1 9 63 (bm 13 1023) HT_ (fun K hK => ?_)
refine gs Try.func105 #[.agg #[.int .i64 a1, .slice bl aa.length bo], .int .i64 (wrap64 (a2 - (aa.length : Int))), .agg #[.int .i64 0, .int .i64 0, .bool false, .bool false, .bool false]] ?_
with_reducible refine (impl_Grid_blanks.calls k1 a1 _ _ aa (wrap64 (a2 - (aa.length : Int))) 0 0 false false false bv _ ?side1 ?side2 d5.out).mono ?_
(case side1 => exact rcs a8)
(case side2 => exact (Kd.S_reads' a8.out).2.1)
rintro e eB ⟨eh, rfl, aY, hb⟩
refine ⟨_, rfl, ?_⟩
have bn := am (Kd.S_lower (Kd.S_new' (Sx_floor aY) (Kd.S_lt (rs a8))) (below_size (rb HB)))
replace a8 := am (Kd.S_elder' (Sx_cap (rs a8)) (Kd.S_base aY) hb)
replace ac := kk ac hb
replace ae := kk ae hb
replace a9 := kk a9 hb
replace HB := bs HB hb
(try clear hb)
(try clear aY)
obtain ⟨dI, dN, cj⟩ := Kd.S_slice bn.out
(first | subst cj | (injection cj with f1_ f2_ f3_; have f4_ := f1_.symm; have f5_ := f3_.symm; clear f1_ f2_ f3_; subst f4_; subst f5_))
refine hK.out _ _ (bc2 a9) (fun hHeld => ?_)
clear hK K
refine norm_ (a' := _) (show Act.put _ (some 63) _ = _ from na) ?_
refine o1 10 64 (bm 13 2047) HT_ (fun K hK => ?_)
refine Kd.S_append_rows_step (Kd.slice 98 k98) (w0 := w) w.heap.size (by rfl) (.tmp 55) (.tmp 63) 56 99 (.slice none 0 0) 24 rfl Try.underlying56 info99 rfl (by decide) (by omega) (.slice bl aa.length bo) aa bv _ _ _ (fun _ => True) _ rfl rfl ?aO (rs bn) ?aK ?aF ?aB ?aS ?aL ?_
(case aK => exact fun k_ hk => ⟨trivial, hk.2⟩)
(case aB => exact (rb HB))
(case aF => exact (fun _ _ => trivial))
(case aO => exact (by (with_reducible repeat (first | apply Kd.S_alloc | apply Kd.S_drewN | apply Kd.S_drew)); exact Kd.S_mono a8.out (fun k_ hk => ⟨trivial, fun e_ => Nat.not_lt.2 (e_.1.2) (hk.1.2)⟩)))
(case aS => exact (below_size (rb HB)))
(case aL => have := LMc47.out; omega)
intro ei du ho hb hg hat
rw [← cC.out] at ho
replace ac := am (blk_grown (rk ac) hg (Kd.S_ne a8.out ac.out (by decide)))
replace ae := am (blk_grown (rk ae) hg (Kd.S_ne a8.out ae.out (by decide)))
replace a9 := am (blk_grown (rk a9) hg (Kd.S_ne a8.out a9.out (by decide)))
replace HB := am (hb)
have bN := am (ho)
clear a8 bn
clear ho hb hg hat
obtain ⟨cN, cQ, ck⟩ := Kd.S_slice bN.out
(first | subst ck | (injection ck with f1_ f2_ f3_; have f4_ := f1_.symm; have f5_ := f3_.symm; clear f1_ f2_ f3_; subst f4_; subst f5_))
refine hK.out _ _ (bc2 a9) (fun hHeld => ?_)
clear hK K
refine norm_ (a' := _) (show Act.put _ (some 64) _ = _ from na) ?_
refine pu_ 11 65 (bm 13 4095) HT_.out ?_
refine last_ (i := 12) (N := none) (bm 13 8191) rfl rfl (one_of HT_.out (by kernel_rfl)) (by decide) (fun K hK => ?_)
have dO : du.cell? ⟨az, 1, none⟩ = some (.slice bl aa.length bo) := (blk_cell a9.out 1).trans rfl
have dH := blk_frozen a9.out 1
have cY := aD.out
have cZ := aM.out
have cW := ax.out
have cX := ay.out
refine skip_ (w1 := ?_) (by rfl) rfl ?_ ?_
rotate_left
·(
go_simp
rfl
)
refine hK.out _ _ ?_
clear hK K
refine done_ (done_of HT_.out (by kernel_rfl)) ?_
have ee := nN ax
have ef := nN ay
have er := z2 a9
have eg := nN bB
have es := z2 ae
try go_wp2
refine bodyPost_ret (results_cell_row rfl _ _ aN 58 #[.int .i64 a1, .slice cN co.length cQ] (0, 0) _ rfl (rk ae) Try.underlying58 rfl (by kernel_rfl)) rfl ?_
exact ⟨_, by first | rfl | (simp [errW_none, errW_some] <;> rfl) | (simp only [← aX]; first | rfl | (simp [errW_none, errW_some] <;> rfl)) | (simp [*, errW_none, errW_some] <;> rfl), tS2 bN a9 ae, rb HB⟩
)
)
)
)
)
)

end Go.Proofs.Ytalopdcephohgaa.RD
