/- Contracts of Go functions that laws of this seat reach: each Lean function answers as its Go function does. No condition. Written by wip/tools/inj.py, over the kit's print. -/
import Derived.Test.YtfhkpneffmcdbaaQEx0
import Derived.Test.YtfhkpneffmcdbaaQEx3
namespace Go.Proofs.Ytfhkpneffmcdbaa.QE
open Go.RowKit Go.Proofs.YtfhkpneffmcdbaaW.PrintWords Go.Proofs.YtfhkpneffmcdbaaW.PrintLast Go.Proofs.YtfhkpneffmcdbaaW.PrintMore
attribute [local go_sem] max2_int min2_int max_two min_two max_three min_three max_four min_four   -- for this text's walks alone
set_option linter.unusedVariables false
set_option linter.unusedSimpArgs false

/-! ### impl_part: function 64 -/
def impl_part.j0 : Nat → List (S40) → Int → Bool → Option ((List (S40)))
 | 0, _, _, _ => none
 | k + 1, x0, x1, x16 => if x16 = true then (if 0 ≤ (wrap64 (x1 - 1)) then (if (wrap64 (x1 - 1)) < (x0.length : Int) then ((impl_blank.f ((rd_T40 x0 (wrap64 (x1 - 1))).f1.f0) ((rd_T40 x0 (wrap64 (x1 - 1))).f1.f1) ((rd_T40 x0 (wrap64 (x1 - 1))).f1.f2) ((rd_T40 x0 (wrap64 (x1 - 1))).f1.f3) ((rd_T40 x0 (wrap64 (x1 - 1))).f1.f4)).bind fun bt426 => (if 0 ≤ x1 then (if x1 < (x0.length : Int) then ((impl_blank.f ((rd_T40 x0 x1).f1.f0) ((rd_T40 x0 x1).f1.f1) ((rd_T40 x0 x1).f1.f2) ((rd_T40 x0 x1).f1.f3) ((rd_T40 x0 x1).f1.f4)).bind fun bt434 => (some ((x0.set ((wrap64 (x1 - 1)) : Int).toNat (⟨bt426.1, (⟨bt426.2.1, bt426.2.2.1, bt426.2.2.2.1, bt426.2.2.2.2.1, bt426.2.2.2.2.2.1⟩ : S29), bt426.2.2.2.2.2.2⟩ : S40)).set (x1 : Int).toNat (⟨bt434.1, (⟨bt434.2.1, bt434.2.2.1, bt434.2.2.2.1, bt434.2.2.2.2.1, bt434.2.2.2.2.2.1⟩ : S29), bt434.2.2.2.2.2.2⟩ : S40)))) else (none)) else (none))) else (none)) else (none)) else (some x0)
def impl_part.f (k : Nat) (l0 : List (S40)) (a1 : Int) : Option ((List (S40))) := (impl_in.f a1 1 (wrap64 ((l0.length : Int) - 1))).bind fun t423 => (if t423 = true then (if 0 ≤ a1 then (if a1 < (l0.length : Int) then (impl_part.j0 k l0 a1 (((rd_T40 l0 a1).f2) == 2)) else (none)) else (none)) else (impl_part.j0 k l0 a1 false))
theorem impl_part.mono_l : ∀ k, (∀ y0 y1 y2, LeO (impl_part.j0 k y0 y1 y2) (impl_part.j0 (k + 1) y0 y1 y2))
 | 0 => fun _ _ _ r h => by simp [impl_part.j0] at h
 | k + 1 => by
  have ih0 := impl_part.mono_l k
  ·intro y0 y1 y2
   unfold impl_part.j0
   repeat' first
   | (with_reducible exact ih0 _ _ _)
   | (with_reducible exact LeO.refl _)
   | (with_reducible exact LeO.none _)
   | (with_reducible refine LeO.ite ?_ ?_)
   | (with_reducible refine LeO.bind ?_ (fun _ => ?_))
theorem impl_part.mono : ∀ a0 a1 k, LeO (impl_part.f k a0 a1) (impl_part.f (k + 1) a0 a1) := by
 intro a0 a1 k
 have ih0 := impl_part.mono_l k
 unfold impl_part.f
 repeat' first
   | (with_reducible exact ih0 _ _ _)
   | (with_reducible exact LeO.refl _)
   | (with_reducible exact LeO.none _)
   | (with_reducible refine LeO.ite ?_ ?_)
   | (with_reducible refine LeO.bind ?_ (fun _ => ?_))
def impl_part.T1 : Bool × List (List Nat × List Nat) := (true, [([], []), ([], []), ([1], [1]), ([], []), ([], []), ([], []), ([], []), ([6], [6]), ([5, 7], [5, 7]), ([8], [8]), ([9], [9]), ([10], [10]), ([], []), ([], []), ([12, 13], [12, 13]), ([14], [14]), ([15], [15]), ([16, 11], [16]), ([0, 2, 0, 1, 2, 5, 6, 7, 8, 9, 10, 11, 16, 17], [0, 2]), ([18, 11, 17, 0, 1, 2, 5, 6, 7, 8, 9, 10, 11, 16, 17], [11, 18]), ([3, 4, 0, 1, 2, 3, 4, 5, 6, 7, 8, 9, 10, 11, 12, 13, 14, 15, 16, 17, 18, 19], [3, 4]), ([20, 17, 19, 0, 1, 2, 3, 4, 5, 6, 7, 8, 9, 10, 11, 12, 13, 14, 15, 16, 17, 18, 19], [17, 20])])
def impl_part.B1 : List Nat := [0, 0, 2, 0, 0, 0, 0, 64, 224, 480, 992, 2016, 0, 0, 12288, 28672, 61440, 131040, 262119, 524263, 1048575, 2097151]
theorem impl_part.tab1 : rtab .any (opsOf Try.f64 1) = impl_part.T1 := by kernel_rfl
theorem impl_part.bits1 : waitsOk impl_part.T1.2 impl_part.B1 = true := by kernel_rfl
theorem impl_part.bset {w0 w : World} {g : Nat} (hg : w0.heap.size ≤ g) : ∀ (vs : List Value) (o : Nat), Below w0.heap.size w0 w → Below w0.heap.size w0 (w.setCells g o vs)
 | [], _, h => h
 | v :: r, o, h => impl_part.bset (w := w.setCell ⟨g, o, none⟩ v) hg r (o + 1) (below_set h hg)
theorem impl_part.lw {f : World → Prop} {w' w : World} (e : w' = w) (h : f w) : f w' := e ▸ h
theorem impl_part.kset {w0 w : World} {S : Nat → Prop} {g : Nat} (hg : S g ∨ w0.heap.size ≤ g) : ∀ (vs : List Value) (o : Nat), Kept w0 w S → Kept w0 (w.setCells g o vs) S
 | [], _, h => h
 | v :: r, o, h => impl_part.kset (w := w.setCell ⟨g, o, none⟩ v) hg r (o + 1) (Kept.setCell h hg v)
set_option maxHeartbeats 8000000 in
set_option maxRecDepth 100000 in
theorem impl_part.calls (k : Nat) (P0_ : Nat → Prop) (u9000_ : Value) (l0 : List (S40)) (a1 : Int) (r : List (S40)) (w0 w : World) (hB : Below w0.heap.size w0 w) (ho0 : Kd.R k40 40 w w0.heap.size P0_ u9000_ l0) (h : impl_part.f k l0 a1 = some r) :
  Calls Try.prog 64 #[u9000_, .int .i64 a1] w fun e w' => e = .returned (.tuple #[]) ∧ Kd.R k40 40 w' w0.heap.size (fun k_ => (P0_ k_ ∨ w.heap.size ≤ k_)) u9000_ r ∧ Below w0.heap.size w0 w' ∧ Kept w w' (fun k_ => P0_ k_) := by
 have hu29 := Try.underlying29
 have hu40 := Try.underlying40
 have HO0 := am (show Kd.R k40 40 w w0.heap.size (fun k_ => (P0_ k_ ∨ w.heap.size ≤ k_)) u9000_ l0 from Kd.R_mono ho0 (fun k_ hk => (.inl hk)))
 have HK := am (Kept.refl w (fun k_ => P0_ k_))
 have HW0 := am hB.size
 have HB := am hB
 clear hB
 have H := h
 unfold impl_part.f at H
 clear h
 have HC3 := am H
 clear H
 go_enter Try.func64, Try.ntmps64
 go_upto_region 0 with (fail)
 go_cut [16] (fun v16 wc => ∃ (kq : Nat) (x16_2 : Bool), v16 = .bool x16_2 ∧ Aside0 (impl_part.j0 kq l0 a1 x16_2 = some r) ∧ Aside0 (kq ≤ k) ∧ Aside0 (Kd.R k40 40 wc w0.heap.size (fun k_ => (P0_ k_ ∨ w.heap.size ≤ k_)) u9000_ l0) ∧ Aside0 (Kept w wc (fun k_ => P0_ k_)) ∧ Aside0 (Below w0.heap.size w0 wc))
 case first =>
  have H := HC3.out
  clear HC3
  replace H := Option.bind_eq_some_iff.mp H
  obtain ⟨t423, A40, H⟩ := H
  (try dsimp only at H)
  have A4 := am A40
  clear A40
  by_cases c5 : t423 = true
  ·subst c5
   rw [if_pos rfl] at H
   refine em_ (p := 0 ≤ a1) (fun c6 => ?g1p) (fun c6 => ?g1n)
   case' g1p =>
    rw [if_pos c6] at H
    have c6b0 : decide (0 ≤ a1) = true := decide_eq_true c6
    clear c6
    (first | rw [c6b0] | (simp only [i64_w, i32_w]; rw [c6b0]) | skip)
    refine em_ (p := a1 < (l0.length : Int)) (fun c7 => ?g0p) (fun c7 => ?g0n)
    case' g0p =>
     rw [if_pos c7] at H
     have c7b0 : decide (a1 < (l0.length : Int)) = true := decide_eq_true c7
     clear c7
     have H' := am H
     clear H
     obtain ⟨Ao8, co8, eo8⟩ := Kd.R_slice HO0.out
     subst eo8
     have lf1_ := trivial
    case g0n =>
     rw [if_neg c7] at H
     exact absurd H (by simp)
   case g1n =>
    rw [if_neg c6] at H
    exact absurd H (by simp)
   all_goals
    go_wp2_with (first | ((with_reducible refine gate_callee (f := 46) rfl ?_); refine gl_ (some 8) Try.func46 #[.int .i64 a1, .int .i64 1, .int .i64 (wrap64 ((l0.length : Int) - 1))] ?_; (with_reducible refine (impl_in.calls a1 1 (wrap64 ((l0.length : Int) - 1)) true _ A4.out).mono ?_); rintro e w' ⟨rfl, ⟨nd, rfl⟩⟩; refine ⟨_, rfl, ?_⟩; have p424 : 0 ≤ (a1 : Int) := dt_; have q424 : a1 < (l0.length : Int) := dt_; obtain ⟨ad424, e424, hx424_0, hx424_1, hx424_2, hx424_3, hx424_4, hx424_5, hx424_6⟩ := at_T40 (Kd.R_reads' HO0.out).2.2 a1 p424 q424; cases e424; replace p424 := eq_true p424; replace q424 := eq_true q424))
    go_meet
    case rel => exact ⟨_, ((((rd_T40 l0 a1).f2) == 2)), (by first | rfl | (simp; done) | (simp [*]; done)), H', ⟨by first | omega | exact Nat.le_refl _⟩, ⟨rr HO0⟩, ⟨by repeat (first | (with_reducible first | exact HK.out | apply Kept.alloc | apply Kept.drewN | apply Kept.drew) | exact HK.out)⟩, ⟨rb HB⟩⟩
  ·replace c5 := Bool.eq_false_iff.mpr c5
   subst c5
   have H1 : (impl_part.j0 k l0 a1 false) = some r := by rw [if_neg (show ¬ (false = true) by decide)] at H; exact H
   clear H
   have H := H1
   clear H1
   have H' := am H
   clear H
   obtain ⟨Ao9, co9, eo9⟩ := Kd.R_slice HO0.out
   subst eo9
   go_wp2_with (first | ((with_reducible refine gate_callee (f := 46) rfl ?_); refine gl_ (some 8) Try.func46 #[.int .i64 a1, .int .i64 1, .int .i64 (wrap64 ((l0.length : Int) - 1))] ?_; (with_reducible refine (impl_in.calls a1 1 (wrap64 ((l0.length : Int) - 1)) false _ A4.out).mono ?_); rintro e w' ⟨rfl, ⟨nd, rfl⟩⟩; refine ⟨_, rfl, ?_⟩))
   go_meet
   case rel => exact ⟨_, (false), (by first | rfl | (simp; done) | (simp [*]; done)), H', ⟨by first | omega | exact Nat.le_refl _⟩, ⟨rr HO0⟩, ⟨by repeat (first | (with_reducible first | exact HK.out | apply Kept.alloc | apply Kept.drewN | apply Kept.drew) | exact HK.out)⟩, ⟨rb HB⟩⟩
 case rest =>
  clear HC3
  try clear p2
  try clear c4
  try clear p4
  try clear q4
  try clear hx4
  try clear c5
  try clear c6
  try clear c6b0
  try clear p6
  try clear c7
  try clear c7b0
  try clear hx424_0
  try clear hx424_1
  try clear hx424_2
  try clear hx424_3
  try clear hx424_4
  try clear hx424_5
  try clear hx424_6
  try clear p424
  try clear q424
  obtain ⟨kq, x16_2, rfl, HA, HJ2, HO_0, HK, HB⟩ := hcut
  cases kq with
  | zero => exact absurd HA.out (by simp [impl_part.j0])
  | succ kj2 =>
   have H := HA.out
   clear HA
   simp only [impl_part.j0] at H
   by_cases c10 : x16_2 = true
   ·subst c10
    rw [if_pos rfl] at H
    obtain ⟨ji11, hji11⟩ : ∃ j_ : Int, (wrap64 (a1 - 1)) = j_ := ⟨_, rfl⟩
    replace H : (if 0 ≤ (ji11) then (if (ji11) < (l0.length : Int) then ((impl_blank.f ((rd_T40 l0 (ji11)).f1.f0) ((rd_T40 l0 (ji11)).f1.f1) ((rd_T40 l0 (ji11)).f1.f2) ((rd_T40 l0 (ji11)).f1.f3) ((rd_T40 l0 (ji11)).f1.f4)).bind fun bt426 => (if 0 ≤ a1 then (if a1 < (l0.length : Int) then ((impl_blank.f ((rd_T40 l0 a1).f1.f0) ((rd_T40 l0 a1).f1.f1) ((rd_T40 l0 a1).f1.f2) ((rd_T40 l0 a1).f1.f3) ((rd_T40 l0 a1).f1.f4)).bind fun bt434 => (some ((l0.set ((ji11) : Int).toNat (⟨bt426.1, (⟨bt426.2.1, bt426.2.2.1, bt426.2.2.2.1, bt426.2.2.2.2.1, bt426.2.2.2.2.2.1⟩ : S29), bt426.2.2.2.2.2.2⟩ : S40)).set (a1 : Int).toNat (⟨bt434.1, (⟨bt434.2.1, bt434.2.2.1, bt434.2.2.2.1, bt434.2.2.2.2.1, bt434.2.2.2.2.2.1⟩ : S29), bt434.2.2.2.2.2.2⟩ : S40)))) else (none)) else (none))) else (none)) else (none)) = some r := by first | (rw [hji11] at H; exact H) | (simp only [hji11] at H ⊢; exact H)
    have hji11w : (IntKind.i64.wrap (a1 - 1)) = ji11 := (i64_w _).trans hji11
    refine em_ (p := 0 ≤ (ji11)) (fun c12 => ?g5p) (fun c12 => ?g5n)
    case' g5p =>
     rw [if_pos c12] at H
     have c12b0 : decide (0 ≤ (ji11)) = true := decide_eq_true c12
     clear c12
     refine em_ (p := (ji11) < (l0.length : Int)) (fun c13 => ?g4p) (fun c13 => ?g4n)
     case' g4p =>
      rw [if_pos c13] at H
      have c13b0 : decide ((ji11) < (l0.length : Int)) = true := decide_eq_true c13
      clear c13
      replace H := Option.bind_eq_some_iff.mp H
      obtain ⟨⟨t426, t427, t428, t429, t430, t431, t432⟩, A140, H⟩ := H
      (try dsimp only at H)
      have A14 := am A140
      clear A140
      refine em_ (p := 0 ≤ a1) (fun c15 => ?g3p) (fun c15 => ?g3n)
      case' g3p =>
       rw [if_pos c15] at H
       have c15b0 : decide (0 ≤ a1) = true := decide_eq_true c15
       clear c15
       refine em_ (p := a1 < (l0.length : Int)) (fun c16 => ?g2p) (fun c16 => ?g2n)
       case' g2p =>
        rw [if_pos c16] at H
        have c16b0 : decide (a1 < (l0.length : Int)) = true := decide_eq_true c16
        clear c16
        replace H := Option.bind_eq_some_iff.mp H
        obtain ⟨⟨t434, t435, t436, t437, t438, t439, t440⟩, A170, H⟩ := H
        (try dsimp only at H)
        have A17 := am A170
        clear A170
        obtain ⟨y441, hy441⟩ : ∃ y_ : List (S40), y_ = (l0.set ((ji11) : Int).toNat (⟨t426, (⟨t427, t428, t429, t430, t431⟩ : S29), t432⟩ : S40)) := ⟨_, rfl⟩
        replace H : (some (y441.set (a1 : Int).toNat (⟨t434, (⟨t435, t436, t437, t438, t439⟩ : S29), t440⟩ : S40))) = some r := by first | (rw [hy441]; with_reducible exact H) | (rw [hy441]; exact H) | exact H
        have Ny441 := am hy441
        clear hy441
        obtain ⟨y442, hy442⟩ : ∃ y_ : List (S40), y_ = (y441.set (a1 : Int).toNat (⟨t434, (⟨t435, t436, t437, t438, t439⟩ : S29), t440⟩ : S40)) := ⟨_, rfl⟩
        replace H : (some y442) = some r := by first | (rw [hy442]; with_reducible exact H) | (rw [hy442]; exact H) | exact H
        have Ny442 := am hy442
        clear hy442
        obtain rfl := Option.some.inj H
        have lf3_ := trivial
       case g2n =>
        rw [if_neg c16] at H
        exact absurd H (by simp)
      case g3n =>
       rw [if_neg c15] at H
       exact absurd H (by simp)
     case g4n =>
      rw [if_neg c13] at H
      exact absurd H (by simp)
    case g5n =>
     rw [if_neg c12] at H
     exact absurd H (by simp)
    all_goals
     try go_wp2
     have n0_ := am (Kd.R_drew HO_0.out)
     have n1_ := am (Kept.drew HK.out)
     have n2_ := am (below_drew1 HB.out)
     clear HO_0
     clear HK
     clear HB
     have HO_0 := n0_
     have HK := n1_
     have HB := n2_
     clear n0_ n1_ n2_
     obtain ⟨Ao21, co21, eo21⟩ := Kd.R_slice HO_0.out
     (first | subst eo21 | (injection eo21 with f1_ f2_ f3_; have f4_ := f1_.symm; have f5_ := f3_.symm; clear f1_ f2_ f3_; subst f4_; subst f5_))
     have p425 : 0 ≤ ((ji11) : Int) := dt_
     have q425 : (ji11) < (l0.length : Int) := dt_
     obtain ⟨ad425, e425, hx425_0, hx425_1, hx425_2, hx425_3, hx425_4, hx425_5, hx425_6⟩ := at_T40 (Kd.R_reads' HO_0.out).2.2 (ji11) p425 q425
     cases e425
     replace p425 := eq_true p425
     replace q425 := eq_true q425
     have p433 : 0 ≤ (a1 : Int) := dt_
     have q433 : a1 < (l0.length : Int) := dt_
     obtain ⟨ad433, e433, hx433_0, hx433_1, hx433_2, hx433_3, hx433_4, hx433_5, hx433_6⟩ := at_T40 (Kd.R_reads' HO_0.out).2.2 a1 p433 q433
     obtain rfl : ad425 = ad433 := (by injection e433)
     replace p433 := eq_true p433
     replace q433 := eq_true q433
     refine start_ (n := 22) (S := fun w' => w'.cell? (ad425.add (((ji11)).toNat * 7)) = some (.int .i64 ((rd_T40 l0 (ji11)).f0)) ∧ w'.cell? ⟨(ad425.add (((ji11)).toNat * 7)).block, (ad425.add (((ji11)).toNat * 7)).off + 1, none⟩ = some (.int .i64 ((rd_T40 l0 (ji11)).f1.f0)) ∧ w'.cell? ⟨(ad425.add (((ji11)).toNat * 7)).block, (ad425.add (((ji11)).toNat * 7)).off + 2, none⟩ = some (.int .i64 ((rd_T40 l0 (ji11)).f1.f1)) ∧ w'.cell? ⟨(ad425.add (((ji11)).toNat * 7)).block, (ad425.add (((ji11)).toNat * 7)).off + 3, none⟩ = some (.bool ((rd_T40 l0 (ji11)).f1.f2)) ∧ w'.cell? ⟨(ad425.add (((ji11)).toNat * 7)).block, (ad425.add (((ji11)).toNat * 7)).off + 4, none⟩ = some (.bool ((rd_T40 l0 (ji11)).f1.f3)) ∧ w'.cell? ⟨(ad425.add (((ji11)).toNat * 7)).block, (ad425.add (((ji11)).toNat * 7)).off + 5, none⟩ = some (.bool ((rd_T40 l0 (ji11)).f1.f4)) ∧ w'.cell? ⟨(ad425.add (((ji11)).toNat * 7)).block, (ad425.add (((ji11)).toNat * 7)).off + 6, none⟩ = some (.int .i64 ((rd_T40 l0 (ji11)).f2)) ∧ w'.cell? (ad425.add ((a1).toNat * 7)) = some (.int .i64 ((rd_T40 l0 a1).f0)) ∧ w'.cell? ⟨(ad425.add ((a1).toNat * 7)).block, (ad425.add ((a1).toNat * 7)).off + 1, none⟩ = some (.int .i64 ((rd_T40 l0 a1).f1.f0)) ∧ w'.cell? ⟨(ad425.add ((a1).toNat * 7)).block, (ad425.add ((a1).toNat * 7)).off + 2, none⟩ = some (.int .i64 ((rd_T40 l0 a1).f1.f1)) ∧ w'.cell? ⟨(ad425.add ((a1).toNat * 7)).block, (ad425.add ((a1).toNat * 7)).off + 3, none⟩ = some (.bool ((rd_T40 l0 a1).f1.f2)) ∧ w'.cell? ⟨(ad425.add ((a1).toNat * 7)).block, (ad425.add ((a1).toNat * 7)).off + 4, none⟩ = some (.bool ((rd_T40 l0 a1).f1.f3)) ∧ w'.cell? ⟨(ad425.add ((a1).toNat * 7)).block, (ad425.add ((a1).toNat * 7)).off + 5, none⟩ = some (.bool ((rd_T40 l0 a1).f1.f4)) ∧ w'.cell? ⟨(ad425.add ((a1).toNat * 7)).block, (ad425.add ((a1).toNat * 7)).off + 6, none⟩ = some (.int .i64 ((rd_T40 l0 a1).f2))) (ds := [19, 21]) (bm 22 0) (by kernel_rfl) rfl rfl ⟨hx425_0, hx425_1, hx425_2, hx425_3, hx425_4, hx425_5, hx425_6, hx433_0, hx433_1, hx433_2, hx433_3, hx433_4, hx433_5, hx433_6⟩ (fun hHeld => ?_); refine with_tabW impl_part.tab1 impl_part.bits1 (fun HT_ HW_ => ?_)
     generalize wc.drew = w20 at HO_0 HK HB hx425_0 hx425_1 hx425_2 hx425_3 hx425_4 hx425_5 hx425_6 hx433_0 hx433_1 hx433_2 hx433_3 hx433_4 hx433_5 hx433_6 hHeld ⊢
     refine pu_ 0 17 (bm 22 1) HT_.out ?_
     refine pu_ 1 18 (bm 22 3) HT_.out ?_
     refine pu_ 2 19 (bm 22 7) HT_.out ?_
     refine pu_ 3 20 (bm 22 15) HT_.out ?_
     refine pu_ 4 21 (bm 22 31) HT_.out ?_
     refine pu_ 5 22 (bm 22 63) HT_.out ?_
     refine pu_ 6 23 (bm 22 127) HT_.out ?_
     refine pu_ 7 24 (bm 22 255) HT_.out ?_
     refine pu_ 8 25 (bm 22 511) HT_.out ?_
     refine pu_ 9 26 (bm 22 1023) HT_.out ?_
     refine pu_ 12 29 (bm 22 5119) HT_.out ?_
     refine pu_ 13 30 (bm 22 13311) HT_.out ?_
     refine pu_ 14 31 (bm 22 29695) HT_.out ?_
     refine pu_ 15 32 (bm 22 62463) HT_.out ?_
     refine take_ (i := 10) (N := some 27) (v := ?_) (a' := ?_) (bm 22 63487) rfl rfl (take_ofW HT_.out HW_.out (by kernel_rfl)) (fun _ _ _ h => h) (Or.inl ⟨by rfl, ?_⟩) hHeld ?_ ?_
     rotate_left
     ·rintro w' ⟨s0, s1, s2, s3, s4, s5, s6, s7, s8, s9, s10, s11, s12, s13⟩
      go_simp
      with_reducible rfl
     rotate_left
     ·simp only [Act.put, List.setIfInBounds_toArray, List.set_cons_zero, List.set_cons_succ, i64_w, i32_w]
      rfl
     refine take_ (i := 16) (N := some 33) (v := ?_) (a' := ?_) (bm 22 129023) rfl rfl (take_ofW HT_.out HW_.out (by kernel_rfl)) (fun _ _ _ h => h) (Or.inl ⟨by rfl, ?_⟩) hHeld ?_ ?_
     rotate_left
     ·rintro w' ⟨s0, s1, s2, s3, s4, s5, s6, s7, s8, s9, s10, s11, s12, s13⟩
      go_simp
      with_reducible rfl
     rotate_left
     ·simp only [Act.put, List.setIfInBounds_toArray, List.set_cons_zero, List.set_cons_succ, i64_w, i32_w]
      rfl
     refine one_ (i := 11) (N := some 28) (bm 22 131071) rfl rfl (one_of HT_.out (by kernel_rfl)) (by decide) (fun K hK => ?_)
     refine goes_ Try.func67 (by kernel_rfl) rfl #[.agg #[.int .i64 ((rd_T40 l0 (ji11)).f1.f0), .int .i64 ((rd_T40 l0 (ji11)).f1.f1), .bool ((rd_T40 l0 (ji11)).f1.f2), .bool ((rd_T40 l0 (ji11)).f1.f3), .bool ((rd_T40 l0 (ji11)).f1.f4)]] (by rfl) rfl rfl (by (try simp only [List.map_toArray, List.map_cons, List.map_nil]); first | done | (simp only [hji11]; rfl) | rfl | (simp only [List.length_drop, List.length_take]; rfl)) ?_
     with_reducible refine (impl_blank.calls ((rd_T40 l0 (ji11)).f1.f0) ((rd_T40 l0 (ji11)).f1.f1) ((rd_T40 l0 (ji11)).f1.f2) ((rd_T40 l0 (ji11)).f1.f3) ((rd_T40 l0 (ji11)).f1.f4) t426 t427 t428 t429 t430 t431 t432 _ A14.out).mono ?_
     rintro e w22 ⟨rfl, hb⟩
     have HS0_ := (hb.cell (World.block_lt_of_cell? _ _ (hHeld.1))).trans (hHeld.1)
     have HS1_ := (hb.cell (World.block_lt_of_cell? _ _ (hHeld.2.1))).trans (hHeld.2.1)
     have HS2_ := (hb.cell (World.block_lt_of_cell? _ _ (hHeld.2.2.1))).trans (hHeld.2.2.1)
     have HS3_ := (hb.cell (World.block_lt_of_cell? _ _ (hHeld.2.2.2.1))).trans (hHeld.2.2.2.1)
     have HS4_ := (hb.cell (World.block_lt_of_cell? _ _ (hHeld.2.2.2.2.1))).trans (hHeld.2.2.2.2.1)
     have HS5_ := (hb.cell (World.block_lt_of_cell? _ _ (hHeld.2.2.2.2.2.1))).trans (hHeld.2.2.2.2.2.1)
     have HS6_ := (hb.cell (World.block_lt_of_cell? _ _ (hHeld.2.2.2.2.2.2.1))).trans (hHeld.2.2.2.2.2.2.1)
     have HS7_ := (hb.cell (World.block_lt_of_cell? _ _ (hHeld.2.2.2.2.2.2.2.1))).trans (hHeld.2.2.2.2.2.2.2.1)
     have HS8_ := (hb.cell (World.block_lt_of_cell? _ _ (hHeld.2.2.2.2.2.2.2.2.1))).trans (hHeld.2.2.2.2.2.2.2.2.1)
     have HS9_ := (hb.cell (World.block_lt_of_cell? _ _ (hHeld.2.2.2.2.2.2.2.2.2.1))).trans (hHeld.2.2.2.2.2.2.2.2.2.1)
     have HS10_ := (hb.cell (World.block_lt_of_cell? _ _ (hHeld.2.2.2.2.2.2.2.2.2.2.1))).trans (hHeld.2.2.2.2.2.2.2.2.2.2.1)
     have HS11_ := (hb.cell (World.block_lt_of_cell? _ _ (hHeld.2.2.2.2.2.2.2.2.2.2.2.1))).trans (hHeld.2.2.2.2.2.2.2.2.2.2.2.1)
     have HS12_ := (hb.cell (World.block_lt_of_cell? _ _ (hHeld.2.2.2.2.2.2.2.2.2.2.2.2.1))).trans (hHeld.2.2.2.2.2.2.2.2.2.2.2.2.1)
     have HS13_ := (hb.cell (World.block_lt_of_cell? _ _ (hHeld.2.2.2.2.2.2.2.2.2.2.2.2.2))).trans (hHeld.2.2.2.2.2.2.2.2.2.2.2.2.2)
     refine ⟨_, rfl, ?_⟩
     have n0_ := am (Kd.R_below (rr HO_0) hb)
     have n1_ := am (Kept.below (S := (fun k_ => P0_ k_)) (by repeat (first | (with_reducible first | exact HK.out | apply Kept.alloc | apply Kept.drewN | apply Kept.drew) | exact HK.out)) hb)
     have n2_ := am (below_step (rb HB) hb)
     clear HO_0
     clear HK
     clear HB
     have HO_0 := n0_
     have HK := n1_
     have HB := n2_
     clear n0_ n1_ n2_
     (try clear hb)
     (try clear hb2)
     (try clear hk)
     (try clear hi)
     refine hK.out _ _ ⟨HS0_, HS1_, HS2_, HS3_, HS4_, HS5_, HS6_, HS7_, HS8_, HS9_, HS10_, HS11_, HS12_, HS13_⟩ (fun hHeld => ?_)
     clear hK K
     refine norm_ (a' := ?_) ?_ ?_
     rotate_left
     ·show Act.put _ (some 28) _ = _
      simp only [Act.put, List.setIfInBounds_toArray, List.set_cons_zero, List.set_cons_succ, i64_w, i32_w]
      rfl
     refine one_ (i := 17) (N := some 34) (bm 22 262143) rfl rfl (one_of HT_.out (by kernel_rfl)) (by decide) (fun K hK => ?_)
     refine goes_ Try.func67 (by kernel_rfl) rfl #[.agg #[.int .i64 ((rd_T40 l0 a1).f1.f0), .int .i64 ((rd_T40 l0 a1).f1.f1), .bool ((rd_T40 l0 a1).f1.f2), .bool ((rd_T40 l0 a1).f1.f3), .bool ((rd_T40 l0 a1).f1.f4)]] (by rfl) rfl rfl (by (try simp only [List.map_toArray, List.map_cons, List.map_nil]); first | done | rfl | (simp only [List.length_drop, List.length_take]; rfl)) ?_
     with_reducible refine (impl_blank.calls ((rd_T40 l0 a1).f1.f0) ((rd_T40 l0 a1).f1.f1) ((rd_T40 l0 a1).f1.f2) ((rd_T40 l0 a1).f1.f3) ((rd_T40 l0 a1).f1.f4) t434 t435 t436 t437 t438 t439 t440 _ A17.out).mono ?_
     rintro e w23 ⟨rfl, hb⟩
     have HS0_ := (hb.cell (World.block_lt_of_cell? _ _ (hHeld.1))).trans (hHeld.1)
     have HS1_ := (hb.cell (World.block_lt_of_cell? _ _ (hHeld.2.1))).trans (hHeld.2.1)
     have HS2_ := (hb.cell (World.block_lt_of_cell? _ _ (hHeld.2.2.1))).trans (hHeld.2.2.1)
     have HS3_ := (hb.cell (World.block_lt_of_cell? _ _ (hHeld.2.2.2.1))).trans (hHeld.2.2.2.1)
     have HS4_ := (hb.cell (World.block_lt_of_cell? _ _ (hHeld.2.2.2.2.1))).trans (hHeld.2.2.2.2.1)
     have HS5_ := (hb.cell (World.block_lt_of_cell? _ _ (hHeld.2.2.2.2.2.1))).trans (hHeld.2.2.2.2.2.1)
     have HS6_ := (hb.cell (World.block_lt_of_cell? _ _ (hHeld.2.2.2.2.2.2.1))).trans (hHeld.2.2.2.2.2.2.1)
     have HS7_ := (hb.cell (World.block_lt_of_cell? _ _ (hHeld.2.2.2.2.2.2.2.1))).trans (hHeld.2.2.2.2.2.2.2.1)
     have HS8_ := (hb.cell (World.block_lt_of_cell? _ _ (hHeld.2.2.2.2.2.2.2.2.1))).trans (hHeld.2.2.2.2.2.2.2.2.1)
     have HS9_ := (hb.cell (World.block_lt_of_cell? _ _ (hHeld.2.2.2.2.2.2.2.2.2.1))).trans (hHeld.2.2.2.2.2.2.2.2.2.1)
     have HS10_ := (hb.cell (World.block_lt_of_cell? _ _ (hHeld.2.2.2.2.2.2.2.2.2.2.1))).trans (hHeld.2.2.2.2.2.2.2.2.2.2.1)
     have HS11_ := (hb.cell (World.block_lt_of_cell? _ _ (hHeld.2.2.2.2.2.2.2.2.2.2.2.1))).trans (hHeld.2.2.2.2.2.2.2.2.2.2.2.1)
     have HS12_ := (hb.cell (World.block_lt_of_cell? _ _ (hHeld.2.2.2.2.2.2.2.2.2.2.2.2.1))).trans (hHeld.2.2.2.2.2.2.2.2.2.2.2.2.1)
     have HS13_ := (hb.cell (World.block_lt_of_cell? _ _ (hHeld.2.2.2.2.2.2.2.2.2.2.2.2.2))).trans (hHeld.2.2.2.2.2.2.2.2.2.2.2.2.2)
     refine ⟨_, rfl, ?_⟩
     have n0_ := am (Kd.R_below (rr HO_0) hb)
     have n1_ := am (Kept.below (S := (fun k_ => P0_ k_)) (by repeat (first | (with_reducible first | exact HK.out | apply Kept.alloc | apply Kept.drewN | apply Kept.drew) | exact HK.out)) hb)
     have n2_ := am (below_step (rb HB) hb)
     clear HO_0
     clear HK
     clear HB
     have HO_0 := n0_
     have HK := n1_
     have HB := n2_
     clear n0_ n1_ n2_
     (try clear hb)
     (try clear hb2)
     (try clear hk)
     (try clear hi)
     have p18 : 0 ≤ ((ji11) : Int) := dt_
     have q18 : ((ji11) : Int) < ((l0.length : Int) : Int) := dt_
     obtain ⟨go18, co18, eo18, gb18, gl18, cl18, HG18⟩ := Kd.R_form HO_0.out (by omega)
     (first | cases eo18 | (injection eo18 with ea_ en_ ec_; (first | subst ea_ | (injection ea_ with ea_; subst ea_)); subst ec_; clear en_))
     have GB18 := am gb18
     have GG18 := am HG18
     clear gb18 gl18 HG18
     have HMgo18 := am (show (P0_ go18 ∨ w.heap.size ≤ go18) from (HO_0.out.1 _ rfl))
     (first | simp only [add_plain] at hx425_0 | skip)
     (first | simp only [add_plain] at hx425_1 | skip)
     (first | simp only [add_plain] at hx425_2 | skip)
     (first | simp only [add_plain] at hx425_3 | skip)
     (first | simp only [add_plain] at hx425_4 | skip)
     (first | simp only [add_plain] at hx425_5 | skip)
     (first | simp only [add_plain] at hx425_6 | skip)
     (first | simp only [add_plain] at hx433_0 | skip)
     (first | simp only [add_plain] at hx433_1 | skip)
     (first | simp only [add_plain] at hx433_2 | skip)
     (first | simp only [add_plain] at hx433_3 | skip)
     (first | simp only [add_plain] at hx433_4 | skip)
     (first | simp only [add_plain] at hx433_5 | skip)
     (first | simp only [add_plain] at hx433_6 | skip)
     obtain ⟨ce18, hcl18, hM18, hcc18, hfr18⟩ := Kd.R_elem HO_0.out z40 ((ji11) : Int) p18 q18
     obtain rfl := k40_openM hM18
     have hx18_0 : World.cell? _ ⟨go18, ((ji11) : Int).toNat * 7, none⟩ = some (.int .i64 ((rd_T40 l0 (ji11)).f0)) := hcc18 0 _ rfl
     have hx18_1 : World.cell? _ ⟨go18, ((ji11) : Int).toNat * 7 + 1, none⟩ = some (.int .i64 ((rd_T40 l0 (ji11)).f1.f0)) := hcc18 1 _ rfl
     have hx18_2 : World.cell? _ ⟨go18, ((ji11) : Int).toNat * 7 + 2, none⟩ = some (.int .i64 ((rd_T40 l0 (ji11)).f1.f1)) := hcc18 2 _ rfl
     have hx18_3 : World.cell? _ ⟨go18, ((ji11) : Int).toNat * 7 + 3, none⟩ = some (.bool ((rd_T40 l0 (ji11)).f1.f2)) := hcc18 3 _ rfl
     have hx18_4 : World.cell? _ ⟨go18, ((ji11) : Int).toNat * 7 + 4, none⟩ = some (.bool ((rd_T40 l0 (ji11)).f1.f3)) := hcc18 4 _ rfl
     have hx18_5 : World.cell? _ ⟨go18, ((ji11) : Int).toNat * 7 + 5, none⟩ = some (.bool ((rd_T40 l0 (ji11)).f1.f4)) := hcc18 5 _ rfl
     have hx18_6 : World.cell? _ ⟨go18, ((ji11) : Int).toNat * 7 + 6, none⟩ = some (.int .i64 ((rd_T40 l0 (ji11)).f2)) := hcc18 6 _ rfl
     have hf18_0 : World.frozen? _ ⟨go18, ((ji11) : Int).toNat * 7, none⟩ = false := hfr18 0
     have hf18_1 : World.frozen? _ ⟨go18, ((ji11) : Int).toNat * 7 + 1, none⟩ = false := hfr18 1
     have hf18_2 : World.frozen? _ ⟨go18, ((ji11) : Int).toNat * 7 + 2, none⟩ = false := hfr18 2
     have hf18_3 : World.frozen? _ ⟨go18, ((ji11) : Int).toNat * 7 + 3, none⟩ = false := hfr18 3
     have hf18_4 : World.frozen? _ ⟨go18, ((ji11) : Int).toNat * 7 + 4, none⟩ = false := hfr18 4
     have hf18_5 : World.frozen? _ ⟨go18, ((ji11) : Int).toNat * 7 + 5, none⟩ = false := hfr18 5
     have hf18_6 : World.frozen? _ ⟨go18, ((ji11) : Int).toNat * 7 + 6, none⟩ = false := hfr18 6
     clear hcl18 hcc18 hfr18 hM18
     replace p18 := eq_true p18
     replace q18 := eq_true q18
     obtain ⟨ce24, hcl24, hM24, hcc24, hfr24⟩ := Kd.R_elem HO_0.out z40 ((ji11) : Int) dt_ (by have h_ : ((ji11) : Int) < ((l0.length : Int) : Int) := dt_; first | exact h_ | (have e_ := (Kd.R_reads' HO_0.out).1; omega) | simpa using h_)
     obtain rfl := k40_openM hM24
     have HP24 := (Kd.R_seg HO_0.out ((ji11) : Int) dt_ (by have h_ : ((ji11) : Int) < ((l0.length : Int) : Int) := dt_; first | exact h_ | (have e_ := (Kd.R_reads' HO_0.out).1; omega) | simpa using h_) (seg := [.int .i64 t426, .int .i64 t427, .int .i64 t428, .bool t429, .bool t430, .bool t431, .int .i64 t432]) (j := 0) hcl24 hcc24 (show 7 ≤ 7 from by decide) (x' := (⟨t426, (⟨t427, t428, t429, t430, t431⟩ : S29), t432⟩ : S40)) (k40_mkM _ _ _ (⟨t426, (⟨t427, t428, t429, t430, t431⟩ : S29), t432⟩ : S40) ) (fun _ hk => hk)).1
     rw [← Ny441.out] at HP24
     have HQ24 := am HP24
     clear hcl24 hcc24 hfr24 hM24 HP24
     have p19 : 0 ≤ (a1 : Int) := dt_
     have q19 : (a1 : Int) < ((l0.length : Int) : Int) := dt_
     obtain ⟨ce19, hcl19, hM19, hcc19, hfr19⟩ := Kd.R_elem HQ24.out z40 (a1 : Int) p19 q19
     obtain rfl := k40_openM hM19
     have hx19_0 : World.cell? _ ⟨go18, (a1 : Int).toNat * 7, none⟩ = some (.int .i64 ((rd_T40 y441 a1).f0)) := hcc19 0 _ rfl
     have hx19_1 : World.cell? _ ⟨go18, (a1 : Int).toNat * 7 + 1, none⟩ = some (.int .i64 ((rd_T40 y441 a1).f1.f0)) := hcc19 1 _ rfl
     have hx19_2 : World.cell? _ ⟨go18, (a1 : Int).toNat * 7 + 2, none⟩ = some (.int .i64 ((rd_T40 y441 a1).f1.f1)) := hcc19 2 _ rfl
     have hx19_3 : World.cell? _ ⟨go18, (a1 : Int).toNat * 7 + 3, none⟩ = some (.bool ((rd_T40 y441 a1).f1.f2)) := hcc19 3 _ rfl
     have hx19_4 : World.cell? _ ⟨go18, (a1 : Int).toNat * 7 + 4, none⟩ = some (.bool ((rd_T40 y441 a1).f1.f3)) := hcc19 4 _ rfl
     have hx19_5 : World.cell? _ ⟨go18, (a1 : Int).toNat * 7 + 5, none⟩ = some (.bool ((rd_T40 y441 a1).f1.f4)) := hcc19 5 _ rfl
     have hx19_6 : World.cell? _ ⟨go18, (a1 : Int).toNat * 7 + 6, none⟩ = some (.int .i64 ((rd_T40 y441 a1).f2)) := hcc19 6 _ rfl
     have hf19_0 : World.frozen? _ ⟨go18, (a1 : Int).toNat * 7, none⟩ = false := hfr19 0
     have hf19_1 : World.frozen? _ ⟨go18, (a1 : Int).toNat * 7 + 1, none⟩ = false := hfr19 1
     have hf19_2 : World.frozen? _ ⟨go18, (a1 : Int).toNat * 7 + 2, none⟩ = false := hfr19 2
     have hf19_3 : World.frozen? _ ⟨go18, (a1 : Int).toNat * 7 + 3, none⟩ = false := hfr19 3
     have hf19_4 : World.frozen? _ ⟨go18, (a1 : Int).toNat * 7 + 4, none⟩ = false := hfr19 4
     have hf19_5 : World.frozen? _ ⟨go18, (a1 : Int).toNat * 7 + 5, none⟩ = false := hfr19 5
     have hf19_6 : World.frozen? _ ⟨go18, (a1 : Int).toNat * 7 + 6, none⟩ = false := hfr19 6
     clear hcl19 hcc19 hfr19 hM19
     replace p19 := eq_true p19
     replace q19 := eq_true q19
     obtain ⟨ce25, hcl25, hM25, hcc25, hfr25⟩ := Kd.R_elem HQ24.out z40 (a1 : Int) dt_ (by have h_ : (a1 : Int) < ((l0.length : Int) : Int) := dt_; first | exact h_ | (have e_ := (Kd.R_reads' HO_0.out).1; omega) | simpa using h_)
     obtain rfl := k40_openM hM25
     have HP25 := (Kd.R_seg HQ24.out (a1 : Int) dt_ (by have h_ : (a1 : Int) < ((l0.length : Int) : Int) := dt_; first | exact h_ | (have e_ := (Kd.R_reads' HO_0.out).1; omega) | simpa using h_) (seg := [.int .i64 t434, .int .i64 t435, .int .i64 t436, .bool t437, .bool t438, .bool t439, .int .i64 t440]) (j := 0) hcl25 hcc25 (show 7 ≤ 7 from by decide) (x' := (⟨t434, (⟨t435, t436, t437, t438, t439⟩ : S29), t440⟩ : S40)) (k40_mkM _ _ _ (⟨t434, (⟨t435, t436, t437, t438, t439⟩ : S29), t440⟩ : S40) ) (fun _ hk => hk)).1
     rw [← Ny442.out] at HP25
     have HQ25 := am HP25
     clear hcl25 hcc25 hfr25 hM25 HP25
     refine hK.out _ _ ⟨HS0_, HS1_, HS2_, HS3_, HS4_, HS5_, HS6_, HS7_, HS8_, HS9_, HS10_, HS11_, HS12_, HS13_⟩ (fun hHeld => ?_)
     clear hK K
     refine norm_ (a' := ?_) ?_ ?_
     rotate_left
     ·show Act.put _ (some 34) _ = _
      simp only [Act.put, List.setIfInBounds_toArray, List.set_cons_zero, List.set_cons_succ, i64_w, i32_w]
      rfl
     refine pu_ 18 35 (bm 22 524287) HT_.out ?_
     refine last_ (i := 19) (N := none) (bm 22 1048575) rfl rfl (one_of HT_.out (by kernel_rfl)) (by decide) (fun K hK => ?_)
     refine skip_ (w1 := ?_) (by rfl) rfl ?_ ?_
     rotate_left
     ·go_simp
      rfl
     refine hK.out _ _ ?_
     clear hK K
     refine impl_part.lw (w := (w23.setCells go18 (((ji11) : Int).toNat * (k40).sz + 0) [.int .i64 t426, .int .i64 t427, .int .i64 t428, .bool t429, .bool t430, .bool t431, .int .i64 t432])) rfl ?_
     have HBa_ := am (impl_part.bset GB18.out [.int .i64 t426, .int .i64 t427, .int .i64 t428, .bool t429, .bool t430, .bool t431, .int .i64 t432] (((ji11) : Int).toNat * (k40).sz + 0) HB.out)
     have HKa_ := am (impl_part.kset HMgo18.out [.int .i64 t426, .int .i64 t427, .int .i64 t428, .bool t429, .bool t430, .bool t431, .int .i64 t432] (((ji11) : Int).toNat * (k40).sz + 0) HK.out)
     clear HB HK
     have HB := HBa_
     have HK := HKa_
     clear HBa_ HKa_
     generalize (w23.setCells go18 (((ji11) : Int).toNat * (k40).sz + 0) [.int .i64 t426, .int .i64 t427, .int .i64 t428, .bool t429, .bool t430, .bool t431, .int .i64 t432]) = wz_ at HB HK HQ24 HQ25 hx19_0 hx19_1 hx19_2 hx19_3 hx19_4 hx19_5 hx19_6 hf19_0 hf19_1 hf19_2 hf19_3 hf19_4 hf19_5 hf19_6 ⊢
     refine pu_ 20 36 (bm 22 2097151) HT_.out ?_
     refine last_ (i := 21) (N := none) (bm 22 4194303) rfl rfl (one_of HT_.out (by kernel_rfl)) (by decide) (fun K hK => ?_)
     refine skip_ (w1 := ?_) (by rfl) rfl ?_ ?_
     rotate_left
     ·go_simp
      rfl
     refine hK.out _ _ ?_
     clear hK K
     refine done_ (done_of HT_.out (by kernel_rfl)) ?_
     try go_wp2
     first | go_end0 | ((try simp only [Exit.inBlock, Exit.then]); refine bodyPost_ret (results_none rfl _ _ _) rfl ?_)
     exact ⟨by first | rfl | (simp [errW_none, errW_some] <;> rfl) | (simp only [← hji11]; first | rfl | (simp [errW_none, errW_some] <;> rfl)) | (simp [*, errW_none, errW_some] <;> rfl), by (with_reducible repeat (first | apply r1 | apply r2 | apply r3)); exact HQ25.out, by repeat (first | (with_reducible first | exact HB.out | apply b1 | apply b2 | apply b3 | refine below_set ?_ GB18.out | refine below_set ?_ GB18.out | refine below_set ?_ GB18.out | refine below_set ?_ GB18.out | refine below_set ?_ GB18.out | refine below_set ?_ GB18.out | refine below_set ?_ GB18.out | refine below_set ?_ GB18.out | refine below_set ?_ GB18.out | refine below_set ?_ GB18.out | refine below_set ?_ GB18.out | refine below_set ?_ GB18.out | refine below_set ?_ GB18.out | refine below_set ?_ GB18.out) | exact HB.out), by repeat (first | (with_reducible first | exact HK.out | apply Kept.alloc | apply Kept.drewN | apply Kept.drew | refine Kept.setCell ?_ HMgo18.out _ | refine Kept.setCell ?_ HMgo18.out _ | refine Kept.setCell ?_ HMgo18.out _ | refine Kept.setCell ?_ HMgo18.out _ | refine Kept.setCell ?_ HMgo18.out _ | refine Kept.setCell ?_ HMgo18.out _ | refine Kept.setCell ?_ HMgo18.out _ | refine Kept.setCell ?_ HMgo18.out _ | refine Kept.setCell ?_ HMgo18.out _ | refine Kept.setCell ?_ HMgo18.out _ | refine Kept.setCell ?_ HMgo18.out _ | refine Kept.setCell ?_ HMgo18.out _ | refine Kept.setCell ?_ HMgo18.out _ | refine Kept.setCell ?_ HMgo18.out _) | exact HK.out)⟩
   ·replace c10 := Bool.eq_false_iff.mpr c10
    subst c10
    have H1 : (some l0) = some r := by rw [if_neg (show ¬ (false = true) by decide)] at H; exact H
    clear H
    have H := H1
    clear H1
    obtain rfl := Option.some.inj H
    go_wp2
    first | go_end0 | ((try simp only [Exit.inBlock, Exit.then]); refine bodyPost_ret (results_none rfl _ _ _) rfl ?_)
    exact ⟨by first | rfl | (simp [errW_none, errW_some] <;> rfl) | (simp [*, errW_none, errW_some] <;> rfl), by (with_reducible repeat (first | apply r1 | apply r2 | apply r3)); exact HO_0.out, by repeat (first | (with_reducible first | exact HB.out | apply b1 | apply b2 | apply b3) | exact HB.out), by repeat (first | (with_reducible first | exact HK.out | apply Kept.alloc | apply Kept.drewN | apply Kept.drew) | exact HK.out)⟩

end Go.Proofs.Ytfhkpneffmcdbaa.QE
