/- Contracts of Go functions that laws of this seat reach: each Lean function answers as its Go function does. No condition. Written by wip/tools/inj.py, over the kit's print. -/
import Derived.Test.YtepeanpoicefdaaDoorPBx0
import Derived.Test.YtepeanpoicefdaaDoorPBx21
import Derived.Test.YtepeanpoicefdaaDoorPBx27
namespace Go.Proofs.YtepeanpoicefdaaDoor.PB
open Go.RowKit Go.Proofs.YtepeanpoicefdaaDoorW.PrintWords Go.Proofs.YtepeanpoicefdaaDoorW.PrintLast Go.Proofs.YtepeanpoicefdaaDoorW.PrintMore
attribute [local go_sem] max2_int min2_int max_two min_two max_three min_three max_four min_four   -- for this text's walks alone
set_option linter.unusedVariables false
set_option linter.unusedSimpArgs false

/-! ### spec_l4Text: function 59 -/
mutual
def spec_l4Text.j1 : Nat → List (S48) → Int → Option (ByteArray)
 | 0, _, _ => none
 | k + 1, x0, x3 => spec_l4Text.l1 k x0 x3 (([] : List Int)) 0
def spec_l4Text.l1 : Nat → List (S48) → Int → List Int → Int → Option (ByteArray)
 | 0, _, _, _, _ => none
 | k + 1, x0, x3, x4, x5 => if x5 < x3 then (if 0 ≤ x5 then (if x5 < (x0.length : Int) then (if ((rd_T48 x0 x5).f2) = 2 then (spec_l4Text.l1 k x0 x3 x4 (wrap64 (x5 + 1))) else (if x4.length < 17592186044416 then (spec_l4Text.l1 k x0 x3 (x4 ++ [(rd_T48 x0 x5).f0]) (wrap64 (x5 + 1))) else (none))) else (none)) else (none)) else ((spec_Text.f k x4).bind fun t709 => (some t709))
def spec_l4Text.l0 : Nat → List (S48) → Int → Option (ByteArray)
 | 0, _, _ => none
 | k + 1, x0, x3 => if x3 > 0 then (if 0 ≤ (wrap64 (x3 - 1)) then (if (wrap64 (x3 - 1)) < (x0.length : Int) then (if ((rd_T48 x0 (wrap64 (x3 - 1))).f0) = 32 then (spec_l4Text.l0 k x0 (wrap64 (x3 - 1))) else (spec_l4Text.j1 k x0 x3)) else (none)) else (none)) else (spec_l4Text.j1 k x0 x3)
end
def spec_l4Text.f (k : Nat) (l0 : List (S48)) : Option (ByteArray) := spec_l4Text.l0 k l0 (l0.length : Int)
theorem spec_l4Text.mono_l : ∀ k, (∀ y0 y1, LeO (spec_l4Text.j1 k y0 y1) (spec_l4Text.j1 (k + 1) y0 y1)) ∧ (∀ y0 y1 y2 y3, LeO (spec_l4Text.l1 k y0 y1 y2 y3) (spec_l4Text.l1 (k + 1) y0 y1 y2 y3)) ∧ (∀ y0 y1, LeO (spec_l4Text.l0 k y0 y1) (spec_l4Text.l0 (k + 1) y0 y1))
 | 0 => ⟨fun _ _ r h => by simp [spec_l4Text.j1] at h, fun _ _ _ _ r h => by simp [spec_l4Text.l1] at h, fun _ _ r h => by simp [spec_l4Text.l0] at h⟩
 | k + 1 => by
  obtain ⟨ih0, ih1, ih2⟩ := spec_l4Text.mono_l k
  refine ⟨?_, ?_, ?_⟩
  ·intro y0 y1
   unfold spec_l4Text.j1
   repeat' first
   | (with_reducible exact ih0 _ _)
   | (with_reducible exact ih1 _ _ _ _)
   | (with_reducible exact ih2 _ _)
   | (with_reducible exact spec_Text.mono _ _)
   | (with_reducible exact LeO.refl _)
   | (with_reducible exact LeO.none _)
   | (with_reducible refine LeO.ite ?_ ?_)
   | (with_reducible refine LeO.bind ?_ (fun _ => ?_))
  ·intro y0 y1 y2 y3
   unfold spec_l4Text.l1
   repeat' first
   | (with_reducible exact ih0 _ _)
   | (with_reducible exact ih1 _ _ _ _)
   | (with_reducible exact ih2 _ _)
   | (with_reducible exact spec_Text.mono _ _)
   | (with_reducible exact LeO.refl _)
   | (with_reducible exact LeO.none _)
   | (with_reducible refine LeO.ite ?_ ?_)
   | (with_reducible refine LeO.bind ?_ (fun _ => ?_))
  ·intro y0 y1
   unfold spec_l4Text.l0
   repeat' first
   | (with_reducible exact ih0 _ _)
   | (with_reducible exact ih1 _ _ _ _)
   | (with_reducible exact ih2 _ _)
   | (with_reducible exact spec_Text.mono _ _)
   | (with_reducible exact LeO.refl _)
   | (with_reducible exact LeO.none _)
   | (with_reducible refine LeO.ite ?_ ?_)
   | (with_reducible refine LeO.bind ?_ (fun _ => ?_))
theorem spec_l4Text.mono : ∀ a0 k, LeO (spec_l4Text.f k a0) (spec_l4Text.f (k + 1) a0) := by
 intro a0 k
 obtain ⟨ih0, ih1, ih2⟩ := spec_l4Text.mono_l k
 unfold spec_l4Text.f
 repeat' first
   | (with_reducible exact ih0 _ _)
   | (with_reducible exact ih1 _ _ _ _)
   | (with_reducible exact ih2 _ _)
   | (with_reducible exact spec_Text.mono _ _)
   | (with_reducible exact LeO.refl _)
   | (with_reducible exact LeO.none _)
   | (with_reducible refine LeO.ite ?_ ?_)
   | (with_reducible refine LeO.bind ?_ (fun _ => ?_))
set_option maxHeartbeats 8000000 in
set_option maxRecDepth 100000 in
theorem spec_l4Text.calls (k : Nat) (A0 : Option Addr) (c0 : Nat) (l0 : List (S48)) (r : ByteArray) (w : World) (hr0 : Kd.C k48 w A0 l0.length l0) (hc0 : l0.length ≤ c0) (h : spec_l4Text.f k l0 = some r) :
  Calls Tryd.prog 59 #[.slice A0 l0.length c0] w fun e w' => e = .returned (.string r) ∧ Below w.heap.size w w' := by
 have HR0 := am hr0
 have HC0 := am hc0
 clear hr0 hc0
 have HB := am (Below.refl w.heap.size w)
 have H : (spec_l4Text.l0 k l0 (l0.length : Int)) = some r := h
 clear h
 have HC2 := am H
 clear H
 go_enter Tryd.func59, Tryd.ntmps59
 go_upto_block 0 with (fail)
 go_cut [3] (fun v3 wc => ∃ (kq : Nat) (x3_1 : Int), v3 = .int .i64 x3_1 ∧ Aside0 (spec_l4Text.j1 kq l0 x3_1 = some r) ∧ Aside0 (kq ≤ k) ∧ Aside0 (Below w.heap.size w wc))
 case first =>
  have H := HC2.out
  clear HC2
  have H' := am H
  clear H
  go_wp2
  go_loopg [3] k (fun kq v3 w' => ∃ (x3_1 : Int), v3 = .int .i64 x3_1 ∧ Aside0 (spec_l4Text.l0 kq l0 x3_1 = some r) ∧ Aside0 (kq ≤ k) ∧ Aside0 (Below w.heap.size w w'))
  case atStart => exact ⟨((l0.length : Int)), (by first | rfl | (simp; done) | (simp [*]; done)), H', ⟨Nat.le_refl _⟩, ⟨rb HB⟩⟩
  case round =>
   clear H'
   try clear p2
   obtain ⟨x3_1, rfl, HA, HK1, HB⟩ := hrel
   cases gk with
   | zero => exact absurd HA.out (by simp [spec_l4Text.l0])
   | succ k1 =>
    have H := HA.out
    clear HA
    simp only [spec_l4Text.l0] at H
    refine em_ (p := x3_1 > 0) (fun c3 => ?g0p) (fun c3 => ?g0n)
    case g0p =>
     rw [if_pos c3] at H
     have c3b0 : decide (0 < x3_1) = true := decide_eq_true c3
     clear c3
     (first | rw [c3b0] | (simp only [i64_w, i32_w]; rw [c3b0]) | skip)
     obtain ⟨ji4, hji4⟩ : ∃ j_ : Int, (wrap64 (x3_1 - 1)) = j_ := ⟨_, rfl⟩
     replace H : (if 0 ≤ (ji4) then (if (ji4) < (l0.length : Int) then (if ((rd_T48 l0 (ji4)).f0) = 32 then (spec_l4Text.l0 k1 l0 ji4) else (spec_l4Text.j1 k1 l0 x3_1)) else (none)) else (none)) = some r := by first | (rw [hji4] at H; exact H) | (simp only [hji4] at H ⊢; exact H)
     have hji4w : (IntKind.i64.wrap (x3_1 - 1)) = ji4 := (i64_w _).trans hji4
     by_cases c5 : 0 ≤ (ji4)
     ·rw [if_pos c5] at H
      have c5b0 : decide (0 ≤ (ji4)) = true := decide_eq_true c5
      clear c5
      by_cases c6 : (ji4) < (l0.length : Int)
      ·rw [if_pos c6] at H
       have c6b0 : decide ((ji4) < (l0.length : Int)) = true := decide_eq_true c6
       clear c6
       by_cases c7 : ((rd_T48 l0 (ji4)).f0) = 32
       ·rw [if_pos c7] at H
        have c7b0 : (((rd_T48 l0 (ji4)).f0) == 32) = true := beq_iff_eq.mpr c7
        have c7b1 : (((rd_T48 l0 (ji4)).f0) != 32) = false := bne_eq_false_iff_eq.mpr c7
        clear c7
        have H' := am H
        clear H
        have p700 : 0 ≤ ((ji4) : Int) := dt_
        have q700 : (ji4) < (l0.length : Int) := dt_
        obtain ⟨ad700, e700, hx700_0, hx700_1, hx700_2, hx700_3, hx700_4, hx700_5, hx700_6⟩ := at_T48 HR0.out (ji4) p700 q700
        cases e700
        replace hx700_0 := mv HB.out hx700_0
        replace hx700_1 := mv HB.out hx700_1
        replace hx700_2 := mv HB.out hx700_2
        replace hx700_3 := mv HB.out hx700_3
        replace hx700_4 := mv HB.out hx700_4
        replace hx700_5 := mv HB.out hx700_5
        replace hx700_6 := mv HB.out hx700_6
        replace p700 := eq_true p700
        replace q700 := eq_true q700
        go_wp2
        go_roundg k1
        case measure => have := HK1.out; omega
        case rel => exact ⟨(ji4), (by first | rfl | (simp; done) | (simp only [← hji4] <;> (first | rfl | simp)) | (simp [*]; done)), H', ⟨by have := HK1.out; omega⟩, ⟨rb HB⟩⟩
       ·rw [if_neg c7] at H
        have c7b0 : (((rd_T48 l0 (ji4)).f0) == 32) = false := beq_eq_false_iff_ne.mpr c7
        have c7b1 : (((rd_T48 l0 (ji4)).f0) != 32) = true := bne_iff_ne.mpr c7
        have H' := am H
        clear H
        have p700 : 0 ≤ ((ji4) : Int) := dt_
        have q700 : (ji4) < (l0.length : Int) := dt_
        obtain ⟨ad700, e700, hx700_0, hx700_1, hx700_2, hx700_3, hx700_4, hx700_5, hx700_6⟩ := at_T48 HR0.out (ji4) p700 q700
        cases e700
        replace hx700_0 := mv HB.out hx700_0
        replace hx700_1 := mv HB.out hx700_1
        replace hx700_2 := mv HB.out hx700_2
        replace hx700_3 := mv HB.out hx700_3
        replace hx700_4 := mv HB.out hx700_4
        replace hx700_5 := mv HB.out hx700_5
        replace hx700_6 := mv HB.out hx700_6
        replace p700 := eq_true p700
        replace q700 := eq_true q700
        go_wp2
        go_meet
        case rel => exact ⟨_, (x3_1), (by first | rfl | (simp; done) | (simp [*]; done)), H', ⟨by have := HK1.out; first | omega | exact Nat.le_refl _⟩, ⟨rb HB⟩⟩
      ·rw [if_neg c6] at H
       exact absurd H (by simp)
     ·rw [if_neg c5] at H
      exact absurd H (by simp)
    case' g0n =>
     rw [if_neg c3] at H
     have c3b0 : decide (0 < x3_1) = false := decide_eq_false c3
     clear c3
     (first | rw [c3b0] | (simp only [i64_w, i32_w]; rw [c3b0]) | skip)
     have H' := am H
     clear H
     have lf3_ := trivial
    all_goals
     go_wp2
     go_meet
     case rel => exact ⟨_, (x3_1), (by first | rfl | (simp; done) | (simp [*]; done)), H', ⟨by have := HK1.out; first | omega | exact Nat.le_refl _⟩, ⟨rb HB⟩⟩
 case rest =>
  clear HC2
  try clear p2
  try clear c3
  try clear c3b0
  try clear c5
  try clear c5b0
  try clear c6
  try clear c6b0
  try clear p6
  try clear c7
  try clear c7b0
  try clear c7b1
  try clear p7
  try clear q7
  try clear hx7
  try clear hx700_0
  try clear hx700_1
  try clear hx700_2
  try clear hx700_3
  try clear hx700_4
  try clear hx700_5
  try clear hx700_6
  try clear p2
  try clear p700
  try clear q700
  obtain ⟨kq, x3_1, rfl, HA, HJ1, HB⟩ := hcut
  cases kq with
  | zero => exact absurd HA.out (by simp [spec_l4Text.j1])
  | succ kj1 =>
   have H := HA.out
   clear HA
   simp only [spec_l4Text.j1] at H
   obtain ⟨y701, hy701⟩ : ∃ y_ : List Int, y_ = (([] : List Int)) := ⟨_, rfl⟩
   replace H : (spec_l4Text.l1 kj1 l0 x3_1 y701 0) = some r := by first | (rw [hy701]; with_reducible exact H) | (rw [hy701]; exact H) | exact H
   have Ny701 := am hy701
   clear hy701
   have H' := am H
   clear H
   go_wp2_with (first | ((with_reducible refine gate_dst (N := 21) rfl ?_); refine Kd.R_lit (Kd.int .i64) _ 2 ?hg (N := 21) ?hd (xs := ([] : List Int)) (inner := []) (ok := fun _ => True) (okp := fun _ => True) ?hr ?hp (fun _ hk => hk) trivial (Below.refl _ _) (Nat.le_refl _) (by simp) ?_; (case hd => rfl); (case hg => rfl); (case hr => first | (go_simp; done) | (go_simp; rfl)); (case hp => exact (Reps.none _ _)); intro v702 w8 ho9 hb hg_ hnew_; clear hg_ hnew_; (first | rw [← Ny701.out] at ho9 | (simp only [Int.reduceToNat] at ho9; rw [← Ny701.out] at ho9)); have n0_ := am (Kd.R_lower ho9 (below_size (rb HB))); have n1_ := am (below_step (rb HB) hb); clear HB; have HO703 := n0_; have HB := n1_; clear n0_ n1_; clear hb ho9))
   go_loopg [4, 5] kj1 (fun kq v4 v5 w' => ∃ (x4_2 : List Int) (x5_2 : Int), v5 = .int .i64 x5_2 ∧ Aside0 (spec_l4Text.l1 kq l0 x3_1 x4_2 x5_2 = some r) ∧ Aside0 (kq ≤ kj1) ∧ Aside0 (Kd.R (Kd.int .i64) 2 w' w.heap.size (fun _ => True) v4 x4_2) ∧ Aside0 (Below w.heap.size w w'))
   case atStart => exact ⟨(y701), (0), (by first | rfl | (simp; done) | (simp [*]; done)), H', ⟨Nat.le_refl _⟩, ⟨rr HO703⟩, ⟨rb HB⟩⟩
   case round =>
    clear H'
    try clear p2
    try clear c3
    try clear c3b0
    try clear c5
    try clear c5b0
    try clear c6
    try clear c6b0
    try clear p6
    try clear c7
    try clear c7b0
    try clear c7b1
    try clear p7
    try clear q7
    try clear hx7
    try clear hx700_0
    try clear hx700_1
    try clear hx700_2
    try clear hx700_3
    try clear hx700_4
    try clear hx700_5
    try clear hx700_6
    try clear p2
    try clear p6
    try clear p7
    try clear p700
    try clear q7
    try clear q700
    obtain ⟨x4_2, x5_2, rfl, HA, HK2, HO_4, HB⟩ := hrel
    cases gk with
    | zero => exact absurd HA.out (by simp [spec_l4Text.l1])
    | succ k2 =>
     have H := HA.out
     clear HA
     simp only [spec_l4Text.l1] at H
     refine em_ (p := x5_2 < x3_1) (fun c10 => ?g2p) (fun c10 => ?g2n)
     case g2p =>
      rw [if_pos c10] at H
      have c10b0 : decide (x5_2 < x3_1) = true := decide_eq_true c10
      clear c10
      refine em_ (p := 0 ≤ x5_2) (fun c11 => ?g5p) (fun c11 => ?g5n)
      case' g5p =>
       rw [if_pos c11] at H
       have c11b0 : decide (0 ≤ x5_2) = true := decide_eq_true c11
       clear c11
       refine em_ (p := x5_2 < (l0.length : Int)) (fun c12 => ?g4p) (fun c12 => ?g4n)
       case' g4p =>
        rw [if_pos c12] at H
        have c12b0 : decide (x5_2 < (l0.length : Int)) = true := decide_eq_true c12
        clear c12
        refine em_ (p := ((rd_T48 l0 x5_2).f2) = 2) (fun c13 => ?g3p) (fun c13 => ?g3n)
        case' g3p =>
         rw [if_pos c13] at H
         have c13b0 : (((rd_T48 l0 x5_2).f2) == 2) = true := beq_iff_eq.mpr c13
         have c13b1 : (((rd_T48 l0 x5_2).f2) != 2) = false := bne_eq_false_iff_eq.mpr c13
         clear c13
         have H' := am H
         clear H
         have lf9_ := trivial
        case g3n =>
         rw [if_neg c13] at H
         have c13b0 : (((rd_T48 l0 x5_2).f2) == 2) = false := beq_eq_false_iff_ne.mpr c13
         have c13b1 : (((rd_T48 l0 x5_2).f2) != 2) = true := bne_iff_ne.mpr c13
         refine em_ (p := x4_2.length < 17592186044416) (fun c14 => ?g1p) (fun c14 => ?g1n)
         case' g1p =>
          rw [if_pos c14] at H
          have LMc14 := am c14
          clear c14
          obtain ⟨y706, hy706⟩ : ∃ y_ : List Int, y_ = (x4_2 ++ [(rd_T48 l0 x5_2).f0]) := ⟨_, rfl⟩
          replace H : (spec_l4Text.l1 k2 l0 x3_1 y706 (wrap64 (x5_2 + 1))) = some r := by first | (rw [hy706]; with_reducible exact H) | (rw [hy706]; exact H) | exact H
          have Ny706 := am hy706
          clear hy706
          have H' := am H
          clear H
          have lf7_ := trivial
         case g1n =>
          rw [if_neg c14] at H
          exact absurd H (by simp)
         all_goals
          have p704 : 0 ≤ (x5_2 : Int) := dt_
          have q704 : x5_2 < (l0.length : Int) := dt_
          obtain ⟨ad704, e704, hx704_0, hx704_1, hx704_2, hx704_3, hx704_4, hx704_5, hx704_6⟩ := at_T48 HR0.out x5_2 p704 q704
          cases e704
          replace hx704_0 := mv HB.out hx704_0
          replace hx704_1 := mv HB.out hx704_1
          replace hx704_2 := mv HB.out hx704_2
          replace hx704_3 := mv HB.out hx704_3
          replace hx704_4 := mv HB.out hx704_4
          replace hx704_5 := mv HB.out hx704_5
          replace hx704_6 := mv HB.out hx704_6
          replace p704 := eq_true p704
          replace q704 := eq_true q704
          have p705 : 0 ≤ (x5_2 : Int) := dt_
          have q705 : x5_2 < (l0.length : Int) := dt_
          obtain ⟨ad705, e705, hx705_0, hx705_1, hx705_2, hx705_3, hx705_4, hx705_5, hx705_6⟩ := at_T48 HR0.out x5_2 p705 q705
          obtain rfl : ad704 = ad705 := (by injection e705)
          replace hx705_0 := mv HB.out hx705_0
          replace hx705_1 := mv HB.out hx705_1
          replace hx705_2 := mv HB.out hx705_2
          replace hx705_3 := mv HB.out hx705_3
          replace hx705_4 := mv HB.out hx705_4
          replace hx705_5 := mv HB.out hx705_5
          replace hx705_6 := mv HB.out hx705_6
          replace p705 := eq_true p705
          replace q705 := eq_true q705
          go_wp2_with (first | ((with_reducible refine gate_builtin (b := .append) (xs := #[.tmp 33, .tmp 39]) rfl ?_); at_builtin; refine Kd.R_append (Kd.int .i64) (w0 := w) w.heap.size rfl (.tmp 33) (.tmp 39) 74 2 (.int .i64 0) 8 rfl Tryd.underlying74 info2 rfl (by decide) (by omega) u4 x4_2 ((rd_T48 l0 x5_2).f0) [.int .i64 ((rd_T48 l0 x5_2).f0)] (fun _ => True) (fun _ => False) rfl rfl ?aP (fun _ hk => hk.elim) ?aF ?aO ?aB ?aS ?aL ?_; (case aP => exact rfl); (case aB => exact (rb HB)); (case aF => exact (fun _ _ => trivial)); (case aO => exact (rr HO_4)); (case aS => exact (below_size (rb HB))); (case aL => have := LMc14.out; omega); intro v707 w15 ho hb hg hat; rw [← Ny706.out] at ho; have n0_ := am (hb); have n1_ := am (ho); clear HB; clear HO_4; have HB := n0_; have HO708 := n1_; clear n0_ n1_; clear ho hb hg hat))
          go_roundg k2
          case measure => have := HJ1.out; have := HK2.out; omega
          case rel => exact ⟨(y706), (wrap64 (x5_2 + 1)), (by first | rfl | (simp; done) | (simp [*]; done)), H', ⟨by have := HJ1.out; have := HK2.out; omega⟩, ⟨rr HO708⟩, ⟨rb HB⟩⟩
       case g4n =>
        rw [if_neg c12] at H
        exact absurd H (by simp)
      case g5n =>
       rw [if_neg c11] at H
       exact absurd H (by simp)
      all_goals
       have p704 : 0 ≤ (x5_2 : Int) := dt_
       have q704 : x5_2 < (l0.length : Int) := dt_
       obtain ⟨ad704, e704, hx704_0, hx704_1, hx704_2, hx704_3, hx704_4, hx704_5, hx704_6⟩ := at_T48 HR0.out x5_2 p704 q704
       cases e704
       replace hx704_0 := mv HB.out hx704_0
       replace hx704_1 := mv HB.out hx704_1
       replace hx704_2 := mv HB.out hx704_2
       replace hx704_3 := mv HB.out hx704_3
       replace hx704_4 := mv HB.out hx704_4
       replace hx704_5 := mv HB.out hx704_5
       replace hx704_6 := mv HB.out hx704_6
       replace p704 := eq_true p704
       replace q704 := eq_true q704
       go_wp2
       go_roundg k2
       case measure => have := HJ1.out; have := HK2.out; omega
       case rel => exact ⟨(x4_2), (wrap64 (x5_2 + 1)), (by first | rfl | (simp; done) | (simp [*]; done)), H', ⟨by have := HJ1.out; have := HK2.out; omega⟩, ⟨rr HO_4⟩, ⟨rb HB⟩⟩
     case' g2n =>
      rw [if_neg c10] at H
      have c10b0 : decide (x5_2 < x3_1) = false := decide_eq_false c10
      clear c10
      replace H := Option.bind_eq_some_iff.mp H
      obtain ⟨t709, A160, H⟩ := H
      replace H : (some t709) = some r := H
      have A16 := am A160
      clear A160
      obtain rfl := Option.some.inj H
      obtain ⟨Ao17, co17, eo17⟩ := Kd.R_slice HO_4.out
      subst eo17
      have lf8_ := trivial
     all_goals
      go_wp2_with (first | ((with_reducible refine gate_callee (f := 82) rfl ?_); refine gl_ (some 42) Tryd.func82 #[.slice Ao17 x4_2.length co17] ?_; (with_reducible refine (spec_Text.calls k2 _ _ x4_2 t709 _ ?side1 ?side2 A16.out).mono ?_); (case side1 => repeat (first | exact (Kd.R_reads' HO_4.out).2.2 | (with_reducible refine Kd.C_alloc ?_ _) | (with_reducible refine Kd.C_drewN ?_ _) | (with_reducible refine Kd.C_drew ?_))); (case side2 => exact (Kd.R_reads' HO_4.out).2.1); rintro e w18 ⟨rfl, hb⟩; refine ⟨_, rfl, ?_⟩; have n0_ := am (Kd.R_below (rr HO_4) hb); have n1_ := am (below_step (rb HB) hb); clear HO_4; clear HB; have HO_4 := n0_; have HB := n1_; clear n0_ n1_; (try clear hb); (try clear hb2); (try clear hk); (try clear hi)))
      go_ret
      exact ⟨by first | rfl | (simp [errW_none, errW_some] <;> rfl) | (simp [*, errW_none, errW_some] <;> rfl), by repeat (first | (with_reducible first | exact HB.out | apply b1 | apply b2 | apply b3) | exact HB.out)⟩

/-! ### spec_RowText: function 24 -/
def spec_RowText.f (k : Nat) (l0 : List (S48)) : Option (ByteArray) := (spec_RowOk.f k l0).bind fun t710 => (if t710 = true then ((spec_l4Text.f k l0).bind fun t711 => (some t711)) else (some (⟨#[]⟩ : ByteArray)))
theorem spec_RowText.mono : ∀ a0 k, LeO (spec_RowText.f k a0) (spec_RowText.f (k + 1) a0) := by
 intro a0 k
 unfold spec_RowText.f
 repeat' first
   | (with_reducible exact spec_RowOk.mono _ _)
   | (with_reducible exact spec_l4Text.mono _ _)
   | (with_reducible exact LeO.refl _)
   | (with_reducible exact LeO.none _)
   | (with_reducible refine LeO.ite ?_ ?_)
   | (with_reducible refine LeO.bind ?_ (fun _ => ?_))
set_option maxHeartbeats 8000000 in
set_option maxRecDepth 100000 in
theorem spec_RowText.calls (k : Nat) (A0 : Option Addr) (c0 : Nat) (l0 : List (S48)) (r : ByteArray) (w : World) (hr0 : Kd.C k48 w A0 l0.length l0) (hc0 : l0.length ≤ c0) (h : spec_RowText.f k l0 = some r) :
  Calls Tryd.prog 24 #[.slice A0 l0.length c0] w fun e w' => e = .returned (.string r) ∧ Below w.heap.size w w' := by
 have HR0 := am hr0
 have HC0 := am hc0
 clear hr0 hc0
 have HB := am (Below.refl w.heap.size w)
 have H := h
 unfold spec_RowText.f at H
 clear h
 replace H := Option.bind_eq_some_iff.mp H
 obtain ⟨t710, A20, H⟩ := H
 (try dsimp only at H)
 have A2 := am A20
 clear A20
 by_cases c3 : t710 = true
 ·subst c3
  have H1 : ((spec_l4Text.f k l0).bind fun t711 => (some t711)) = some r := by rw [if_pos rfl] at H; exact H
  clear H
  have H := H1
  clear H1
  replace H := Option.bind_eq_some_iff.mp H
  obtain ⟨t711, A40, H⟩ := H
  replace H : (some t711) = some r := H
  have A4 := am A40
  clear A40
  obtain rfl := Option.some.inj H
  go_enter Tryd.func24, Tryd.ntmps24
  go_wp2_with (first | ((with_reducible refine gate_callee (f := 22) rfl ?_); refine gl_ (some 4) Tryd.func22 #[.slice A0 l0.length c0] ?_; (with_reducible refine (spec_RowOk.calls k _ _ l0 true _ ?side1 ?side2 A2.out).mono ?_); (case side1 => exact rc (HR0.out)); (case side2 => exact HC0.out); rintro e w5 ⟨rfl, hb⟩; refine ⟨_, rfl, ?_⟩; have n0_ := am (below_step (rb HB) hb); clear HB; have HB := n0_; clear n0_; (try clear hb); (try clear hb2); (try clear hk); (try clear hi)) | ((with_reducible refine gate_callee (f := 59) rfl ?_); refine gl_ (some 7) Tryd.func59 #[.slice A0 l0.length c0] ?_; (with_reducible refine (spec_l4Text.calls k _ _ l0 t711 _ ?side1 ?side2 A4.out).mono ?_); (case side1 => exact rc ((Kd.C_below HR0.out HB.out))); (case side2 => exact HC0.out); rintro e w6 ⟨rfl, hb⟩; refine ⟨_, rfl, ?_⟩; have n0_ := am (below_step (rb HB) hb); clear HB; have HB := n0_; clear n0_; (try clear hb); (try clear hb2); (try clear hk); (try clear hi)))
  go_ret
  exact ⟨by first | rfl | (simp [errW_none, errW_some] <;> rfl) | (simp [*, errW_none, errW_some] <;> rfl), by repeat (first | (with_reducible first | exact HB.out | apply b1 | apply b2 | apply b3) | exact HB.out)⟩
 ·replace c3 := Bool.eq_false_iff.mpr c3
  subst c3
  have H1 : (some (⟨#[]⟩ : ByteArray)) = some r := by rw [if_neg (show ¬ (false = true) by decide)] at H; exact H
  clear H
  have H := H1
  clear H1
  obtain rfl := Option.some.inj H
  go_enter Tryd.func24, Tryd.ntmps24
  go_wp2_with (first | ((with_reducible refine gate_callee (f := 22) rfl ?_); refine gl_ (some 4) Tryd.func22 #[.slice A0 l0.length c0] ?_; (with_reducible refine (spec_RowOk.calls k _ _ l0 false _ ?side1 ?side2 A2.out).mono ?_); (case side1 => exact rc (HR0.out)); (case side2 => exact HC0.out); rintro e w7 ⟨rfl, hb⟩; refine ⟨_, rfl, ?_⟩; have n0_ := am (below_step (rb HB) hb); clear HB; have HB := n0_; clear n0_; (try clear hb); (try clear hb2); (try clear hk); (try clear hi)))
  go_ret
  exact ⟨by first | rfl | (simp [errW_none, errW_some] <;> rfl) | (simp [*, errW_none, errW_some] <;> rfl), by repeat (first | (with_reducible first | exact HB.out | apply b1 | apply b2 | apply b3) | exact HB.out)⟩

end Go.Proofs.YtepeanpoicefdaaDoor.PB
