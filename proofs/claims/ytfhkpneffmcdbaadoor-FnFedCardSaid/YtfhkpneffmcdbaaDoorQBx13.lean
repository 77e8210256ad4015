/- Contracts of Go functions that laws of this seat reach: each Lean function answers as its Go function does. No condition. Written by wip/tools/inj.py, over the kit's print. -/
import Derived.Test.YtfhkpneffmcdbaaDoorQBx0
import Derived.Test.YtfhkpneffmcdbaaDoorQBx9
import Derived.Test.YtfhkpneffmcdbaaDoorQBx10
namespace Go.Proofs.YtfhkpneffmcdbaaDoor.QB
open Go.RowKit Go.Proofs.YtfhkpneffmcdbaaDoorW.PrintWords Go.Proofs.YtfhkpneffmcdbaaDoorW.PrintLast Go.Proofs.YtfhkpneffmcdbaaDoorW.PrintMore
attribute [local go_sem] max2_int min2_int max_two min_two max_three min_three max_four min_four   -- for this text's walks alone
set_option linter.unusedVariables false
set_option linter.unusedSimpArgs false

/-! ### spec_l1Part: function 62 -/
def spec_l1Part.l0 : Nat → ByteArray → Int → List ByteArray → Int → Int → Option (Bool)
 | 0, _, _, _, _, _ => none
 | k + 1, x0, x3, x18, x19, x20 => if x20 < x19 then (if 0 ≤ x20 then (if x20 < (x18.length : Int) then (if 0 ≤ (wrap64 (x3 - (x0.size : Int))) then (if (wrap64 (x3 - (x0.size : Int))) ≤ ((rdOf ByteArray.empty x18 x20).size : Int) then (if x0.size + ((rdOf ByteArray.empty x18 x20).extract 0 ((wrap64 (x3 - (x0.size : Int))) : Int).toNat).size ≤ 9223372036854775807 then ((spec_Get.f k (x0 ++ ((rdOf ByteArray.empty x18 x20).extract 0 ((wrap64 (x3 - (x0.size : Int))) : Int).toNat))).bind fun bt413 => (if bt413.2 = x3 then (some true) else (spec_l1Part.l0 k x0 x3 x18 x19 (wrap64 (x20 + 1))))) else (none)) else (none)) else (none)) else (none)) else (none)) else (some false)
def spec_l1Part.f (k : Nat) (a0 : ByteArray) : Option (Bool) := if a0.toList = ([] : List UInt8) then (some true) else (if 0 < (a0.size : Int) then ((spec_l1Long.f k (bt a0 0)).bind fun t408 => (if t408 ≤ (a0.size : Int) then (some false) else ((some (([(⟨#[128, 128, 128]⟩ : ByteArray), (⟨#[160, 128, 128]⟩ : ByteArray), (⟨#[144, 128, 128]⟩ : ByteArray), (⟨#[191, 191, 191]⟩ : ByteArray), (⟨#[159, 191, 191]⟩ : ByteArray), (⟨#[143, 191, 191]⟩ : ByteArray)] : List ByteArray) : List ByteArray)).bind fun y409 => (spec_l1Part.l0 k a0 t408 y409 (y409.length : Int) 0)))) else (none))
theorem spec_l1Part.mono_l : ∀ k, (∀ y0 y1 y2 y3 y4, LeO (spec_l1Part.l0 k y0 y1 y2 y3 y4) (spec_l1Part.l0 (k + 1) y0 y1 y2 y3 y4))
 | 0 => fun _ _ _ _ _ r h => by simp [spec_l1Part.l0] at h
 | k + 1 => by
  have ih0 := spec_l1Part.mono_l k
  ·intro y0 y1 y2 y3 y4
   unfold spec_l1Part.l0
   repeat' first
   | (with_reducible exact ih0 _ _ _ _ _)
   | (with_reducible exact spec_Get.mono _ _)
   | (with_reducible exact spec_l1Long.mono _ _)
   | (with_reducible exact LeO.refl _)
   | (with_reducible exact LeO.none _)
   | (with_reducible refine LeO.ite ?_ ?_)
   | (with_reducible refine LeO.bind ?_ (fun _ => ?_))
theorem spec_l1Part.mono : ∀ a0 k, LeO (spec_l1Part.f k a0) (spec_l1Part.f (k + 1) a0) := by
 intro a0 k
 have ih0 := spec_l1Part.mono_l k
 unfold spec_l1Part.f
 repeat' first
   | (with_reducible exact ih0 _ _ _ _ _)
   | (with_reducible exact spec_Get.mono _ _)
   | (with_reducible exact spec_l1Long.mono _ _)
   | (with_reducible exact LeO.refl _)
   | (with_reducible exact LeO.none _)
   | (with_reducible refine LeO.ite ?_ ?_)
   | (with_reducible refine LeO.bind ?_ (fun _ => ?_))
set_option maxHeartbeats 8000000 in
set_option maxRecDepth 100000 in
theorem spec_l1Part.calls (k : Nat) (a0 : ByteArray) (r : Bool) (w : World) (h : spec_l1Part.f k a0 = some r) :
  Calls Tryd.prog 62 #[.string a0] w fun e w' => e = .returned (.bool r) ∧ Below w.heap.size w w' := by
 have HB := am (Below.refl w.heap.size w)
 have H := h
 unfold spec_l1Part.f at H
 clear h
 refine em_ (p := a0.toList = ([] : List UInt8)) (fun c2 => ?g0p) (fun c2 => ?g0n)
 case' g0p =>
  rw [if_pos c2] at H
  have c2b0 : (a0.toList == ([] : List UInt8)) = true := beq_iff_eq.mpr c2
  have c2b1 : (a0.toList != ([] : List UInt8)) = false := bne_eq_false_iff_eq.mpr c2
  clear c2
  obtain rfl := Option.some.inj H
  have lf1_ := trivial
 case g0n =>
  rw [if_neg c2] at H
  have c2b0 : (a0.toList == ([] : List UInt8)) = false := beq_eq_false_iff_ne.mpr c2
  have c2b1 : (a0.toList != ([] : List UInt8)) = true := bne_iff_ne.mpr c2
  by_cases c3 : 0 < (a0.size : Int)
  ·rw [if_pos c3] at H
   have c3b0 : decide (0 < (a0.size : Int)) = true := decide_eq_true c3
   have c3b1 : decide (0 < a0.size) = true := decide_eq_true (by omega)
   clear c3
   replace H := Option.bind_eq_some_iff.mp H
   obtain ⟨t408, A50, H⟩ := H
   (try dsimp only at H)
   have A5 := am A50
   clear A50
   by_cases c6 : t408 ≤ (a0.size : Int)
   ·rw [if_pos c6] at H
    have c6b0 : decide (t408 ≤ (a0.size : Int)) = true := decide_eq_true c6
    clear c6
    obtain rfl := Option.some.inj H
    have p4 : 0 ≤ (0 : Int) := (by omega)
    have q4 : 0 < a0.size := (by have : (0 : Int) < (a0.size : Int) := dt_; omega)
    have hx4 : ∀ h : 0 < a0.size, ((a0[0]'h).toNat : Int) = bt a0 0 := bt_at a0 0
    clear p4
    have qi4 : (0 < (a0.size : Int)) = True := eq_true dt_
    replace q4 := eq_true q4
    go_enter Tryd.func62, Tryd.ntmps62
    go_wp2_with (first | ((with_reducible refine gate_callee (f := 56) rfl ?_); refine gl_ (some 13) Tryd.func56 #[.int .u8 (bt a0 0)] ?_; (with_reducible refine (spec_l1Long.calls k (bt a0 0) t408 _ A5.out).mono ?_); rintro e w' ⟨rfl, ⟨nd, rfl⟩⟩; refine ⟨_, rfl, ?_⟩))
    go_ret
    exact ⟨by first | rfl | (simp [errW_none, errW_some] <;> rfl) | (simp [*, errW_none, errW_some] <;> rfl), by repeat (first | (with_reducible first | exact HB.out | apply b1 | apply b2 | apply b3) | exact HB.out)⟩
   ·rw [if_neg c6] at H
    have c6b0 : decide (t408 ≤ (a0.size : Int)) = false := decide_eq_false c6
    clear c6
    obtain ⟨y409, hy409⟩ : ∃ y_ : List ByteArray, y_ = (([(⟨#[128, 128, 128]⟩ : ByteArray), (⟨#[160, 128, 128]⟩ : ByteArray), (⟨#[144, 128, 128]⟩ : ByteArray), (⟨#[191, 191, 191]⟩ : ByteArray), (⟨#[159, 191, 191]⟩ : ByteArray), (⟨#[143, 191, 191]⟩ : ByteArray)] : List ByteArray)) := ⟨_, rfl⟩
    replace H : (spec_l1Part.l0 k a0 t408 y409 (y409.length : Int) 0) = some r := by first | (rw [hy409]; with_reducible exact H) | (rw [hy409]; exact H) | exact H
    have Ny409 := am hy409
    clear hy409
    have H' := am H
    clear H
    have p4 : 0 ≤ (0 : Int) := (by omega)
    have q4 : 0 < a0.size := (by have : (0 : Int) < (a0.size : Int) := dt_; omega)
    have hx4 : ∀ h : 0 < a0.size, ((a0[0]'h).toNat : Int) = bt a0 0 := bt_at a0 0
    clear p4
    have qi4 : (0 < (a0.size : Int)) = True := eq_true dt_
    replace q4 := eq_true q4
    go_enter Tryd.func62, Tryd.ntmps62
    go_wp2_with (first | ((with_reducible refine gate_callee (f := 56) rfl ?_); refine gl_ (some 13) Tryd.func56 #[.int .u8 (bt a0 0)] ?_; (with_reducible refine (spec_l1Long.calls k (bt a0 0) t408 _ A5.out).mono ?_); rintro e w' ⟨rfl, ⟨nd, rfl⟩⟩; refine ⟨_, rfl, ?_⟩) | ((with_reducible refine gate_dst (N := 18) rfl ?_); refine Kd.R_lit Kd.string _ 9 ?hg (N := 18) ?hd (xs := ([(⟨#[128, 128, 128]⟩ : ByteArray), (⟨#[160, 128, 128]⟩ : ByteArray), (⟨#[144, 128, 128]⟩ : ByteArray), (⟨#[191, 191, 191]⟩ : ByteArray), (⟨#[159, 191, 191]⟩ : ByteArray), (⟨#[143, 191, 191]⟩ : ByteArray)] : List ByteArray)) (inner := [.string (⟨#[128, 128, 128]⟩ : ByteArray), .string (⟨#[160, 128, 128]⟩ : ByteArray), .string (⟨#[144, 128, 128]⟩ : ByteArray), .string (⟨#[191, 191, 191]⟩ : ByteArray), .string (⟨#[159, 191, 191]⟩ : ByteArray), .string (⟨#[143, 191, 191]⟩ : ByteArray)]) (ok := fun _ => True) (okp := fun _ => True) ?hr ?hp (fun _ hk => hk) trivial (Below.refl _ _) (Nat.le_refl _) (by simp) ?_; (case hd => rfl); (case hg => rfl); (case hr => first | (go_simp; done) | (go_simp; rfl)); (case hp => exact (Reps.one (show Kd.M Kd.string _ _ _ (⟨#[128, 128, 128]⟩ : ByteArray) [.string (⟨#[128, 128, 128]⟩ : ByteArray)] from rfl) (Reps.one (show Kd.M Kd.string _ _ _ (⟨#[160, 128, 128]⟩ : ByteArray) [.string (⟨#[160, 128, 128]⟩ : ByteArray)] from rfl) (Reps.one (show Kd.M Kd.string _ _ _ (⟨#[144, 128, 128]⟩ : ByteArray) [.string (⟨#[144, 128, 128]⟩ : ByteArray)] from rfl) (Reps.one (show Kd.M Kd.string _ _ _ (⟨#[191, 191, 191]⟩ : ByteArray) [.string (⟨#[191, 191, 191]⟩ : ByteArray)] from rfl) (Reps.one (show Kd.M Kd.string _ _ _ (⟨#[159, 191, 191]⟩ : ByteArray) [.string (⟨#[159, 191, 191]⟩ : ByteArray)] from rfl) (Reps.one (show Kd.M Kd.string _ _ _ (⟨#[143, 191, 191]⟩ : ByteArray) [.string (⟨#[143, 191, 191]⟩ : ByteArray)] from rfl) (Reps.none _ _)))))))); intro v410 w7 ho8 hb hg_ hnew_; clear hg_ hnew_; (first | rw [← Ny409.out] at ho8 | (simp only [Int.reduceToNat] at ho8; rw [← Ny409.out] at ho8)); have n0_ := am (Kd.R_lower ho8 (below_size (rb HB))); have n1_ := am (below_step (rb HB) hb); clear HB; have HO411 := n0_; have HB := n1_; clear n0_ n1_; clear hb ho8; obtain ⟨Ao9, co9, eo9⟩ := Kd.R_slice HO411.out; subst eo9))
    go_loopg [20] k (fun kq v20 w' => ∃ (x20_1 : Int), v20 = .int .i64 x20_1 ∧ Aside0 (spec_l1Part.l0 kq a0 t408 y409 (y409.length : Int) x20_1 = some r) ∧ Aside0 (kq ≤ k) ∧ Aside0 (Kd.R Kd.string 9 w' w.heap.size (fun _ => True) (.slice Ao9 y409.length co9) y409) ∧ Aside0 (Below w.heap.size w w'))
    case atStart => exact ⟨(0), (by first | rfl | (simp; done) | (simp [*]; done)), H', ⟨Nat.le_refl _⟩, ⟨rr HO411⟩, ⟨rb HB⟩⟩
    case round =>
     clear H'
     try clear c2
     try clear c2b0
     try clear c2b1
     try clear p2
     try clear c3
     try clear c3b0
     try clear c3b1
     try clear p4
     try clear q4
     try clear hx4
     try clear qi4
     try clear c5
     try clear c6
     try clear c6b0
     try clear p4
     try clear q4
     obtain ⟨x20_1, rfl, HA, HK1, HO_18, HB⟩ := hrel
     cases gk with
     | zero => exact absurd HA.out (by simp [spec_l1Part.l0])
     | succ k1 =>
      have H := HA.out
      clear HA
      simp only [spec_l1Part.l0] at H
      by_cases c10 : x20_1 < (y409.length : Int)
      ·rw [if_pos c10] at H
       have c10b0 : decide (x20_1 < (y409.length : Int)) = true := decide_eq_true c10
       clear c10
       refine em_ (p := 0 ≤ x20_1) (fun c11 => ?g6p) (fun c11 => ?g6n)
       case' g6p =>
        rw [if_pos c11] at H
        have c11b0 : decide (0 ≤ x20_1) = true := decide_eq_true c11
        clear c11
        refine em_ (p := x20_1 < (y409.length : Int)) (fun c12 => ?g5p) (fun c12 => ?g5n)
        case' g5p =>
         rw [if_pos c12] at H
         have c12b0 : decide (x20_1 < (y409.length : Int)) = true := decide_eq_true c12
         clear c12
         obtain ⟨ji13, hji13⟩ : ∃ j_ : Int, (wrap64 (t408 - (a0.size : Int))) = j_ := ⟨_, rfl⟩
         replace H : (if 0 ≤ (ji13) then (if (ji13) ≤ ((rdOf ByteArray.empty y409 x20_1).size : Int) then (if a0.size + ((rdOf ByteArray.empty y409 x20_1).extract 0 ((ji13) : Int).toNat).size ≤ 9223372036854775807 then ((spec_Get.f k1 (a0 ++ ((rdOf ByteArray.empty y409 x20_1).extract 0 ((ji13) : Int).toNat))).bind fun bt413 => (if bt413.2 = t408 then (some true) else (spec_l1Part.l0 k1 a0 t408 y409 (y409.length : Int) (wrap64 (x20_1 + 1))))) else (none)) else (none)) else (none)) = some r := by first | (rw [hji13] at H; exact H) | (simp only [hji13] at H ⊢; exact H)
         have hji13w : (IntKind.i64.wrap (t408 - (a0.size : Int))) = ji13 := (i64_w _).trans hji13
         refine em_ (p := 0 ≤ (ji13)) (fun c14 => ?g4p) (fun c14 => ?g4n)
         case' g4p =>
          rw [if_pos c14] at H
          have c14b0 := eq_true c14
          have c14b1 : decide (0 ≤ (ji13)) = true := decide_eq_true c14
          clear c14
          refine em_ (p := (ji13) ≤ ((rdOf ByteArray.empty y409 x20_1).size : Int)) (fun c15 => ?g3p) (fun c15 => ?g3n)
          case' g3p =>
           rw [if_pos c15] at H
           have c15b0 := eq_true c15
           have c15b1 : decide ((ji13) ≤ ((rdOf ByteArray.empty y409 x20_1).size : Int)) = true := decide_eq_true c15
           clear c15
           refine em_ (p := a0.size + ((rdOf ByteArray.empty y409 x20_1).extract 0 ((ji13) : Int).toNat).size ≤ 9223372036854775807) (fun c16 => ?g2p) (fun c16 => ?g2n)
           case' g2p =>
            rw [if_pos c16] at H
            have c16b0 := eq_true c16
            have c16b1 : decide (a0.size + ((rdOf ByteArray.empty y409 x20_1).extract 0 ((ji13) : Int).toNat).size ≤ 9223372036854775807) = true := decide_eq_true c16
            try have c16b2 : (9223372036854775807 < a0.size + ((rdOf ByteArray.empty y409 x20_1).extract 0 ((ji13) : Int).toNat).size) = False := eq_false (Nat.not_lt.2 c16)
            replace H := Option.bind_eq_some_iff.mp H
            obtain ⟨⟨t413, t414⟩, A170, H⟩ := H
            (try dsimp only at H)
            have A17 := am A170
            clear A170
            refine em_ (p := t414 = t408) (fun c18 => ?g1p) (fun c18 => ?g1n)
            case' g1p =>
             rw [if_pos c18] at H
             have c18b0 : (t414 == t408) = true := beq_iff_eq.mpr c18
             have c18b1 : (t414 != t408) = false := bne_eq_false_iff_eq.mpr c18
             clear c18
             obtain rfl := Option.some.inj H
             have lf6_ := trivial
            case' g1n =>
             rw [if_neg c18] at H
             have c18b0 : (t414 == t408) = false := beq_eq_false_iff_ne.mpr c18
             have c18b1 : (t414 != t408) = true := bne_iff_ne.mpr c18
             have H' := am H
             clear H
             have lf7_ := trivial
           case g2n =>
            rw [if_neg c16] at H
            exact absurd H (by simp)
          case g3n =>
           rw [if_neg c15] at H
           exact absurd H (by simp)
         case g4n =>
          rw [if_neg c14] at H
          exact absurd H (by simp)
        case g5n =>
         rw [if_neg c12] at H
         exact absurd H (by simp)
       case g6n =>
        rw [if_neg c11] at H
        exact absurd H (by simp)
       all_goals
        have p412 : 0 ≤ (x20_1 : Int) := dt_
        have q412 : x20_1 < (y409.length : Int) := dt_
        obtain ⟨ad412, e412, hx412_0⟩ := Kd.at_string (Kd.R_reads' HO_18.out).2.2 x20_1 p412 q412
        cases e412
        replace p412 := eq_true p412
        replace q412 := eq_true q412
        go_wp2_with (first | ((with_reducible refine gate_callee (f := 16) rfl ?_); refine goesL_ (some 34) rfl rfl Tryd.func16 (by kernel_rfl) rfl #[.string (a0 ++ ((rdOf ByteArray.empty y409 x20_1).extract 0 ((ji13) : Int).toNat))] rfl (by (try simp only [List.map_toArray, List.map_cons, List.map_nil]); first | done | (simp only [hji13]; rfl) | rfl | (simp only [List.length_drop, List.length_take]; rfl)) ?_; (with_reducible refine (spec_Get.calls k1 (a0 ++ ((rdOf ByteArray.empty y409 x20_1).extract 0 ((ji13) : Int).toNat)) t413 t414 _ A17.out).mono ?_); rintro e w19 ⟨rfl, hb⟩; refine ⟨_, rfl, ?_⟩; have n0_ := am (Kd.R_below (rr HO_18) hb); have n1_ := am (below_step (rb HB) hb); clear HO_18; clear HB; have HO_18 := n0_; have HB := n1_; clear n0_ n1_; (try clear hb); (try clear hb2); (try clear hk); (try clear hi)))
        first
        | (
          have q_ := lf6_
          go_ret
          exact ⟨by first | rfl | (simp [errW_none, errW_some] <;> rfl) | (simp only [← hji13]; first | rfl | (simp [errW_none, errW_some] <;> rfl)) | (simp [*, errW_none, errW_some] <;> rfl), by repeat (first | (with_reducible first | exact HB.out | apply b1 | apply b2 | apply b3) | exact HB.out)⟩
          )
        | (
          have q_ := lf7_
          go_roundg k1
          case measure => have := HK1.out; omega
          case rel => exact ⟨(wrap64 (x20_1 + 1)), (by first | rfl | (simp; done) | (simp [*]; done)), H', ⟨by have := HK1.out; omega⟩, ⟨rr HO_18⟩, ⟨rb HB⟩⟩
          )
      ·rw [if_neg c10] at H
       have c10b0 : decide (x20_1 < (y409.length : Int)) = false := decide_eq_false c10
       clear c10
       obtain rfl := Option.some.inj H
       go_wp2
       go_ret
       exact ⟨by first | rfl | (simp [errW_none, errW_some] <;> rfl) | (simp [*, errW_none, errW_some] <;> rfl), by repeat (first | (with_reducible first | exact HB.out | apply b1 | apply b2 | apply b3) | exact HB.out)⟩
  ·rw [if_neg c3] at H
   exact absurd H (by simp)
 all_goals
  go_enter Tryd.func62, Tryd.ntmps62
  go_wp2
  go_ret
  exact ⟨by first | rfl | (simp [errW_none, errW_some] <;> rfl) | (simp [*, errW_none, errW_some] <;> rfl), by repeat (first | (with_reducible first | exact HB.out | apply b1 | apply b2 | apply b3) | exact HB.out)⟩

/-! ### spec_FeederOk: function 29 -/
def spec_FeederOk.f (k : Nat) (a0_0 : ByteArray) : Option (Bool) := if (a0_0.size : Int) ≤ 3 then ((spec_l1Part.f k a0_0).bind fun t416 => (some t416)) else (some false)
theorem spec_FeederOk.mono : ∀ a0 k, LeO (spec_FeederOk.f k a0) (spec_FeederOk.f (k + 1) a0) := by
 intro a0 k
 unfold spec_FeederOk.f
 repeat' first
   | (with_reducible exact spec_l1Part.mono _ _)
   | (with_reducible exact LeO.refl _)
   | (with_reducible exact LeO.none _)
   | (with_reducible refine LeO.ite ?_ ?_)
   | (with_reducible refine LeO.bind ?_ (fun _ => ?_))
set_option maxHeartbeats 8000000 in
set_option maxRecDepth 100000 in
theorem spec_FeederOk.calls (k : Nat) (a0_0 : ByteArray) (r : Bool) (w : World) (h : spec_FeederOk.f k a0_0 = some r) :
  Calls Tryd.prog 29 #[.agg #[.string a0_0]] w fun e w' => e = .returned (.bool r) ∧ Below w.heap.size w w' := by
 have hu38 := Tryd.underlying38
 have HB := am (Below.refl w.heap.size w)
 have H := h
 unfold spec_FeederOk.f at H
 clear h
 by_cases c2 : (a0_0.size : Int) ≤ 3
 ·rw [if_pos c2] at H
  have c2b0 : decide ((a0_0.size : Int) ≤ 3) = true := decide_eq_true c2
  have c2b1 : decide (a0_0.size ≤ 3) = true := decide_eq_true (by omega)
  clear c2
  replace H := Option.bind_eq_some_iff.mp H
  obtain ⟨t416, A30, H⟩ := H
  replace H : (some t416) = some r := H
  have A3 := am A30
  clear A30
  obtain rfl := Option.some.inj H
  go_enter Tryd.func29, Tryd.ntmps29
  go_wp2_with (first | ((with_reducible refine gate_dst (N := 1) rfl ?_); refine box_event ?hg (N := 1) ?hd (cs := #[.string a0_0]) (t := 38) ?hr ?_; (case hd => rfl); (case hg => rfl); (case hr => first | (go_simp; done) | (go_simp; rfl)); intro gb415 hg w4 hbox hb; have n0_ := am (below_step (rb HB) hb); have n1_ := am (hbox); have n2_ := am ((by rw [hg]; exact (below_size (rb HB)) : w.heap.size ≤ gb415)); have n3_ := am ((by rw [hg]; exact (below_size (rb HB)) : w.heap.size ≤ gb415)); clear HB; have HB := n0_; have BK415 := n1_; have GW415 := n2_; have GE415 := n3_; clear n0_ n1_ n2_ n3_; clear hb hbox hg; have hcz5_0 : w4.cell? ⟨gb415, 0, none⟩ = some (.string a0_0) := (blk_cell BK415.out 0).trans rfl; have hfz5_0 := blk_frozen BK415.out 0) | (go_at_call 62; (with_reducible refine (spec_l1Part.calls k a0_0 t416 _ A3.out).mono ?_); rintro e w6 ⟨rfl, hb⟩; have n0_ := am (blk_below (g := gb415) (o := .cells #[.string a0_0] 38 (0, 0)) (rk BK415) hb); have n1_ := am (below_step (rb1 HB GE415) hb); clear BK415; clear HB; have BK415 := n0_; have HB := n1_; clear n0_ n1_; (try clear hb); (try clear hb2); (try clear hk); (try clear hi)))
  go_ret
  exact ⟨by first | rfl | (simp [errW_none, errW_some] <;> rfl) | (simp [*, errW_none, errW_some] <;> rfl), by repeat (first | (with_reducible first | exact HB.out | apply b1 | apply b2 | apply b3 | refine below_set ?_ GE415.out) | exact HB.out)⟩
 ·rw [if_neg c2] at H
  have c2b0 : decide ((a0_0.size : Int) ≤ 3) = false := decide_eq_false c2
  have c2b1 : decide (a0_0.size ≤ 3) = false := decide_eq_false (by omega)
  clear c2
  obtain rfl := Option.some.inj H
  go_enter Tryd.func29, Tryd.ntmps29
  go_wp2_with (first | ((with_reducible refine gate_dst (N := 1) rfl ?_); refine box_event ?hg (N := 1) ?hd (cs := #[.string a0_0]) (t := 38) ?hr ?_; (case hd => rfl); (case hg => rfl); (case hr => first | (go_simp; done) | (go_simp; rfl)); intro gb415 hg w7 hbox hb; have n0_ := am (below_step (rb HB) hb); have n1_ := am (hbox); have n2_ := am ((by rw [hg]; exact (below_size (rb HB)) : w.heap.size ≤ gb415)); have n3_ := am ((by rw [hg]; exact (below_size (rb HB)) : w.heap.size ≤ gb415)); clear HB; have HB := n0_; have BK415 := n1_; have GW415 := n2_; have GE415 := n3_; clear n0_ n1_ n2_ n3_; clear hb hbox hg; have hcz8_0 : w7.cell? ⟨gb415, 0, none⟩ = some (.string a0_0) := (blk_cell BK415.out 0).trans rfl; have hfz8_0 := blk_frozen BK415.out 0))
  go_ret
  exact ⟨by first | rfl | (simp [errW_none, errW_some] <;> rfl) | (simp [*, errW_none, errW_some] <;> rfl), by repeat (first | (with_reducible first | exact HB.out | apply b1 | apply b2 | apply b3 | refine below_set ?_ GE415.out) | exact HB.out)⟩

end Go.Proofs.YtfhkpneffmcdbaaDoor.QB
