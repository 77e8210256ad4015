/- Contracts of Go functions that laws of this seat reach: each Lean function answers as its Go function does. No condition. Written by wip/tools/inj.py, over the kit's print. -/
import Derived.Test.YtfhkpneffmcdbaaDoorQCx0
import Derived.Test.YtfhkpneffmcdbaaDoorQCx5
namespace Go.Proofs.YtfhkpneffmcdbaaDoor.QC
open Go.RowKit Go.Proofs.YtfhkpneffmcdbaaDoorW.PrintWords Go.Proofs.YtfhkpneffmcdbaaDoorW.PrintLast Go.Proofs.YtfhkpneffmcdbaaDoorW.PrintMore
attribute [local go_sem] max2_int min2_int max_two min_two max_three min_three max_four min_four   -- for this text's walks alone
set_option linter.unusedVariables false
set_option linter.unusedSimpArgs false

/-! ### impl_KeyOk: function 46 -/
def impl_KeyOk.f (a0_0 : Int) (a0_1 : Int) (a0_2 : Bool) : Option (Bool) := if a0_0 = 1 then ((impl_RuneOk.f a0_1).bind fun t221 => (if t221 = true then (if a0_1 ≥ 32 then (if a0_1 = 127 then (some false) else (if a0_2 = true then (some (a0_1 != 91)) else (some true))) else (some false)) else (some false))) else (if a0_0 = 2 then ((impl_in.f a0_1 1 26).bind fun t222 => (if t222 = true then (if a0_1 = 9 then (some false) else (if a0_1 = 13 then (some false) else (some (!a0_2)))) else (some false))) else ((impl_in.f a0_0 3 12).bind fun t223 => (if t223 = true then (if a0_1 = 0 then (some (!a0_2)) else (some false)) else (some false))))
set_option maxHeartbeats 8000000 in
set_option maxRecDepth 100000 in
theorem impl_KeyOk.calls (a0_0 : Int) (a0_1 : Int) (a0_2 : Bool) (r : Bool) (w : World) (h : impl_KeyOk.f a0_0 a0_1 a0_2 = some r) :
  Calls Tryd.prog 46 #[.agg #[.int .i64 a0_0, .int .i64 a0_1, .bool a0_2]] w fun e w' => e = .returned (.bool r) ∧ Below w.heap.size w w' := by
 have hu50 := Tryd.underlying50
 have HB := am (Below.refl w.heap.size w)
 have H := h
 unfold impl_KeyOk.f at H
 clear h
 refine em_ (p := a0_0 = 1) (fun c2 => ?g9p) (fun c2 => ?g9n)
 case' g9p =>
  rw [if_pos c2] at H
  have c2b0 : (a0_0 == 1) = true := beq_iff_eq.mpr c2
  have c2b1 : (a0_0 != 1) = false := bne_eq_false_iff_eq.mpr c2
  clear c2
  replace H := Option.bind_eq_some_iff.mp H
  obtain ⟨t221, A30, H⟩ := H
  (try dsimp only at H)
  have A3 := am A30
  clear A30
  refine em_ (p := t221 = true) (fun c4 => ?g2p) (fun c4 => ?g2n)
  case' g2p =>
   subst c4
   rw [if_pos rfl] at H
   refine em_ (p := a0_1 ≥ 32) (fun c5 => ?g1p) (fun c5 => ?g1n)
   case' g1p =>
    rw [if_pos c5] at H
    have c5b0 : decide (32 ≤ a0_1) = true := decide_eq_true c5
    clear c5
    refine em_ (p := a0_1 = 127) (fun c6 => ?g0p) (fun c6 => ?g0n)
    case' g0p =>
     rw [if_pos c6] at H
     have c6b0 : (a0_1 == 127) = true := beq_iff_eq.mpr c6
     have c6b1 : (a0_1 != 127) = false := bne_eq_false_iff_eq.mpr c6
     clear c6
     obtain rfl := Option.some.inj H
     have lf1_ := trivial
    case g0n =>
     rw [if_neg c6] at H
     have c6b0 : (a0_1 == 127) = false := beq_eq_false_iff_ne.mpr c6
     have c6b1 : (a0_1 != 127) = true := bne_iff_ne.mpr c6
     by_cases c9 : a0_2 = true
     ·subst c9
      have H1 : (some (a0_1 != 91)) = some r := by rw [if_pos rfl] at H; exact H
      clear H
      have H := H1
      clear H1
      obtain rfl := Option.some.inj H
      go_enter Tryd.func46, Tryd.ntmps46
      go_wp2_with (first | ((with_reducible refine gate_dst (N := 1) rfl ?_); refine box_event ?hg (N := 1) ?hd (cs := #[.int .i64 a0_0, .int .i64 a0_1, .bool true]) (t := 50) ?hr ?_; (case hd => rfl); (case hg => rfl); (case hr => first | (go_simp; done) | (go_simp; rfl)); intro gb220 hg w10 hbox hb; have n0_ := am (below_step (rb HB) hb); have n1_ := am (hbox); have n2_ := am ((by rw [hg]; exact (below_size (rb HB)) : w.heap.size ≤ gb220)); have n3_ := am ((by rw [hg]; exact (below_size (rb HB)) : w.heap.size ≤ gb220)); clear HB; have HB := n0_; have BK220 := n1_; have GW220 := n2_; have GE220 := n3_; clear n0_ n1_ n2_ n3_; clear hb hbox hg; have hcz11_0 : w10.cell? ⟨gb220, 0, none⟩ = some (.int .i64 a0_0) := (blk_cell BK220.out 0).trans rfl; have hcz11_1 : w10.cell? ⟨gb220, 1, none⟩ = some (.int .i64 a0_1) := (blk_cell BK220.out 1).trans rfl; have hcz11_2 : w10.cell? ⟨gb220, 2, none⟩ = some (.bool true) := (blk_cell BK220.out 2).trans rfl; have hfz11_0 := blk_frozen BK220.out 0; have hfz11_1 := blk_frozen BK220.out 1; have hfz11_2 := blk_frozen BK220.out 2) | ((with_reducible refine gate_callee (f := 23) rfl ?_); refine gl_ (some 9) Tryd.func23 #[.int .i64 a0_1] ?_; (with_reducible refine (impl_RuneOk.calls a0_1 true _ A3.out).mono ?_); rintro e w' ⟨rfl, ⟨nd, rfl⟩⟩; refine ⟨_, rfl, ?_⟩))
      go_ret
      exact ⟨by first | rfl | (simp [errW_none, errW_some] <;> rfl) | (simp [*, errW_none, errW_some] <;> rfl), by repeat (first | (with_reducible first | exact HB.out | apply b1 | apply b2 | apply b3 | refine below_set ?_ GE220.out) | exact HB.out)⟩
     ·replace c9 := Bool.eq_false_iff.mpr c9
      subst c9
      have H1 : (some true) = some r := by rw [if_neg (show ¬ (false = true) by decide)] at H; exact H
      clear H
      have H := H1
      clear H1
      obtain rfl := Option.some.inj H
      go_enter Tryd.func46, Tryd.ntmps46
      go_wp2_with (first | ((with_reducible refine gate_dst (N := 1) rfl ?_); refine box_event ?hg (N := 1) ?hd (cs := #[.int .i64 a0_0, .int .i64 a0_1, .bool false]) (t := 50) ?hr ?_; (case hd => rfl); (case hg => rfl); (case hr => first | (go_simp; done) | (go_simp; rfl)); intro gb220 hg w12 hbox hb; have n0_ := am (below_step (rb HB) hb); have n1_ := am (hbox); have n2_ := am ((by rw [hg]; exact (below_size (rb HB)) : w.heap.size ≤ gb220)); have n3_ := am ((by rw [hg]; exact (below_size (rb HB)) : w.heap.size ≤ gb220)); clear HB; have HB := n0_; have BK220 := n1_; have GW220 := n2_; have GE220 := n3_; clear n0_ n1_ n2_ n3_; clear hb hbox hg; have hcz13_0 : w12.cell? ⟨gb220, 0, none⟩ = some (.int .i64 a0_0) := (blk_cell BK220.out 0).trans rfl; have hcz13_1 : w12.cell? ⟨gb220, 1, none⟩ = some (.int .i64 a0_1) := (blk_cell BK220.out 1).trans rfl; have hcz13_2 : w12.cell? ⟨gb220, 2, none⟩ = some (.bool false) := (blk_cell BK220.out 2).trans rfl; have hfz13_0 := blk_frozen BK220.out 0; have hfz13_1 := blk_frozen BK220.out 1; have hfz13_2 := blk_frozen BK220.out 2) | ((with_reducible refine gate_callee (f := 23) rfl ?_); refine gl_ (some 9) Tryd.func23 #[.int .i64 a0_1] ?_; (with_reducible refine (impl_RuneOk.calls a0_1 true _ A3.out).mono ?_); rintro e w' ⟨rfl, ⟨nd, rfl⟩⟩; refine ⟨_, rfl, ?_⟩))
      go_ret
      exact ⟨by first | rfl | (simp [errW_none, errW_some] <;> rfl) | (simp [*, errW_none, errW_some] <;> rfl), by repeat (first | (with_reducible first | exact HB.out | apply b1 | apply b2 | apply b3 | refine below_set ?_ GE220.out) | exact HB.out)⟩
   case' g1n =>
    rw [if_neg c5] at H
    have c5b0 : decide (32 ≤ a0_1) = false := decide_eq_false c5
    clear c5
    obtain rfl := Option.some.inj H
    have lf4_ := trivial
  case' g2n =>
   replace c4 := Bool.eq_false_iff.mpr c4
   subst c4
   have H1 : (some false) = some r := by rw [if_neg (show ¬ (false = true) by decide)] at H; exact H
   clear H
   have H := H1
   clear H1
   obtain rfl := Option.some.inj H
   have lf5_ := trivial
 case' g9n =>
  rw [if_neg c2] at H
  have c2b0 : (a0_0 == 1) = false := beq_eq_false_iff_ne.mpr c2
  have c2b1 : (a0_0 != 1) = true := bne_iff_ne.mpr c2
  refine em_ (p := a0_0 = 2) (fun c18 => ?g8p) (fun c18 => ?g8n)
  case' g8p =>
   rw [if_pos c18] at H
   have c18b0 : (a0_0 == 2) = true := beq_iff_eq.mpr c18
   have c18b1 : (a0_0 != 2) = false := bne_eq_false_iff_eq.mpr c18
   clear c18
   replace H := Option.bind_eq_some_iff.mp H
   obtain ⟨t222, A190, H⟩ := H
   (try dsimp only at H)
   have A19 := am A190
   clear A190
   refine em_ (p := t222 = true) (fun c20 => ?g5p) (fun c20 => ?g5n)
   case' g5p =>
    subst c20
    rw [if_pos rfl] at H
    refine em_ (p := a0_1 = 9) (fun c21 => ?g4p) (fun c21 => ?g4n)
    case' g4p =>
     rw [if_pos c21] at H
     have c21b0 : (a0_1 == 9) = true := beq_iff_eq.mpr c21
     have c21b1 : (a0_1 != 9) = false := bne_eq_false_iff_eq.mpr c21
     clear c21
     obtain rfl := Option.some.inj H
     have lf6_ := trivial
    case' g4n =>
     rw [if_neg c21] at H
     have c21b0 : (a0_1 == 9) = false := beq_eq_false_iff_ne.mpr c21
     have c21b1 : (a0_1 != 9) = true := bne_iff_ne.mpr c21
     refine em_ (p := a0_1 = 13) (fun c24 => ?g3p) (fun c24 => ?g3n)
     case' g3p =>
      rw [if_pos c24] at H
      have c24b0 : (a0_1 == 13) = true := beq_iff_eq.mpr c24
      have c24b1 : (a0_1 != 13) = false := bne_eq_false_iff_eq.mpr c24
      clear c24
      obtain rfl := Option.some.inj H
      have lf7_ := trivial
     case' g3n =>
      rw [if_neg c24] at H
      have c24b0 : (a0_1 == 13) = false := beq_eq_false_iff_ne.mpr c24
      have c24b1 : (a0_1 != 13) = true := bne_iff_ne.mpr c24
      obtain rfl := Option.some.inj H
      have lf8_ := trivial
   case' g5n =>
    replace c20 := Bool.eq_false_iff.mpr c20
    subst c20
    have H1 : (some false) = some r := by rw [if_neg (show ¬ (false = true) by decide)] at H; exact H
    clear H
    have H := H1
    clear H1
    obtain rfl := Option.some.inj H
    have lf9_ := trivial
  case' g8n =>
   rw [if_neg c18] at H
   have c18b0 : (a0_0 == 2) = false := beq_eq_false_iff_ne.mpr c18
   have c18b1 : (a0_0 != 2) = true := bne_iff_ne.mpr c18
   replace H := Option.bind_eq_some_iff.mp H
   obtain ⟨t223, A310, H⟩ := H
   (try dsimp only at H)
   have A31 := am A310
   clear A310
   refine em_ (p := t223 = true) (fun c32 => ?g7p) (fun c32 => ?g7n)
   case' g7p =>
    subst c32
    have H1 : (if a0_1 = 0 then (some (!a0_2)) else (some false)) = some r := by rw [if_pos rfl] at H; exact H
    clear H
    have H := H1
    clear H1
    refine em_ (p := a0_1 = 0) (fun c33 => ?g6p) (fun c33 => ?g6n)
    case' g6p =>
     rw [if_pos c33] at H
     have c33b0 : (a0_1 == 0) = true := beq_iff_eq.mpr c33
     have c33b1 : (a0_1 != 0) = false := bne_eq_false_iff_eq.mpr c33
     clear c33
     obtain rfl := Option.some.inj H
     have lf10_ := trivial
    case' g6n =>
     rw [if_neg c33] at H
     have c33b0 : (a0_1 == 0) = false := beq_eq_false_iff_ne.mpr c33
     have c33b1 : (a0_1 != 0) = true := bne_iff_ne.mpr c33
     obtain rfl := Option.some.inj H
     have lf11_ := trivial
   case' g7n =>
    replace c32 := Bool.eq_false_iff.mpr c32
    subst c32
    have H1 : (some false) = some r := by rw [if_neg (show ¬ (false = true) by decide)] at H; exact H
    clear H
    have H := H1
    clear H1
    obtain rfl := Option.some.inj H
    have lf12_ := trivial
 all_goals
  go_enter Tryd.func46, Tryd.ntmps46
  go_wp2_with (first | ((with_reducible refine gate_dst (N := 1) rfl ?_); refine box_event ?hg (N := 1) ?hd (cs := #[.int .i64 a0_0, .int .i64 a0_1, .bool a0_2]) (t := 50) ?hr ?_; (case hd => rfl); (case hg => rfl); (case hr => first | (go_simp; done) | (go_simp; rfl)); intro gb220 hg w7 hbox hb; have n0_ := am (below_step (rb HB) hb); have n1_ := am (hbox); have n2_ := am ((by rw [hg]; exact (below_size (rb HB)) : w.heap.size ≤ gb220)); have n3_ := am ((by rw [hg]; exact (below_size (rb HB)) : w.heap.size ≤ gb220)); clear HB; have HB := n0_; have BK220 := n1_; have GW220 := n2_; have GE220 := n3_; clear n0_ n1_ n2_ n3_; clear hb hbox hg; have hcz8_0 : w7.cell? ⟨gb220, 0, none⟩ = some (.int .i64 a0_0) := (blk_cell BK220.out 0).trans rfl; have hcz8_1 : w7.cell? ⟨gb220, 1, none⟩ = some (.int .i64 a0_1) := (blk_cell BK220.out 1).trans rfl; have hcz8_2 : w7.cell? ⟨gb220, 2, none⟩ = some (.bool a0_2) := (blk_cell BK220.out 2).trans rfl; have hfz8_0 := blk_frozen BK220.out 0; have hfz8_1 := blk_frozen BK220.out 1; have hfz8_2 := blk_frozen BK220.out 2) | ((with_reducible refine gate_callee (f := 58) rfl ?_); refine gl_ (some 34) Tryd.func58 #[.int .i64 a0_1, .int .i64 1, .int .i64 26] ?_; (with_reducible refine (impl_in.calls a0_1 1 26 false _ A19.out).mono ?_); rintro e w' ⟨rfl, ⟨nd, rfl⟩⟩; refine ⟨_, rfl, ?_⟩) | ((with_reducible refine gate_callee (f := 58) rfl ?_); refine gl_ (some 52) Tryd.func58 #[.int .i64 a0_0, .int .i64 3, .int .i64 12] ?_; (with_reducible refine (impl_in.calls a0_0 3 12 false _ A31.out).mono ?_); rintro e w' ⟨rfl, ⟨nd, rfl⟩⟩; refine ⟨_, rfl, ?_⟩) | ((with_reducible refine gate_callee (f := 58) rfl ?_); refine gl_ (some 34) Tryd.func58 #[.int .i64 a0_1, .int .i64 1, .int .i64 26] ?_; (with_reducible refine (impl_in.calls a0_1 1 26 true _ A19.out).mono ?_); rintro e w' ⟨rfl, ⟨nd, rfl⟩⟩; refine ⟨_, rfl, ?_⟩) | ((with_reducible refine gate_callee (f := 58) rfl ?_); refine gl_ (some 52) Tryd.func58 #[.int .i64 a0_0, .int .i64 3, .int .i64 12] ?_; (with_reducible refine (impl_in.calls a0_0 3 12 true _ A31.out).mono ?_); rintro e w' ⟨rfl, ⟨nd, rfl⟩⟩; refine ⟨_, rfl, ?_⟩) | ((with_reducible refine gate_callee (f := 23) rfl ?_); refine gl_ (some 9) Tryd.func23 #[.int .i64 a0_1] ?_; (with_reducible refine (impl_RuneOk.calls a0_1 false _ A3.out).mono ?_); rintro e w' ⟨rfl, ⟨nd, rfl⟩⟩; refine ⟨_, rfl, ?_⟩) | ((with_reducible refine gate_callee (f := 23) rfl ?_); refine gl_ (some 9) Tryd.func23 #[.int .i64 a0_1] ?_; (with_reducible refine (impl_RuneOk.calls a0_1 true _ A3.out).mono ?_); rintro e w' ⟨rfl, ⟨nd, rfl⟩⟩; refine ⟨_, rfl, ?_⟩))
  go_ret
  exact ⟨by first | rfl | (simp [errW_none, errW_some] <;> rfl) | (simp [*, errW_none, errW_some] <;> rfl), by repeat (first | (with_reducible first | exact HB.out | apply b1 | apply b2 | apply b3 | refine below_set ?_ GE220.out) | exact HB.out)⟩

/-! ### impl_sentBy: function 66 -/
def impl_sentBy.f (a0 : Int) : Option (ByteArray) := if 3 ≤ a0 ∧ a0 ≤ 12 then some (([(⟨#[13]⟩ : ByteArray), (⟨#[9]⟩ : ByteArray), (⟨#[127]⟩ : ByteArray), (⟨#[27, 91, 65]⟩ : ByteArray), (⟨#[27, 91, 66]⟩ : ByteArray), (⟨#[27, 91, 67]⟩ : ByteArray), (⟨#[27, 91, 68]⟩ : ByteArray), (⟨#[27, 91, 72]⟩ : ByteArray), (⟨#[27, 91, 70]⟩ : ByteArray), (⟨#[27, 91, 51, 126]⟩ : ByteArray)] : List ByteArray).getD (a0 - 3).toNat ByteArray.empty) else none
set_option maxHeartbeats 8000000 in
set_option maxRecDepth 100000 in
theorem impl_sentBy.calls (a0 : Int) (r : ByteArray) (w : World) (h : impl_sentBy.f a0 = some r) :
  Calls Tryd.prog 66 #[.int .i64 a0] w fun e w' => e = .returned (.string r) ∧ Drawn0 w w' := by
 unfold impl_sentBy.f at h
 by_cases c : 3 ≤ a0 ∧ a0 ≤ 12
 ·rw [if_pos c] at h
  have c2 : a0 = 3 ∨ a0 = 4 ∨ a0 = 5 ∨ a0 = 6 ∨ a0 = 7 ∨ a0 = 8 ∨ a0 = 9 ∨ a0 = 10 ∨ a0 = 11 ∨ a0 = 12 := by omega
  clear c
  have i0 : ∀ w : World, (Instr.index 86 (.agg #[.string (⟨#[13]⟩ : ByteArray), .string (⟨#[9]⟩ : ByteArray), .string (⟨#[127]⟩ : ByteArray), .string (⟨#[27, 91, 65]⟩ : ByteArray), .string (⟨#[27, 91, 66]⟩ : ByteArray), .string (⟨#[27, 91, 67]⟩ : ByteArray), .string (⟨#[27, 91, 68]⟩ : ByteArray), .string (⟨#[27, 91, 72]⟩ : ByteArray), .string (⟨#[27, 91, 70]⟩ : ByteArray), .string (⟨#[27, 91, 51, 126]⟩ : ByteArray)]) (.int .i64 0)).run Tryd.prog w = .ok (.string (⟨#[13]⟩ : ByteArray)) w := fun _ => by kernel_rfl
  have i1 : ∀ w : World, (Instr.index 86 (.agg #[.string (⟨#[13]⟩ : ByteArray), .string (⟨#[9]⟩ : ByteArray), .string (⟨#[127]⟩ : ByteArray), .string (⟨#[27, 91, 65]⟩ : ByteArray), .string (⟨#[27, 91, 66]⟩ : ByteArray), .string (⟨#[27, 91, 67]⟩ : ByteArray), .string (⟨#[27, 91, 68]⟩ : ByteArray), .string (⟨#[27, 91, 72]⟩ : ByteArray), .string (⟨#[27, 91, 70]⟩ : ByteArray), .string (⟨#[27, 91, 51, 126]⟩ : ByteArray)]) (.int .i64 1)).run Tryd.prog w = .ok (.string (⟨#[9]⟩ : ByteArray)) w := fun _ => by kernel_rfl
  have i2 : ∀ w : World, (Instr.index 86 (.agg #[.string (⟨#[13]⟩ : ByteArray), .string (⟨#[9]⟩ : ByteArray), .string (⟨#[127]⟩ : ByteArray), .string (⟨#[27, 91, 65]⟩ : ByteArray), .string (⟨#[27, 91, 66]⟩ : ByteArray), .string (⟨#[27, 91, 67]⟩ : ByteArray), .string (⟨#[27, 91, 68]⟩ : ByteArray), .string (⟨#[27, 91, 72]⟩ : ByteArray), .string (⟨#[27, 91, 70]⟩ : ByteArray), .string (⟨#[27, 91, 51, 126]⟩ : ByteArray)]) (.int .i64 2)).run Tryd.prog w = .ok (.string (⟨#[127]⟩ : ByteArray)) w := fun _ => by kernel_rfl
  have i3 : ∀ w : World, (Instr.index 86 (.agg #[.string (⟨#[13]⟩ : ByteArray), .string (⟨#[9]⟩ : ByteArray), .string (⟨#[127]⟩ : ByteArray), .string (⟨#[27, 91, 65]⟩ : ByteArray), .string (⟨#[27, 91, 66]⟩ : ByteArray), .string (⟨#[27, 91, 67]⟩ : ByteArray), .string (⟨#[27, 91, 68]⟩ : ByteArray), .string (⟨#[27, 91, 72]⟩ : ByteArray), .string (⟨#[27, 91, 70]⟩ : ByteArray), .string (⟨#[27, 91, 51, 126]⟩ : ByteArray)]) (.int .i64 3)).run Tryd.prog w = .ok (.string (⟨#[27, 91, 65]⟩ : ByteArray)) w := fun _ => by kernel_rfl
  have i4 : ∀ w : World, (Instr.index 86 (.agg #[.string (⟨#[13]⟩ : ByteArray), .string (⟨#[9]⟩ : ByteArray), .string (⟨#[127]⟩ : ByteArray), .string (⟨#[27, 91, 65]⟩ : ByteArray), .string (⟨#[27, 91, 66]⟩ : ByteArray), .string (⟨#[27, 91, 67]⟩ : ByteArray), .string (⟨#[27, 91, 68]⟩ : ByteArray), .string (⟨#[27, 91, 72]⟩ : ByteArray), .string (⟨#[27, 91, 70]⟩ : ByteArray), .string (⟨#[27, 91, 51, 126]⟩ : ByteArray)]) (.int .i64 4)).run Tryd.prog w = .ok (.string (⟨#[27, 91, 66]⟩ : ByteArray)) w := fun _ => by kernel_rfl
  have i5 : ∀ w : World, (Instr.index 86 (.agg #[.string (⟨#[13]⟩ : ByteArray), .string (⟨#[9]⟩ : ByteArray), .string (⟨#[127]⟩ : ByteArray), .string (⟨#[27, 91, 65]⟩ : ByteArray), .string (⟨#[27, 91, 66]⟩ : ByteArray), .string (⟨#[27, 91, 67]⟩ : ByteArray), .string (⟨#[27, 91, 68]⟩ : ByteArray), .string (⟨#[27, 91, 72]⟩ : ByteArray), .string (⟨#[27, 91, 70]⟩ : ByteArray), .string (⟨#[27, 91, 51, 126]⟩ : ByteArray)]) (.int .i64 5)).run Tryd.prog w = .ok (.string (⟨#[27, 91, 67]⟩ : ByteArray)) w := fun _ => by kernel_rfl
  have i6 : ∀ w : World, (Instr.index 86 (.agg #[.string (⟨#[13]⟩ : ByteArray), .string (⟨#[9]⟩ : ByteArray), .string (⟨#[127]⟩ : ByteArray), .string (⟨#[27, 91, 65]⟩ : ByteArray), .string (⟨#[27, 91, 66]⟩ : ByteArray), .string (⟨#[27, 91, 67]⟩ : ByteArray), .string (⟨#[27, 91, 68]⟩ : ByteArray), .string (⟨#[27, 91, 72]⟩ : ByteArray), .string (⟨#[27, 91, 70]⟩ : ByteArray), .string (⟨#[27, 91, 51, 126]⟩ : ByteArray)]) (.int .i64 6)).run Tryd.prog w = .ok (.string (⟨#[27, 91, 68]⟩ : ByteArray)) w := fun _ => by kernel_rfl
  have i7 : ∀ w : World, (Instr.index 86 (.agg #[.string (⟨#[13]⟩ : ByteArray), .string (⟨#[9]⟩ : ByteArray), .string (⟨#[127]⟩ : ByteArray), .string (⟨#[27, 91, 65]⟩ : ByteArray), .string (⟨#[27, 91, 66]⟩ : ByteArray), .string (⟨#[27, 91, 67]⟩ : ByteArray), .string (⟨#[27, 91, 68]⟩ : ByteArray), .string (⟨#[27, 91, 72]⟩ : ByteArray), .string (⟨#[27, 91, 70]⟩ : ByteArray), .string (⟨#[27, 91, 51, 126]⟩ : ByteArray)]) (.int .i64 7)).run Tryd.prog w = .ok (.string (⟨#[27, 91, 72]⟩ : ByteArray)) w := fun _ => by kernel_rfl
  have i8 : ∀ w : World, (Instr.index 86 (.agg #[.string (⟨#[13]⟩ : ByteArray), .string (⟨#[9]⟩ : ByteArray), .string (⟨#[127]⟩ : ByteArray), .string (⟨#[27, 91, 65]⟩ : ByteArray), .string (⟨#[27, 91, 66]⟩ : ByteArray), .string (⟨#[27, 91, 67]⟩ : ByteArray), .string (⟨#[27, 91, 68]⟩ : ByteArray), .string (⟨#[27, 91, 72]⟩ : ByteArray), .string (⟨#[27, 91, 70]⟩ : ByteArray), .string (⟨#[27, 91, 51, 126]⟩ : ByteArray)]) (.int .i64 8)).run Tryd.prog w = .ok (.string (⟨#[27, 91, 70]⟩ : ByteArray)) w := fun _ => by kernel_rfl
  have i9 : ∀ w : World, (Instr.index 86 (.agg #[.string (⟨#[13]⟩ : ByteArray), .string (⟨#[9]⟩ : ByteArray), .string (⟨#[127]⟩ : ByteArray), .string (⟨#[27, 91, 65]⟩ : ByteArray), .string (⟨#[27, 91, 66]⟩ : ByteArray), .string (⟨#[27, 91, 67]⟩ : ByteArray), .string (⟨#[27, 91, 68]⟩ : ByteArray), .string (⟨#[27, 91, 72]⟩ : ByteArray), .string (⟨#[27, 91, 70]⟩ : ByteArray), .string (⟨#[27, 91, 51, 126]⟩ : ByteArray)]) (.int .i64 9)).run Tryd.prog w = .ok (.string (⟨#[27, 91, 51, 126]⟩ : ByteArray)) w := fun _ => by kernel_rfl
  rcases c2 with rfl | rfl | rfl | rfl | rfl | rfl | rfl | rfl | rfl | rfl
  all_goals (obtain rfl := Option.some.inj h; go_enter Tryd.func66, Tryd.ntmps66; go_wp2; go_ret; exact ⟨rfl, by repeat (first | exact Drawn0.refl _ | apply Drawn0.step)⟩)
 ·rw [if_neg c] at h; cases h

end Go.Proofs.YtfhkpneffmcdbaaDoor.QC
