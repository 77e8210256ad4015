/- Contracts of Go functions that laws of this seat reach: each Lean function answers as its Go function does. No condition. Written by wip/tools/inj.py, over the kit's print. -/
import Derived.Test.YtfhkpneffmcdbaaDoorQCx0
import Derived.Test.YtfhkpneffmcdbaaDoorQCx6
import Derived.Test.YtfhkpneffmcdbaaDoorQCx7
import Derived.Test.YtfhkpneffmcdbaaDoorQCx11
namespace Go.Proofs.YtfhkpneffmcdbaaDoor.QC
open Go.RowKit Go.Proofs.YtfhkpneffmcdbaaDoorW.PrintWords Go.Proofs.YtfhkpneffmcdbaaDoorW.PrintLast Go.Proofs.YtfhkpneffmcdbaaDoorW.PrintMore
attribute [local go_sem] max2_int min2_int max_two min_two max_three min_three max_four min_four   -- for this text's walks alone
set_option linter.unusedVariables false
set_option linter.unusedSimpArgs false

/-! ### impl_pressed: function 69 -/
def impl_pressed.l2 : Nat → ByteArray → Int → Bool → Int → Option (Int × Int × Bool × Bool)
 | 0, _, _, _, _ => none
 | k + 1, s, r, alt, i => if i < 2 then ((impl_Sent.f k (if i = 0 then 1 else 2) r (if i = 0 then alt else false)).bind fun t => (if t.toList = ([] : List UInt8) then (impl_pressed.l2 k s r alt (wrap64 (i + 1))) else ((strings_HasPrefix.f s t).bind fun b => (if b = true then (some ((if i = 0 then 1 else 2), r, (if i = 0 then alt else false), true)) else (impl_pressed.l2 k s r alt (wrap64 (i + 1))))))) else (some (0, 0, false, false))
def impl_pressed.l0 : Nat → ByteArray → Int → Option (Int × Int × Bool × Bool)
 | 0, _, _ => none
 | k + 1, s, x4 => if x4 ≤ 12 then ((impl_sentBy.f x4).bind fun t => ((strings_HasPrefix.f s t).bind fun b => (if b = true then (some (x4, 0, false, true)) else (impl_pressed.l0 k s (wrap64 (x4 + 1)))))) else ((strings_CutPrefix.f s (⟨#[27]⟩ : ByteArray)).bind fun c => ((impl_Get.f c.1).bind fun g => (impl_pressed.l2 k s g.1 c.2 0)))
def impl_pressed.f (k : Nat) (a0 : ByteArray) : Option (Int × Int × Bool × Bool) := impl_pressed.l0 k a0 3
theorem impl_pressed.mono_2 : ∀ k y0 y1 y2 y3, LeO (impl_pressed.l2 k y0 y1 y2 y3) (impl_pressed.l2 (k + 1) y0 y1 y2 y3)
 | 0, _, _, _, _ => fun r h => by simp [impl_pressed.l2] at h
 | k + 1, y0, y1, y2, y3 => by
  have ih := impl_pressed.mono_2 k
  unfold impl_pressed.l2
  exact LeO.ite (LeO.bind (impl_Sent.mono _ _ _ _) (fun _ => LeO.ite (ih _ _ _ _) (LeO.bind (LeO.refl _) (fun _ => LeO.ite (LeO.refl _) (ih _ _ _ _))))) (LeO.refl _)
theorem impl_pressed.mono_l : ∀ k y0 y1, LeO (impl_pressed.l0 k y0 y1) (impl_pressed.l0 (k + 1) y0 y1)
 | 0, _, _ => fun r h => by simp [impl_pressed.l0] at h
 | k + 1, y0, y1 => by
  have ih := impl_pressed.mono_l k
  unfold impl_pressed.l0
  exact LeO.ite (LeO.bind (LeO.refl _) (fun _ => LeO.bind (LeO.refl _) (fun _ => LeO.ite (LeO.refl _) (ih _ _)))) (LeO.bind (LeO.refl _) (fun _ => LeO.bind (LeO.refl _) (fun _ => impl_pressed.mono_2 k _ _ _ _)))
theorem impl_pressed.mono : ∀ a0 k, LeO (impl_pressed.f k a0) (impl_pressed.f (k + 1) a0) := fun _ _ => impl_pressed.mono_l _ _ _
set_option maxHeartbeats 8000000 in
set_option maxRecDepth 100000 in
theorem impl_pressed.calls (k : Nat) (a0 : ByteArray) (r1 : Int) (r2 : Int) (r3 : Bool) (r4 : Bool) (w : World) (h : impl_pressed.f k a0 = some (r1, r2, r3, r4)) (hT : TB w) :
  Calls Tryd.prog 69 #[.string a0] w fun e w' => e = .returned (.tuple #[.agg #[.int .i64 r1, .int .i64 r2, .bool r3], .bool r4]) ∧ Below w.heap.size w w' := by
 have hu50 := Tryd.underlying50
 have hu90 := Tryd.underlying90
 have HT := am hT
 have HB := am (Below.refl w.heap.size w)
 have H' := am h
 clear h hT
 go_enter Tryd.func69, Tryd.ntmps69
 go_wp2_with (first | ((with_reducible refine gate_dst (N := 2) rfl ?_); refine box_event ?hg (N := 2) ?hd (cs := #[.int .i64 0, .int .i64 0, .bool false]) (t := 50) ?hr ?_; (case hd => rfl); (case hg => rfl); (case hr => first | (go_simp; done) | (go_simp; rfl)); intro g1 hg w2 hbox hb; have n0_ := am (below_step (rb HB) hb); have n1_ := am hbox; have n2_ := am ((by rw [hg]; exact below_size (rb HB)) : w.heap.size ≤ g1); clear HB; have HB := n0_; have BK1 := n1_; have GE1 := n2_; clear n0_ n1_ n2_ hb hbox hg))
 go_loopg [4] k (fun kq v4 w' => ∃ (x4_1 : Int), v4 = .int .i64 x4_1 ∧ Aside0 (impl_pressed.l0 kq a0 x4_1 = some (r1, r2, r3, r4)) ∧ Aside0 (kq ≤ k) ∧ Aside0 (w'.heap[g1]? = some (.cells #[.int .i64 0, .int .i64 0, .bool false] 50 (0, 0))) ∧ Aside0 (Below w.heap.size w w'))
 case atStart => exact ⟨3, rfl, H', ⟨Nat.le_refl _⟩, ⟨rk BK1⟩, ⟨(rb1 HB GE1)⟩⟩
 case round =>
  clear H' BK1 HB
  obtain ⟨x4_1, rfl, HA, HK1, BK1, HB⟩ := hrel
  cases gk with
  | zero => exact absurd HA.out (by simp [impl_pressed.l0])
  | succ k1 =>
   have H := HA.out
   clear HA
   simp only [impl_pressed.l0] at H
   refine em_ (p := x4_1 ≤ 12) (fun c6 => ?g0p) (fun c6 => ?g0n)
   case g0p =>
    rw [if_pos c6] at H
    have c6b0 : decide (x4_1 ≤ 12) = true := decide_eq_true c6
    clear c6
    obtain ⟨t, A1, H⟩ := Option.bind_eq_some_iff.mp H
    obtain ⟨b, A2, H⟩ := Option.bind_eq_some_iff.mp H
    have A3 := am A1
    have A4 := am A2
    clear A1 A2
    have hcz1_0 : wr.cell? ⟨g1, 0, none⟩ = some (.int .i64 0) := (blk_cell BK1.out 0).trans rfl
    have hcz1_1 : wr.cell? ⟨g1, 1, none⟩ = some (.int .i64 0) := (blk_cell BK1.out 1).trans rfl
    have hcz1_2 : wr.cell? ⟨g1, 2, none⟩ = some (.bool false) := (blk_cell BK1.out 2).trans rfl
    have hfz1_0 := blk_frozen BK1.out 0
    have hfz1_1 := blk_frozen BK1.out 1
    have hfz1_2 := blk_frozen BK1.out 2
    by_cases cb : b = true
    ·subst cb
     rw [if_pos rfl] at H
     simp only [Option.some.injEq, Prod.mk.injEq] at H
     obtain ⟨rfl, rfl, rfl, rfl⟩ := H
     go_wp2_with (first | ((with_reducible refine gate_callee (f := 66) rfl ?_); (try (refine gate_guard (by rfl) ?_; dsimp only)); refine goesL_ (some 18) rfl rfl Tryd.func66 (by kernel_rfl) rfl #[.int .i64 x4_1] rfl (by (try simp only [List.map_toArray, List.map_cons, List.map_nil]); first | done | rfl) ?_; (with_reducible refine (impl_sentBy.calls x4_1 t _ A3.out).mono ?_); rintro e w' ⟨rfl, ⟨nd, rfl⟩⟩; refine ⟨_, rfl, ?_⟩) | ((with_reducible refine gate_callee (f := 77) rfl ?_); (try (refine gate_guard (by rfl) ?_; dsimp only)); refine goesL_ (some 19) rfl rfl Tryd.func77 (by kernel_rfl) rfl #[.string a0, .string t] rfl (by (try simp only [List.map_toArray, List.map_cons, List.map_nil]); first | done | rfl) ?_; (with_reducible refine (strings_HasPrefix.calls a0 t true _ A4.out).mono ?_); rintro e w' ⟨rfl, ⟨nd, rfl⟩⟩; refine ⟨_, rfl, ?_⟩))
     refine bodyPost_ret (results_ct rfl _ _ g1 50 #[.int .i64 x4_1, .int .i64 0, .bool false] (0, 0) _ rfl (by (with_reducible repeat (first | apply k1 | apply k2 | apply k3)); refine blk_put (cs := #[.int .i64 x4_1, .int .i64 0, .bool false]) ?_ 2 _ rfl; (with_reducible repeat (first | apply k1 | apply k2 | apply k3)); refine blk_put (cs := #[.int .i64 x4_1, .int .i64 0, .bool false]) ?_ 1 _ rfl; (with_reducible repeat (first | apply k1 | apply k2 | apply k3)); refine blk_put (cs := #[.int .i64 0, .int .i64 0, .bool false]) ?_ 0 _ rfl; (with_reducible repeat (first | apply k1 | apply k2 | apply k3)); exact BK1.out) Tryd.underlying50 rfl (by kernel_rfl)) rfl ?_
     exact ⟨by first | rfl | (simp; done) | (simp [*]; done), (rb1 HB GE1)⟩
    ·replace cb := Bool.eq_false_iff.mpr cb
     subst cb
     rw [if_neg (by decide)] at H
     have H' := am H
     clear H
     go_wp2_with (first | ((with_reducible refine gate_callee (f := 66) rfl ?_); (try (refine gate_guard (by rfl) ?_; dsimp only)); refine goesL_ (some 18) rfl rfl Tryd.func66 (by kernel_rfl) rfl #[.int .i64 x4_1] rfl (by (try simp only [List.map_toArray, List.map_cons, List.map_nil]); first | done | rfl) ?_; (with_reducible refine (impl_sentBy.calls x4_1 t _ A3.out).mono ?_); rintro e w' ⟨rfl, ⟨nd, rfl⟩⟩; refine ⟨_, rfl, ?_⟩) | ((with_reducible refine gate_callee (f := 77) rfl ?_); (try (refine gate_guard (by rfl) ?_; dsimp only)); refine goesL_ (some 19) rfl rfl Tryd.func77 (by kernel_rfl) rfl #[.string a0, .string t] rfl (by (try simp only [List.map_toArray, List.map_cons, List.map_nil]); first | done | rfl) ?_; (with_reducible refine (strings_HasPrefix.calls a0 t false _ A4.out).mono ?_); rintro e w' ⟨rfl, ⟨nd, rfl⟩⟩; refine ⟨_, rfl, ?_⟩))
     go_roundg k1
     case measure => have := HK1.out; omega
     case rel => exact ⟨(wrap64 (x4_1 + 1)), (by first | rfl | (simp; done) | (simp [*]; done)), H', ⟨by have := HK1.out; omega⟩, ⟨rk BK1⟩, ⟨(rb1 HB GE1)⟩⟩
   case' g0n =>
    rw [if_neg c6] at H
    have c6b0 : decide (x4_1 ≤ 12) = false := decide_eq_false c6
    clear c6
    obtain ⟨⟨t1, t2⟩, A1, H⟩ := Option.bind_eq_some_iff.mp H
    obtain ⟨⟨g1v, g2v⟩, A2, H⟩ := Option.bind_eq_some_iff.mp H
    have A4 := am A1
    have A5 := am A2
    have H' := am H
    clear A1 A2 H
    dsimp only at A5 H'
    have lf3_ := trivial
   all_goals
    go_wp2_with (first | ((with_reducible refine gate_callee (f := 78) rfl ?_); (try (refine gate_guard (by rfl) ?_; dsimp only)); refine goesL_ (some 24) rfl rfl Tryd.func78 (by kernel_rfl) rfl #[.string a0, .string (⟨#[27]⟩ : ByteArray)] rfl (by (try simp only [List.map_toArray, List.map_cons, List.map_nil]); first | done | rfl) ?_; (with_reducible refine (strings_CutPrefix.calls a0 (⟨#[27]⟩ : ByteArray) t1 t2 _ A4.out).mono ?_); rintro e w' ⟨rfl, ⟨nd, rfl⟩⟩; refine ⟨_, rfl, ?_⟩) | ((with_reducible refine gate_callee (f := 14) rfl ?_); refine goesL_ (some 29) rfl rfl Tryd.func14 (by kernel_rfl) rfl #[.string t1] rfl (by (try simp only [List.map_toArray, List.map_cons, List.map_nil]); first | done | rfl) ?_; (with_reducible refine (impl_Get.calls t1 g1v g2v _ A5.out (TB.below HT.out (rb1 HB GE1))).mono ?_); rintro e w7 ⟨rfl, hb⟩; refine ⟨_, rfl, ?_⟩; have n0_ := am (blk_below (g := g1) (o := .cells #[.int .i64 0, .int .i64 0, .bool false] 50 (0, 0)) (rk BK1) hb); have n1_ := am (below_step (rb1 HB GE1) hb); clear BK1 HB hb; have BK1 := n0_; have HB := n1_; clear n0_ n1_))
    go_loopg [38] k1 (fun kq v38 w' => ∃ (x38 : Int), v38 = .int .i64 x38 ∧ Aside0 (impl_pressed.l2 kq a0 g1v t2 x38 = some (r1, r2, r3, r4)) ∧ Aside0 (kq ≤ k1) ∧ Aside0 (0 ≤ x38) ∧ Aside0 (w'.heap[g1]? = some (.cells #[.int .i64 0, .int .i64 0, .bool false] 50 (0, 0))) ∧ Aside0 (Below w.heap.size w w'))
    case atStart => exact ⟨0, rfl, H', ⟨Nat.le_refl _⟩, ⟨Int.le_refl _⟩, ⟨rk BK1⟩, ⟨(rb1 HB GE1)⟩⟩
    case round =>
     clear H' BK1 HB A4 A5
     obtain ⟨x38, rfl, HA, HK2, HN, BK1, HB⟩ := hrel
     cases gk with
     | zero => exact absurd HA.out (by simp [impl_pressed.l2])
     | succ k2 =>
      have H := HA.out
      clear HA
      simp only [impl_pressed.l2] at H
      have hcz1_0 : wr.cell? ⟨g1, 0, none⟩ = some (.int .i64 0) := (blk_cell BK1.out 0).trans rfl
      have hcz1_1 : wr.cell? ⟨g1, 1, none⟩ = some (.int .i64 0) := (blk_cell BK1.out 1).trans rfl
      have hcz1_2 : wr.cell? ⟨g1, 2, none⟩ = some (.bool false) := (blk_cell BK1.out 2).trans rfl
      have hfz1_0 := blk_frozen BK1.out 0
      have hfz1_1 := blk_frozen BK1.out 1
      have hfz1_2 := blk_frozen BK1.out 2
      by_cases c7 : x38 < 2
      ·rw [if_pos c7] at H
       have c7b0 : decide (x38 < 2) = true := decide_eq_true c7
       have hcase : x38 = 0 ∨ x38 = 1 := by have := HN.out; omega
       have hnext : (0 : Int) ≤ wrap64 (x38 + 1) := by rcases hcase with rfl | rfl <;> (unfold wrap64; omega)
       have hnext := am hnext
       obtain ⟨kd, al, hkd, hal, hix⟩ : ∃ (kd : Int) (al : Bool), (if x38 = 0 then (1 : Int) else 2) = kd ∧ (if x38 = 0 then t2 else false) = al ∧ ∀ w : World, (Instr.index 90 (.agg #[.int .i64 1, .int .i64 g1v, .bool t2, .int .i64 2, .int .i64 g1v, .bool false]) (.int .i64 x38)).run Tryd.prog w = .ok (.agg #[.int .i64 kd, .int .i64 g1v, .bool al]) w := by
        rcases hcase with rfl | rfl
        ·exact ⟨1, t2, rfl, rfl, fun _ => by kernel_rfl⟩
        ·exact ⟨2, false, rfl, rfl, fun _ => by kernel_rfl⟩
       clear hcase c7
       rw [hkd, hal] at H
       clear hkd hal
       obtain ⟨t3, A1, H⟩ := Option.bind_eq_some_iff.mp H
       have A6 := am A1
       clear A1
       refine em_ (p := t3.toList = ([] : List UInt8)) (fun c11 => ?g2p) (fun c11 => ?g2n)
       case' g2p =>
        rw [if_pos c11] at H
        have c11b0 : (t3.toList == ([] : List UInt8)) = true := beq_iff_eq.mpr c11
        have c11b1 : (t3.toList != ([] : List UInt8)) = false := bne_eq_false_iff_eq.mpr c11
        clear c11
        have H' := am H
        clear H
        have lf6_ := trivial
       case' g2n =>
        rw [if_neg c11] at H
        have c11b0 : (t3.toList == ([] : List UInt8)) = false := beq_eq_false_iff_ne.mpr c11
        have c11b1 : (t3.toList != ([] : List UInt8)) = true := bne_iff_ne.mpr c11
        clear c11
        obtain ⟨b, A2, H⟩ := Option.bind_eq_some_iff.mp H
        have A7 := am A2
        clear A2
        refine em_ (p := b = true) (fun cb => ?g1p) (fun cb => ?g1n)
        case' g1p =>
         subst cb
         rw [if_pos rfl] at H
         simp only [Option.some.injEq, Prod.mk.injEq] at H
         obtain ⟨rfl, rfl, rfl, rfl⟩ := H
         have lf7_ := trivial
        case' g1n =>
         replace cb := Bool.eq_false_iff.mpr cb
         subst cb
         rw [if_neg (by decide)] at H
         have H' := am H
         clear H
         have lf8_ := trivial
       all_goals
        go_wp2_with (first | ((with_reducible refine gate_callee (f := 40) rfl ?_); refine goesL_ (some 42) rfl rfl Tryd.func40 (by kernel_rfl) rfl #[.agg #[.int .i64 kd, .int .i64 g1v, .bool al]] rfl (by (try simp only [List.map_toArray, List.map_cons, List.map_nil]); first | done | rfl) ?_; (with_reducible refine (impl_Sent.calls k2 kd g1v al t3 _ A6.out).mono ?_); rintro e w10 ⟨rfl, hb⟩; refine ⟨_, rfl, ?_⟩; have n0_ := am (blk_below (g := g1) (o := .cells #[.int .i64 0, .int .i64 0, .bool false] 50 (0, 0)) (by (with_reducible repeat (first | apply k1 | apply k2 | apply k3)); refine blk_far ?_ NB12.out _; (with_reducible repeat (first | apply k1 | apply k2 | apply k3)); refine blk_far ?_ NB12.out _; (with_reducible repeat (first | apply k1 | apply k2 | apply k3)); refine blk_far ?_ NB12.out _; (with_reducible repeat (first | apply k1 | apply k2 | apply k3)); exact BK1.out) hb); have n1_ := am (blk_below (g := g2) (o := .cells #[.int .i64 kd, .int .i64 g1v, .bool al] 50 (0, 0)) (by (with_reducible repeat (first | apply k1 | apply k2 | apply k3)); refine blk_put (cs := #[.int .i64 kd, .int .i64 g1v, .bool false]) ?_ 2 _ rfl; (with_reducible repeat (first | apply k1 | apply k2 | apply k3)); refine blk_put (cs := #[.int .i64 kd, .int .i64 0, .bool false]) ?_ 1 _ rfl; (with_reducible repeat (first | apply k1 | apply k2 | apply k3)); refine blk_put (cs := #[.int .i64 0, .int .i64 0, .bool false]) ?_ 0 _ rfl; (with_reducible repeat (first | apply k1 | apply k2 | apply k3)); exact BK2.out) hb); have n2_ := am (below_step (rb2 HB GE1 GE2) hb); clear BK1 BK2 HB hb; try clear hcz2_0; try clear hfz2_0; try clear hcz2_1; try clear hfz2_1; try clear hcz2_2; try clear hfz2_2; have BK1 := n0_; have BK2 := n1_; have HB := n2_; clear n0_ n1_ n2_; have hcz2_0 : w10.cell? ⟨g2, 0, none⟩ = some (.int .i64 kd) := (blk_cell BK2.out 0).trans rfl; have hcz2_1 : w10.cell? ⟨g2, 1, none⟩ = some (.int .i64 g1v) := (blk_cell BK2.out 1).trans rfl; have hcz2_2 : w10.cell? ⟨g2, 2, none⟩ = some (.bool al) := (blk_cell BK2.out 2).trans rfl; have hfz2_0 := blk_frozen BK2.out 0; have hfz2_1 := blk_frozen BK2.out 1; have hfz2_2 := blk_frozen BK2.out 2; have hcz1_0 : w10.cell? ⟨g1, 0, none⟩ = some (.int .i64 0) := (blk_cell BK1.out 0).trans rfl; have hcz1_1 : w10.cell? ⟨g1, 1, none⟩ = some (.int .i64 0) := (blk_cell BK1.out 1).trans rfl; have hcz1_2 : w10.cell? ⟨g1, 2, none⟩ = some (.bool false) := (blk_cell BK1.out 2).trans rfl; have hfz1_0 := blk_frozen BK1.out 0; have hfz1_1 := blk_frozen BK1.out 1; have hfz1_2 := blk_frozen BK1.out 2) | ((with_reducible refine gate_dst (N := 10) rfl ?_); refine box_event ?hg (N := 10) ?hd (cs := #[.int .i64 0, .int .i64 0, .bool false]) (t := 50) ?hr ?_; (case hd => rfl); (case hg => rfl); (case hr => first | (go_simp; done) | (go_simp; rfl)); intro g2 hg w9 hbox hb; have n0_ := am (blk_below (g := g1) (o := .cells #[.int .i64 0, .int .i64 0, .bool false] 50 (0, 0)) (rk BK1) hb); have n1_ := am (below_step (rb1 HB GE1) hb); have n2_ := am hbox; have n3_ := am ((by rw [hg]; exact below_size (rb1 HB GE1)) : w.heap.size ≤ g2); have n4_ := am ((by rw [hg]; exact Nat.ne_of_lt (blk_lt (g := g1) (o := .cells #[.int .i64 0, .int .i64 0, .bool false] 50 (0, 0)) (rk BK1))) : g1 ≠ g2); have n5_ := am ((by rw [hg]; exact Nat.ne_of_gt (blk_lt (g := g1) (o := .cells #[.int .i64 0, .int .i64 0, .bool false] 50 (0, 0)) (rk BK1))) : g2 ≠ g1); clear BK1 HB; have BK1 := n0_; have HB := n1_; have BK2 := n2_; have GE2 := n3_; have NB12 := n4_; have NB21 := n5_; clear n0_ n1_ n2_ n3_ n4_ n5_ hb hbox hg; have hnb := NB21.out; have hnc := NB12.out; have hcz2_0 : w9.cell? ⟨g2, 0, none⟩ = some (.int .i64 0) := (blk_cell BK2.out 0).trans rfl; have hcz2_1 : w9.cell? ⟨g2, 1, none⟩ = some (.int .i64 0) := (blk_cell BK2.out 1).trans rfl; have hcz2_2 : w9.cell? ⟨g2, 2, none⟩ = some (.bool false) := (blk_cell BK2.out 2).trans rfl; have hfz2_0 := blk_frozen BK2.out 0; have hfz2_1 := blk_frozen BK2.out 1; have hfz2_2 := blk_frozen BK2.out 2) | ((with_reducible refine gate_callee (f := 77) rfl ?_); (try (refine gate_guard (by rfl) ?_; dsimp only)); refine goesL_ (some 48) rfl rfl Tryd.func77 (by kernel_rfl) rfl #[.string a0, .string t3] rfl (by (try simp only [List.map_toArray, List.map_cons, List.map_nil]); first | done | rfl) ?_; (with_reducible refine (strings_HasPrefix.calls a0 t3 false _ A7.out).mono ?_); rintro e w' ⟨rfl, ⟨nd, rfl⟩⟩; refine ⟨_, rfl, ?_⟩) | ((with_reducible refine gate_callee (f := 77) rfl ?_); (try (refine gate_guard (by rfl) ?_; dsimp only)); refine goesL_ (some 48) rfl rfl Tryd.func77 (by kernel_rfl) rfl #[.string a0, .string t3] rfl (by (try simp only [List.map_toArray, List.map_cons, List.map_nil]); first | done | rfl) ?_; (with_reducible refine (strings_HasPrefix.calls a0 t3 true _ A7.out).mono ?_); rintro e w' ⟨rfl, ⟨nd, rfl⟩⟩; refine ⟨_, rfl, ?_⟩))
        first
        | (
          have q_ := lf7_
          refine bodyPost_ret (results_ct rfl _ _ g1 50 #[.int .i64 kd, .int .i64 g1v, .bool al] (0, 0) _ rfl (by (with_reducible repeat (first | apply k1 | apply k2 | apply k3)); refine blk_put (cs := #[.int .i64 kd, .int .i64 g1v, .bool false]) ?_ 2 _ rfl; (with_reducible repeat (first | apply k1 | apply k2 | apply k3)); refine blk_put (cs := #[.int .i64 kd, .int .i64 0, .bool false]) ?_ 1 _ rfl; (with_reducible repeat (first | apply k1 | apply k2 | apply k3)); refine blk_put (cs := #[.int .i64 0, .int .i64 0, .bool false]) ?_ 0 _ rfl; (with_reducible repeat (first | apply k1 | apply k2 | apply k3)); exact BK1.out) Tryd.underlying50 rfl (by kernel_rfl)) rfl ?_
          exact ⟨by first | rfl | (simp; done) | (simp [*]; done), (rb2 HB GE1 GE2)⟩
          )
        | (
          first | have q_ := lf6_ | have q_ := lf8_
          go_roundg k2
          case measure => have := HK2.out; omega
          case rel => exact ⟨(wrap64 (x38 + 1)), (by first | rfl | (simp; done) | (simp [*]; done)), H', ⟨by have := HK2.out; omega⟩, hnext, ⟨rk BK1⟩, ⟨(rb2 HB GE1 GE2)⟩⟩
          )
      ·rw [if_neg c7] at H
       have c7b0 : decide (x38 < 2) = false := decide_eq_false c7
       clear c7
       simp only [Option.some.injEq, Prod.mk.injEq] at H
       obtain ⟨rfl, rfl, rfl, rfl⟩ := H
       go_wp2
       refine bodyPost_ret (results_ct rfl _ _ g1 50 #[.int .i64 0, .int .i64 0, .bool false] (0, 0) _ rfl (by (with_reducible repeat (first | apply k1 | apply k2 | apply k3)); refine blk_put (cs := #[.int .i64 0, .int .i64 0, .bool false]) ?_ 2 _ rfl; (with_reducible repeat (first | apply k1 | apply k2 | apply k3)); refine blk_put (cs := #[.int .i64 0, .int .i64 0, .bool false]) ?_ 1 _ rfl; (with_reducible repeat (first | apply k1 | apply k2 | apply k3)); refine blk_put (cs := #[.int .i64 0, .int .i64 0, .bool false]) ?_ 0 _ rfl; (with_reducible repeat (first | apply k1 | apply k2 | apply k3)); exact BK1.out) Tryd.underlying50 rfl (by kernel_rfl)) rfl ?_
       exact ⟨by first | rfl | (simp; done) | (simp [*]; done), (rb1 HB GE1)⟩

end Go.Proofs.YtfhkpneffmcdbaaDoor.QC
