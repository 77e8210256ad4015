/- Contracts of Go functions that laws of this seat reach: each Lean function answers as its Go function does. No condition. Written by wip/tools/inj.py, over the kit's print. -/
import Derived.Test.YtbgekmchjdkjiaaDoorPBx0
import Derived.Test.YtbgekmchjdkjiaaDoorPBx5
import Derived.Test.YtbgekmchjdkjiaaDoorPBx8
import Derived.Test.YtbgekmchjdkjiaaDoorPBx9
import Derived.Test.YtbgekmchjdkjiaaDoorPBx10
namespace Go.Proofs.YtbgekmchjdkjiaaDoor.PB
open Go.RowKit Go.Proofs.YtbgekmchjdkjiaaDoorW.PrintWords Go.Proofs.YtbgekmchjdkjiaaDoorW.PrintLast Go.Proofs.YtbgekmchjdkjiaaDoorW.PrintMore
attribute [local go_sem] max2_int min2_int max_two min_two max_three min_three max_four min_four   -- for this text's walks alone
set_option linter.unusedVariables false
set_option linter.unusedSimpArgs false

/-! ### impl_Styled: function 16 -/
def impl_Styled.l0 (k : Nat) : List Int → Int → Int → Bool → Bool → Bool → Option (Int × Int × Bool × Bool × Bool)
 | [], a, b, c, d, e => some (a, b, c, d, e)
 | n :: l, a, b, c, d, e => (impl_Style_set.f k a b c d e n).bind fun t => impl_Styled.l0 k l t.1 t.2.1 t.2.2.1 t.2.2.2.1 t.2.2.2.2
theorem impl_Styled.mono_l : ∀ (l : List Int) (k : Nat) (a b : Int) (c d e : Bool), LeO (impl_Styled.l0 k l a b c d e) (impl_Styled.l0 (k + 1) l a b c d e)
 | [], _, _, _, _, _, _ => LeO.refl _
 | n :: l, k, a, b, c, d, e => by
  simp only [impl_Styled.l0]
  exact LeO.bind (impl_Style_set.mono _ _ _ _ _ _ _) (fun _ => impl_Styled.mono_l l k _ _ _ _ _)
def impl_Styled.f (k : Nat) (a0_0 : Int) (a0_1 : Int) (a0_2 : Bool) (a0_3 : Bool) (a0_4 : Bool) (l1 : List Int) : Option (Int × Int × Bool × Bool × Bool) :=
 (impl_StyleOk.f a0_0 a0_1 a0_2 a0_3 a0_4).bind fun t => if t = true then (if (l1.length : Int) > 16 then some (0, 0, false, false, false) else (if (l1.length : Int) = 0 then some (0, 0, false, false, false) else impl_Styled.l0 k l1 a0_0 a0_1 a0_2 a0_3 a0_4)) else some (0, 0, false, false, false)
theorem impl_Styled.mono : ∀ a0 a1 a2 a3 a4 a5 k, LeO (impl_Styled.f k a0 a1 a2 a3 a4 a5) (impl_Styled.f (k + 1) a0 a1 a2 a3 a4 a5) := by
 intro a0 a1 a2 a3 a4 a5 k
 unfold impl_Styled.f
 refine LeO.bind (LeO.refl _) (fun _ => LeO.ite (LeO.ite (LeO.refl _) (LeO.ite (LeO.refl _) (impl_Styled.mono_l _ _ _ _ _ _ _))) (LeO.refl _))
set_option maxHeartbeats 8000000 in
set_option maxRecDepth 100000 in
theorem impl_Styled.calls (k : Nat) (a0_0 : Int) (a0_1 : Int) (a0_2 : Bool) (a0_3 : Bool) (a0_4 : Bool) (A1 : Option Addr) (c1 : Nat) (l1 : List Int) (r1 : Int) (r2 : Int) (r3 : Bool) (r4 : Bool) (r5 : Bool) (w : World) (hr1 : Kd.C (Kd.int .i64) w A1 l1.length l1) (hc1 : l1.length ≤ c1) (h : impl_Styled.f k a0_0 a0_1 a0_2 a0_3 a0_4 l1 = some (r1, r2, r3, r4, r5)) :
  Calls Tryd.prog 16 #[.agg #[.int .i64 a0_0, .int .i64 a0_1, .bool a0_2, .bool a0_3, .bool a0_4], .slice A1 l1.length c1] w fun e w' => e = .returned (.agg #[.int .i64 r1, .int .i64 r2, .bool r3, .bool r4, .bool r5]) ∧ Below w.heap.size w w' := by
 have huE := Tryd.underlying25
 have HR1 := am hr1
 have HC1 := am hc1
 clear hr1 hc1
 unfold impl_Styled.f at h
 obtain ⟨t, et, h⟩ := Option.bind_eq_some_iff.mp h
 have AT := am et
 clear et
 have H := am h
 clear h
 have HL := am (fun (i : Nat) (hi : i < l1.length) => Kd.C_get HR1.out (0 : Int) (i : Int) (by omega) (by omega))
 go_enter Tryd.func16, Tryd.ntmps16
 go_upto_region 1 with (first
  | ((with_reducible refine gate_dst (N := 2) rfl ?_); refine box_event ?hg (N := 2) ?hd (cs := #[.int .i64 a0_0, .int .i64 a0_1, .bool a0_2, .bool a0_3, .bool a0_4]) (t := 25) ?hr ?_; (case hd => rfl); (case hg => rfl); (case hr => first | (go_simp; done) | (go_simp; rfl)); intro gb hg w2 hbox hb; have HB2 := am hb; have BK2 := am hbox; have GE2 := am (show w.heap.size ≤ gb by rw [hg]; exact Nat.le_refl _); clear hb hbox hg)
  | ((with_reducible refine gate_dst (N := 4) rfl ?_); refine box_event ?hg (N := 4) ?hd (cs := #[.int .i64 0, .int .i64 0, .bool false, .bool false, .bool false]) (t := 25) ?hr ?_; (case hd => rfl); (case hg => rfl); (case hr => first | (go_simp; done) | (go_simp; rfl)); intro g4 hg w4 hbox hb; have BK4 := am hbox; have GE4 := am (show w.heap.size ≤ g4 by rw [hg]; exact HB2.out.size); have NE := am (show gb ≠ g4 by rw [hg]; exact Nat.ne_of_lt (blk_lt BK2.out)); have BK2' := am (blk_below BK2.out hb); have HB4 := am (below_step HB2.out hb); clear hb hbox hg BK2 HB2))
 have x0 : w4.cell? ⟨gb, 0, none⟩ = some (.int .i64 a0_0) := (blk_cell BK2'.out 0).trans rfl
 have x1 : w4.cell? ⟨gb, 1, none⟩ = some (.int .i64 a0_1) := (blk_cell BK2'.out 1).trans rfl
 have x2 : w4.cell? ⟨gb, 2, none⟩ = some (.bool a0_2) := (blk_cell BK2'.out 2).trans rfl
 have x3 : w4.cell? ⟨gb, 3, none⟩ = some (.bool a0_3) := (blk_cell BK2'.out 3).trans rfl
 have x4 : w4.cell? ⟨gb, 4, none⟩ = some (.bool a0_4) := (blk_cell BK2'.out 4).trans rfl
 have hne := NE.out
 have hne' := Ne.symm NE.out
 by_cases ct : t = true
 case neg =>
  have HH := H.out
  replace ct := Bool.eq_false_iff.mpr ct
  subst ct
  rw [if_neg (show ¬ (false = true) by decide)] at HH
  simp only [Option.some.injEq, Prod.mk.injEq] at HH
  clear H
  obtain ⟨rfl, rfl, rfl, rfl, rfl⟩ := HH
  go_wp2_with ((with_reducible refine gate_callee (f := 22) rfl ?_); refine gl_ (some 8) Tryd.func22 #[.agg #[.int .i64 a0_0, .int .i64 a0_1, .bool a0_2, .bool a0_3, .bool a0_4]] ?_; (with_reducible refine (impl_StyleOk.calls a0_0 a0_1 a0_2 a0_3 a0_4 false _ AT.out).mono ?_); rintro e w' ⟨rfl, hb5⟩; refine ⟨_, rfl, ?_⟩; have BK4b := am (blk_below BK4.out hb5); have BK2b := am (blk_below BK2'.out hb5); have HB5 := am (below_step HB4.out hb5); clear hb5; have z0 : w'.cell? ⟨g4, 0, none⟩ = some (.int .i64 0) := (blk_cell BK4b.out 0).trans rfl; have z1 : w'.cell? ⟨g4, 1, none⟩ = some (.int .i64 0) := (blk_cell BK4b.out 1).trans rfl; have z2 : w'.cell? ⟨g4, 2, none⟩ = some (.bool false) := (blk_cell BK4b.out 2).trans rfl; have z3 : w'.cell? ⟨g4, 3, none⟩ = some (.bool false) := (blk_cell BK4b.out 3).trans rfl; have z4 : w'.cell? ⟨g4, 4, none⟩ = some (.bool false) := (blk_cell BK4b.out 4).trans rfl; have f0 := blk_frozen BK4b.out 0; have f1 := blk_frozen BK4b.out 1; have f2 := blk_frozen BK4b.out 2; have f3 := blk_frozen BK4b.out 3; have f4 := blk_frozen BK4b.out 4)
  refine bodyPost_ret (results_cell_row rfl _ _ g4 25 #[.int .i64 0, .int .i64 0, .bool false, .bool false, .bool false] (0, 0) _ rfl (by refine blk_put (cs := #[.int .i64 0, .int .i64 0, .bool false, .bool false, .bool false]) ?_ 4 _ rfl; refine blk_put (cs := #[.int .i64 0, .int .i64 0, .bool false, .bool false, .bool false]) ?_ 3 _ rfl; refine blk_put (cs := #[.int .i64 0, .int .i64 0, .bool false, .bool false, .bool false]) ?_ 2 _ rfl; refine blk_put (cs := #[.int .i64 0, .int .i64 0, .bool false, .bool false, .bool false]) ?_ 1 _ rfl; refine blk_put (cs := #[.int .i64 0, .int .i64 0, .bool false, .bool false, .bool false]) ?_ 0 _ rfl; exact BK4b.out) Tryd.underlying25 rfl (by kernel_rfl)) rfl ?_
  exact ⟨rfl, by refine below_set ?_ GE4.out; refine below_set ?_ GE4.out; refine below_set ?_ GE4.out; refine below_set ?_ GE4.out; refine below_set ?_ GE4.out; exact HB5.out⟩
 subst ct
 by_cases c16 : (l1.length : Int) > 16
 case pos =>
  have HH := H.out
  rw [if_pos rfl, if_pos c16] at HH
  simp only [Option.some.injEq, Prod.mk.injEq] at HH
  clear H
  have d16 : decide (16 < (l1.length : Int)) = true := decide_eq_true c16
  clear c16
  obtain ⟨rfl, rfl, rfl, rfl, rfl⟩ := HH
  go_wp2_with ((with_reducible refine gate_callee (f := 22) rfl ?_); refine gl_ (some 8) Tryd.func22 #[.agg #[.int .i64 a0_0, .int .i64 a0_1, .bool a0_2, .bool a0_3, .bool a0_4]] ?_; (with_reducible refine (impl_StyleOk.calls a0_0 a0_1 a0_2 a0_3 a0_4 true _ AT.out).mono ?_); rintro e w' ⟨rfl, hb5⟩; refine ⟨_, rfl, ?_⟩; have BK4b := am (blk_below BK4.out hb5); have BK2b := am (blk_below BK2'.out hb5); have HB5 := am (below_step HB4.out hb5); clear hb5; have z0 : w'.cell? ⟨g4, 0, none⟩ = some (.int .i64 0) := (blk_cell BK4b.out 0).trans rfl; have z1 : w'.cell? ⟨g4, 1, none⟩ = some (.int .i64 0) := (blk_cell BK4b.out 1).trans rfl; have z2 : w'.cell? ⟨g4, 2, none⟩ = some (.bool false) := (blk_cell BK4b.out 2).trans rfl; have z3 : w'.cell? ⟨g4, 3, none⟩ = some (.bool false) := (blk_cell BK4b.out 3).trans rfl; have z4 : w'.cell? ⟨g4, 4, none⟩ = some (.bool false) := (blk_cell BK4b.out 4).trans rfl; have f0 := blk_frozen BK4b.out 0; have f1 := blk_frozen BK4b.out 1; have f2 := blk_frozen BK4b.out 2; have f3 := blk_frozen BK4b.out 3; have f4 := blk_frozen BK4b.out 4)
  refine bodyPost_ret (results_cell_row rfl _ _ g4 25 #[.int .i64 0, .int .i64 0, .bool false, .bool false, .bool false] (0, 0) _ rfl (by refine blk_put (cs := #[.int .i64 0, .int .i64 0, .bool false, .bool false, .bool false]) ?_ 4 _ rfl; refine blk_put (cs := #[.int .i64 0, .int .i64 0, .bool false, .bool false, .bool false]) ?_ 3 _ rfl; refine blk_put (cs := #[.int .i64 0, .int .i64 0, .bool false, .bool false, .bool false]) ?_ 2 _ rfl; refine blk_put (cs := #[.int .i64 0, .int .i64 0, .bool false, .bool false, .bool false]) ?_ 1 _ rfl; refine blk_put (cs := #[.int .i64 0, .int .i64 0, .bool false, .bool false, .bool false]) ?_ 0 _ rfl; exact BK4b.out) Tryd.underlying25 rfl (by kernel_rfl)) rfl ?_
  exact ⟨rfl, by refine below_set ?_ GE4.out; refine below_set ?_ GE4.out; refine below_set ?_ GE4.out; refine below_set ?_ GE4.out; refine below_set ?_ GE4.out; exact HB5.out⟩
 have d16 : decide (16 < (l1.length : Int)) = false := decide_eq_false (by omega)
 by_cases c0 : (l1.length : Int) = 0
 case pos =>
  have HH := H.out
  rw [if_pos rfl, if_neg c16, if_pos c0] at HH
  simp only [Option.some.injEq, Prod.mk.injEq] at HH
  clear H c16
  have d0 : ((l1.length : Int) == 0) = true := beq_iff_eq.mpr c0
  clear c0
  obtain ⟨rfl, rfl, rfl, rfl, rfl⟩ := HH
  go_wp2_with ((with_reducible refine gate_callee (f := 22) rfl ?_); refine gl_ (some 8) Tryd.func22 #[.agg #[.int .i64 a0_0, .int .i64 a0_1, .bool a0_2, .bool a0_3, .bool a0_4]] ?_; (with_reducible refine (impl_StyleOk.calls a0_0 a0_1 a0_2 a0_3 a0_4 true _ AT.out).mono ?_); rintro e w' ⟨rfl, hb5⟩; refine ⟨_, rfl, ?_⟩; have BK4b := am (blk_below BK4.out hb5); have BK2b := am (blk_below BK2'.out hb5); have HB5 := am (below_step HB4.out hb5); clear hb5; have z0 : w'.cell? ⟨g4, 0, none⟩ = some (.int .i64 0) := (blk_cell BK4b.out 0).trans rfl; have z1 : w'.cell? ⟨g4, 1, none⟩ = some (.int .i64 0) := (blk_cell BK4b.out 1).trans rfl; have z2 : w'.cell? ⟨g4, 2, none⟩ = some (.bool false) := (blk_cell BK4b.out 2).trans rfl; have z3 : w'.cell? ⟨g4, 3, none⟩ = some (.bool false) := (blk_cell BK4b.out 3).trans rfl; have z4 : w'.cell? ⟨g4, 4, none⟩ = some (.bool false) := (blk_cell BK4b.out 4).trans rfl; have f0 := blk_frozen BK4b.out 0; have f1 := blk_frozen BK4b.out 1; have f2 := blk_frozen BK4b.out 2; have f3 := blk_frozen BK4b.out 3; have f4 := blk_frozen BK4b.out 4)
  refine bodyPost_ret (results_cell_row rfl _ _ g4 25 #[.int .i64 0, .int .i64 0, .bool false, .bool false, .bool false] (0, 0) _ rfl (by refine blk_put (cs := #[.int .i64 0, .int .i64 0, .bool false, .bool false, .bool false]) ?_ 4 _ rfl; refine blk_put (cs := #[.int .i64 0, .int .i64 0, .bool false, .bool false, .bool false]) ?_ 3 _ rfl; refine blk_put (cs := #[.int .i64 0, .int .i64 0, .bool false, .bool false, .bool false]) ?_ 2 _ rfl; refine blk_put (cs := #[.int .i64 0, .int .i64 0, .bool false, .bool false, .bool false]) ?_ 1 _ rfl; refine blk_put (cs := #[.int .i64 0, .int .i64 0, .bool false, .bool false, .bool false]) ?_ 0 _ rfl; exact BK4b.out) Tryd.underlying25 rfl (by kernel_rfl)) rfl ?_
  exact ⟨rfl, by refine below_set ?_ GE4.out; refine below_set ?_ GE4.out; refine below_set ?_ GE4.out; refine below_set ?_ GE4.out; refine below_set ?_ GE4.out; exact HB5.out⟩
 have HH := H.out
 rw [if_pos rfl, if_neg c16, if_neg c0] at HH
 have d0 : ((l1.length : Int) == 0) = false := by simpa using c0
 have hpos : 0 < l1.length := by omega
 clear H c16 c0
 have H0 := am HH
 clear HH
 obtain ⟨ad, cc, eA, -, -, -⟩ := HL.out 0 hpos
 subst eA
 have HX := am (fun (i : Nat) (hi : i < l1.length) => show w.cell? (ad.add i) = some (.int .i64 (l1.getD i 0)) by
  obtain ⟨ad2, c, e2, hcl, hK, hc⟩ := HL.out i hi
  injection e2 with e2
  subst e2
  have hc1 : c = [.int .i64 (l1.getD i 0)] := hK
  subst hc1
  have := hc 0 _ rfl
  rw [show (Kd.int .i64).sz = 1 from rfl, Nat.mul_one, Nat.add_zero, Int.toNat_natCast] at this
  exact this)
 go_wp2_with ((with_reducible refine gate_callee (f := 22) rfl ?_); refine gl_ (some 8) Tryd.func22 #[.agg #[.int .i64 a0_0, .int .i64 a0_1, .bool a0_2, .bool a0_3, .bool a0_4]] ?_; (with_reducible refine (impl_StyleOk.calls a0_0 a0_1 a0_2 a0_3 a0_4 true _ AT.out).mono ?_); rintro e w' ⟨rfl, hb5⟩; refine ⟨_, rfl, ?_⟩; have BK4b := am (blk_below BK4.out hb5); have BK2b := am (blk_below BK2'.out hb5); have HB5 := am (below_step HB4.out hb5); clear hb5)
 go_loopg [6, 22] l1.length (fun gk v6 v22 wr => ∃ (i : Nat) (b0 b1 : Int) (b2 b3 b4 : Bool), v22 = .int .i64 (i : Int) ∧ Aside0 (i ≤ l1.length ∧ l1.length - i ≤ gk) ∧ Aside0 (impl_Styled.l0 k (l1.drop i) b0 b1 b2 b3 b4 = some (r1, r2, r3, r4, r5)) ∧ Aside0 (IsS25 w wr gb b0 b1 b2 b3 b4) ∧ Aside0 (wr.heap[g4]? = some (.cells #[.int .i64 0, .int .i64 0, .bool false, .bool false, .bool false] 25 (0, 0))) ∧ Aside0 (Below w.heap.size w wr))
 case atStart => exact ⟨0, a0_0, a0_1, a0_2, a0_3, a0_4, rfl, ⟨Nat.zero_le _, Nat.le_refl _⟩, H0, ⟨BK2b.out, GE2.out⟩, BK4b, HB5⟩
 case round =>
  clear x0 x1 x2 x3 x4 H0 BK2b BK4b HB5
  obtain ⟨i, b0, b1, b2, b3, b4, rfl, H1, H0, HI, BZ, HB⟩ := hrel
  by_cases ci : i < l1.length
  ·obtain ⟨g1, rfl⟩ : ∃ q, gk = q + 1 := ⟨gk - 1, by have := H1.out; omega⟩
   have HH := H0.out
   rw [List.drop_eq_getElem_cons ci] at HH
   simp only [impl_Styled.l0] at HH
   obtain ⟨⟨t0, t1, t2, t3, t4⟩, es, HH⟩ := Option.bind_eq_some_iff.mp HH
   have AS := am es
   have H2 := am HH
   clear es HH H0
   have hx : wr.cell? (ad.add i) = some (.int .i64 l1[i]) := by
    have h0 := HX.out i ci
    rw [List.getD_eq_getElem?_getD, List.getElem?_eq_getElem ci] at h0
    exact pw_cell_below HB.out h0
   have p0 : 0 ≤ (i : Int) := Int.natCast_nonneg i
   have q0 : (i : Int) < (l1.length : Int) := by omega
   have dl : decide ((i : Int) < (l1.length : Int)) = true := decide_eq_true q0
   have w1 : wrap64 ((i : Int) + 1) = ((i + 1 : Nat) : Int) := by have := d16; simp only [decide_eq_false_iff_not] at this; unfold wrap64; omega
   go_wp2_with ((with_reducible refine gate_callee (f := 39) rfl ?_); refine gl_ (some 27) Tryd.func39 #[.pointer (some ⟨gb, 0, none⟩), .int .i64 l1[i]] ?_; (with_reducible refine (impl_Style_set.calls k gb b0 b1 b2 b3 b4 l1[i] t0 t1 t2 t3 t4 w _ HI.out HB.out AS.out).mono ?_); rintro e w' ⟨rfl, hi, hb, hk⟩; refine ⟨_, rfl, ?_⟩; have HI2 := am hi; have HB2 := am hb; have BZ2 := am ((hk.2 g4 (blk_lt BZ.out) hne' (by simp)).trans BZ.out); clear hi hb hk HI HB BZ)
   go_roundg g1
   case measure => omega
   case rel => exact ⟨i + 1, t0, t1, t2, t3, t4, (by first | rfl | (simp; done) | (simp [*]; done)), ⟨by have := H1.out; omega, by have := H1.out; omega⟩, H2, HI2, BZ2, HB2⟩
  ·have hi : i = l1.length := by have := H1.out; omega
   subst hi
   have dl : decide ((l1.length : Int) < (l1.length : Int)) = false := decide_eq_false (by omega)
   have HH := H0.out
   rw [List.drop_length] at HH
   simp only [impl_Styled.l0, Option.some.injEq, Prod.mk.injEq] at HH
   obtain ⟨rfl, rfl, rfl, rfl, rfl⟩ := HH
   have BK2c := am HI.out.1
   have x0 : wr.cell? ⟨gb, 0, none⟩ = some (.int .i64 b0) := (blk_cell BK2c.out 0).trans rfl
   have x1 : wr.cell? ⟨gb, 1, none⟩ = some (.int .i64 b1) := (blk_cell BK2c.out 1).trans rfl
   have x2 : wr.cell? ⟨gb, 2, none⟩ = some (.bool b2) := (blk_cell BK2c.out 2).trans rfl
   have x3 : wr.cell? ⟨gb, 3, none⟩ = some (.bool b3) := (blk_cell BK2c.out 3).trans rfl
   have x4 : wr.cell? ⟨gb, 4, none⟩ = some (.bool b4) := (blk_cell BK2c.out 4).trans rfl
   have z0 : wr.cell? ⟨g4, 0, none⟩ = some (.int .i64 0) := (blk_cell BZ.out 0).trans rfl
   have z1 : wr.cell? ⟨g4, 1, none⟩ = some (.int .i64 0) := (blk_cell BZ.out 1).trans rfl
   have z2 : wr.cell? ⟨g4, 2, none⟩ = some (.bool false) := (blk_cell BZ.out 2).trans rfl
   have z3 : wr.cell? ⟨g4, 3, none⟩ = some (.bool false) := (blk_cell BZ.out 3).trans rfl
   have z4 : wr.cell? ⟨g4, 4, none⟩ = some (.bool false) := (blk_cell BZ.out 4).trans rfl
   have f0 := blk_frozen BZ.out 0
   have f1 := blk_frozen BZ.out 1
   have f2 := blk_frozen BZ.out 2
   have f3 := blk_frozen BZ.out 3
   have f4 := blk_frozen BZ.out 4
   go_wp2
   refine bodyPost_ret (results_cell_row rfl _ _ g4 25 #[.int .i64 b0, .int .i64 b1, .bool b2, .bool b3, .bool b4] (0, 0) _ rfl (by refine blk_put (cs := #[.int .i64 b0, .int .i64 b1, .bool b2, .bool b3, .bool false]) ?_ 4 _ rfl; refine blk_put (cs := #[.int .i64 b0, .int .i64 b1, .bool b2, .bool false, .bool false]) ?_ 3 _ rfl; refine blk_put (cs := #[.int .i64 b0, .int .i64 b1, .bool false, .bool false, .bool false]) ?_ 2 _ rfl; refine blk_put (cs := #[.int .i64 b0, .int .i64 0, .bool false, .bool false, .bool false]) ?_ 1 _ rfl; refine blk_put (cs := #[.int .i64 0, .int .i64 0, .bool false, .bool false, .bool false]) ?_ 0 _ rfl; exact BZ.out) Tryd.underlying25 rfl (by kernel_rfl)) rfl ?_
   exact ⟨rfl, by refine below_set ?_ GE4.out; refine below_set ?_ GE4.out; refine below_set ?_ GE4.out; refine below_set ?_ GE4.out; refine below_set ?_ GE4.out; exact HB.out⟩

/-! ### spec_DrawParams: function 17 -/
def spec_DrawParams.f (k : Nat) (l0 : List Int) : Option (Int × Int × Bool × Bool × Bool × Int × Int × Bool × Bool × Bool) := (spec_l1New.f k l0).bind fun bt330 => ((spec_l3DrawAny.f bt330.1 bt330.2.1 bt330.2.2).bind fun bt334 => ((spec_l3DrawAny.f bt330.1 bt334.2.2.2.2.2.1 bt334.2.2.2.2.2.2).bind fun bt342 => (some (bt334.1, bt334.2.1, bt334.2.2.1, bt334.2.2.2.1, bt334.2.2.2.2.1, bt342.1, bt342.2.1, bt342.2.2.1, bt342.2.2.2.1, bt342.2.2.2.2.1))))
theorem spec_DrawParams.mono : ∀ a0 k, LeO (spec_DrawParams.f k a0) (spec_DrawParams.f (k + 1) a0) := by
 intro a0 k
 unfold spec_DrawParams.f
 repeat' first
   | (with_reducible exact spec_l1New.mono _ _)
   | (with_reducible exact LeO.refl _)
   | (with_reducible exact LeO.none _)
   | (with_reducible refine LeO.ite ?_ ?_)
   | (with_reducible refine LeO.bind ?_ (fun _ => ?_))
   | exact spec_l1New.mono _ _
   | exact LeO.none _
   | refine LeO.ite ?_ ?_
   | refine LeO.bind ?_ (fun _ => ?_)
set_option maxHeartbeats 8000000 in
set_option maxRecDepth 100000 in
theorem spec_DrawParams.calls (k : Nat) (A0 : Option Addr) (c0 : Nat) (l0 : List Int) (r1 : Int) (r2 : Int) (r3 : Bool) (r4 : Bool) (r5 : Bool) (r6 : Int) (r7 : Int) (r8 : Bool) (r9 : Bool) (r10 : Bool) (w : World) (hr0 : Kd.C (Kd.int .u8) w A0 l0.length l0) (hc0 : l0.length ≤ c0) (h : spec_DrawParams.f k l0 = some (r1, r2, r3, r4, r5, r6, r7, r8, r9, r10)) :
  Calls Tryd.prog 17 #[.slice A0 l0.length c0] w fun e w' => e = .returned (.tuple #[.agg #[.int .i64 r1, .int .i64 r2, .bool r3, .bool r4, .bool r5], .agg #[.int .i64 r6, .int .i64 r7, .bool r8, .bool r9, .bool r10]]) ∧ Below w.heap.size w w' := by
 have hu25 := Tryd.underlying25
 have HR0 := am hr0
 have HC0 := am hc0
 clear hr0 hc0
 have HB := am (Below.refl w.heap.size w)
 have H : ((spec_l1New.f k l0).bind fun bt330 => ((spec_l3DrawAny.f bt330.1 bt330.2.1 bt330.2.2).bind fun bt334 => ((spec_l3DrawAny.f bt330.1 bt334.2.2.2.2.2.1 bt334.2.2.2.2.2.2).bind fun bt342 => (some (bt334.1, bt334.2.1, bt334.2.2.1, bt334.2.2.2.1, bt334.2.2.2.2.1, bt342.1, bt342.2.1, bt342.2.2.1, bt342.2.2.2.1, bt342.2.2.2.2.1))))) = some (r1, r2, r3, r4, r5, r6, r7, r8, r9, r10) := h
 clear h
 replace H := Option.bind_eq_some_iff.mp H
 obtain ⟨⟨t330, t331, t332⟩, A20, H⟩ := H
 replace H : ((spec_l3DrawAny.f t330 t331 t332).bind fun bt334 => ((spec_l3DrawAny.f t330 bt334.2.2.2.2.2.1 bt334.2.2.2.2.2.2).bind fun bt342 => (some (bt334.1, bt334.2.1, bt334.2.2.1, bt334.2.2.2.1, bt334.2.2.2.2.1, bt342.1, bt342.2.1, bt342.2.2.1, bt342.2.2.2.1, bt342.2.2.2.2.1)))) = some (r1, r2, r3, r4, r5, r6, r7, r8, r9, r10) := H
 have A2 := am A20
 clear A20
 replace H := Option.bind_eq_some_iff.mp H
 obtain ⟨⟨t334, t335, t336, t337, t338, t339, t340⟩, A30, H⟩ := H
 replace H : ((spec_l3DrawAny.f t330 t339 t340).bind fun bt342 => (some (t334, t335, t336, t337, t338, bt342.1, bt342.2.1, bt342.2.2.1, bt342.2.2.2.1, bt342.2.2.2.2.1))) = some (r1, r2, r3, r4, r5, r6, r7, r8, r9, r10) := H
 have A3 := am A30
 clear A30
 replace H := Option.bind_eq_some_iff.mp H
 obtain ⟨⟨t342, t343, t344, t345, t346, t347, t348⟩, A40, H⟩ := H
 replace H : (some (t334, t335, t336, t337, t338, t342, t343, t344, t345, t346)) = some (r1, r2, r3, r4, r5, r6, r7, r8, r9, r10) := H
 have A4 := am A40
 clear A40
 simp only [Option.some.injEq, Prod.mk.injEq] at H
 obtain ⟨rfl, rfl, rfl, rfl, rfl, rfl, rfl, rfl, rfl, rfl⟩ := H
 go_enter Tryd.func17, Tryd.ntmps17
 try go_wp2_with (first | ((with_reducible refine gate_dst (N := 2) rfl ?_); refine box_event ?hg (N := 2) ?hd (cs := #[.int .i64 0, .int .i64 0, .bool false, .bool false, .bool false]) (t := 25) ?hr ?_; (case hd => rfl); (case hg => rfl); (case hr => first | (go_simp; done) | (go_simp; rfl)); intro gb328 hg w5 hbox hb; have n0_ := am (below_step (rb HB) hb); have n1_ := am (hbox); have n2_ := am ((by rw [hg]; exact (below_size (rb HB)) : w.heap.size ≤ gb328)); have n3_ := am ((by rw [hg]; exact (below_size (rb HB)) : w.heap.size ≤ gb328)); clear HB; have HB := n0_; have BK328 := n1_; have GW328 := n2_; have GE328 := n3_; clear n0_ n1_ n2_ n3_; clear hb hbox hg) | ((with_reducible refine gate_dst (N := 3) rfl ?_); refine box_event ?hg (N := 3) ?hd (cs := #[.int .i64 0, .int .i64 0, .bool false, .bool false, .bool false]) (t := 25) ?hr ?_; (case hd => rfl); (case hg => rfl); (case hr => first | (go_simp; done) | (go_simp; rfl)); intro gb329 hg w6 hbox hb; have n0_ := am (blk_below (g := gb328) (o := .cells #[.int .i64 0, .int .i64 0, .bool false, .bool false, .bool false] 25 (0, 0)) (rk BK328) hb); have n1_ := am (below_step (rb1 HB GE328) hb); have n2_ := am (hbox); have n3_ := am ((by rw [hg]; exact (below_size (rb1 HB GE328)) : w.heap.size ≤ gb329)); have n4_ := am ((by rw [hg]; exact (below_size (rb1 HB GE328)) : w.heap.size ≤ gb329)); have n5_ := am ((by rw [hg]; exact Nat.ne_of_lt (blk_lt (g := gb328) (o := .cells #[.int .i64 0, .int .i64 0, .bool false, .bool false, .bool false] 25 (0, 0)) (rk BK328)) : gb328 ≠ gb329)); have n6_ := am ((by rw [hg]; exact Nat.ne_of_gt (blk_lt (g := gb328) (o := .cells #[.int .i64 0, .int .i64 0, .bool false, .bool false, .bool false] 25 (0, 0)) (rk BK328)) : gb329 ≠ gb328)); clear BK328; clear HB; have BK328 := n0_; have HB := n1_; have BK329 := n2_; have GW329 := n3_; have GE329 := n4_; have NB328_329 := n5_; have NB329_328 := n6_; clear n0_ n1_ n2_ n3_ n4_ n5_ n6_; clear hb hbox hg) | ((with_reducible refine gate_callee (f := 35) rfl ?_); refine gl_ (some 7) Tryd.func35 #[.slice A0 l0.length c0] ?_; (with_reducible refine (spec_l1New.calls k _ _ l0 t330 t331 t332 w _ ?side1 ?side2 ?side3 A2.out).mono ?_); (case side1 => repeat (first | (with_reducible first | exact HB.out | apply b1 | apply b2 | apply b3 | refine below_set ?_ GE328.out | refine below_set ?_ GE329.out) | exact HB.out)); (case side2 => exact HR0.out); (case side3 => exact HC0.out); rintro e w7 ⟨g333, rfl, hi, hb, hb2⟩; refine ⟨_, rfl, ?_⟩; have n0_ := am (blk_below (g := gb328) (o := .cells #[.int .i64 0, .int .i64 0, .bool false, .bool false, .bool false] 25 (0, 0)) (rk BK328) hb2); have n1_ := am (blk_below (g := gb329) (o := .cells #[.int .i64 0, .int .i64 0, .bool false, .bool false, .bool false] 25 (0, 0)) (rk BK329) hb2); have n2_ := am (hb); have n3_ := am (hi); have n4_ := am (IsS90.ne_blk hi (blk_below (g := gb328) (o := .cells #[.int .i64 0, .int .i64 0, .bool false, .bool false, .bool false] 25 (0, 0)) (rk BK328) hb2) (by decide)); have n5_ := am (Ne.symm (IsS90.ne_blk hi (blk_below (g := gb328) (o := .cells #[.int .i64 0, .int .i64 0, .bool false, .bool false, .bool false] 25 (0, 0)) (rk BK328) hb2) (by decide))); have n6_ := am (IsS90.ne_blk hi (blk_below (g := gb329) (o := .cells #[.int .i64 0, .int .i64 0, .bool false, .bool false, .bool false] 25 (0, 0)) (rk BK329) hb2) (by decide)); have n7_ := am (Ne.symm (IsS90.ne_blk hi (blk_below (g := gb329) (o := .cells #[.int .i64 0, .int .i64 0, .bool false, .bool false, .bool false] 25 (0, 0)) (rk BK329) hb2) (by decide))); clear BK328; clear BK329; clear HB; have BK328 := n0_; have BK329 := n1_; have HB := n2_; have HI333 := n3_; have NB333_328 := n4_; have NB328_333 := n5_; have NB333_329 := n6_; have NB329_333 := n7_; clear n0_ n1_ n2_ n3_ n4_ n5_ n6_ n7_; (try clear hb); (try clear hb2); (try clear hk); (try clear hi)) | ((with_reducible refine gate_callee (f := 36) rfl ?_); refine gl_ (some 9) Tryd.func36 #[.pointer (some ⟨g333, 0, none⟩)] ?_; (with_reducible refine (spec_l3DrawAny.calls g333 t330 t331 t332 t334 t335 t336 t337 t338 t339 t340 w _ ?side1 ?side2 A3.out).mono ?_); (case side1 => repeat (first | (with_reducible first | exact HI333.out | apply IsS90.alloc | apply IsS90.drewN | apply IsS90.drew | apply IsS90.set_1 | apply IsS90.set_2 | refine IsS90.far ?_ NB333_328.out _ | refine IsS90.far ?_ NB333_329.out _) | exact HI333.out)); (case side2 => repeat (first | (with_reducible first | exact HB.out | apply b1 | apply b2 | apply b3 | refine below_set ?_ (IsS90.ge HI333.out) | refine below_set ?_ GE328.out | refine below_set ?_ GE329.out) | exact HB.out)); rintro e w8 ⟨rfl, hi, hb, hk⟩; refine ⟨_, rfl, ?_⟩; have n0_ := am (KeepBut.blk hk (g' := gb328) (o := .cells #[.int .i64 0, .int .i64 0, .bool false, .bool false, .bool false] 25 (0, 0)) (rk BK328) NB328_333.out (by simp)); have n1_ := am (KeepBut.blk hk (g' := gb329) (o := .cells #[.int .i64 0, .int .i64 0, .bool false, .bool false, .bool false] 25 (0, 0)) (rk BK329) NB329_333.out (by simp)); have n2_ := am (hb); have n3_ := am (hi); clear BK328; clear BK329; clear HB; clear HI333; have BK328 := n0_; have BK329 := n1_; have HB := n2_; have HI333 := n3_; clear n0_ n1_ n2_ n3_; (try clear hb); (try clear hb2); (try clear hk); (try clear hi)) | ((with_reducible refine gate_dst (N := 5) rfl ?_); refine box_event ?hg (N := 5) ?hd (cs := #[.int .i64 0, .int .i64 0, .bool false, .bool false, .bool false]) (t := 25) ?hr ?_; (case hd => rfl); (case hg => rfl); (case hr => first | (go_simp; done) | (go_simp; rfl)); intro gb341 hg w9 hbox hb; have n0_ := am (blk_below (g := gb328) (o := .cells #[.int .i64 0, .int .i64 0, .bool false, .bool false, .bool false] 25 (0, 0)) (rk BK328) hb); have n1_ := am (blk_below (g := gb329) (o := .cells #[.int .i64 0, .int .i64 0, .bool false, .bool false, .bool false] 25 (0, 0)) (rk BK329) hb); have n2_ := am (IsS90.below (by repeat (first | (with_reducible first | exact HI333.out | apply IsS90.alloc | apply IsS90.drewN | apply IsS90.drew | apply IsS90.set_1 | apply IsS90.set_2 | refine IsS90.far ?_ NB333_328.out _ | refine IsS90.far ?_ NB333_329.out _) | exact HI333.out)) hb); have n3_ := am (below_step (by repeat (first | (with_reducible first | exact HB.out | apply b1 | apply b2 | apply b3 | refine below_set ?_ (IsS90.ge HI333.out) | refine below_set ?_ GE328.out | refine below_set ?_ GE329.out) | exact HB.out)) hb); have n4_ := am (hbox); have n5_ := am ((by rw [hg]; exact (below_size (by repeat (first | (with_reducible first | exact HB.out | apply b1 | apply b2 | apply b3 | refine below_set ?_ (IsS90.ge HI333.out) | refine below_set ?_ GE328.out | refine below_set ?_ GE329.out) | exact HB.out))) : w.heap.size ≤ gb341)); have n6_ := am ((by rw [hg]; exact (below_size (by repeat (first | (with_reducible first | exact HB.out | apply b1 | apply b2 | apply b3 | refine below_set ?_ (IsS90.ge HI333.out) | refine below_set ?_ GE328.out | refine below_set ?_ GE329.out) | exact HB.out))) : w.heap.size ≤ gb341)); have n7_ := am ((by rw [hg]; exact Nat.ne_of_lt (blk_lt (g := gb328) (o := .cells #[.int .i64 0, .int .i64 0, .bool false, .bool false, .bool false] 25 (0, 0)) (rk BK328)) : gb328 ≠ gb341)); have n8_ := am ((by rw [hg]; exact Nat.ne_of_gt (blk_lt (g := gb328) (o := .cells #[.int .i64 0, .int .i64 0, .bool false, .bool false, .bool false] 25 (0, 0)) (rk BK328)) : gb341 ≠ gb328)); have n9_ := am ((by rw [hg]; exact Nat.ne_of_lt (blk_lt (g := gb329) (o := .cells #[.int .i64 0, .int .i64 0, .bool false, .bool false, .bool false] 25 (0, 0)) (rk BK329)) : gb329 ≠ gb341)); have n10_ := am ((by rw [hg]; exact Nat.ne_of_gt (blk_lt (g := gb329) (o := .cells #[.int .i64 0, .int .i64 0, .bool false, .bool false, .bool false] 25 (0, 0)) (rk BK329)) : gb341 ≠ gb329)); have n11_ := am ((by rw [hg]; exact Nat.ne_of_lt (IsS90.lt (show IsS90 w _ g333 t330 t339 t340 from by repeat (first | (with_reducible first | exact HI333.out | apply IsS90.alloc | apply IsS90.drewN | apply IsS90.drew | apply IsS90.set_1 | apply IsS90.set_2 | refine IsS90.far ?_ NB333_328.out _ | refine IsS90.far ?_ NB333_329.out _) | exact HI333.out))) : g333 ≠ gb341)); have n12_ := am ((by rw [hg]; exact Nat.ne_of_gt (IsS90.lt (show IsS90 w _ g333 t330 t339 t340 from by repeat (first | (with_reducible first | exact HI333.out | apply IsS90.alloc | apply IsS90.drewN | apply IsS90.drew | apply IsS90.set_1 | apply IsS90.set_2 | refine IsS90.far ?_ NB333_328.out _ | refine IsS90.far ?_ NB333_329.out _) | exact HI333.out))) : gb341 ≠ g333)); clear BK328; clear BK329; clear HI333; clear HB; have BK328 := n0_; have BK329 := n1_; have HI333 := n2_; have HB := n3_; have BK341 := n4_; have GW341 := n5_; have GE341 := n6_; have NB328_341 := n7_; have NB341_328 := n8_; have NB329_341 := n9_; have NB341_329 := n10_; have NB333_341 := n11_; have NB341_333 := n12_; clear n0_ n1_ n2_ n3_ n4_ n5_ n6_ n7_ n8_ n9_ n10_ n11_ n12_; clear hb hbox hg; have hnb10 := NB341_328.out; have hnc10 := NB328_341.out; have hnb11 := NB341_329.out; have hnc11 := NB329_341.out; have hnb12 := NB341_333.out; have hnc12 := NB333_341.out; have hcz13_0 : w9.cell? ⟨gb341, 0, none⟩ = some (.int .i64 0) := (blk_cell BK341.out 0).trans rfl; have hcz13_1 : w9.cell? ⟨gb341, 1, none⟩ = some (.int .i64 0) := (blk_cell BK341.out 1).trans rfl; have hcz13_2 : w9.cell? ⟨gb341, 2, none⟩ = some (.bool false) := (blk_cell BK341.out 2).trans rfl; have hcz13_3 : w9.cell? ⟨gb341, 3, none⟩ = some (.bool false) := (blk_cell BK341.out 3).trans rfl; have hcz13_4 : w9.cell? ⟨gb341, 4, none⟩ = some (.bool false) := (blk_cell BK341.out 4).trans rfl; have hfz13_0 := blk_frozen BK341.out 0; have hfz13_1 := blk_frozen BK341.out 1; have hfz13_2 := blk_frozen BK341.out 2; have hfz13_3 := blk_frozen BK341.out 3; have hfz13_4 := blk_frozen BK341.out 4))
 have n0_ : Aside0 ((((((w9.setCell ⟨gb341, 0, none⟩ (.int .i64 t334)).setCell ⟨gb341, 1, none⟩ (.int .i64 t335)).setCell ⟨gb341, 2, none⟩ (.bool t336)).setCell ⟨gb341, 3, none⟩ (.bool t337)).setCell ⟨gb341, 4, none⟩ (.bool t338)).heap[gb328]? = some (.cells #[.int .i64 0, .int .i64 0, .bool false, .bool false, .bool false] 25 (0, 0))) := ⟨by (with_reducible repeat (first | apply k1 | apply k2 | apply k3)); refine blk_far ?_ NB328_341.out _; (with_reducible repeat (first | apply k1 | apply k2 | apply k3)); refine blk_far ?_ NB328_341.out _; (with_reducible repeat (first | apply k1 | apply k2 | apply k3)); refine blk_far ?_ NB328_341.out _; (with_reducible repeat (first | apply k1 | apply k2 | apply k3)); refine blk_far ?_ NB328_341.out _; (with_reducible repeat (first | apply k1 | apply k2 | apply k3)); refine blk_far ?_ NB328_341.out _; (with_reducible repeat (first | apply k1 | apply k2 | apply k3)); exact BK328.out⟩
 have n1_ : Aside0 ((((((w9.setCell ⟨gb341, 0, none⟩ (.int .i64 t334)).setCell ⟨gb341, 1, none⟩ (.int .i64 t335)).setCell ⟨gb341, 2, none⟩ (.bool t336)).setCell ⟨gb341, 3, none⟩ (.bool t337)).setCell ⟨gb341, 4, none⟩ (.bool t338)).heap[gb329]? = some (.cells #[.int .i64 0, .int .i64 0, .bool false, .bool false, .bool false] 25 (0, 0))) := ⟨by (with_reducible repeat (first | apply k1 | apply k2 | apply k3)); refine blk_far ?_ NB329_341.out _; (with_reducible repeat (first | apply k1 | apply k2 | apply k3)); refine blk_far ?_ NB329_341.out _; (with_reducible repeat (first | apply k1 | apply k2 | apply k3)); refine blk_far ?_ NB329_341.out _; (with_reducible repeat (first | apply k1 | apply k2 | apply k3)); refine blk_far ?_ NB329_341.out _; (with_reducible repeat (first | apply k1 | apply k2 | apply k3)); refine blk_far ?_ NB329_341.out _; (with_reducible repeat (first | apply k1 | apply k2 | apply k3)); exact BK329.out⟩
 have n2_ : Aside0 ((((((w9.setCell ⟨gb341, 0, none⟩ (.int .i64 t334)).setCell ⟨gb341, 1, none⟩ (.int .i64 t335)).setCell ⟨gb341, 2, none⟩ (.bool t336)).setCell ⟨gb341, 3, none⟩ (.bool t337)).setCell ⟨gb341, 4, none⟩ (.bool t338)).heap[gb341]? = some (.cells #[.int .i64 t334, .int .i64 t335, .bool t336, .bool t337, .bool t338] 25 (0, 0))) := ⟨by (with_reducible repeat (first | apply k1 | apply k2 | apply k3)); refine blk_put (cs := #[.int .i64 t334, .int .i64 t335, .bool t336, .bool t337, .bool false]) ?_ 4 _ rfl; (with_reducible repeat (first | apply k1 | apply k2 | apply k3)); refine blk_put (cs := #[.int .i64 t334, .int .i64 t335, .bool t336, .bool false, .bool false]) ?_ 3 _ rfl; (with_reducible repeat (first | apply k1 | apply k2 | apply k3)); refine blk_put (cs := #[.int .i64 t334, .int .i64 t335, .bool false, .bool false, .bool false]) ?_ 2 _ rfl; (with_reducible repeat (first | apply k1 | apply k2 | apply k3)); refine blk_put (cs := #[.int .i64 t334, .int .i64 0, .bool false, .bool false, .bool false]) ?_ 1 _ rfl; (with_reducible repeat (first | apply k1 | apply k2 | apply k3)); refine blk_put (cs := #[.int .i64 0, .int .i64 0, .bool false, .bool false, .bool false]) ?_ 0 _ rfl; (with_reducible repeat (first | apply k1 | apply k2 | apply k3)); exact BK341.out⟩
 have n3_ : Aside0 (IsS90 w (((((w9.setCell ⟨gb341, 0, none⟩ (.int .i64 t334)).setCell ⟨gb341, 1, none⟩ (.int .i64 t335)).setCell ⟨gb341, 2, none⟩ (.bool t336)).setCell ⟨gb341, 3, none⟩ (.bool t337)).setCell ⟨gb341, 4, none⟩ (.bool t338)) g333 t330 t339 t340) := ⟨by repeat (first | (with_reducible first | exact HI333.out | apply IsS90.alloc | apply IsS90.drewN | apply IsS90.drew | apply IsS90.set_1 | apply IsS90.set_2 | refine IsS90.far ?_ NB333_328.out _ | refine IsS90.far ?_ NB333_329.out _ | refine IsS90.far ?_ NB333_341.out _) | exact HI333.out)⟩
 have n4_ : Aside0 (Below w.heap.size w (((((w9.setCell ⟨gb341, 0, none⟩ (.int .i64 t334)).setCell ⟨gb341, 1, none⟩ (.int .i64 t335)).setCell ⟨gb341, 2, none⟩ (.bool t336)).setCell ⟨gb341, 3, none⟩ (.bool t337)).setCell ⟨gb341, 4, none⟩ (.bool t338))) := ⟨by repeat (first | (with_reducible first | exact HB.out | apply b1 | apply b2 | apply b3 | refine below_set ?_ (IsS90.ge HI333.out) | refine below_set ?_ GE328.out | refine below_set ?_ GE329.out | refine below_set ?_ GE341.out) | exact HB.out)⟩
 (try clear BK328)
 (try clear BK329)
 (try clear BK341)
 (try clear HI333)
 (try clear HB)
 generalize (((((w9.setCell ⟨gb341, 0, none⟩ (.int .i64 t334)).setCell ⟨gb341, 1, none⟩ (.int .i64 t335)).setCell ⟨gb341, 2, none⟩ (.bool t336)).setCell ⟨gb341, 3, none⟩ (.bool t337)).setCell ⟨gb341, 4, none⟩ (.bool t338)) = w14 at n0_ n1_ n2_ n3_ n4_ ⊢
 have BK328 := n0_
 have BK329 := n1_
 have BK341 := n2_
 have HI333 := n3_
 have HB := n4_
 clear n0_ n1_ n2_ n3_ n4_
 have n0_ := am (blk_drew BK328.out)
 have n1_ := am (blk_drew BK329.out)
 have n2_ := am (blk_drew BK341.out)
 have n3_ := am (IsS90.drew HI333.out)
 have n4_ := am (below_drew1 HB.out)
 clear BK328
 clear BK329
 clear BK341
 clear HI333
 clear HB
 have BK328 := n0_
 have BK329 := n1_
 have BK341 := n2_
 have HI333 := n3_
 have HB := n4_
 clear n0_ n1_ n2_ n3_ n4_
 refine start_ (n := 5) (S := fun w' => w'.cell? ⟨gb341, 0, none⟩ = some (.int .i64 t334) ∧ w'.cell? ⟨gb341, 1, none⟩ = some (.int .i64 t335) ∧ w'.cell? ⟨gb341, 2, none⟩ = some (.bool t336) ∧ w'.cell? ⟨gb341, 3, none⟩ = some (.bool t337) ∧ w'.cell? ⟨gb341, 4, none⟩ = some (.bool t338)) (ds := []) (bm 5 0) (by kernel_rfl) rfl rfl ⟨(blk_cell BK341.out 0).trans rfl, (blk_cell BK341.out 1).trans rfl, (blk_cell BK341.out 2).trans rfl, (blk_cell BK341.out 3).trans rfl, (blk_cell BK341.out 4).trans rfl⟩ (fun hHeld => ?_)
 generalize w14.drew = w15 at BK328 BK329 BK341 HI333 HB hHeld ⊢
 refine pure_ (i := 1) (N := some 11) (v := ?_) (a' := ?_) (bm 5 2) rfl rfl (by kernel_rfl) (fun _ _ _ h => h) (Or.inl ⟨by rfl, ?_⟩) ?_ ?_
 rotate_left
 ·intro w'
  go_simp
  with_reducible rfl
 rotate_left
 ·simp only [Act.put, List.setIfInBounds_toArray, List.set_cons_zero, List.set_cons_succ, i64_w, i32_w]
  rfl
 refine take_ (i := 0) (N := some 10) (v := ?_) (a' := ?_) (bm 5 3) rfl rfl (by kernel_rfl) (fun _ _ _ h => h) (Or.inl ⟨by rfl, ?_⟩) hHeld ?_ ?_
 rotate_left
 ·rintro w' ⟨s0, s1, s2, s3, s4⟩
  go_simp
  with_reducible rfl
 rotate_left
 ·simp only [Act.put, List.setIfInBounds_toArray, List.set_cons_zero, List.set_cons_succ, i64_w, i32_w]
  rfl
 refine one_ (i := 2) (N := some 12) (bm 5 7) rfl rfl (by kernel_rfl) (by decide) (fun K hK => ?_)
 refine goes_ Tryd.func36 (by kernel_rfl) rfl #[.pointer (some ⟨g333, 0, none⟩)] (by rfl) rfl rfl (by (try simp only [List.map_toArray, List.map_cons, List.map_nil]); first | done | rfl | (simp only [List.length_drop, List.length_take]; rfl)) ?_
 with_reducible refine (spec_l3DrawAny.calls g333 t330 t339 t340 t342 t343 t344 t345 t346 t347 t348 w _ ?side1 ?side2 A4.out).mono ?_
 (case side1 => repeat (first | (with_reducible first | exact HI333.out | apply IsS90.alloc | apply IsS90.drewN | apply IsS90.drew | apply IsS90.set_1 | apply IsS90.set_2 | refine IsS90.far ?_ NB333_328.out _ | refine IsS90.far ?_ NB333_329.out _ | refine IsS90.far ?_ NB333_341.out _) | exact HI333.out))
 (case side2 => repeat (first | (with_reducible first | exact HB.out | apply b1 | apply b2 | apply b3 | refine below_set ?_ (IsS90.ge HI333.out) | refine below_set ?_ GE328.out | refine below_set ?_ GE329.out | refine below_set ?_ GE341.out) | exact HB.out))
 rintro e w16 ⟨rfl, hi, hb, hk⟩
 refine ⟨_, rfl, ?_⟩
 have n0_ := am (KeepBut.blk hk (g' := gb328) (o := .cells #[.int .i64 0, .int .i64 0, .bool false, .bool false, .bool false] 25 (0, 0)) (rk BK328) NB328_333.out (by simp))
 have n1_ := am (KeepBut.blk hk (g' := gb329) (o := .cells #[.int .i64 0, .int .i64 0, .bool false, .bool false, .bool false] 25 (0, 0)) (rk BK329) NB329_333.out (by simp))
 have n2_ := am (KeepBut.blk hk (g' := gb341) (o := .cells #[.int .i64 t334, .int .i64 t335, .bool t336, .bool t337, .bool t338] 25 (0, 0)) (rk BK341) NB341_333.out (by simp))
 have n3_ := am (hb)
 have n4_ := am (hi)
 clear BK328
 clear BK329
 clear BK341
 clear HB
 clear HI333
 have BK328 := n0_
 have BK329 := n1_
 have BK341 := n2_
 have HB := n3_
 have HI333 := n4_
 clear n0_ n1_ n2_ n3_ n4_
 (try clear hb)
 (try clear hb2)
 (try clear hk)
 (try clear hi)
 refine hK.out _ _ ⟨(blk_cell BK341.out 0).trans rfl, (blk_cell BK341.out 1).trans rfl, (blk_cell BK341.out 2).trans rfl, (blk_cell BK341.out 3).trans rfl, (blk_cell BK341.out 4).trans rfl⟩ (fun hHeld => ?_)
 clear hK K
 refine norm_ (a' := ?_) ?_ ?_
 rotate_left
 ·show Act.put _ (some 12) _ = _
  simp only [Act.put, List.setIfInBounds_toArray, List.set_cons_zero, List.set_cons_succ, i64_w, i32_w]
  rfl
 refine one_ (i := 3) (N := none) (bm 5 15) rfl rfl (by kernel_rfl) (by decide) (fun K hK => ?_)
 have hs17 : w16.cell? ⟨gb328, 0, none⟩ = some (.int .i64 0) := (blk_cell BK328.out 0).trans rfl
 have hfs17 := blk_frozen BK328.out 0
 have hns17_1 := NB329_328.out
 have hns17_2 := NB341_328.out
 have hms17_1 := NB328_329.out
 have hms17_2 := NB328_341.out
 have hs18 : w16.cell? ⟨gb328, 1, none⟩ = some (.int .i64 0) := (blk_cell BK328.out 1).trans rfl
 have hfs18 := blk_frozen BK328.out 1
 have hns18_1 := NB329_328.out
 have hns18_2 := NB341_328.out
 have hms18_1 := NB328_329.out
 have hms18_2 := NB328_341.out
 have hs19 : w16.cell? ⟨gb328, 2, none⟩ = some (.bool false) := (blk_cell BK328.out 2).trans rfl
 have hfs19 := blk_frozen BK328.out 2
 have hns19_1 := NB329_328.out
 have hns19_2 := NB341_328.out
 have hms19_1 := NB328_329.out
 have hms19_2 := NB328_341.out
 have hs20 : w16.cell? ⟨gb328, 3, none⟩ = some (.bool false) := (blk_cell BK328.out 3).trans rfl
 have hfs20 := blk_frozen BK328.out 3
 have hns20_1 := NB329_328.out
 have hns20_2 := NB341_328.out
 have hms20_1 := NB328_329.out
 have hms20_2 := NB328_341.out
 have hs21 : w16.cell? ⟨gb328, 4, none⟩ = some (.bool false) := (blk_cell BK328.out 4).trans rfl
 have hfs21 := blk_frozen BK328.out 4
 have hns21_1 := NB329_328.out
 have hns21_2 := NB341_328.out
 have hms21_1 := NB328_329.out
 have hms21_2 := NB328_341.out
 refine skip_ (w1 := ?_) (by rfl) rfl ?_ ?_
 rotate_left
 ·go_simp
  rfl
 refine hK.out _ _ ⟨((cell_far (p := ⟨gb328, _, none⟩) NB341_328.out _).trans (((cell_far (p := ⟨gb328, _, none⟩) NB341_328.out _).trans (((cell_far (p := ⟨gb328, _, none⟩) NB341_328.out _).trans (((cell_far (p := ⟨gb328, _, none⟩) NB341_328.out _).trans (((cell_far (p := ⟨gb328, _, none⟩) NB341_328.out _).trans (hHeld.1)))))))))), ((cell_far (p := ⟨gb328, _, none⟩) NB341_328.out _).trans (((cell_far (p := ⟨gb328, _, none⟩) NB341_328.out _).trans (((cell_far (p := ⟨gb328, _, none⟩) NB341_328.out _).trans (((cell_far (p := ⟨gb328, _, none⟩) NB341_328.out _).trans (((cell_far (p := ⟨gb328, _, none⟩) NB341_328.out _).trans (hHeld.2.1)))))))))), ((cell_far (p := ⟨gb328, _, none⟩) NB341_328.out _).trans (((cell_far (p := ⟨gb328, _, none⟩) NB341_328.out _).trans (((cell_far (p := ⟨gb328, _, none⟩) NB341_328.out _).trans (((cell_far (p := ⟨gb328, _, none⟩) NB341_328.out _).trans (((cell_far (p := ⟨gb328, _, none⟩) NB341_328.out _).trans (hHeld.2.2.1)))))))))), ((cell_far (p := ⟨gb328, _, none⟩) NB341_328.out _).trans (((cell_far (p := ⟨gb328, _, none⟩) NB341_328.out _).trans (((cell_far (p := ⟨gb328, _, none⟩) NB341_328.out _).trans (((cell_far (p := ⟨gb328, _, none⟩) NB341_328.out _).trans (((cell_far (p := ⟨gb328, _, none⟩) NB341_328.out _).trans (hHeld.2.2.2.1)))))))))), ((cell_far (p := ⟨gb328, _, none⟩) NB341_328.out _).trans (((cell_far (p := ⟨gb328, _, none⟩) NB341_328.out _).trans (((cell_far (p := ⟨gb328, _, none⟩) NB341_328.out _).trans (((cell_far (p := ⟨gb328, _, none⟩) NB341_328.out _).trans (((cell_far (p := ⟨gb328, _, none⟩) NB341_328.out _).trans (hHeld.2.2.2.2))))))))))⟩ (fun hHeld => ?_)
 clear hK K
 refine one_ (i := 4) (N := none) (bm 5 31) rfl rfl (by kernel_rfl) (by decide) (fun K hK => ?_)
 have hs22 : w16.cell? ⟨gb329, 0, none⟩ = some (.int .i64 0) := (blk_cell BK329.out 0).trans rfl
 have hfs22 := blk_frozen BK329.out 0
 have hns22_0 := NB328_329.out
 have hns22_2 := NB341_329.out
 have hms22_0 := NB329_328.out
 have hms22_2 := NB329_341.out
 have hs23 : w16.cell? ⟨gb329, 1, none⟩ = some (.int .i64 0) := (blk_cell BK329.out 1).trans rfl
 have hfs23 := blk_frozen BK329.out 1
 have hns23_0 := NB328_329.out
 have hns23_2 := NB341_329.out
 have hms23_0 := NB329_328.out
 have hms23_2 := NB329_341.out
 have hs24 : w16.cell? ⟨gb329, 2, none⟩ = some (.bool false) := (blk_cell BK329.out 2).trans rfl
 have hfs24 := blk_frozen BK329.out 2
 have hns24_0 := NB328_329.out
 have hns24_2 := NB341_329.out
 have hms24_0 := NB329_328.out
 have hms24_2 := NB329_341.out
 have hs25 : w16.cell? ⟨gb329, 3, none⟩ = some (.bool false) := (blk_cell BK329.out 3).trans rfl
 have hfs25 := blk_frozen BK329.out 3
 have hns25_0 := NB328_329.out
 have hns25_2 := NB341_329.out
 have hms25_0 := NB329_328.out
 have hms25_2 := NB329_341.out
 have hs26 : w16.cell? ⟨gb329, 4, none⟩ = some (.bool false) := (blk_cell BK329.out 4).trans rfl
 have hfs26 := blk_frozen BK329.out 4
 have hns26_0 := NB328_329.out
 have hns26_2 := NB341_329.out
 have hms26_0 := NB329_328.out
 have hms26_2 := NB329_341.out
 refine skip_ (w1 := ?_) (by rfl) rfl ?_ ?_
 rotate_left
 ·go_simp
  rfl
 refine hK.out _ _ ⟨((cell_far (p := ⟨gb329, _, none⟩) NB341_329.out _).trans (((cell_far (p := ⟨gb329, _, none⟩) NB341_329.out _).trans (((cell_far (p := ⟨gb329, _, none⟩) NB341_329.out _).trans (((cell_far (p := ⟨gb329, _, none⟩) NB341_329.out _).trans (((cell_far (p := ⟨gb329, _, none⟩) NB341_329.out _).trans (hHeld.1)))))))))), ((cell_far (p := ⟨gb329, _, none⟩) NB341_329.out _).trans (((cell_far (p := ⟨gb329, _, none⟩) NB341_329.out _).trans (((cell_far (p := ⟨gb329, _, none⟩) NB341_329.out _).trans (((cell_far (p := ⟨gb329, _, none⟩) NB341_329.out _).trans (((cell_far (p := ⟨gb329, _, none⟩) NB341_329.out _).trans (hHeld.2.1)))))))))), ((cell_far (p := ⟨gb329, _, none⟩) NB341_329.out _).trans (((cell_far (p := ⟨gb329, _, none⟩) NB341_329.out _).trans (((cell_far (p := ⟨gb329, _, none⟩) NB341_329.out _).trans (((cell_far (p := ⟨gb329, _, none⟩) NB341_329.out _).trans (((cell_far (p := ⟨gb329, _, none⟩) NB341_329.out _).trans (hHeld.2.2.1)))))))))), ((cell_far (p := ⟨gb329, _, none⟩) NB341_329.out _).trans (((cell_far (p := ⟨gb329, _, none⟩) NB341_329.out _).trans (((cell_far (p := ⟨gb329, _, none⟩) NB341_329.out _).trans (((cell_far (p := ⟨gb329, _, none⟩) NB341_329.out _).trans (((cell_far (p := ⟨gb329, _, none⟩) NB341_329.out _).trans (hHeld.2.2.2.1)))))))))), ((cell_far (p := ⟨gb329, _, none⟩) NB341_329.out _).trans (((cell_far (p := ⟨gb329, _, none⟩) NB341_329.out _).trans (((cell_far (p := ⟨gb329, _, none⟩) NB341_329.out _).trans (((cell_far (p := ⟨gb329, _, none⟩) NB341_329.out _).trans (((cell_far (p := ⟨gb329, _, none⟩) NB341_329.out _).trans (hHeld.2.2.2.2))))))))))⟩ (fun hHeld => ?_)
 clear hK K
 refine done_ (by kernel_rfl) ?_
 try go_wp2
 refine bodyPost_ret (results_cc rfl _ _ gb328 gb329 25 25 #[.int .i64 t334, .int .i64 t335, .bool t336, .bool t337, .bool t338] #[.int .i64 t342, .int .i64 t343, .bool t344, .bool t345, .bool t346] (0, 0) (0, 0) _ _ rfl (by (with_reducible repeat (first | apply k1 | apply k2 | apply k3)); refine blk_far ?_ NB328_329.out _; (with_reducible repeat (first | apply k1 | apply k2 | apply k3)); refine blk_far ?_ NB328_329.out _; (with_reducible repeat (first | apply k1 | apply k2 | apply k3)); refine blk_far ?_ NB328_329.out _; (with_reducible repeat (first | apply k1 | apply k2 | apply k3)); refine blk_far ?_ NB328_329.out _; (with_reducible repeat (first | apply k1 | apply k2 | apply k3)); refine blk_far ?_ NB328_329.out _; (with_reducible repeat (first | apply k1 | apply k2 | apply k3)); refine blk_put (cs := #[.int .i64 t334, .int .i64 t335, .bool t336, .bool t337, .bool false]) ?_ 4 _ rfl; (with_reducible repeat (first | apply k1 | apply k2 | apply k3)); refine blk_put (cs := #[.int .i64 t334, .int .i64 t335, .bool t336, .bool false, .bool false]) ?_ 3 _ rfl; (with_reducible repeat (first | apply k1 | apply k2 | apply k3)); refine blk_put (cs := #[.int .i64 t334, .int .i64 t335, .bool false, .bool false, .bool false]) ?_ 2 _ rfl; (with_reducible repeat (first | apply k1 | apply k2 | apply k3)); refine blk_put (cs := #[.int .i64 t334, .int .i64 0, .bool false, .bool false, .bool false]) ?_ 1 _ rfl; (with_reducible repeat (first | apply k1 | apply k2 | apply k3)); refine blk_put (cs := #[.int .i64 0, .int .i64 0, .bool false, .bool false, .bool false]) ?_ 0 _ rfl; (with_reducible repeat (first | apply k1 | apply k2 | apply k3)); exact BK328.out) Tryd.underlying25 rfl (by kernel_rfl) rfl (by (with_reducible repeat (first | apply k1 | apply k2 | apply k3)); refine blk_put (cs := #[.int .i64 t342, .int .i64 t343, .bool t344, .bool t345, .bool false]) ?_ 4 _ rfl; (with_reducible repeat (first | apply k1 | apply k2 | apply k3)); refine blk_put (cs := #[.int .i64 t342, .int .i64 t343, .bool t344, .bool false, .bool false]) ?_ 3 _ rfl; (with_reducible repeat (first | apply k1 | apply k2 | apply k3)); refine blk_put (cs := #[.int .i64 t342, .int .i64 t343, .bool false, .bool false, .bool false]) ?_ 2 _ rfl; (with_reducible repeat (first | apply k1 | apply k2 | apply k3)); refine blk_put (cs := #[.int .i64 t342, .int .i64 0, .bool false, .bool false, .bool false]) ?_ 1 _ rfl; (with_reducible repeat (first | apply k1 | apply k2 | apply k3)); refine blk_put (cs := #[.int .i64 0, .int .i64 0, .bool false, .bool false, .bool false]) ?_ 0 _ rfl; (with_reducible repeat (first | apply k1 | apply k2 | apply k3)); refine blk_far ?_ NB329_328.out _; (with_reducible repeat (first | apply k1 | apply k2 | apply k3)); refine blk_far ?_ NB329_328.out _; (with_reducible repeat (first | apply k1 | apply k2 | apply k3)); refine blk_far ?_ NB329_328.out _; (with_reducible repeat (first | apply k1 | apply k2 | apply k3)); refine blk_far ?_ NB329_328.out _; (with_reducible repeat (first | apply k1 | apply k2 | apply k3)); refine blk_far ?_ NB329_328.out _; (with_reducible repeat (first | apply k1 | apply k2 | apply k3)); exact BK329.out) Tryd.underlying25 rfl (by kernel_rfl)) rfl ?_
 exact ⟨by first | rfl | (simp [errW_none, errW_some] <;> rfl) | (simp [*, errW_none, errW_some] <;> rfl), by repeat (first | (with_reducible first | exact HB.out | apply b1 | apply b2 | apply b3 | refine below_set ?_ (IsS90.ge HI333.out) | refine below_set ?_ GE328.out | refine below_set ?_ GE329.out | refine below_set ?_ GE341.out) | exact HB.out)⟩

end Go.Proofs.YtbgekmchjdkjiaaDoor.PB
