/- Contracts of Go functions that laws of this seat reach: each Lean function answers as its Go function does. No condition. Written by wip/tools/inj.py, over the kit's print. -/
import Derived.Test.YtfhkpneffmcdbaaQDx0
import Derived.Test.YtfhkpneffmcdbaaQDx8
import Derived.Test.YtfhkpneffmcdbaaQDx10
namespace Go.Proofs.Ytfhkpneffmcdbaa.QD
open Go.RowKit Go.Proofs.YtfhkpneffmcdbaaW.PrintWords Go.Proofs.YtfhkpneffmcdbaaW.PrintLast Go.Proofs.YtfhkpneffmcdbaaW.PrintMore
attribute [local go_sem] max2_int min2_int max_two min_two max_three min_three max_four min_four   -- for this text's walks alone
set_option linter.unusedVariables false
set_option linter.unusedSimpArgs false

/-! ### impl_isMove: function 36 -/
def impl_isMove.f (k : Nat) (l0 : List (S40)) (a1 : Int) (a2 : Int) (a3_0 : Int) (a3_1 : Int) (a3_2 : Bool) (a3_3 : Bool) (a3_4 : Bool) : Option (Bool) := (impl_RowOk.f k l0).bind fun t302 => (if t302 = true then ((impl_StyleOk.f a3_0 a3_1 a3_2 a3_3 a3_4).bind fun t303 => (if t303 = true then ((impl_in.f a1 0 (wrap64 ((l0.length : Int) - 1))).bind fun t304 => (if t304 = true then ((impl_in.f a2 0 (l0.length : Int)).bind fun t305 => (some t305)) else (some false))) else (some false))) else (some false))
theorem impl_isMove.mono : ∀ a0 a1 a2 a3 a4 a5 a6 a7 k, LeO (impl_isMove.f k a0 a1 a2 a3 a4 a5 a6 a7) (impl_isMove.f (k + 1) a0 a1 a2 a3 a4 a5 a6 a7) := by
 intro a0 a1 a2 a3 a4 a5 a6 a7 k
 unfold impl_isMove.f
 repeat' first
   | (with_reducible exact impl_RowOk.mono _ _)
   | (with_reducible exact LeO.refl _)
   | (with_reducible exact LeO.none _)
   | (with_reducible refine LeO.ite ?_ ?_)
   | (with_reducible refine LeO.bind ?_ (fun _ => ?_))
set_option maxHeartbeats 8000000 in
set_option maxRecDepth 100000 in
theorem impl_isMove.calls (k : Nat) (A0 : Option Addr) (c0 : Nat) (l0 : List (S40)) (a1 : Int) (a2 : Int) (a3_0 : Int) (a3_1 : Int) (a3_2 : Bool) (a3_3 : Bool) (a3_4 : Bool) (r : Bool) (w : World) (hr0 : Kd.C k40 w A0 l0.length l0) (hc0 : l0.length ≤ c0) (h : impl_isMove.f k l0 a1 a2 a3_0 a3_1 a3_2 a3_3 a3_4 = some r) :
  Calls Try.prog 36 #[.slice A0 l0.length c0, .int .i64 a1, .int .i64 a2, .agg #[.int .i64 a3_0, .int .i64 a3_1, .bool a3_2, .bool a3_3, .bool a3_4]] w fun e w' => e = .returned (.bool r) ∧ Below w.heap.size w w' := by
 have hu29 := Try.underlying29
 have HR0 := am hr0
 have HC0 := am hc0
 clear hr0 hc0
 have HB := am (Below.refl w.heap.size w)
 have H := h
 unfold impl_isMove.f at H
 clear h
 replace H := Option.bind_eq_some_iff.mp H
 obtain ⟨t302, A50, H⟩ := H
 (try dsimp only at H)
 have A5 := am A50
 clear A50
 refine em_ (p := t302 = true) (fun c6 => ?g2p) (fun c6 => ?g2n)
 case' g2p =>
  subst c6
  rw [if_pos rfl] at H
  replace H := Option.bind_eq_some_iff.mp H
  obtain ⟨t303, A70, H⟩ := H
  (try dsimp only at H)
  have A7 := am A70
  clear A70
  refine em_ (p := t303 = true) (fun c8 => ?g1p) (fun c8 => ?g1n)
  case' g1p =>
   subst c8
   rw [if_pos rfl] at H
   replace H := Option.bind_eq_some_iff.mp H
   obtain ⟨t304, A90, H⟩ := H
   (try dsimp only at H)
   have A9 := am A90
   clear A90
   refine em_ (p := t304 = true) (fun c10 => ?g0p) (fun c10 => ?g0n)
   case' g0p =>
    subst c10
    rw [if_pos rfl] at H
    replace H := Option.bind_eq_some_iff.mp H
    obtain ⟨t305, A110, H⟩ := H
    replace H : (some t305) = some r := H
    have A11 := am A110
    clear A110
    obtain rfl := Option.some.inj H
    have lf1_ := trivial
   case' g0n =>
    replace c10 := Bool.eq_false_iff.mpr c10
    subst c10
    have H1 : (some false) = some r := by rw [if_neg (show ¬ (false = true) by decide)] at H; exact H
    clear H
    have H := H1
    clear H1
    obtain rfl := Option.some.inj H
    have lf2_ := trivial
  case' g1n =>
   replace c8 := Bool.eq_false_iff.mpr c8
   subst c8
   have H1 : (some false) = some r := by rw [if_neg (show ¬ (false = true) by decide)] at H; exact H
   clear H
   have H := H1
   clear H1
   obtain rfl := Option.some.inj H
   have lf3_ := trivial
 case' g2n =>
  replace c6 := Bool.eq_false_iff.mpr c6
  subst c6
  have H1 : (some false) = some r := by rw [if_neg (show ¬ (false = true) by decide)] at H; exact H
  clear H
  have H := H1
  clear H1
  obtain rfl := Option.some.inj H
  have lf4_ := trivial
 all_goals
  go_enter Try.func36, Try.ntmps36
  go_wp2_with (first | ((with_reducible refine gate_callee (f := 21) rfl ?_); refine gl_ (some 10) Try.func21 #[.slice A0 l0.length c0] ?_; (with_reducible refine (impl_RowOk.calls k _ _ l0 true _ ?side1 ?side2 A5.out).mono ?_); (case side1 => exact rc ((Kd.C_below HR0.out HB.out))); (case side2 => exact HC0.out); rintro e w13 ⟨rfl, hb⟩; refine ⟨_, rfl, ?_⟩; have n0_ := am (blk_below (g := gb301) (o := .cells #[.int .i64 a3_0, .int .i64 a3_1, .bool a3_2, .bool a3_3, .bool a3_4] 29 (0, 0)) (rk BK301) hb); have n1_ := am (below_step (rb1 HB GE301) hb); clear BK301; clear HB; have BK301 := n0_; have HB := n1_; clear n0_ n1_; (try clear hb); (try clear hb2); (try clear hk); (try clear hi); have hcz14_0 : w13.cell? ⟨gb301, 0, none⟩ = some (.int .i64 a3_0) := (blk_cell BK301.out 0).trans rfl; have hcz14_1 : w13.cell? ⟨gb301, 1, none⟩ = some (.int .i64 a3_1) := (blk_cell BK301.out 1).trans rfl; have hcz14_2 : w13.cell? ⟨gb301, 2, none⟩ = some (.bool a3_2) := (blk_cell BK301.out 2).trans rfl; have hcz14_3 : w13.cell? ⟨gb301, 3, none⟩ = some (.bool a3_3) := (blk_cell BK301.out 3).trans rfl; have hcz14_4 : w13.cell? ⟨gb301, 4, none⟩ = some (.bool a3_4) := (blk_cell BK301.out 4).trans rfl; have hfz14_0 := blk_frozen BK301.out 0; have hfz14_1 := blk_frozen BK301.out 1; have hfz14_2 := blk_frozen BK301.out 2; have hfz14_3 := blk_frozen BK301.out 3; have hfz14_4 := blk_frozen BK301.out 4) | ((with_reducible refine gate_dst (N := 7) rfl ?_); (try (refine gate_guard (by rfl) ?_; dsimp only)); refine box_event ?hg (N := 7) ?hd (cs := #[.int .i64 a3_0, .int .i64 a3_1, .bool a3_2, .bool a3_3, .bool a3_4]) (t := 29) ?hr ?_; (case hd => rfl); (case hg => rfl); (case hr => first | (go_simp; done) | (go_simp; rfl)); intro gb301 hg w12 hbox hb; have n0_ := am (below_step (rb HB) hb); have n1_ := am (hbox); have n2_ := am ((by rw [hg]; exact (below_size (rb HB)) : w.heap.size ≤ gb301)); have n3_ := am ((by rw [hg]; exact (below_size (rb HB)) : w.heap.size ≤ gb301)); clear HB; have HB := n0_; have BK301 := n1_; have GW301 := n2_; have GE301 := n3_; clear n0_ n1_ n2_ n3_; clear hb hbox hg) | ((with_reducible refine gate_callee (f := 21) rfl ?_); refine gl_ (some 10) Try.func21 #[.slice A0 l0.length c0] ?_; (with_reducible refine (impl_RowOk.calls k _ _ l0 false _ ?side1 ?side2 A5.out).mono ?_); (case side1 => exact rc ((Kd.C_below HR0.out HB.out))); (case side2 => exact HC0.out); rintro e w25 ⟨rfl, hb⟩; refine ⟨_, rfl, ?_⟩; have n0_ := am (blk_below (g := gb301) (o := .cells #[.int .i64 a3_0, .int .i64 a3_1, .bool a3_2, .bool a3_3, .bool a3_4] 29 (0, 0)) (rk BK301) hb); have n1_ := am (below_step (rb1 HB GE301) hb); clear BK301; clear HB; have BK301 := n0_; have HB := n1_; clear n0_ n1_; (try clear hb); (try clear hb2); (try clear hk); (try clear hi)) | (go_at_call 62; (with_reducible refine (impl_StyleOk.calls a3_0 a3_1 a3_2 a3_3 a3_4 false _ A7.out).mono ?_); rintro e w23 ⟨rfl, hb⟩; have n0_ := am (blk_below (g := gb301) (o := .cells #[.int .i64 a3_0, .int .i64 a3_1, .bool a3_2, .bool a3_3, .bool a3_4] 29 (0, 0)) (rk BK301) hb); have n1_ := am (below_step (rb1 HB GE301) hb); clear BK301; clear HB; have BK301 := n0_; have HB := n1_; clear n0_ n1_; (try clear hb); (try clear hb2); (try clear hk); (try clear hi)) | (go_at_call 62; (with_reducible refine (impl_StyleOk.calls a3_0 a3_1 a3_2 a3_3 a3_4 true _ A7.out).mono ?_); rintro e w15 ⟨rfl, hb⟩; have n0_ := am (blk_below (g := gb301) (o := .cells #[.int .i64 a3_0, .int .i64 a3_1, .bool a3_2, .bool a3_3, .bool a3_4] 29 (0, 0)) (rk BK301) hb); have n1_ := am (below_step (rb1 HB GE301) hb); clear BK301; clear HB; have BK301 := n0_; have HB := n1_; clear n0_ n1_; (try clear hb); (try clear hb2); (try clear hk); (try clear hi)) | (go_at_call 46; (with_reducible refine (impl_in.calls a1 0 (wrap64 ((l0.length : Int) - 1)) false _ A9.out).mono ?_); rintro e w' ⟨rfl, ⟨nd, rfl⟩⟩) | (go_at_call 46; (with_reducible refine (impl_in.calls a1 0 (wrap64 ((l0.length : Int) - 1)) true _ A9.out).mono ?_); rintro e w' ⟨rfl, ⟨nd, rfl⟩⟩) | (go_at_call 46; (with_reducible refine (impl_in.calls a2 0 (l0.length : Int) t305 _ A11.out).mono ?_); rintro e w' ⟨rfl, ⟨nd, rfl⟩⟩))
  go_ret
  exact ⟨by first | rfl | (simp [errW_none, errW_some] <;> rfl) | (simp [*, errW_none, errW_some] <;> rfl), by repeat (first | (with_reducible first | exact HB.out | apply b1 | apply b2 | apply b3 | refine below_set ?_ GE301.out) | exact HB.out)⟩

/-! ### impl_Cell_63: function 63 -/
def impl_Cell_63.f (l0 : List (S40)) : Option ((List (S40))) := (some (([] : List (S40)) : List (S40))).bind fun y306 => (if y306.length + l0.length < 3518437208883 then (some (y306 ++ l0)) else (none))
theorem impl_Cell_63.eqnilIn {P : Program} (w : World) (d : Nat) (t e : TypeId) (a : Option Addr) (n c n' c' : Nat) (h : P.underlying t = some (.slice e)) :
  (Op.equalIn (d + 1) t (.slice a n c) (.slice none n' c')).run P w = .ok a.isNone w := by
 cases a <;> simp [Op.equalIn, run_underlying h]
theorem impl_Cell_63.eqnil (W : World) (A : Option Addr) (n c : Nat) : (binOp .eql 26 (.slice A n c) (.slice none 0 0)).run Try.prog W = .ok (.bool A.isNone) W := by
 have hu : Try.prog.underlying 26 = some (.slice 40) := by kernel_rfl
 simp only [binOp]
 simp [Op.equal, Op.maxDepth, impl_Cell_63.eqnilIn W 9999 26 40 A n c 0 0 hu]
set_option maxHeartbeats 8000000 in
set_option maxRecDepth 100000 in
theorem impl_Cell_63.calls (A0 : Option Addr) (c0 : Nat) (l0 : List (S40)) (r : List (S40)) (w : World) (hr0 : Kd.C k40 w A0 l0.length l0) (hc0 : l0.length ≤ c0) (h : impl_Cell_63.f l0 = some r) :
  Calls Try.prog 63 #[.slice A0 l0.length c0] w fun e w' => ∃ v0_ : Value, e = .returned (v0_) ∧ Kd.R k40 40 w' w.heap.size (fun _ => True) v0_ r ∧ Below w.heap.size w w' := by
 cases A0 with
 | none =>
  have hl : l0 = [] := List.eq_nil_of_length_eq_zero (Nat.eq_zero_of_not_pos fun hp => by obtain ⟨ad, e, _⟩ := hr0.2.2 hp; cases e)
  subst hl
  have hn : ([] : List _) = r := Option.some.inj ((show impl_Cell_63.f [] = some [] from rfl).symm.trans h)
  subst hn
  clear h hr0
  have heq := impl_Cell_63.eqnil
  go_enter Try.func63, Try.ntmps63
  go_wp2
  go_ret
  exact ⟨_, rfl, Kd.R_nil _ _ _ _ _, Below.refl _ _⟩
 | some a0_ =>
  have HR0 := am hr0
  have HC0 := am hc0
  clear hr0 hc0
  have HB := am (Below.refl w.heap.size w)
  have H := h
  unfold impl_Cell_63.f at H
  clear h
  obtain ⟨y306, hy306⟩ : ∃ y_ : List (S40), y_ = (([] : List (S40))) := ⟨_, rfl⟩
  replace H : (if y306.length + l0.length < 3518437208883 then (some (y306 ++ l0)) else (none)) = some r := by first | (rw [hy306]; with_reducible exact H) | (rw [hy306]; exact H) | exact H
  have Ny306 := am hy306
  clear hy306
  by_cases c2 : y306.length + l0.length < 3518437208883
  ·rw [if_pos c2] at H
   have LMc2 := am c2
   clear c2
   obtain ⟨y309, hy309⟩ : ∃ y_ : List (S40), y_ = (y306 ++ l0) := ⟨_, rfl⟩
   replace H : (some y309) = some r := by first | (rw [hy309]; with_reducible exact H) | (rw [hy309]; exact H) | exact H
   have Ny309 := am hy309
   clear hy309
   obtain rfl := Option.some.inj H
   have heq := impl_Cell_63.eqnil
   go_enter Try.func63, Try.ntmps63
   go_wp2_with (first | ((with_reducible refine gate_dst (N := 5) rfl ?_); refine Kd.R_lit k40 _ 40 ?hg (N := 5) ?hd (xs := ([] : List (S40))) (inner := []) (ok := fun _ => True) (okp := fun _ => True) ?hr ?hp (fun _ hk => hk) trivial (Below.refl _ _) (Nat.le_refl _) (by simp) ?_; (case hd => rfl); (case hg => rfl); (case hr => first | (go_simp; done) | (go_simp; rfl)); (case hp => exact (Reps.none _ _)); intro v307 w3 ho4 hb hg_ hnew_; clear hg_ hnew_; (first | rw [← Ny306.out] at ho4 | (simp only [Int.reduceToNat] at ho4; rw [← Ny306.out] at ho4)); have n0_ := am (Kd.R_lower ho4 (below_size (rb HB))); have n1_ := am (below_step (rb HB) hb); clear HB; have HO308 := n0_; have HB := n1_; clear n0_ n1_; clear hb ho4) | ((with_reducible refine gate_builtin (b := .append) (xs := #[.tmp 5, .tmp 6]) rfl ?_); at_builtin; refine Kd.R_append_rows k40 (w0 := w) w.heap.size rfl (.tmp 5) (.tmp 6) 26 40 (.agg #[(.int .i64 0), (.int .i64 0), (.int .i64 0), (.bool false), (.bool false), (.bool false), (.int .i64 0)]) 40 rfl Try.underlying26 info40 rfl (by decide) (by omega) v307 y306 l0 _ _ _ (fun _ => True) (fun _ => False) rfl rfl ?aO ?aR (fun _ _ h => h) (fun _ h => h.elim) ?aF ?aB ?aS ?aL ?_; (case aR => repeat (first | exact (Kd.C_below HR0.out HB.out) | (with_reducible refine Kd.C_alloc ?_ _) | (with_reducible refine Kd.C_drewN ?_ _) | (with_reducible refine Kd.C_drew ?_))); (case aB => exact (rb HB)); (case aF => exact (fun _ _ => trivial)); (case aO => exact (rr HO308)); (case aS => exact (below_size (rb HB))); (case aL => have := LMc2.out; omega); intro v310 w5 ho hb hg hat; rw [← Ny309.out] at ho; have n0_ := am (hb); have n1_ := am (ho); clear HB; clear HO308; have HB := n0_; have HO311 := n1_; clear n0_ n1_; clear ho hb hg hat))
   go_ret
   exact ⟨_, by first | rfl | (simp [errW_none, errW_some] <;> rfl) | (simp [*, errW_none, errW_some] <;> rfl), by (with_reducible repeat (first | apply r1 | apply r2 | apply r3)); exact HO311.out, by repeat (first | (with_reducible first | exact HB.out | apply b1 | apply b2 | apply b3) | exact HB.out)⟩
  ·rw [if_neg c2] at H
   exact absurd H (by simp)

/-! ### impl_blank: function 67 -/
def impl_blank.f (a0_0 : Int) (a0_1 : Int) (a0_2 : Bool) (a0_3 : Bool) (a0_4 : Bool) : Option (Int × Int × Int × Bool × Bool × Bool × Int) := some (32, a0_0, a0_1, a0_2, a0_3, a0_4, 0)
set_option maxHeartbeats 8000000 in
set_option maxRecDepth 100000 in
theorem impl_blank.calls (a0_0 : Int) (a0_1 : Int) (a0_2 : Bool) (a0_3 : Bool) (a0_4 : Bool) (r1 : Int) (r2 : Int) (r3 : Int) (r4 : Bool) (r5 : Bool) (r6 : Bool) (r7 : Int) (w : World) (h : impl_blank.f a0_0 a0_1 a0_2 a0_3 a0_4 = some (r1, r2, r3, r4, r5, r6, r7)) :
  Calls Try.prog 67 #[.agg #[.int .i64 a0_0, .int .i64 a0_1, .bool a0_2, .bool a0_3, .bool a0_4]] w fun e w' => e = .returned (.agg #[.int .i64 r1, .int .i64 r2, .int .i64 r3, .bool r4, .bool r5, .bool r6, .int .i64 r7]) ∧ Below w.heap.size w w' := by
 have hu29 := Try.underlying29
 have hu40 := Try.underlying40
 have HB := am (Below.refl w.heap.size w)
 have H : (some (32, a0_0, a0_1, a0_2, a0_3, a0_4, 0)) = some (r1, r2, r3, r4, r5, r6, r7) := h
 clear h
 simp only [Option.some.injEq, Prod.mk.injEq] at H
 obtain ⟨rfl, rfl, rfl, rfl, rfl, rfl, rfl⟩ := H
 go_enter Try.func67, Try.ntmps67
 go_wp2_with (first | ((with_reducible refine gate_dst (N := 1) rfl ?_); refine box_event ?hg (N := 1) ?hd (cs := #[.int .i64 a0_0, .int .i64 a0_1, .bool a0_2, .bool a0_3, .bool a0_4]) (t := 29) ?hr ?_; (case hd => rfl); (case hg => rfl); (case hr => first | (go_simp; done) | (go_simp; rfl)); intro gb312 hg w2 hbox hb; have n0_ := am (below_step (rb HB) hb); have n1_ := am (hbox); have n2_ := am ((by rw [hg]; exact (below_size (rb HB)) : w.heap.size ≤ gb312)); have n3_ := am ((by rw [hg]; exact (below_size (rb HB)) : w.heap.size ≤ gb312)); clear HB; have HB := n0_; have BK312 := n1_; have GW312 := n2_; have GE312 := n3_; clear n0_ n1_ n2_ n3_; clear hb hbox hg) | ((with_reducible refine gate_dst (N := 2) rfl ?_); refine box_event ?hg (N := 2) ?hd (cs := #[.int .i64 0, .int .i64 0, .int .i64 0, .bool false, .bool false, .bool false, .int .i64 0]) (t := 40) ?hr ?_; (case hd => rfl); (case hg => rfl); (case hr => first | (go_simp; done) | (go_simp; rfl)); intro gb313 hg w3 hbox hb; have n0_ := am (blk_below (g := gb312) (o := .cells #[.int .i64 a0_0, .int .i64 a0_1, .bool a0_2, .bool a0_3, .bool a0_4] 29 (0, 0)) (rk BK312) hb); have n1_ := am (below_step (rb1 HB GE312) hb); have n2_ := am (hbox); have n3_ := am ((by rw [hg]; exact (below_size (rb1 HB GE312)) : w.heap.size ≤ gb313)); have n4_ := am ((by rw [hg]; exact (below_size (rb1 HB GE312)) : w.heap.size ≤ gb313)); have n5_ := am ((by rw [hg]; exact Nat.ne_of_lt (blk_lt (g := gb312) (o := .cells #[.int .i64 a0_0, .int .i64 a0_1, .bool a0_2, .bool a0_3, .bool a0_4] 29 (0, 0)) (rk BK312)) : gb312 ≠ gb313)); have n6_ := am ((by rw [hg]; exact Nat.ne_of_gt (blk_lt (g := gb312) (o := .cells #[.int .i64 a0_0, .int .i64 a0_1, .bool a0_2, .bool a0_3, .bool a0_4] 29 (0, 0)) (rk BK312)) : gb313 ≠ gb312)); clear BK312; clear HB; have BK312 := n0_; have HB := n1_; have BK313 := n2_; have GW313 := n3_; have GE313 := n4_; have NB312_313 := n5_; have NB313_312 := n6_; clear n0_ n1_ n2_ n3_ n4_ n5_ n6_; clear hb hbox hg; have hnb4 := NB312_313.out; have hnc4 := NB313_312.out; have hcz5_0 : w3.cell? ⟨gb312, 0, none⟩ = some (.int .i64 a0_0) := (blk_cell BK312.out 0).trans rfl; have hcz5_1 : w3.cell? ⟨gb312, 1, none⟩ = some (.int .i64 a0_1) := (blk_cell BK312.out 1).trans rfl; have hcz5_2 : w3.cell? ⟨gb312, 2, none⟩ = some (.bool a0_2) := (blk_cell BK312.out 2).trans rfl; have hcz5_3 : w3.cell? ⟨gb312, 3, none⟩ = some (.bool a0_3) := (blk_cell BK312.out 3).trans rfl; have hcz5_4 : w3.cell? ⟨gb312, 4, none⟩ = some (.bool a0_4) := (blk_cell BK312.out 4).trans rfl; have hfz5_0 := blk_frozen BK312.out 0; have hfz5_1 := blk_frozen BK312.out 1; have hfz5_2 := blk_frozen BK312.out 2; have hfz5_3 := blk_frozen BK312.out 3; have hfz5_4 := blk_frozen BK312.out 4; have hcz6_0 : w3.cell? ⟨gb313, 0, none⟩ = some (.int .i64 0) := (blk_cell BK313.out 0).trans rfl; have hcz6_1 : w3.cell? ⟨gb313, 1, none⟩ = some (.int .i64 0) := (blk_cell BK313.out 1).trans rfl; have hcz6_2 : w3.cell? ⟨gb313, 2, none⟩ = some (.int .i64 0) := (blk_cell BK313.out 2).trans rfl; have hcz6_3 : w3.cell? ⟨gb313, 3, none⟩ = some (.bool false) := (blk_cell BK313.out 3).trans rfl; have hcz6_4 : w3.cell? ⟨gb313, 4, none⟩ = some (.bool false) := (blk_cell BK313.out 4).trans rfl; have hcz6_5 : w3.cell? ⟨gb313, 5, none⟩ = some (.bool false) := (blk_cell BK313.out 5).trans rfl; have hcz6_6 : w3.cell? ⟨gb313, 6, none⟩ = some (.int .i64 0) := (blk_cell BK313.out 6).trans rfl; have hfz6_0 := blk_frozen BK313.out 0; have hfz6_1 := blk_frozen BK313.out 1; have hfz6_2 := blk_frozen BK313.out 2; have hfz6_3 := blk_frozen BK313.out 3; have hfz6_4 := blk_frozen BK313.out 4; have hfz6_5 := blk_frozen BK313.out 5; have hfz6_6 := blk_frozen BK313.out 6))
 refine bodyPost_ret (results_cell_row rfl _ _ gb313 40 #[.int .i64 32, .int .i64 a0_0, .int .i64 a0_1, .bool a0_2, .bool a0_3, .bool a0_4, .int .i64 0] (0, 0) _ rfl (by (with_reducible repeat (first | apply k1 | apply k2 | apply k3)); refine blk_put (cs := #[.int .i64 32, .int .i64 a0_0, .int .i64 a0_1, .bool a0_2, .bool a0_3, .bool a0_4, .int .i64 0]) ?_ 6 _ rfl; (with_reducible repeat (first | apply k1 | apply k2 | apply k3)); refine blk_put (cs := #[.int .i64 32, .int .i64 a0_0, .int .i64 a0_1, .bool a0_2, .bool a0_3, .bool false, .int .i64 0]) ?_ 5 _ rfl; (with_reducible repeat (first | apply k1 | apply k2 | apply k3)); refine blk_put (cs := #[.int .i64 32, .int .i64 a0_0, .int .i64 a0_1, .bool a0_2, .bool false, .bool false, .int .i64 0]) ?_ 4 _ rfl; (with_reducible repeat (first | apply k1 | apply k2 | apply k3)); refine blk_put (cs := #[.int .i64 32, .int .i64 a0_0, .int .i64 a0_1, .bool false, .bool false, .bool false, .int .i64 0]) ?_ 3 _ rfl; (with_reducible repeat (first | apply k1 | apply k2 | apply k3)); refine blk_put (cs := #[.int .i64 32, .int .i64 a0_0, .int .i64 0, .bool false, .bool false, .bool false, .int .i64 0]) ?_ 2 _ rfl; (with_reducible repeat (first | apply k1 | apply k2 | apply k3)); refine blk_put (cs := #[.int .i64 32, .int .i64 0, .int .i64 0, .bool false, .bool false, .bool false, .int .i64 0]) ?_ 1 _ rfl; (with_reducible repeat (first | apply k1 | apply k2 | apply k3)); refine blk_put (cs := #[.int .i64 0, .int .i64 0, .int .i64 0, .bool false, .bool false, .bool false, .int .i64 0]) ?_ 0 _ rfl; (with_reducible repeat (first | apply k1 | apply k2 | apply k3)); exact BK313.out) Try.underlying40 rfl (by kernel_rfl)) rfl ?_
 exact ⟨by first | rfl | (simp [errW_none, errW_some] <;> rfl) | (simp [*, errW_none, errW_some] <;> rfl), rb2 HB GE312 GE313⟩

end Go.Proofs.Ytfhkpneffmcdbaa.QD
