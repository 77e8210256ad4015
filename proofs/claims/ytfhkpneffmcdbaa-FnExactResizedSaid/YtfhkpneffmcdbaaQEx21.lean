/- Contracts of Go functions that laws of this seat reach: each Lean function answers as its Go function does. No condition. Written by wip/tools/inj.py, over the kit's print. -/
import Derived.Test.YtfhkpneffmcdbaaQEx0
import Derived.Test.YtfhkpneffmcdbaaQEx3
import Derived.Test.YtfhkpneffmcdbaaQEx20
namespace Go.Proofs.Ytfhkpneffmcdbaa.QE
open Go.RowKit Go.Proofs.YtfhkpneffmcdbaaW.PrintWords Go.Proofs.YtfhkpneffmcdbaaW.PrintLast Go.Proofs.YtfhkpneffmcdbaaW.PrintMore
attribute [local go_sem] max2_int min2_int max_two min_two max_three min_three max_four min_four   -- for this text's walks alone
set_option linter.unusedVariables false
set_option linter.unusedSimpArgs false

/-! ### laws_toGrid: function 29 -/
def laws_toGrid.f (k : Nat) (a0_0 : Int) (l0_1 : List (List (S60))) : Option (Int × (List (List (S40)))) := (laws_toCellSS.f k l0_1).bind fun t392 => (some (a0_0, t392))
theorem laws_toGrid.mono : ∀ a0 a1 k, LeO (laws_toGrid.f k a0 a1) (laws_toGrid.f (k + 1) a0 a1) := by
 intro a0 a1 k
 unfold laws_toGrid.f
 repeat' first
   | (with_reducible exact laws_toCellSS.mono _ _)
   | (with_reducible exact LeO.refl _)
   | (with_reducible exact LeO.none _)
   | (with_reducible refine LeO.ite ?_ ?_)
   | (with_reducible refine LeO.bind ?_ (fun _ => ?_))
set_option maxHeartbeats 8000000 in
set_option maxRecDepth 100000 in
theorem laws_toGrid.calls (k : Nat) (a0_0 : Int) (A0_1 : Option Addr) (c0_1 : Nat) (l0_1 : List (List (S60))) (r1 : Int) (r2 : List (List (S40))) (w : World) (hr0_1 : Kd.C (Kd.slice 60 k60) w A0_1 l0_1.length l0_1) (hc0_1 : l0_1.length ≤ c0_1) (h : laws_toGrid.f k a0_0 l0_1 = some (r1, r2)) :
  Calls Try.prog 29 #[.agg #[.int .i64 a0_0, .slice A0_1 l0_1.length c0_1]] w fun e w' => ∃ v1_ : Value, e = .returned (.agg #[.int .i64 r1, v1_]) ∧ Kd.S (Kd.slice 40 k40) 26 w' w.heap.size (fun _ => True) v1_ r2 ∧ Below w.heap.size w w' := by
 have hu51 := Try.underlying51
 have hu43 := Try.underlying43
 have HR0_1 := am hr0_1
 have HC0_1 := am hc0_1
 clear hr0_1 hc0_1
 have HB := am (Below.refl w.heap.size w)
 have H : ((laws_toCellSS.f k l0_1).bind fun t392 => (some (a0_0, t392))) = some (r1, r2) := h
 clear h
 replace H := Option.bind_eq_some_iff.mp H
 obtain ⟨t392, A20, H⟩ := H
 replace H : (some (a0_0, t392)) = some (r1, r2) := H
 have A2 := am A20
 clear A20
 simp only [Option.some.injEq, Prod.mk.injEq] at H
 obtain ⟨rfl, rfl⟩ := H
 go_enter Try.func29, Try.ntmps29
 go_wp2_with (first | ((with_reducible refine gate_dst (N := 1) rfl ?_); refine box_event ?hg (N := 1) ?hd (cs := #[.int .i64 a0_0, .slice A0_1 l0_1.length c0_1]) (t := 51) ?hr ?_; (case hd => rfl); (case hg => rfl); (case hr => first | (go_simp; done) | (go_simp; rfl)); intro gb389 hg w3 hbox hb; have n0_ := am (below_step (rb HB) hb); have n1_ := am (hbox); have n2_ := am ((by rw [hg]; exact (below_size (rb HB)) : w.heap.size ≤ gb389)); have n3_ := am ((by rw [hg]; exact (below_size (rb HB)) : w.heap.size ≤ gb389)); clear HB; have HB := n0_; have BK389 := n1_; have GW389 := n2_; have GE389 := n3_; clear n0_ n1_ n2_ n3_; clear hb hbox hg) | ((with_reducible refine gate_dst (N := 2) rfl ?_); refine box_event ?hg (N := 2) ?hd (cs := #[.int .i64 0, .slice none 0 0]) (t := 43) ?hr ?_; (case hd => rfl); (case hg => rfl); (case hr => first | (go_simp; done) | (go_simp; rfl)); intro gb390 hg w4 hbox hb; have n0_ := am (blk_below (g := gb389) (o := .cells #[.int .i64 a0_0, .slice A0_1 l0_1.length c0_1] 51 (0, 0)) (rk BK389) hb); have n1_ := am (below_step (rb1 HB GE389) hb); have n2_ := am (hbox); have n3_ := am ((by rw [hg]; exact (below_size (rb1 HB GE389)) : w.heap.size ≤ gb390)); have n4_ := am ((by rw [hg]; exact (below_size (rb1 HB GE389)) : w.heap.size ≤ gb390)); have n5_ := am ((by rw [hg]; exact Nat.ne_of_lt (blk_lt (g := gb389) (o := .cells #[.int .i64 a0_0, .slice A0_1 l0_1.length c0_1] 51 (0, 0)) (rk BK389)) : gb389 ≠ gb390)); have n6_ := am ((by rw [hg]; exact Nat.ne_of_gt (blk_lt (g := gb389) (o := .cells #[.int .i64 a0_0, .slice A0_1 l0_1.length c0_1] 51 (0, 0)) (rk BK389)) : gb390 ≠ gb389)); clear BK389; clear HB; have BK389 := n0_; have HB := n1_; have BK390 := n2_; have GW390 := n3_; have GE390 := n4_; have NB389_390 := n5_; have NB390_389 := n6_; clear n0_ n1_ n2_ n3_ n4_ n5_ n6_; clear hb hbox hg) | ((with_reducible refine gate_dst (N := 3) rfl ?_); refine box_event ?hg (N := 3) ?hd (cs := #[.int .i64 0, .slice none 0 0]) (t := 43) ?hr ?_; (case hd => rfl); (case hg => rfl); (case hr => first | (go_simp; done) | (go_simp; rfl)); intro gb391 hg w5 hbox hb; have n0_ := am (blk_below (g := gb389) (o := .cells #[.int .i64 a0_0, .slice A0_1 l0_1.length c0_1] 51 (0, 0)) (rk BK389) hb); have n1_ := am (blk_below (g := gb390) (o := .cells #[.int .i64 0, .slice none 0 0] 43 (0, 0)) (rk BK390) hb); have n2_ := am (below_step (rb2 HB GE389 GE390) hb); have n3_ := am (hbox); have n4_ := am ((by rw [hg]; exact (below_size (rb2 HB GE389 GE390)) : w.heap.size ≤ gb391)); have n5_ := am ((by rw [hg]; exact (below_size (rb2 HB GE389 GE390)) : w.heap.size ≤ gb391)); have n6_ := am ((by rw [hg]; exact Nat.ne_of_lt (blk_lt (g := gb389) (o := .cells #[.int .i64 a0_0, .slice A0_1 l0_1.length c0_1] 51 (0, 0)) (rk BK389)) : gb389 ≠ gb391)); have n7_ := am ((by rw [hg]; exact Nat.ne_of_gt (blk_lt (g := gb389) (o := .cells #[.int .i64 a0_0, .slice A0_1 l0_1.length c0_1] 51 (0, 0)) (rk BK389)) : gb391 ≠ gb389)); have n8_ := am ((by rw [hg]; exact Nat.ne_of_lt (blk_lt (g := gb390) (o := .cells #[.int .i64 0, .slice none 0 0] 43 (0, 0)) (rk BK390)) : gb390 ≠ gb391)); have n9_ := am ((by rw [hg]; exact Nat.ne_of_gt (blk_lt (g := gb390) (o := .cells #[.int .i64 0, .slice none 0 0] 43 (0, 0)) (rk BK390)) : gb391 ≠ gb390)); clear BK389; clear BK390; clear HB; have BK389 := n0_; have BK390 := n1_; have HB := n2_; have BK391 := n3_; have GW391 := n4_; have GE391 := n5_; have NB389_391 := n6_; have NB391_389 := n7_; have NB390_391 := n8_; have NB391_390 := n9_; clear n0_ n1_ n2_ n3_ n4_ n5_ n6_ n7_ n8_ n9_; clear hb hbox hg; have hnb6 := NB389_390.out; have hnc6 := NB390_389.out; have hnb7 := NB389_391.out; have hnc7 := NB391_389.out; have hcz8_0 : w5.cell? ⟨gb389, 0, none⟩ = some (.int .i64 a0_0) := (blk_cell BK389.out 0).trans rfl; have hcz8_1 : w5.cell? ⟨gb389, 1, none⟩ = some (.slice A0_1 l0_1.length c0_1) := (blk_cell BK389.out 1).trans rfl; have hfz8_0 := blk_frozen BK389.out 0; have hfz8_1 := blk_frozen BK389.out 1; have hnb9 := NB391_390.out; have hnc9 := NB390_391.out; have hcz10_0 : w5.cell? ⟨gb391, 0, none⟩ = some (.int .i64 0) := (blk_cell BK391.out 0).trans rfl; have hcz10_1 : w5.cell? ⟨gb391, 1, none⟩ = some (.slice none 0 0) := (blk_cell BK391.out 1).trans rfl; have hfz10_0 := blk_frozen BK391.out 0; have hfz10_1 := blk_frozen BK391.out 1) | ((with_reducible refine gate_callee (f := 55) rfl ?_); refine gl_ (some 9) Try.func55 #[.slice A0_1 l0_1.length c0_1] ?_; (with_reducible refine (laws_toCellSS.calls k _ _ l0_1 t392 _ ?side1 ?side2 A2.out).mono ?_); (case side1 => exact Kd.C_below HR0_1.out (rb3 HB GE389 GE390 GE391)); (case side2 => exact HC0_1.out); rintro e w11 ⟨v393, rfl, ho0, hb⟩; refine ⟨_, rfl, ?_⟩; have n0_ := am (Kd.S_lower ho0 (below_size (rb3 HB GE389 GE390 GE391))); have n1_ := am (blk_below (g := gb389) (o := .cells #[.int .i64 a0_0, .slice A0_1 l0_1.length c0_1] 51 (0, 0)) (by (with_reducible repeat (first | apply k1 | apply k2 | apply k3)); refine blk_far ?_ NB389_391.out _; (with_reducible repeat (first | apply k1 | apply k2 | apply k3)); exact BK389.out) hb); have n2_ := am (blk_below (g := gb390) (o := .cells #[.int .i64 0, .slice none 0 0] 43 (0, 0)) (by (with_reducible repeat (first | apply k1 | apply k2 | apply k3)); refine blk_far ?_ NB390_391.out _; (with_reducible repeat (first | apply k1 | apply k2 | apply k3)); exact BK390.out) hb); have n3_ := am (blk_below (g := gb391) (o := .cells #[.int .i64 a0_0, .slice none 0 0] 43 (0, 0)) (by (with_reducible repeat (first | apply k1 | apply k2 | apply k3)); refine blk_put (cs := #[.int .i64 0, .slice none 0 0]) ?_ 0 _ rfl; (with_reducible repeat (first | apply k1 | apply k2 | apply k3)); exact BK391.out) hb); have n4_ := am (below_step (rb3 HB GE389 GE390 GE391) hb); clear BK389; clear BK390; clear BK391; clear HB; have HO394 := n0_; have BK389 := n1_; have BK390 := n2_; have BK391 := n3_; have HB := n4_; clear n0_ n1_ n2_ n3_ n4_; (try clear hb); (try clear hb2); (try clear hk); (try clear hi); (try clear ho0); obtain ⟨Ao12, co12, eo12⟩ := Kd.S_slice HO394.out; subst eo12; have hcz13_0 : w11.cell? ⟨gb391, 0, none⟩ = some (.int .i64 a0_0) := (blk_cell BK391.out 0).trans rfl; have hcz13_1 : w11.cell? ⟨gb391, 1, none⟩ = some (.slice none 0 0) := (blk_cell BK391.out 1).trans rfl; have hfz13_0 := blk_frozen BK391.out 0; have hfz13_1 := blk_frozen BK391.out 1; have hcz14_0 : w11.cell? ⟨gb390, 0, none⟩ = some (.int .i64 0) := (blk_cell BK390.out 0).trans rfl; have hcz14_1 : w11.cell? ⟨gb390, 1, none⟩ = some (.slice none 0 0) := (blk_cell BK390.out 1).trans rfl; have hfz14_0 := blk_frozen BK390.out 0; have hfz14_1 := blk_frozen BK390.out 1))
 refine bodyPost_ret (results_cell_row rfl _ _ gb390 43 #[.int .i64 a0_0, .slice Ao12 t392.length co12] (0, 0) _ rfl (by (with_reducible repeat (first | apply k1 | apply k2 | apply k3)); refine blk_put (cs := #[.int .i64 a0_0, .slice none 0 0]) ?_ 1 _ rfl; (with_reducible repeat (first | apply k1 | apply k2 | apply k3)); refine blk_put (cs := #[.int .i64 0, .slice none 0 0]) ?_ 0 _ rfl; (with_reducible repeat (first | apply k1 | apply k2 | apply k3)); refine blk_far ?_ NB390_391.out _; (with_reducible repeat (first | apply k1 | apply k2 | apply k3)); exact BK390.out) Try.underlying43 rfl (by kernel_rfl)) rfl ?_
 exact ⟨_, by first | rfl | (simp [errW_none, errW_some] <;> rfl) | (simp [*, errW_none, errW_some] <;> rfl), by (with_reducible repeat (first | apply Kd.S_alloc | apply Kd.S_drewN | apply Kd.S_drew)); exact Kd.S_mono (Kd.S_far (p := ⟨gb390, 1, none⟩) (Kd.S_far (p := ⟨gb390, 0, none⟩) (Kd.S_far (p := ⟨gb391, 1, none⟩) (Kd.S_types (Kd.S_types HO394.out BK391.out (by decide)) BK390.out (by decide)) (fun _ hk => hk.1.2) (.slice Ao12 t392.length co12)) (fun _ hk => hk.2) (.int .i64 a0_0)) (fun _ hk => hk.2) (.slice Ao12 t392.length co12)) (fun _ hk => trivial), rb3 HB GE389 GE390 GE391⟩

-- NOT PRINTED: function 89 (impl_Cell_89)

-- NOT PRINTED: function 77 (impl_Cell_77)

/-! ### impl_RuneOk: function 88 -/
def impl_RuneOk.f (a0 : Int) : Option (Bool) := (impl_in.f a0 0 1114111).bind fun t395 => (if t395 = true then ((impl_in.f a0 55296 57343).bind fun t396 => (some (!t396))) else (some false))
set_option maxHeartbeats 8000000 in
set_option maxRecDepth 100000 in
theorem impl_RuneOk.calls (a0 : Int) (r : Bool) (w : World) (h : impl_RuneOk.f a0 = some r) :
  Calls Try.prog 88 #[.int .i64 a0] w fun e w' => e = .returned (.bool r) ∧ Drawn0 w w' := by
 have H := h
 unfold impl_RuneOk.f at H
 clear h
 replace H := Option.bind_eq_some_iff.mp H
 obtain ⟨t395, A20, H⟩ := H
 (try dsimp only at H)
 have A2 := am A20
 clear A20
 by_cases c3 : t395 = true
 ·subst c3
  have H1 : ((impl_in.f a0 55296 57343).bind fun t396 => (some (!t396))) = some r := by rw [if_pos rfl] at H; exact H
  clear H
  have H := H1
  clear H1
  replace H := Option.bind_eq_some_iff.mp H
  obtain ⟨t396, A40, H⟩ := H
  replace H : (some (!t396)) = some r := H
  have A4 := am A40
  clear A40
  obtain rfl := Option.some.inj H
  go_enter Try.func88, Try.ntmps88
  go_wp2_with (first | ((with_reducible refine gate_callee (f := 46) rfl ?_); refine gl_ (some 4) Try.func46 #[.int .i64 a0, .int .i64 0, .int .i64 1114111] ?_; (with_reducible refine (impl_in.calls a0 0 1114111 true _ A2.out).mono ?_); rintro e w' ⟨rfl, ⟨nd, rfl⟩⟩; refine ⟨_, rfl, ?_⟩) | (go_at_call 46; (with_reducible refine (impl_in.calls a0 55296 57343 t396 _ A4.out).mono ?_); rintro e w' ⟨rfl, ⟨nd, rfl⟩⟩))
  go_ret
  exact ⟨by first | rfl | (simp; done) | (simp [*]; done), by repeat (first | exact Drawn0.refl _ | apply Drawn0.step)⟩
 ·replace c3 := Bool.eq_false_iff.mpr c3
  subst c3
  have H1 : (some false) = some r := by rw [if_neg (show ¬ (false = true) by decide)] at H; exact H
  clear H
  have H := H1
  clear H1
  obtain rfl := Option.some.inj H
  go_enter Try.func88, Try.ntmps88
  go_wp2_with (first | ((with_reducible refine gate_callee (f := 46) rfl ?_); refine gl_ (some 4) Try.func46 #[.int .i64 a0, .int .i64 0, .int .i64 1114111] ?_; (with_reducible refine (impl_in.calls a0 0 1114111 false _ A2.out).mono ?_); rintro e w' ⟨rfl, ⟨nd, rfl⟩⟩; refine ⟨_, rfl, ?_⟩))
  go_ret
  exact ⟨by first | rfl | (simp; done) | (simp [*]; done), by repeat (first | exact Drawn0.refl _ | apply Drawn0.step)⟩

/-! ### impl_Width: function 76 -/
def impl_Width.j0 : Nat → Int → Bool → Option (Int)
 | 0, _, _ => none
 | k + 1, x0, x3 => if x3 = true then (some 0) else ((impl_in.f x0 4352 4447).bind fun t400 => (if t400 = true then (some 2) else ((impl_in.f x0 12288 55295).bind fun t401 => (if t401 = true then (some 2) else ((impl_in.f x0 127744 131071).bind fun t402 => (if t402 = true then (some 2) else (some 1)))))))
def impl_Width.f (k : Nat) (a0 : Int) : Option (Int) := (impl_RuneOk.f a0).bind fun t397 => (if t397 = true then (if a0 < 32 then (impl_Width.j0 k a0 true) else ((impl_in.f a0 127 159).bind fun t398 => (if t398 = true then (impl_Width.j0 k a0 true) else ((impl_in.f a0 768 879).bind fun t399 => (impl_Width.j0 k a0 t399))))) else (impl_Width.j0 k a0 true))
theorem impl_Width.mono_l : ∀ k, (∀ y0 y1, LeO (impl_Width.j0 k y0 y1) (impl_Width.j0 (k + 1) y0 y1))
 | 0 => fun _ _ r h => by simp [impl_Width.j0] at h
 | k + 1 => by
  have ih0 := impl_Width.mono_l k
  ·intro y0 y1
   unfold impl_Width.j0
   repeat' first
   | (with_reducible exact ih0 _ _)
   | (with_reducible exact LeO.refl _)
   | (with_reducible exact LeO.none _)
   | (with_reducible refine LeO.ite ?_ ?_)
   | (with_reducible refine LeO.bind ?_ (fun _ => ?_))
theorem impl_Width.mono : ∀ a0 k, LeO (impl_Width.f k a0) (impl_Width.f (k + 1) a0) := by
 intro a0 k
 have ih0 := impl_Width.mono_l k
 unfold impl_Width.f
 repeat' first
   | (with_reducible exact ih0 _ _)
   | (with_reducible exact LeO.refl _)
   | (with_reducible exact LeO.none _)
   | (with_reducible refine LeO.ite ?_ ?_)
   | (with_reducible refine LeO.bind ?_ (fun _ => ?_))
set_option maxHeartbeats 8000000 in
set_option maxRecDepth 100000 in
theorem impl_Width.calls (k : Nat) (a0 : Int) (r : Int) (w : World) (h : impl_Width.f k a0 = some r) :
  Calls Try.prog 76 #[.int .i64 a0] w fun e w' => e = .returned (.int .i64 r) ∧ Drawn0 w w' := by
 have H := h
 unfold impl_Width.f at H
 clear h
 have HC2 := am H
 clear H
 go_enter Try.func76, Try.ntmps76
 go_upto_region 1 with (fail)
 go_cut [3] (fun v3 wc => ∃ (kq : Nat) (x3_1 : Bool), v3 = .bool x3_1 ∧ Aside0 (impl_Width.j0 kq a0 x3_1 = some r) ∧ Aside0 (kq ≤ k) ∧ Drawn0 w wc)
 case first =>
  have H := HC2.out
  clear HC2
  replace H := Option.bind_eq_some_iff.mp H
  obtain ⟨t397, A30, H⟩ := H
  (try dsimp only at H)
  have A3 := am A30
  clear A30
  by_cases c4 : t397 = true
  ·subst c4
   rw [if_pos rfl] at H
   refine em_ (p := a0 < 32) (fun c5 => ?g0p) (fun c5 => ?g0n)
   case' g0p =>
    rw [if_pos c5] at H
    have c5b0 : decide (a0 < 32) = true := decide_eq_true c5
    clear c5
    (first | rw [c5b0] | (simp only [i64_w, i32_w]; rw [c5b0]) | skip)
    have H' := am H
    clear H
    have lf1_ := trivial
   case g0n =>
    rw [if_neg c5] at H
    have c5b0 : decide (a0 < 32) = false := decide_eq_false c5
    clear c5
    (first | rw [c5b0] | (simp only [i64_w, i32_w]; rw [c5b0]) | skip)
    replace H := Option.bind_eq_some_iff.mp H
    obtain ⟨t398, A60, H⟩ := H
    (try dsimp only at H)
    have A6 := am A60
    clear A60
    by_cases c7 : t398 = true
    ·subst c7
     have H1 : (impl_Width.j0 k a0 true) = some r := by rw [if_pos rfl] at H; exact H
     clear H
     have H := H1
     clear H1
     have H' := am H
     clear H
     go_wp2_with (first | ((with_reducible refine gate_callee (f := 88) rfl ?_); refine gl_ (some 5) Try.func88 #[.int .i64 a0] ?_; (with_reducible refine (impl_RuneOk.calls a0 true _ A3.out).mono ?_); rintro e w' ⟨rfl, ⟨nd, rfl⟩⟩; refine ⟨_, rfl, ?_⟩) | (go_at_call 46; (with_reducible refine (impl_in.calls a0 127 159 true _ A6.out).mono ?_); rintro e w' ⟨rfl, ⟨nd, rfl⟩⟩))
     go_meet
     case rel => exact ⟨_, (true), (by first | rfl | (simp; done) | (simp [*]; done)), H', ⟨by first | omega | exact Nat.le_refl _⟩, by repeat (first | exact Drawn0.refl _ | apply Drawn0.step)⟩
    ·replace c7 := Bool.eq_false_iff.mpr c7
     subst c7
     rw [if_neg (show ¬ (false = true) by decide)] at H
     replace H := Option.bind_eq_some_iff.mp H
     obtain ⟨t399, A80, H⟩ := H
     replace H : (impl_Width.j0 k a0 t399) = some r := H
     have A8 := am A80
     clear A80
     have H' := am H
     clear H
     go_wp2_with (first | ((with_reducible refine gate_callee (f := 88) rfl ?_); refine gl_ (some 5) Try.func88 #[.int .i64 a0] ?_; (with_reducible refine (impl_RuneOk.calls a0 true _ A3.out).mono ?_); rintro e w' ⟨rfl, ⟨nd, rfl⟩⟩; refine ⟨_, rfl, ?_⟩) | (go_at_call 46; (with_reducible refine (impl_in.calls a0 127 159 false _ A6.out).mono ?_); rintro e w' ⟨rfl, ⟨nd, rfl⟩⟩) | (go_at_call 46; (with_reducible refine (impl_in.calls a0 768 879 t399 _ A8.out).mono ?_); rintro e w' ⟨rfl, ⟨nd, rfl⟩⟩))
     go_meet
     case rel => exact ⟨_, (t399), (by first | rfl | (simp; done) | (simp [*]; done)), H', ⟨by first | omega | exact Nat.le_refl _⟩, by repeat (first | exact Drawn0.refl _ | apply Drawn0.step)⟩
   all_goals
    go_wp2_with (first | ((with_reducible refine gate_callee (f := 88) rfl ?_); refine gl_ (some 5) Try.func88 #[.int .i64 a0] ?_; (with_reducible refine (impl_RuneOk.calls a0 true _ A3.out).mono ?_); rintro e w' ⟨rfl, ⟨nd, rfl⟩⟩; refine ⟨_, rfl, ?_⟩))
    go_meet
    case rel => exact ⟨_, (true), (by first | rfl | (simp; done) | (simp [*]; done)), H', ⟨by first | omega | exact Nat.le_refl _⟩, by repeat (first | exact Drawn0.refl _ | apply Drawn0.step)⟩
  ·replace c4 := Bool.eq_false_iff.mpr c4
   subst c4
   have H1 : (impl_Width.j0 k a0 true) = some r := by rw [if_neg (show ¬ (false = true) by decide)] at H; exact H
   clear H
   have H := H1
   clear H1
   have H' := am H
   clear H
   go_wp2_with (first | ((with_reducible refine gate_callee (f := 88) rfl ?_); refine gl_ (some 5) Try.func88 #[.int .i64 a0] ?_; (with_reducible refine (impl_RuneOk.calls a0 false _ A3.out).mono ?_); rintro e w' ⟨rfl, ⟨nd, rfl⟩⟩; refine ⟨_, rfl, ?_⟩))
   go_meet
   case rel => exact ⟨_, (true), (by first | rfl | (simp; done) | (simp [*]; done)), H', ⟨by first | omega | exact Nat.le_refl _⟩, by repeat (first | exact Drawn0.refl _ | apply Drawn0.step)⟩
 case rest =>
  clear HC2
  try clear p2
  try clear c4
  try clear c5
  try clear c5b0
  try clear c7
  try clear c8
  obtain ⟨kq, x3_1, rfl, HA, HJ1, ⟨mc1, rfl⟩⟩ := hcut
  cases kq with
  | zero => exact absurd HA.out (by simp [impl_Width.j0])
  | succ kj1 =>
   have H := HA.out
   clear HA
   simp only [impl_Width.j0] at H
   refine em_ (p := x3_1 = true) (fun c9 => ?g2p) (fun c9 => ?g2n)
   case' g2p =>
    subst c9
    have H1 : (some 0) = some r := by rw [if_pos rfl] at H; exact H
    clear H
    have H := H1
    clear H1
    obtain rfl := Option.some.inj H
    have lf7_ := trivial
   case g2n =>
    replace c9 := Bool.eq_false_iff.mpr c9
    subst c9
    rw [if_neg (show ¬ (false = true) by decide)] at H
    replace H := Option.bind_eq_some_iff.mp H
    obtain ⟨t400, A100, H⟩ := H
    (try dsimp only at H)
    have A10 := am A100
    clear A100
    refine em_ (p := t400 = true) (fun c11 => ?g3p) (fun c11 => ?g3n)
    case' g3p =>
     subst c11
     have H1 : (some 2) = some r := by rw [if_pos rfl] at H; exact H
     clear H
     have H := H1
     clear H1
     obtain rfl := Option.some.inj H
     have lf12_ := trivial
    case g3n =>
     replace c11 := Bool.eq_false_iff.mpr c11
     subst c11
     rw [if_neg (show ¬ (false = true) by decide)] at H
     replace H := Option.bind_eq_some_iff.mp H
     obtain ⟨t401, A120, H⟩ := H
     (try dsimp only at H)
     have A12 := am A120
     clear A120
     refine em_ (p := t401 = true) (fun c13 => ?g1p) (fun c13 => ?g1n)
     case' g1p =>
      subst c13
      have H1 : (some 2) = some r := by rw [if_pos rfl] at H; exact H
      clear H
      have H := H1
      clear H1
      obtain rfl := Option.some.inj H
      have lf9_ := trivial
     case g1n =>
      replace c13 := Bool.eq_false_iff.mpr c13
      subst c13
      rw [if_neg (show ¬ (false = true) by decide)] at H
      replace H := Option.bind_eq_some_iff.mp H
      obtain ⟨t402, A140, H⟩ := H
      (try dsimp only at H)
      have A14 := am A140
      clear A140
      by_cases c15 : t402 = true
      ·subst c15
       have H1 : (some 2) = some r := by rw [if_pos rfl] at H; exact H
       clear H
       have H := H1
       clear H1
       obtain rfl := Option.some.inj H
       go_wp2_with (first | ((with_reducible refine gate_callee (f := 46) rfl ?_); refine gl_ (some 21) Try.func46 #[.int .i64 a0, .int .i64 4352, .int .i64 4447] ?_; (with_reducible refine (impl_in.calls a0 4352 4447 false _ A10.out).mono ?_); rintro e w' ⟨rfl, ⟨nd, rfl⟩⟩; refine ⟨_, rfl, ?_⟩) | (go_at_call 46; (with_reducible refine (impl_in.calls a0 12288 55295 false _ A12.out).mono ?_); rintro e w' ⟨rfl, ⟨nd, rfl⟩⟩) | (go_at_call 46; (with_reducible refine (impl_in.calls a0 127744 131071 true _ A14.out).mono ?_); rintro e w' ⟨rfl, ⟨nd, rfl⟩⟩))
       go_ret
       exact ⟨by first | rfl | (simp; done) | (simp [*]; done), by repeat (first | exact Drawn0.refl _ | apply Drawn0.step)⟩
      ·replace c15 := Bool.eq_false_iff.mpr c15
       subst c15
       have H1 : (some 1) = some r := by rw [if_neg (show ¬ (false = true) by decide)] at H; exact H
       clear H
       have H := H1
       clear H1
       obtain rfl := Option.some.inj H
       go_wp2_with (first | ((with_reducible refine gate_callee (f := 46) rfl ?_); refine gl_ (some 21) Try.func46 #[.int .i64 a0, .int .i64 4352, .int .i64 4447] ?_; (with_reducible refine (impl_in.calls a0 4352 4447 false _ A10.out).mono ?_); rintro e w' ⟨rfl, ⟨nd, rfl⟩⟩; refine ⟨_, rfl, ?_⟩) | (go_at_call 46; (with_reducible refine (impl_in.calls a0 12288 55295 false _ A12.out).mono ?_); rintro e w' ⟨rfl, ⟨nd, rfl⟩⟩) | (go_at_call 46; (with_reducible refine (impl_in.calls a0 127744 131071 false _ A14.out).mono ?_); rintro e w' ⟨rfl, ⟨nd, rfl⟩⟩))
       go_ret
       exact ⟨by first | rfl | (simp; done) | (simp [*]; done), by repeat (first | exact Drawn0.refl _ | apply Drawn0.step)⟩
     all_goals
      go_wp2_with (first | ((with_reducible refine gate_callee (f := 46) rfl ?_); refine gl_ (some 21) Try.func46 #[.int .i64 a0, .int .i64 4352, .int .i64 4447] ?_; (with_reducible refine (impl_in.calls a0 4352 4447 false _ A10.out).mono ?_); rintro e w' ⟨rfl, ⟨nd, rfl⟩⟩; refine ⟨_, rfl, ?_⟩) | (go_at_call 46; (with_reducible refine (impl_in.calls a0 12288 55295 true _ A12.out).mono ?_); rintro e w' ⟨rfl, ⟨nd, rfl⟩⟩))
      go_ret
      exact ⟨by first | rfl | (simp; done) | (simp [*]; done), by repeat (first | exact Drawn0.refl _ | apply Drawn0.step)⟩
    all_goals
     go_wp2_with (first | ((with_reducible refine gate_callee (f := 46) rfl ?_); refine gl_ (some 21) Try.func46 #[.int .i64 a0, .int .i64 4352, .int .i64 4447] ?_; (with_reducible refine (impl_in.calls a0 4352 4447 true _ A10.out).mono ?_); rintro e w' ⟨rfl, ⟨nd, rfl⟩⟩; refine ⟨_, rfl, ?_⟩))
     go_ret
     exact ⟨by first | rfl | (simp; done) | (simp [*]; done), by repeat (first | exact Drawn0.refl _ | apply Drawn0.step)⟩
   all_goals
    go_wp2
    go_ret
    exact ⟨by first | rfl | (simp; done) | (simp [*]; done), by repeat (first | exact Drawn0.refl _ | apply Drawn0.step)⟩

/-! ### impl_isCell: function 45 -/
def impl_isCell.f (k : Nat) (a0_0 : Int) (a0_1 : Int) (a0_2 : Int) (a0_3 : Bool) (a0_4 : Bool) (a0_5 : Bool) (a0_6 : Int) : Option (Bool) := if a0_6 = 0 then ((impl_Width.f k a0_0).bind fun t404 => (if t404 = 1 then ((impl_StyleOk.f a0_1 a0_2 a0_3 a0_4 a0_5).bind fun t405 => (some t405)) else (some false))) else (if a0_6 = 1 then ((impl_Width.f k a0_0).bind fun t406 => (if t406 = 2 then ((impl_StyleOk.f a0_1 a0_2 a0_3 a0_4 a0_5).bind fun t407 => (some t407)) else (some false))) else (if a0_6 = 2 then (if a0_0 = 0 then ((impl_StyleOk.f a0_1 a0_2 a0_3 a0_4 a0_5).bind fun t408 => (some t408)) else (some false)) else (some false)))
theorem impl_isCell.mono : ∀ a0 a1 a2 a3 a4 a5 a6 k, LeO (impl_isCell.f k a0 a1 a2 a3 a4 a5 a6) (impl_isCell.f (k + 1) a0 a1 a2 a3 a4 a5 a6) := by
 intro a0 a1 a2 a3 a4 a5 a6 k
 unfold impl_isCell.f
 repeat' first
   | (with_reducible exact impl_Width.mono _ _)
   | (with_reducible exact LeO.refl _)
   | (with_reducible exact LeO.none _)
   | (with_reducible refine LeO.ite ?_ ?_)
   | (with_reducible refine LeO.bind ?_ (fun _ => ?_))
set_option maxHeartbeats 8000000 in
set_option maxRecDepth 100000 in
theorem impl_isCell.calls (k : Nat) (a0_0 : Int) (a0_1 : Int) (a0_2 : Int) (a0_3 : Bool) (a0_4 : Bool) (a0_5 : Bool) (a0_6 : Int) (r : Bool) (w : World) (h : impl_isCell.f k a0_0 a0_1 a0_2 a0_3 a0_4 a0_5 a0_6 = some r) :
  Calls Try.prog 45 #[.agg #[.int .i64 a0_0, .int .i64 a0_1, .int .i64 a0_2, .bool a0_3, .bool a0_4, .bool a0_5, .int .i64 a0_6]] w fun e w' => e = .returned (.bool r) ∧ Below w.heap.size w w' := by
 have hu40 := Try.underlying40
 have hu29 := Try.underlying29
 have HB := am (Below.refl w.heap.size w)
 have H := h
 unfold impl_isCell.f at H
 clear h
 refine em_ (p := a0_6 = 0) (fun c2 => ?g9p) (fun c2 => ?g9n)
 case' g9p =>
  rw [if_pos c2] at H
  have c2b0 : (a0_6 == 0) = true := beq_iff_eq.mpr c2
  have c2b1 : (a0_6 != 0) = false := bne_eq_false_iff_eq.mpr c2
  clear c2
  replace H := Option.bind_eq_some_iff.mp H
  obtain ⟨t404, A30, H⟩ := H
  (try dsimp only at H)
  have A3 := am A30
  clear A30
  refine em_ (p := t404 = 1) (fun c4 => ?g4p) (fun c4 => ?g4n)
  case' g4p =>
   rw [if_pos c4] at H
   have c4b0 : (t404 == 1) = true := beq_iff_eq.mpr c4
   have c4b1 : (t404 != 1) = false := bne_eq_false_iff_eq.mpr c4
   clear c4
   replace H := Option.bind_eq_some_iff.mp H
   obtain ⟨t405, A50, H⟩ := H
   replace H : (some t405) = some r := H
   have A5 := am A50
   clear A50
   obtain rfl := Option.some.inj H
   have lf15_ := trivial
  case' g4n =>
   rw [if_neg c4] at H
   have c4b0 : (t404 == 1) = false := beq_eq_false_iff_ne.mpr c4
   have c4b1 : (t404 != 1) = true := bne_iff_ne.mpr c4
   obtain rfl := Option.some.inj H
   have lf16_ := trivial
 case' g9n =>
  rw [if_neg c2] at H
  have c2b0 : (a0_6 == 0) = false := beq_eq_false_iff_ne.mpr c2
  have c2b1 : (a0_6 != 0) = true := bne_iff_ne.mpr c2
  refine em_ (p := a0_6 = 1) (fun c11 => ?g8p) (fun c11 => ?g8n)
  case' g8p =>
   rw [if_pos c11] at H
   have c11b0 : (a0_6 == 1) = true := beq_iff_eq.mpr c11
   have c11b1 : (a0_6 != 1) = false := bne_eq_false_iff_eq.mpr c11
   clear c11
   replace H := Option.bind_eq_some_iff.mp H
   obtain ⟨t406, A120, H⟩ := H
   (try dsimp only at H)
   have A12 := am A120
   clear A120
   refine em_ (p := t406 = 2) (fun c13 => ?g5p) (fun c13 => ?g5n)
   case' g5p =>
    rw [if_pos c13] at H
    have c13b0 : (t406 == 2) = true := beq_iff_eq.mpr c13
    have c13b1 : (t406 != 2) = false := bne_eq_false_iff_eq.mpr c13
    clear c13
    replace H := Option.bind_eq_some_iff.mp H
    obtain ⟨t405, A140, H⟩ := H
    replace H : (some t405) = some r := H
    have A5 := am A140
    clear A140
    obtain rfl := Option.some.inj H
    have lf17_ := trivial
   case' g5n =>
    rw [if_neg c13] at H
    have c13b0 : (t406 == 2) = false := beq_eq_false_iff_ne.mpr c13
    have c13b1 : (t406 != 2) = true := bne_iff_ne.mpr c13
    obtain rfl := Option.some.inj H
    have lf18_ := trivial
  case' g8n =>
   rw [if_neg c11] at H
   have c11b0 : (a0_6 == 1) = false := beq_eq_false_iff_ne.mpr c11
   have c11b1 : (a0_6 != 1) = true := bne_iff_ne.mpr c11
   refine em_ (p := a0_6 = 2) (fun c20 => ?g7p) (fun c20 => ?g7n)
   case' g7p =>
    rw [if_pos c20] at H
    have c20b0 : (a0_6 == 2) = true := beq_iff_eq.mpr c20
    have c20b1 : (a0_6 != 2) = false := bne_eq_false_iff_eq.mpr c20
    clear c20
    refine em_ (p := a0_0 = 0) (fun c21 => ?g6p) (fun c21 => ?g6n)
    case' g6p =>
     rw [if_pos c21] at H
     have c21b0 : (a0_0 == 0) = true := beq_iff_eq.mpr c21
     have c21b1 : (a0_0 != 0) = false := bne_eq_false_iff_eq.mpr c21
     clear c21
     replace H := Option.bind_eq_some_iff.mp H
     obtain ⟨t405, A220, H⟩ := H
     replace H : (some t405) = some r := H
     have A5 := am A220
     clear A220
     obtain rfl := Option.some.inj H
     have lf19_ := trivial
    case' g6n =>
     rw [if_neg c21] at H
     have c21b0 : (a0_0 == 0) = false := beq_eq_false_iff_ne.mpr c21
     have c21b1 : (a0_0 != 0) = true := bne_iff_ne.mpr c21
     obtain rfl := Option.some.inj H
     have lf20_ := trivial
   case' g7n =>
    rw [if_neg c20] at H
    have c20b0 : (a0_6 == 2) = false := beq_eq_false_iff_ne.mpr c20
    have c20b1 : (a0_6 != 2) = true := bne_iff_ne.mpr c20
    obtain rfl := Option.some.inj H
    have lf21_ := trivial
 all_goals
  go_enter Try.func45, Try.ntmps45
  go_wp2_with (first | ((with_reducible refine gate_dst (N := 1) rfl ?_); refine box_event ?hg (N := 1) ?hd (cs := #[.int .i64 a0_0, .int .i64 a0_1, .int .i64 a0_2, .bool a0_3, .bool a0_4, .bool a0_5, .int .i64 a0_6]) (t := 40) ?hr ?_; (case hd => rfl); (case hg => rfl); (case hr => first | (go_simp; done) | (go_simp; rfl)); intro gb403 hg w6 hbox hb; have n0_ := am (below_step (rb HB) hb); have n1_ := am (hbox); have n2_ := am ((by rw [hg]; exact (below_size (rb HB)) : w.heap.size ≤ gb403)); have n3_ := am ((by rw [hg]; exact (below_size (rb HB)) : w.heap.size ≤ gb403)); clear HB; have HB := n0_; have BK403 := n1_; have GW403 := n2_; have GE403 := n3_; clear n0_ n1_ n2_ n3_; clear hb hbox hg; have hcz7_0 : w6.cell? ⟨gb403, 0, none⟩ = some (.int .i64 a0_0) := (blk_cell BK403.out 0).trans rfl; have hcz7_1 : w6.cell? ⟨gb403, 1, none⟩ = some (.int .i64 a0_1) := (blk_cell BK403.out 1).trans rfl; have hcz7_2 : w6.cell? ⟨gb403, 2, none⟩ = some (.int .i64 a0_2) := (blk_cell BK403.out 2).trans rfl; have hcz7_3 : w6.cell? ⟨gb403, 3, none⟩ = some (.bool a0_3) := (blk_cell BK403.out 3).trans rfl; have hcz7_4 : w6.cell? ⟨gb403, 4, none⟩ = some (.bool a0_4) := (blk_cell BK403.out 4).trans rfl; have hcz7_5 : w6.cell? ⟨gb403, 5, none⟩ = some (.bool a0_5) := (blk_cell BK403.out 5).trans rfl; have hcz7_6 : w6.cell? ⟨gb403, 6, none⟩ = some (.int .i64 a0_6) := (blk_cell BK403.out 6).trans rfl; have hfz7_0 := blk_frozen BK403.out 0; have hfz7_1 := blk_frozen BK403.out 1; have hfz7_2 := blk_frozen BK403.out 2; have hfz7_3 := blk_frozen BK403.out 3; have hfz7_4 := blk_frozen BK403.out 4; have hfz7_5 := blk_frozen BK403.out 5; have hfz7_6 := blk_frozen BK403.out 6) | (go_at_call 62; (with_reducible refine (impl_StyleOk.calls a0_1 a0_2 a0_3 a0_4 a0_5 t405 _ A5.out).mono ?_); rintro e w8 ⟨rfl, hb⟩; have n0_ := am (blk_below (g := gb403) (o := .cells #[.int .i64 a0_0, .int .i64 a0_1, .int .i64 a0_2, .bool a0_3, .bool a0_4, .bool a0_5, .int .i64 a0_6] 40 (0, 0)) (rk BK403) hb); have n1_ := am (below_step (rb1 HB GE403) hb); clear BK403; clear HB; have BK403 := n0_; have HB := n1_; clear n0_ n1_; (try clear hb); (try clear hb2); (try clear hk); (try clear hi)) | ((with_reducible refine gate_callee (f := 76) rfl ?_); refine gl_ (some 20) Try.func76 #[.int .i64 a0_0] ?_; (with_reducible refine (impl_Width.calls k a0_0 t406 _ A12.out).mono ?_); rintro e w' ⟨rfl, ⟨nd, rfl⟩⟩; refine ⟨_, rfl, ?_⟩) | ((with_reducible refine gate_callee (f := 76) rfl ?_); refine gl_ (some 9) Try.func76 #[.int .i64 a0_0] ?_; (with_reducible refine (impl_Width.calls k a0_0 t404 _ A3.out).mono ?_); rintro e w' ⟨rfl, ⟨nd, rfl⟩⟩; refine ⟨_, rfl, ?_⟩))
  go_ret
  exact ⟨by first | rfl | (simp [errW_none, errW_some] <;> rfl) | (simp [*, errW_none, errW_some] <;> rfl), by repeat (first | (with_reducible first | exact HB.out | apply b1 | apply b2 | apply b3 | refine below_set ?_ GE403.out) | exact HB.out)⟩

end Go.Proofs.Ytfhkpneffmcdbaa.QE
