/- Contracts of Go functions that laws of this seat reach: each Lean function answers as its Go function does. No condition. Written by wip/tools/inj.py, over the kit's print. -/
import Derived.Test.YtfhkpneffmcdbaaQEx0
import Derived.Test.YtfhkpneffmcdbaaQEx4
namespace Go.Proofs.Ytfhkpneffmcdbaa.QE
open Go.RowKit Go.Proofs.YtfhkpneffmcdbaaW.PrintWords Go.Proofs.YtfhkpneffmcdbaaW.PrintLast Go.Proofs.YtfhkpneffmcdbaaW.PrintMore
attribute [local go_sem] max2_int min2_int max_two min_two max_three min_three max_four min_four   -- for this text's walks alone
set_option linter.unusedVariables false
set_option linter.unusedSimpArgs false

/-! ### impl_Grid_blanks: function 79 -/
def impl_Grid_blanks.l0 : Nat → List (List (S40)) → Int → Int → Int → List (List (S40)) → Int → Int → Bool → Bool → Bool → Option ((List (List (S40))))
 | 0, _, _, _, _, _, _, _, _, _, _ => none
 | k + 1, x7, x9, x10, x444000, x444001, x445000, x445001, x445002, x445003, x445004 => if x10 < x9 then ((impl_Blank.f k x444000 x445000 x445001 x445002 x445003 x445004).bind fun t448 => (if x7.length < 5864062014805 then (impl_Grid_blanks.l0 k (x7 ++ [t448]) x9 (wrap64 (x10 + 1)) x444000 x444001 x445000 x445001 x445002 x445003 x445004) else (none))) else (some x7)
def impl_Grid_blanks.f (k : Nat) (a0_0 : Int) (l0_1 : List (List (S40))) (a1 : Int) (a2_0 : Int) (a2_1 : Int) (a2_2 : Bool) (a2_3 : Bool) (a2_4 : Bool) : Option ((List (List (S40)))) := impl_Grid_blanks.l0 k (([] : List (List (S40)))) a1 0 a0_0 l0_1 a2_0 a2_1 a2_2 a2_3 a2_4
theorem impl_Grid_blanks.mono_l : ∀ k, (∀ y0 y1 y2 y3 y4 y5 y6 y7 y8 y9, LeO (impl_Grid_blanks.l0 k y0 y1 y2 y3 y4 y5 y6 y7 y8 y9) (impl_Grid_blanks.l0 (k + 1) y0 y1 y2 y3 y4 y5 y6 y7 y8 y9))
 | 0 => fun _ _ _ _ _ _ _ _ _ _ r h => by simp [impl_Grid_blanks.l0] at h
 | k + 1 => by
  have ih0 := impl_Grid_blanks.mono_l k
  ·intro y0 y1 y2 y3 y4 y5 y6 y7 y8 y9
   unfold impl_Grid_blanks.l0
   repeat' first
   | (with_reducible exact ih0 _ _ _ _ _ _ _ _ _ _)
   | (with_reducible exact impl_Blank.mono _ _ _ _ _ _ _)
   | (with_reducible exact LeO.refl _)
   | (with_reducible exact LeO.none _)
   | (with_reducible refine LeO.ite ?_ ?_)
   | (with_reducible refine LeO.bind ?_ (fun _ => ?_))
theorem impl_Grid_blanks.mono : ∀ a0 a1 a2 a3 a4 a5 a6 a7 k, LeO (impl_Grid_blanks.f k a0 a1 a2 a3 a4 a5 a6 a7) (impl_Grid_blanks.f (k + 1) a0 a1 a2 a3 a4 a5 a6 a7) := by
 intro a0 a1 a2 a3 a4 a5 a6 a7 k
 have ih0 := impl_Grid_blanks.mono_l k
 unfold impl_Grid_blanks.f
 repeat' first
   | (with_reducible exact ih0 _ _ _ _ _ _ _ _ _ _)
   | (with_reducible exact impl_Blank.mono _ _ _ _ _ _ _)
   | (with_reducible exact LeO.refl _)
   | (with_reducible exact LeO.none _)
   | (with_reducible refine LeO.ite ?_ ?_)
   | (with_reducible refine LeO.bind ?_ (fun _ => ?_))
set_option maxHeartbeats 8000000 in
set_option maxRecDepth 100000 in
theorem impl_Grid_blanks.calls (k : Nat) (a0_0 : Int) (A0_1 : Option Addr) (c0_1 : Nat) (l0_1 : List (List (S40))) (a1 : Int) (a2_0 : Int) (a2_1 : Int) (a2_2 : Bool) (a2_3 : Bool) (a2_4 : Bool) (r : List (List (S40))) (w : World) (hr0_1 : Kd.C (Kd.slice 40 k40) w A0_1 l0_1.length l0_1) (hc0_1 : l0_1.length ≤ c0_1) (h : impl_Grid_blanks.f k a0_0 l0_1 a1 a2_0 a2_1 a2_2 a2_3 a2_4 = some r) :
  Calls Try.prog 79 #[.agg #[.int .i64 a0_0, .slice A0_1 l0_1.length c0_1], .int .i64 a1, .agg #[.int .i64 a2_0, .int .i64 a2_1, .bool a2_2, .bool a2_3, .bool a2_4]] w fun e w' => ∃ v0_ : Value, e = .returned (v0_) ∧ Kd.S (Kd.slice 40 k40) 26 w' w.heap.size (fun _ => True) v0_ r ∧ Below w.heap.size w w' := by
 have hu43 := Try.underlying43
 have hu29 := Try.underlying29
 have HR0_1 := am hr0_1
 have HC0_1 := am hc0_1
 clear hr0_1 hc0_1
 have HB := am (Below.refl w.heap.size w)
 have H : (impl_Grid_blanks.l0 k (([] : List (List (S40)))) a1 0 a0_0 l0_1 a2_0 a2_1 a2_2 a2_3 a2_4) = some r := h
 clear h
 obtain ⟨y445, hy445⟩ : ∃ y_ : List (List (S40)), y_ = (([] : List (List (S40)))) := ⟨_, rfl⟩
 replace H : (impl_Grid_blanks.l0 k y445 a1 0 a0_0 l0_1 a2_0 a2_1 a2_2 a2_3 a2_4) = some r := by first | (rw [hy445]; with_reducible exact H) | (rw [hy445]; exact H) | exact H
 have Ny445 := am hy445
 clear hy445
 have H' := am H
 clear H
 go_enter Try.func79, Try.ntmps79
 go_wp2_with (first | ((with_reducible refine gate_dst (N := 3) rfl ?_); refine box_event ?hg (N := 3) ?hd (cs := #[.int .i64 a0_0, .slice A0_1 l0_1.length c0_1]) (t := 43) ?hr ?_; (case hd => rfl); (case hg => rfl); (case hr => first | (go_simp; done) | (go_simp; rfl)); intro gb443 hg w4 hbox hb; have n0_ := am (below_step (rb HB) hb); have n1_ := am (hbox); have n2_ := am ((by rw [hg]; exact (below_size (rb HB)) : w.heap.size ≤ gb443)); have n3_ := am ((by rw [hg]; exact (below_size (rb HB)) : w.heap.size ≤ gb443)); clear HB; have HB := n0_; have BK443 := n1_; have GW443 := n2_; have GE443 := n3_; clear n0_ n1_ n2_ n3_; clear hb hbox hg) | ((with_reducible refine gate_dst (N := 5) rfl ?_); refine box_event ?hg (N := 5) ?hd (cs := #[.int .i64 a2_0, .int .i64 a2_1, .bool a2_2, .bool a2_3, .bool a2_4]) (t := 29) ?hr ?_; (case hd => rfl); (case hg => rfl); (case hr => first | (go_simp; done) | (go_simp; rfl)); intro gb444 hg w5 hbox hb; have n0_ := am (blk_below (g := gb443) (o := .cells #[.int .i64 a0_0, .slice A0_1 l0_1.length c0_1] 43 (0, 0)) (rk BK443) hb); have n1_ := am (below_step (rb1 HB GE443) hb); have n2_ := am (hbox); have n3_ := am ((by rw [hg]; exact (below_size (rb1 HB GE443)) : w.heap.size ≤ gb444)); have n4_ := am ((by rw [hg]; exact (below_size (rb1 HB GE443)) : w.heap.size ≤ gb444)); have n5_ := am ((by rw [hg]; exact Nat.ne_of_lt (blk_lt (g := gb443) (o := .cells #[.int .i64 a0_0, .slice A0_1 l0_1.length c0_1] 43 (0, 0)) (rk BK443)) : gb443 ≠ gb444)); have n6_ := am ((by rw [hg]; exact Nat.ne_of_gt (blk_lt (g := gb443) (o := .cells #[.int .i64 a0_0, .slice A0_1 l0_1.length c0_1] 43 (0, 0)) (rk BK443)) : gb444 ≠ gb443)); clear BK443; clear HB; have BK443 := n0_; have HB := n1_; have BK444 := n2_; have GW444 := n3_; have GE444 := n4_; have NB443_444 := n5_; have NB444_443 := n6_; clear n0_ n1_ n2_ n3_ n4_ n5_ n6_; clear hb hbox hg) | ((with_reducible refine gate_dst (N := 8) rfl ?_); refine Kd.S_lit (Kd.slice 40 k40) _ 26 ?hg (N := 8) ?hd (xs := ([] : List (List (S40)))) (inner := []) (ok := fun _ => True) (okp := fun _ => True) ?hr ?hp (fun _ hk => hk) trivial (Below.refl _ _) (Nat.le_refl _) (by simp) ?_; (case hd => rfl); (case hg => rfl); (case hr => first | (go_simp; done) | (go_simp; rfl)); (case hp => exact (Reps.none _ _)); intro v446 w6 ho7 hb hg_ hnew_; clear hg_ hnew_; (first | rw [← Ny445.out] at ho7 | (simp only [Int.reduceToNat] at ho7; rw [← Ny445.out] at ho7)); have n0_ := am (Kd.S_lower ho7 (below_size (rb2 HB GE443 GE444))); have n1_ := am (blk_below (g := gb443) (o := .cells #[.int .i64 a0_0, .slice A0_1 l0_1.length c0_1] 43 (0, 0)) (rk BK443) hb); have n2_ := am (blk_below (g := gb444) (o := .cells #[.int .i64 a2_0, .int .i64 a2_1, .bool a2_2, .bool a2_3, .bool a2_4] 29 (0, 0)) (rk BK444) hb); have n3_ := am (below_step (rb2 HB GE443 GE444) hb); clear BK443; clear BK444; clear HB; have HO447 := n0_; have BK443 := n1_; have BK444 := n2_; have HB := n3_; clear n0_ n1_ n2_ n3_; clear hb ho7))
 go_loopg [7, 10] k (fun kq v7 v10 w' => ∃ (x7_1 : List (List (S40))) (x10_1 : Int), v10 = .int .i64 x10_1 ∧ Aside0 (impl_Grid_blanks.l0 kq x7_1 a1 x10_1 a0_0 l0_1 a2_0 a2_1 a2_2 a2_3 a2_4 = some r) ∧ Aside0 (kq ≤ k) ∧ Aside0 (Kd.S (Kd.slice 40 k40) 26 w' w.heap.size (fun _ => True) v7 x7_1) ∧ Aside0 (w'.heap[gb443]? = some (.cells #[.int .i64 a0_0, (.slice A0_1 l0_1.length c0_1)] 43 (0, 0))) ∧ Aside0 (w'.heap[gb444]? = some (.cells #[.int .i64 a2_0, .int .i64 a2_1, .bool a2_2, .bool a2_3, .bool a2_4] 29 (0, 0))) ∧ Aside0 (Below w.heap.size w w'))
 case atStart => exact ⟨(y445), (0), (by first | rfl | (simp; done) | (simp [*]; done)), H', ⟨Nat.le_refl _⟩, ⟨rs HO447⟩, ⟨rk BK443⟩, ⟨rk BK444⟩, ⟨rb2 HB GE443 GE444⟩⟩
 case round =>
  clear H'
  try clear p2
  try clear c7
  obtain ⟨x7_1, x10_1, rfl, HA, HK1, HO_7, BK443, BK444, HB⟩ := hrel
  cases gk with
  | zero => exact absurd HA.out (by simp [impl_Grid_blanks.l0])
  | succ k1 =>
   have H := HA.out
   clear HA
   simp only [impl_Grid_blanks.l0] at H
   by_cases c8 : x10_1 < a1
   ·rw [if_pos c8] at H
    have c8b0 : decide (x10_1 < a1) = true := decide_eq_true c8
    clear c8
    replace H := Option.bind_eq_some_iff.mp H
    obtain ⟨t448, A90, H⟩ := H
    (try dsimp only at H)
    have A9 := am A90
    clear A90
    refine em_ (p := x7_1.length < 5864062014805) (fun c10 => ?g0p) (fun c10 => ?g0n)
    case' g0p =>
     rw [if_pos c10] at H
     have LMc10 := am c10
     clear c10
     obtain ⟨y451, hy451⟩ : ∃ y_ : List (List (S40)), y_ = (x7_1 ++ [t448]) := ⟨_, rfl⟩
     replace H : (impl_Grid_blanks.l0 k1 y451 a1 (wrap64 (x10_1 + 1)) a0_0 l0_1 a2_0 a2_1 a2_2 a2_3 a2_4) = some r := by first | (rw [hy451]; with_reducible exact H) | (rw [hy451]; exact H) | exact H
     have Ny451 := am hy451
     clear hy451
     have H' := am H
     clear H
     have lf1_ := trivial
    case g0n =>
     rw [if_neg c10] at H
     exact absurd H (by simp)
    all_goals
     have hnb11 := NB443_444.out
     have hnc11 := NB444_443.out
     have hcz12_0 : wr.cell? ⟨gb443, 0, none⟩ = some (.int .i64 a0_0) := (blk_cell BK443.out 0).trans rfl
     have hcz12_1 : wr.cell? ⟨gb443, 1, none⟩ = some (.slice A0_1 l0_1.length c0_1) := (blk_cell BK443.out 1).trans rfl
     have hfz12_0 := blk_frozen BK443.out 0
     have hfz12_1 := blk_frozen BK443.out 1
     have hcz13_0 : wr.cell? ⟨gb444, 0, none⟩ = some (.int .i64 a2_0) := (blk_cell BK444.out 0).trans rfl
     have hcz13_1 : wr.cell? ⟨gb444, 1, none⟩ = some (.int .i64 a2_1) := (blk_cell BK444.out 1).trans rfl
     have hcz13_2 : wr.cell? ⟨gb444, 2, none⟩ = some (.bool a2_2) := (blk_cell BK444.out 2).trans rfl
     have hcz13_3 : wr.cell? ⟨gb444, 3, none⟩ = some (.bool a2_3) := (blk_cell BK444.out 3).trans rfl
     have hcz13_4 : wr.cell? ⟨gb444, 4, none⟩ = some (.bool a2_4) := (blk_cell BK444.out 4).trans rfl
     have hfz13_0 := blk_frozen BK444.out 0
     have hfz13_1 := blk_frozen BK444.out 1
     have hfz13_2 := blk_frozen BK444.out 2
     have hfz13_3 := blk_frozen BK444.out 3
     have hfz13_4 := blk_frozen BK444.out 4
     go_wp2_with (first | ((with_reducible refine gate_callee (f := 48) rfl ?_); refine gl_ (some 16) Try.func48 #[.int .i64 a0_0, .agg #[.int .i64 a2_0, .int .i64 a2_1, .bool a2_2, .bool a2_3, .bool a2_4]] ?_; (with_reducible refine (impl_Blank.calls k1 a0_0 a2_0 a2_1 a2_2 a2_3 a2_4 t448 _ A9.out).mono ?_); rintro e w14 ⟨v449, rfl, ho0, hb⟩; refine ⟨_, rfl, ?_⟩; have n0_ := am (Kd.S_elder' (rs HO_7) (Kd.R_base ho0) hb); have n1_ := am (Kd.R_lower ho0 (below_size (rb2 HB GE443 GE444))); have n2_ := am (blk_below (g := gb443) (o := .cells #[.int .i64 a0_0, .slice A0_1 l0_1.length c0_1] 43 (0, 0)) (rk BK443) hb); have n3_ := am (blk_below (g := gb444) (o := .cells #[.int .i64 a2_0, .int .i64 a2_1, .bool a2_2, .bool a2_3, .bool a2_4] 29 (0, 0)) (rk BK444) hb); have n4_ := am (below_step (rb2 HB GE443 GE444) hb); clear HO_7; clear BK443; clear BK444; clear HB; have HO_7 := n0_; have HO450 := n1_; have BK443 := n2_; have BK444 := n3_; have HB := n4_; clear n0_ n1_ n2_ n3_ n4_; (try clear hb); (try clear hb2); (try clear hk); (try clear hi); (try clear ho0); obtain ⟨Ao16, co16, eo16⟩ := Kd.R_slice HO450.out; subst eo16) | ((with_reducible refine gate_builtin (b := .append) (xs := #[.tmp 12, .tmp 17]) rfl ?_); at_builtin; refine Kd.S_append (Kd.slice 40 k40) (w0 := w) w.heap.size rfl (.tmp 12) (.tmp 17) 41 26 (.slice none 0 0) 24 rfl Try.underlying41 info26 rfl (by decide) (by omega) u7 x7_1 t448 [.slice Ao16 t448.length co16] (fun _ => True) (fun k_ => some k_ = (.slice Ao16 t448.length co16 : Value).ownBlock) rfl rfl ?aP (fun k_ hk_ => ((Kd.R_mono (ok' := fun k_ => ((fun _ => True)) k_ ∧ some k_ ≠ (u7 : Value).ownBlock) (Kd.R_apart' (HO450.out) (Kd.S_typed HO_7.out) (by decide)) (fun k_ hk => ⟨trivial, hk.2⟩))).1 k_ hk_.symm) ?aF ?aO ?aB ?aS ?aL ?_; (case aP => exact Kd.M_row (Kd.R_mono (Kd.R_tight rfl (Kd.R_mono (ok' := fun k_ => ((fun _ => True)) k_ ∧ some k_ ≠ (u7 : Value).ownBlock) (Kd.R_apart' (HO450.out) (Kd.S_typed HO_7.out) (by decide)) (fun k_ hk => ⟨trivial, hk.2⟩))) (fun _ h_ => h_))); (case aB => exact (rb2 HB GE443 GE444)); (case aF => exact (fun _ _ => trivial)); (case aO => exact (by (with_reducible repeat (first | apply Kd.S_alloc | apply Kd.S_drewN | apply Kd.S_drew)); exact Kd.S_mono HO_7.out (fun k_ hk => ⟨trivial, fun e_ => hk.2 e_⟩))); (case aS => exact (below_size (rb2 HB GE443 GE444))); (case aL => have := LMc10.out; omega); intro v452 w15 ho hb hg hat; rw [← Ny451.out] at ho; have n0_ := am (blk_grown (g := gb443) (o := .cells #[.int .i64 a0_0, .slice A0_1 l0_1.length c0_1] 43 (0, 0)) (rk BK443) hg (Kd.S_ne HO_7.out BK443.out (by decide))); have n1_ := am (blk_grown (g := gb444) (o := .cells #[.int .i64 a2_0, .int .i64 a2_1, .bool a2_2, .bool a2_3, .bool a2_4] 29 (0, 0)) (rk BK444) hg (Kd.S_ne HO_7.out BK444.out (by decide))); have n2_ := am (hb); have n3_ := am (ho); clear BK443; clear BK444; clear HB; clear HO_7; clear HO450; have BK443 := n0_; have BK444 := n1_; have HB := n2_; have HO453 := n3_; clear n0_ n1_ n2_ n3_; clear ho hb hg hat))
     go_roundg k1
     case measure => have := HK1.out; omega
     case rel => exact ⟨(y451), (wrap64 (x10_1 + 1)), (by first | rfl | (simp; done) | (simp [*]; done)), H', ⟨by have := HK1.out; omega⟩, ⟨rs HO453⟩, ⟨rk BK443⟩, ⟨rk BK444⟩, ⟨rb2 HB GE443 GE444⟩⟩
   ·rw [if_neg c8] at H
    have c8b0 : decide (x10_1 < a1) = false := decide_eq_false c8
    clear c8
    obtain rfl := Option.some.inj H
    go_wp2
    go_ret
    exact ⟨_, by first | rfl | (simp [errW_none, errW_some] <;> rfl) | (simp [*, errW_none, errW_some] <;> rfl), by (with_reducible repeat (first | apply Kd.S_alloc | apply Kd.S_drewN | apply Kd.S_drew)); exact HO_7.out, rb2 HB GE443 GE444⟩

end Go.Proofs.Ytfhkpneffmcdbaa.QE
