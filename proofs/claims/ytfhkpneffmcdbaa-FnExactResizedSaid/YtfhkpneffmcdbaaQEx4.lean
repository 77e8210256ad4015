/- Contracts of Go functions that laws of this seat reach: each Lean function answers as its Go function does. No condition. Written by wip/tools/inj.py, over the kit's print. -/
import Derived.Test.YtfhkpneffmcdbaaQEx0
import Derived.Test.YtfhkpneffmcdbaaQEx3
namespace Go.Proofs.Ytfhkpneffmcdbaa.QE
open Go.RowKit Go.Proofs.YtfhkpneffmcdbaaW.PrintWords Go.Proofs.YtfhkpneffmcdbaaW.PrintLast Go.Proofs.YtfhkpneffmcdbaaW.PrintMore
attribute [local go_sem] max2_int min2_int max_two min_two max_three min_three max_four min_four   -- for this text's walks alone
set_option linter.unusedVariables false
set_option linter.unusedSimpArgs false

/-! ### impl_Blank: function 48 -/
def impl_Blank.j0 : Nat → Int → Bool → Int → Int → Bool → Bool → Bool → Option ((List (S40)))
 | 0, _, _, _, _, _, _, _ => none
 | k + 1, x0, x12, x140000, x140001, x140002, x140003, x140004 => if x12 = true then (some ([] : List (S40))) else ((impl_blank.f x140000 x140001 x140002 x140003 x140004).bind fun bt142 => ((impl_Cell_66.f (([(⟨bt142.1, (⟨bt142.2.1, bt142.2.2.1, bt142.2.2.2.1, bt142.2.2.2.2.1, bt142.2.2.2.2.2.1⟩ : S29), bt142.2.2.2.2.2.2⟩ : S40)] : List (S40))) x0).bind fun t152 => (some t152)))
def impl_Blank.f (k : Nat) (a0 : Int) (a1_0 : Int) (a1_1 : Int) (a1_2 : Bool) (a1_3 : Bool) (a1_4 : Bool) : Option ((List (S40))) := (impl_in.f a0 1 60).bind fun t140 => (if t140 = true then ((impl_StyleOk.f a1_0 a1_1 a1_2 a1_3 a1_4).bind fun t141 => (impl_Blank.j0 k a0 (!t141) a1_0 a1_1 a1_2 a1_3 a1_4)) else (impl_Blank.j0 k a0 true a1_0 a1_1 a1_2 a1_3 a1_4))
theorem impl_Blank.mono_l : ∀ k, (∀ y0 y1 y2 y3 y4 y5 y6, LeO (impl_Blank.j0 k y0 y1 y2 y3 y4 y5 y6) (impl_Blank.j0 (k + 1) y0 y1 y2 y3 y4 y5 y6))
 | 0 => fun _ _ _ _ _ _ _ r h => by simp [impl_Blank.j0] at h
 | k + 1 => by
  have ih0 := impl_Blank.mono_l k
  ·intro y0 y1 y2 y3 y4 y5 y6
   unfold impl_Blank.j0
   repeat' first
   | (with_reducible exact ih0 _ _ _ _ _ _ _)
   | (with_reducible exact LeO.refl _)
   | (with_reducible exact LeO.none _)
   | (with_reducible refine LeO.ite ?_ ?_)
   | (with_reducible refine LeO.bind ?_ (fun _ => ?_))
theorem impl_Blank.mono : ∀ a0 a1 a2 a3 a4 a5 k, LeO (impl_Blank.f k a0 a1 a2 a3 a4 a5) (impl_Blank.f (k + 1) a0 a1 a2 a3 a4 a5) := by
 intro a0 a1 a2 a3 a4 a5 k
 have ih0 := impl_Blank.mono_l k
 unfold impl_Blank.f
 repeat' first
   | (with_reducible exact ih0 _ _ _ _ _ _ _)
   | (with_reducible exact LeO.refl _)
   | (with_reducible exact LeO.none _)
   | (with_reducible refine LeO.ite ?_ ?_)
   | (with_reducible refine LeO.bind ?_ (fun _ => ?_))
set_option maxHeartbeats 8000000 in
set_option maxRecDepth 100000 in
theorem impl_Blank.calls (k : Nat) (a0 : Int) (a1_0 : Int) (a1_1 : Int) (a1_2 : Bool) (a1_3 : Bool) (a1_4 : Bool) (r : List (S40)) (w : World) (h : impl_Blank.f k a0 a1_0 a1_1 a1_2 a1_3 a1_4 = some r) :
  Calls Try.prog 48 #[.int .i64 a0, .agg #[.int .i64 a1_0, .int .i64 a1_1, .bool a1_2, .bool a1_3, .bool a1_4]] w fun e w' => ∃ v0_ : Value, e = .returned (v0_) ∧ Kd.R k40 40 w' w.heap.size (fun _ => True) v0_ r ∧ Below w.heap.size w w' := by
 have hu29 := Try.underlying29
 have HB := am (Below.refl w.heap.size w)
 have H := h
 unfold impl_Blank.f at H
 clear h
 have HC3 := am H
 clear H
 go_enter Try.func48, Try.ntmps48
 go_upto_region 1 with (first | ((with_reducible refine gate_dst (N := 3) rfl ?_); refine box_event ?hg (N := 3) ?hd (cs := #[.int .i64 a1_0, .int .i64 a1_1, .bool a1_2, .bool a1_3, .bool a1_4]) (t := 29) ?hr ?_; (case hd => rfl); (case hg => rfl); (case hr => first | (go_simp; done) | (go_simp; rfl)); intro gb139 hg w4 hbox hb; have n0_ := am (below_step (rb HB) hb); have n1_ := am (hbox); have n2_ := am ((by rw [hg]; exact (below_size (rb HB)) : w.heap.size ≤ gb139)); have n3_ := am ((by rw [hg]; exact (below_size (rb HB)) : w.heap.size ≤ gb139)); clear HB; have HB := n0_; have BK139 := n1_; have GW139 := n2_; have GE139 := n3_; clear n0_ n1_ n2_ n3_; clear hb hbox hg))
 (try simp only [Act.put, List.setIfInBounds_toArray, List.set_cons_zero, List.set_cons_succ])
 go_cut [12] (fun v12 wc => ∃ (kq : Nat) (x12_2 : Bool), v12 = .bool x12_2 ∧ Aside0 (impl_Blank.j0 kq a0 x12_2 a1_0 a1_1 a1_2 a1_3 a1_4 = some r) ∧ Aside0 (kq ≤ k) ∧ Aside0 (wc.heap[gb139]? = some (.cells #[.int .i64 a1_0, .int .i64 a1_1, .bool a1_2, .bool a1_3, .bool a1_4] 29 (0, 0))) ∧ Aside0 (Below w.heap.size w wc))
 case first =>
  have H := HC3.out
  clear HC3
  replace H := Option.bind_eq_some_iff.mp H
  obtain ⟨t140, A50, H⟩ := H
  (try dsimp only at H)
  have A5 := am A50
  clear A50
  by_cases c6 : t140 = true
  ·subst c6
   rw [if_pos rfl] at H
   replace H := Option.bind_eq_some_iff.mp H
   obtain ⟨t141, A70, H⟩ := H
   (try dsimp only at H)
   have A7 := am A70
   clear A70
   have H' := am H
   clear H
   go_wp2_with (first | ((with_reducible refine gate_callee (f := 46) rfl ?_); refine gl_ (some 6) Try.func46 #[.int .i64 a0, .int .i64 1, .int .i64 60] ?_; (with_reducible refine (impl_in.calls a0 1 60 true _ A5.out).mono ?_); rintro e w' ⟨rfl, ⟨nd, rfl⟩⟩; refine ⟨_, rfl, ?_⟩; have hcz8_0 : w4.cell? ⟨gb139, 0, none⟩ = some (.int .i64 a1_0) := (blk_cell BK139.out 0).trans rfl; have hcz8_1 : w4.cell? ⟨gb139, 1, none⟩ = some (.int .i64 a1_1) := (blk_cell BK139.out 1).trans rfl; have hcz8_2 : w4.cell? ⟨gb139, 2, none⟩ = some (.bool a1_2) := (blk_cell BK139.out 2).trans rfl; have hcz8_3 : w4.cell? ⟨gb139, 3, none⟩ = some (.bool a1_3) := (blk_cell BK139.out 3).trans rfl; have hcz8_4 : w4.cell? ⟨gb139, 4, none⟩ = some (.bool a1_4) := (blk_cell BK139.out 4).trans rfl; have hfz8_0 := blk_frozen BK139.out 0; have hfz8_1 := blk_frozen BK139.out 1; have hfz8_2 := blk_frozen BK139.out 2; have hfz8_3 := blk_frozen BK139.out 3; have hfz8_4 := blk_frozen BK139.out 4) | (go_at_call 62; (with_reducible refine (impl_StyleOk.calls a1_0 a1_1 a1_2 a1_3 a1_4 t141 _ A7.out).mono ?_); rintro e w9 ⟨rfl, hb⟩; have n0_ := am (blk_below (g := gb139) (o := .cells #[.int .i64 a1_0, .int .i64 a1_1, .bool a1_2, .bool a1_3, .bool a1_4] 29 (0, 0)) (rk BK139) hb); have n1_ := am (below_step (rb1 HB GE139) hb); clear BK139; clear HB; have BK139 := n0_; have HB := n1_; clear n0_ n1_; (try clear hb); (try clear hb2); (try clear hk); (try clear hi)))
   go_meet
   case rel => exact ⟨_, (!t141), (by first | rfl | (simp; done) | (simp [*]; done)), H', ⟨by first | omega | exact Nat.le_refl _⟩, ⟨rk BK139⟩, ⟨by repeat (first | (with_reducible first | exact HB.out | apply b1 | apply b2 | apply b3 | refine below_set ?_ GE139.out) | exact HB.out)⟩⟩
  ·replace c6 := Bool.eq_false_iff.mpr c6
   subst c6
   rw [if_neg (show ¬ (false = true) by decide)] at H
   have H' := am H
   clear H
   go_wp2_with (first | ((with_reducible refine gate_callee (f := 46) rfl ?_); refine gl_ (some 6) Try.func46 #[.int .i64 a0, .int .i64 1, .int .i64 60] ?_; (with_reducible refine (impl_in.calls a0 1 60 false _ A5.out).mono ?_); rintro e w' ⟨rfl, ⟨nd, rfl⟩⟩; refine ⟨_, rfl, ?_⟩))
   go_meet
   case rel => exact ⟨_, (true), (by first | rfl | (simp; done) | (simp [*]; done)), H', ⟨by first | omega | exact Nat.le_refl _⟩, ⟨rk BK139⟩, ⟨by repeat (first | (with_reducible first | exact HB.out | apply b1 | apply b2 | apply b3 | refine below_set ?_ GE139.out) | exact HB.out)⟩⟩
 case rest =>
  clear HC3
  try clear p2
  try clear c4
  try clear c6
  try clear hcz8_0
  try clear hcz8_1
  try clear hcz8_2
  try clear hcz8_3
  try clear hcz8_4
  try clear hfz8_0
  try clear hfz8_1
  try clear hfz8_2
  try clear hfz8_3
  try clear hfz8_4
  obtain ⟨kq, x12_2, rfl, HA, HJ2, BK139, HB⟩ := hcut
  cases kq with
  | zero => exact absurd HA.out (by simp [impl_Blank.j0])
  | succ kj2 =>
   have H := HA.out
   clear HA
   simp only [impl_Blank.j0] at H
   by_cases c10 : x12_2 = true
   ·subst c10
    have H1 : (some ([] : List (S40))) = some r := by rw [if_pos rfl] at H; exact H
    clear H
    have H := H1
    clear H1
    obtain rfl := Option.some.inj H
    go_wp2
    go_ret
    exact ⟨_, by first | rfl | (simp [errW_none, errW_some] <;> rfl) | (simp [*, errW_none, errW_some] <;> rfl), by first | exact Kd.R_nil _ _ _ _ _ | exact Kd.N_nil _ _ _ _ _ | exact Kd.V_nil _ _ _ _ _ | exact Kd.Q_nil _ _ _ _ _ | exact Kd.S_nil _ _ _ _ _, by repeat (first | (with_reducible first | exact HB.out | apply b1 | apply b2 | apply b3 | refine below_set ?_ GE139.out) | exact HB.out)⟩
   ·replace c10 := Bool.eq_false_iff.mpr c10
    subst c10
    rw [if_neg (show ¬ (false = true) by decide)] at H
    replace H := Option.bind_eq_some_iff.mp H
    obtain ⟨⟨t142, t143, t144, t145, t146, t147, t148⟩, A110, H⟩ := H
    (try dsimp only at H)
    have A11 := am A110
    clear A110
    obtain ⟨y149, hy149⟩ : ∃ y_ : List (S40), y_ = (([(⟨t142, (⟨t143, t144, t145, t146, t147⟩ : S29), t148⟩ : S40)] : List (S40))) := ⟨_, rfl⟩
    replace H : ((impl_Cell_66.f y149 a0).bind fun t152 => (some t152)) = some r := by first | (rw [hy149]; with_reducible exact H) | (rw [hy149]; exact H) | exact H
    have Ny149 := am hy149
    clear hy149
    replace H := Option.bind_eq_some_iff.mp H
    obtain ⟨t152, A120, H⟩ := H
    replace H : (some t152) = some r := H
    have A12 := am A120
    clear A120
    obtain rfl := Option.some.inj H
    have hcz13_0 : wc.cell? ⟨gb139, 0, none⟩ = some (.int .i64 a1_0) := (blk_cell BK139.out 0).trans rfl
    have hcz13_1 : wc.cell? ⟨gb139, 1, none⟩ = some (.int .i64 a1_1) := (blk_cell BK139.out 1).trans rfl
    have hcz13_2 : wc.cell? ⟨gb139, 2, none⟩ = some (.bool a1_2) := (blk_cell BK139.out 2).trans rfl
    have hcz13_3 : wc.cell? ⟨gb139, 3, none⟩ = some (.bool a1_3) := (blk_cell BK139.out 3).trans rfl
    have hcz13_4 : wc.cell? ⟨gb139, 4, none⟩ = some (.bool a1_4) := (blk_cell BK139.out 4).trans rfl
    have hfz13_0 := blk_frozen BK139.out 0
    have hfz13_1 := blk_frozen BK139.out 1
    have hfz13_2 := blk_frozen BK139.out 2
    have hfz13_3 := blk_frozen BK139.out 3
    have hfz13_4 := blk_frozen BK139.out 4
    go_wp2_with (first | ((with_reducible refine gate_callee (f := 67) rfl ?_); refine gl_ (some 14) Try.func67 #[.agg #[.int .i64 a1_0, .int .i64 a1_1, .bool a1_2, .bool a1_3, .bool a1_4]] ?_; (with_reducible refine (impl_blank.calls a1_0 a1_1 a1_2 a1_3 a1_4 t142 t143 t144 t145 t146 t147 t148 _ A11.out).mono ?_); rintro e w14 ⟨rfl, hb⟩; refine ⟨_, rfl, ?_⟩; have n0_ := am (blk_below (g := gb139) (o := .cells #[.int .i64 a1_0, .int .i64 a1_1, .bool a1_2, .bool a1_3, .bool a1_4] 29 (0, 0)) (rk BK139) hb); have n1_ := am (below_step (rb1 HB GE139) hb); clear BK139; clear HB; have BK139 := n0_; have HB := n1_; clear n0_ n1_; (try clear hb); (try clear hb2); (try clear hk); (try clear hi)) | ((with_reducible refine gate_dst (N := 15) rfl ?_); refine Kd.R_lit k40 _ 40 ?hg (N := 15) ?hd (xs := ([(⟨t142, (⟨t143, t144, t145, t146, t147⟩ : S29), t148⟩ : S40)] : List (S40))) (inner := [.int .i64 t142, .int .i64 t143, .int .i64 t144, .bool t145, .bool t146, .bool t147, .int .i64 t148]) (ok := fun _ => True) (okp := fun _ => True) ?hr ?hp (fun _ hk => hk) trivial (Below.refl _ _) (Nat.le_refl _) (by simp) ?_; (case hd => rfl); (case hg => rfl); (case hr => first | (go_simp; done) | (go_simp; rfl)); (case hp => exact (Reps.c7 (show Kd.M k40 _ _ _ (⟨t142, (⟨t143, t144, t145, t146, t147⟩ : S29), t148⟩ : S40) [.int .i64 t142, .int .i64 t143, .int .i64 t144, .bool t145, .bool t146, .bool t147, .int .i64 t148] from (k40_mkM _ _ _ (⟨t142, (⟨t143, t144, t145, t146, t147⟩ : S29), t148⟩ : S40) )) (Reps.none _ _))); intro v150 w15 ho16 hb hg_ hnew_; clear hg_ hnew_; (first | rw [← Ny149.out] at ho16 | (simp only [Int.reduceToNat] at ho16; rw [← Ny149.out] at ho16)); have n0_ := am (Kd.R_lower ho16 (below_size (rb1 HB GE139))); have n1_ := am (blk_below (g := gb139) (o := .cells #[.int .i64 a1_0, .int .i64 a1_1, .bool a1_2, .bool a1_3, .bool a1_4] 29 (0, 0)) (rk BK139) hb); have n2_ := am (below_step (rb1 HB GE139) hb); clear BK139; clear HB; have HO151 := n0_; have BK139 := n1_; have HB := n2_; clear n0_ n1_ n2_; clear hb ho16; obtain ⟨Ao17, co17, eo17⟩ := Kd.R_slice HO151.out; subst eo17) | ((with_reducible refine gate_callee (f := 66) rfl ?_); refine gl_ (some 17) Try.func66 #[.slice Ao17 y149.length co17, .int .i64 a0] ?_; (with_reducible refine (impl_Cell_66.calls _ _ y149 a0 t152 _ ?side1 ?side2 A12.out).mono ?_); (case side1 => repeat (first | exact (Kd.R_reads' HO151.out).2.2 | (with_reducible refine Kd.C_alloc ?_ _) | (with_reducible refine Kd.C_drewN ?_ _) | (with_reducible refine Kd.C_drew ?_))); (case side2 => exact (Kd.R_reads' HO151.out).2.1); rintro e w18 ⟨v153, rfl, ho0, hb⟩; refine ⟨_, rfl, ?_⟩; have n0_ := am (Kd.R_elder' (rr HO151) (Kd.R_base ho0) hb); have n1_ := am (Kd.R_lower (Kd.R_new' ho0 (Kd.R_lt (rr HO151))) (below_size (rb1 HB GE139))); have n2_ := am (blk_below (g := gb139) (o := .cells #[.int .i64 a1_0, .int .i64 a1_1, .bool a1_2, .bool a1_3, .bool a1_4] 29 (0, 0)) (rk BK139) hb); have n3_ := am (below_step (rb1 HB GE139) hb); clear HO151; clear BK139; clear HB; have HO151 := n0_; have HO154 := n1_; have BK139 := n2_; have HB := n3_; clear n0_ n1_ n2_ n3_; (try clear hb); (try clear hb2); (try clear hk); (try clear hi); (try clear ho0)))
    go_ret
    exact ⟨_, by first | rfl | (simp [errW_none, errW_some] <;> rfl) | (simp [*, errW_none, errW_some] <;> rfl), by (with_reducible repeat (first | apply r1 | apply r2 | apply r3)); exact Kd.R_mono HO154.out (fun _ hk => trivial), by repeat (first | (with_reducible first | exact HB.out | apply b1 | apply b2 | apply b3 | refine below_set ?_ GE139.out) | exact HB.out)⟩

end Go.Proofs.Ytfhkpneffmcdbaa.QE
