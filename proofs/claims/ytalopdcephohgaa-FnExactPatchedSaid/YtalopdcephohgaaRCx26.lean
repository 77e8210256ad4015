/- Contracts of Go functions that laws of this seat reach: each Lean function answers as its Go function does. No condition. Written by wip/tools/inj.py, over the kit's print. -/
import Derived.Test.YtalopdcephohgaaRCx0
import Derived.Test.YtalopdcephohgaaRCx25
namespace Go.Proofs.Ytalopdcephohgaa.RC
open Go.RowKit Go.Proofs.YtalopdcephohgaaW.PrintWords Go.Proofs.YtalopdcephohgaaW.PrintLast Go.Proofs.YtalopdcephohgaaW.PrintMore
attribute [local go_sem] max2_int min2_int max_two min_two max_three min_three max_four min_four   -- for this text's walks alone
set_option linter.unusedVariables false
set_option linter.unusedSimpArgs false

/-! ### impl_Grid_blanks: function 105 -/
def impl_Grid_blanks.l0 : Nat → List (List (S98)) → Int → Int → Int → List (List (S98)) → Int → Int → Bool → Bool → Bool → Option ((List (List (S98))))
 | 0, _, _, _, _, _, _, _, _, _, _ => none
 | k + 1, x7, x9, x10, x439000, x439001, x440000, x440001, x440002, x440003, x440004 => if x10 < x9 then ((impl_Blank.f k x439000 x440000 x440001 x440002 x440003 x440004).bind fun t443 => (if x7.length < 5864062014805 then (impl_Grid_blanks.l0 k (x7 ++ [t443]) x9 (wrap64 (x10 + 1)) x439000 x439001 x440000 x440001 x440002 x440003 x440004) else (none))) else (some x7)
def impl_Grid_blanks.f (k : Nat) (a0_0 : Int) (l0_1 : List (List (S98))) (a1 : Int) (a2_0 : Int) (a2_1 : Int) (a2_2 : Bool) (a2_3 : Bool) (a2_4 : Bool) : Option ((List (List (S98)))) := impl_Grid_blanks.l0 k (([] : List (List (S98)))) a1 0 a0_0 l0_1 a2_0 a2_1 a2_2 a2_3 a2_4
theorem impl_Grid_blanks.mono_l : ∀ k, (∀ y0 y1 y2 y3 y4 y5 y6 y7 y8 y9, LeO (impl_Grid_blanks.l0 k y0 y1 y2 y3 y4 y5 y6 y7 y8 y9) (impl_Grid_blanks.l0 (k + 1) y0 y1 y2 y3 y4 y5 y6 y7 y8 y9))
 | 0 => fun _ _ _ _ _ _ _ _ _ _ r h => by simp [impl_Grid_blanks.l0] at h
 | k + 1 => by
  have ih0 := impl_Grid_blanks.mono_l k
  ·intro y0 y1 y2 y3 y4 y5 y6 y7 y8 y9
   unfold impl_Grid_blanks.l0
   repeat' first
   | (with_reducible exact ih0 _ _ _ _ _ _ _ _ _ _)
   | (with_reducible exact impl_Blank.mono _ _ _ _ _ _ _)
   | (with_reducible exact LeO.refl _)
   | (with_reducible exact LeO.none _)
   | (with_reducible refine LeO.ite ?_ ?_)
   | (with_reducible refine LeO.bind ?_ (fun _ => ?_))
theorem impl_Grid_blanks.mono : ∀ a0 a1 a2 a3 a4 a5 a6 a7 k, LeO (impl_Grid_blanks.f k a0 a1 a2 a3 a4 a5 a6 a7) (impl_Grid_blanks.f (k + 1) a0 a1 a2 a3 a4 a5 a6 a7) := by
 intro a0 a1 a2 a3 a4 a5 a6 a7 k
 have ih0 := impl_Grid_blanks.mono_l k
 unfold impl_Grid_blanks.f
 repeat' first
   | (with_reducible exact ih0 _ _ _ _ _ _ _ _ _ _)
   | (with_reducible exact impl_Blank.mono _ _ _ _ _ _ _)
   | (with_reducible exact LeO.refl _)
   | (with_reducible exact LeO.none _)
   | (with_reducible refine LeO.ite ?_ ?_)
   | (with_reducible refine LeO.bind ?_ (fun _ => ?_))
set_option maxHeartbeats 8000000 in
set_option maxRecDepth 100000 in
theorem impl_Grid_blanks.calls (k : Nat) (a0_0 : Int) (A0_1 : Option Addr) (c0_1 : Nat) (l0_1 : List (List (S98))) (a1 : Int) (a2_0 : Int) (a2_1 : Int) (a2_2 : Bool) (a2_3 : Bool) (a2_4 : Bool) (r : List (List (S98))) (w : World) (hr0_1 : Kd.C (Kd.slice 98 k98) w A0_1 l0_1.length l0_1) (hc0_1 : l0_1.length ≤ c0_1) (h : impl_Grid_blanks.f k a0_0 l0_1 a1 a2_0 a2_1 a2_2 a2_3 a2_4 = some r) :
  Calls Try.prog 105 #[.agg #[.int .i64 a0_0, .slice A0_1 l0_1.length c0_1], .int .i64 a1, .agg #[.int .i64 a2_0, .int .i64 a2_1, .bool a2_2, .bool a2_3, .bool a2_4]] w fun e w' => ∃ v0_ : Value, e = .returned (v0_) ∧ Kd.S (Kd.slice 98 k98) 99 w' w.heap.size (fun _ => True) v0_ r ∧ Below w.heap.size w w' := by
 (
have hu58 := Try.underlying58
have hu96 := Try.underlying96
have HR0_1 := am hr0_1
have HC0_1 := am hc0_1
clear hr0_1 hc0_1
have HB := am (Below.refl w.heap.size w)
have H : (impl_Grid_blanks.l0 k (([] : List (List (S98)))) a1 0 a0_0 l0_1 a2_0 a2_1 a2_2 a2_3 a2_4) = some r := h
clear h
obtain ⟨y440, hy440⟩ : ∃ y_ : List (List (S98)), y_ = (([] : List (List (S98)))) := ⟨_, rfl⟩
replace H : (impl_Grid_blanks.l0 k y440 a1 0 a0_0 l0_1 a2_0 a2_1 a2_2 a2_3 a2_4) = some r := by first | (rw [hy440]; with_reducible exact H) | (rw [hy440]; exact H) | exact H
have Ny440 := am hy440
clear hy440
have H' := am H
clear H
go_enter Try.func105, Try.ntmps105
go_wp2_with (first | ((with_reducible refine gate_dst (N := 3) rfl ?_); refine box_event ?hg (N := 3) ?hd (cs := #[.int .i64 a0_0, .slice A0_1 l0_1.length c0_1]) (t := 58) ?hr ?_; (case hd => rfl); (case hg => rfl); (case hr => first | (go_simp; done) | (go_simp; rfl)); intro gb438 hg w4 hbox hb; have BK438 := am (hbox); have GW438 := am (gw hg (rb HB)); have GE438 := GW438; replace HB := am (below_step (rb HB) hb); clear hb hbox hg) | ((with_reducible refine gate_dst (N := 5) rfl ?_); refine box_event ?hg (N := 5) ?hd (cs := #[.int .i64 a2_0, .int .i64 a2_1, .bool a2_2, .bool a2_3, .bool a2_4]) (t := 96) ?hr ?_; (case hd => rfl); (case hg => rfl); (case hr => first | (go_simp; done) | (go_simp; rfl)); intro gb439 hg w5 hbox hb; have BK439 := am (hbox); have GW439 := am (gw hg (rb1 HB GE438)); have GE439 := GW439; replace HB := am (below_step (rb1 HB GE438) hb); have NB438_439 := am (nl hg (rk BK438)); have NB439_438 := am (ng hg (rk BK438)); replace BK438 := am (blk_below (rk BK438) hb); clear hb hbox hg) | ((with_reducible refine gate_dst (N := 8) rfl ?_); refine Kd.S_lit (Kd.slice 98 k98) _ 99 ?hg (N := 8) ?hd (xs := ([] : List (List (S98)))) (inner := []) (ok := fun _ => True) (okp := fun _ => True) ?hr ?hp (fun _ hk => hk) trivial (Below.refl _ _) (Nat.le_refl _) (by simp) ?_; (case hd => rfl); (case hg => rfl); (case hr => first | (go_simp; done) | (go_simp; rfl)); (case hp => exact (Reps.none _ _)); intro v441 w6 ho7 hb hg_ hnew_; clear hg_ hnew_; (first | rw [← Ny440.out] at ho7 | (simp only [Int.reduceToNat] at ho7; rw [← Ny440.out] at ho7)); have HO442 := am (Kd.S_lower ho7 (below_size (rb2 HB GE438 GE439))); replace BK438 := am (blk_below (rk BK438) hb); replace BK439 := am (blk_below (rk BK439) hb); replace HB := am (below_step (rb2 HB GE438 GE439) hb); clear hb ho7))
go_loopg [7, 10] k (fun kq v7 v10 w' => ∃ (x7_1 : List (List (S98))) (x10_1 : Int), v10 = .int .i64 x10_1 ∧ Aside0 (impl_Grid_blanks.l0 kq x7_1 a1 x10_1 a0_0 l0_1 a2_0 a2_1 a2_2 a2_3 a2_4 = some r) ∧ Aside0 (kq ≤ k) ∧ Aside0 (Kd.S (Kd.slice 98 k98) 99 w' w.heap.size (fun _ => True) v7 x7_1) ∧ Aside0 (w'.heap[gb438]? = some (.cells #[.int .i64 a0_0, (.slice A0_1 l0_1.length c0_1)] 58 (0, 0))) ∧ Aside0 (w'.heap[gb439]? = some (.cells #[.int .i64 a2_0, .int .i64 a2_1, .bool a2_2, .bool a2_3, .bool a2_4] 96 (0, 0))) ∧ Aside0 (Below w.heap.size w w'))
case atStart => exact ⟨(y440), (0), (by first | rfl | (simp; done) | (simp [*]; done)), H', ⟨Nat.le_refl _⟩, ⟨rs HO442⟩, ⟨rk BK438⟩, ⟨rk BK439⟩, ⟨rb2 HB GE438 GE439⟩⟩
case round => (
clear H'
try clear c1
try clear p2
obtain ⟨x7_1, x10_1, rfl, HA, HK1, HO_7, BK438, BK439, HB⟩ := hrel
cases gk with
| zero => exact absurd HA.out (by simp [impl_Grid_blanks.l0])
| succ k1 => (
have H := HA.out
clear HA
simp only [impl_Grid_blanks.l0] at H
by_cases c8 : x10_1 < a1
·(
rw [if_pos c8] at H
have c8b0 : decide (x10_1 < a1) = true := decide_eq_true c8
clear c8
replace H := Option.bind_eq_some_iff.mp H
obtain ⟨t443, A90, H⟩ := H
(try dsimp only at H)
have A9 := am A90
clear A90
refine em_ (p := x7_1.length < 5864062014805) (fun c10 => ?g0p) (fun c10 => ?g0n)
case' g0p => (
rw [if_pos c10] at H
have LMc10 := am c10
clear c10
obtain ⟨y446, hy446⟩ : ∃ y_ : List (List (S98)), y_ = (x7_1 ++ [t443]) := ⟨_, rfl⟩
replace H : (impl_Grid_blanks.l0 k1 y446 a1 (wrap64 (x10_1 + 1)) a0_0 l0_1 a2_0 a2_1 a2_2 a2_3 a2_4) = some r := by first | (rw [hy446]; with_reducible exact H) | (rw [hy446]; exact H) | exact H
have Ny446 := am hy446
clear hy446
have H' := am H
clear H
have lf1_ := trivial
)
case g0n => (
rw [if_neg c10] at H
exact absurd H (by simp)
)
all_goals (
have hnb11 := NB438_439.out
have hnc11 := NB439_438.out
have hcz12_0 : wr.cell? ⟨gb438, 0, none⟩ = some (.int .i64 a0_0) := (blk_cell BK438.out 0).trans rfl
have hcz12_1 : wr.cell? ⟨gb438, 1, none⟩ = some (.slice A0_1 l0_1.length c0_1) := (blk_cell BK438.out 1).trans rfl
have hfz12_0 := blk_frozen BK438.out 0
have hfz12_1 := blk_frozen BK438.out 1
have hcz13_0 : wr.cell? ⟨gb439, 0, none⟩ = some (.int .i64 a2_0) := (blk_cell BK439.out 0).trans rfl
have hcz13_1 : wr.cell? ⟨gb439, 1, none⟩ = some (.int .i64 a2_1) := (blk_cell BK439.out 1).trans rfl
have hcz13_2 : wr.cell? ⟨gb439, 2, none⟩ = some (.bool a2_2) := (blk_cell BK439.out 2).trans rfl
have hcz13_3 : wr.cell? ⟨gb439, 3, none⟩ = some (.bool a2_3) := (blk_cell BK439.out 3).trans rfl
have hcz13_4 : wr.cell? ⟨gb439, 4, none⟩ = some (.bool a2_4) := (blk_cell BK439.out 4).trans rfl
have hfz13_0 := blk_frozen BK439.out 0
have hfz13_1 := blk_frozen BK439.out 1
have hfz13_2 := blk_frozen BK439.out 2
have hfz13_3 := blk_frozen BK439.out 3
have hfz13_4 := blk_frozen BK439.out 4
go_wp2_with (first | ((with_reducible refine gate_callee (f := 123) rfl ?_); refine gl_ (some 16) Try.func123 #[.int .i64 a0_0, .agg #[.int .i64 a2_0, .int .i64 a2_1, .bool a2_2, .bool a2_3, .bool a2_4]] ?_; (with_reducible refine (impl_Blank.calls k1 a0_0 a2_0 a2_1 a2_2 a2_3 a2_4 t443 _ A9.out).mono ?_); rintro e w14 ⟨v444, rfl, ho0, hb⟩; refine ⟨_, rfl, ?_⟩; replace HO_7 := am (Kd.S_elder' (rs HO_7) (Kd.R_base ho0) hb); have HO445 := am (Kd.R_lower ho0 (below_size (rb2 HB GE438 GE439))); replace BK438 := am (blk_below (rk BK438) hb); replace BK439 := am (blk_below (rk BK439) hb); replace HB := am (below_step (rb2 HB GE438 GE439) hb); (try clear hb); (try clear hb2); (try clear hk); (try clear hi); (try clear ho0); obtain ⟨Ao16, co16, eo16⟩ := Kd.R_slice HO445.out; subst eo16) | ((with_reducible refine gate_builtin (b := .append) (xs := #[.tmp 12, .tmp 17]) rfl ?_); at_builtin; refine Kd.S_append (Kd.slice 98 k98) (w0 := w) w.heap.size rfl (.tmp 12) (.tmp 17) 56 99 (.slice none 0 0) 24 rfl Try.underlying56 info99 rfl (by decide) (by omega) u7 x7_1 t443 [.slice Ao16 t443.length co16] (fun _ => True) (fun k_ => some k_ = (.slice Ao16 t443.length co16 : Value).ownBlock) rfl rfl ?aP (fun k_ hk_ => ((Kd.R_mono (ok' := fun k_ => ((fun _ => True)) k_ ∧ some k_ ≠ (u7 : Value).ownBlock) (Kd.R_apart' (HO445.out) (Kd.S_typed HO_7.out) (by decide)) (fun k_ hk => ⟨trivial, hk.2⟩))).1 k_ hk_.symm) ?aF ?aO ?aB ?aS ?aL ?_; (case aP => exact Kd.M_row (Kd.R_mono (Kd.R_tight rfl (Kd.R_mono (ok' := fun k_ => ((fun _ => True)) k_ ∧ some k_ ≠ (u7 : Value).ownBlock) (Kd.R_apart' (HO445.out) (Kd.S_typed HO_7.out) (by decide)) (fun k_ hk => ⟨trivial, hk.2⟩))) (fun _ h_ => h_))); (case aB => exact (rb2 HB GE438 GE439)); (case aF => exact (fun _ _ => trivial)); (case aO => exact (by (with_reducible repeat (first | apply Kd.S_alloc | apply Kd.S_drewN | apply Kd.S_drew)); exact Kd.S_mono HO_7.out (fun k_ hk => ⟨trivial, fun e_ => hk.2 e_⟩))); (case aS => exact (below_size (rb2 HB GE438 GE439))); (case aL => have := LMc10.out; omega); intro v447 w15 ho hb hg hat; rw [← Ny446.out] at ho; replace BK438 := am (blk_grown (rk BK438) hg (Kd.S_ne HO_7.out BK438.out (by decide))); replace BK439 := am (blk_grown (rk BK439) hg (Kd.S_ne HO_7.out BK439.out (by decide))); replace HB := am (hb); have HO448 := am (ho); clear HO_7 HO445; clear ho hb hg hat))
go_roundg k1
case measure => have := HK1.out; omega
case rel => exact ⟨(y446), (wrap64 (x10_1 + 1)), (by first | rfl | (simp; done) | (simp [*]; done)), H', ⟨by have := HK1.out; omega⟩, ⟨rs HO448⟩, ⟨rk BK438⟩, ⟨rk BK439⟩, ⟨rb2 HB GE438 GE439⟩⟩
)
)
·(
rw [if_neg c8] at H
have c8b0 : decide (x10_1 < a1) = false := decide_eq_false c8
clear c8
obtain rfl := Option.some.inj H
go_wp2
go_ret
exact ⟨_, by first | rfl | (simp [errW_none, errW_some] <;> rfl) | (simp [*, errW_none, errW_some] <;> rfl), by (with_reducible repeat (first | apply Kd.S_alloc | apply Kd.S_drewN | apply Kd.S_drew)); exact HO_7.out, rb2 HB GE438 GE439⟩
)
)
)
)

end Go.Proofs.Ytalopdcephohgaa.RC
