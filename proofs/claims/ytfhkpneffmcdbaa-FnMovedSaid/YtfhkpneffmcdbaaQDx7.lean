/- Contracts of Go functions that laws of this seat reach: each Lean function answers as its Go function does. No condition. Written by wip/tools/inj.py, over the kit's print. -/
import Derived.Test.YtfhkpneffmcdbaaQDx0
import Derived.Test.YtfhkpneffmcdbaaQDx3
import Derived.Test.YtfhkpneffmcdbaaQDx4
import Derived.Test.YtfhkpneffmcdbaaQDx5
import Derived.Test.YtfhkpneffmcdbaaQDx6
namespace Go.Proofs.Ytfhkpneffmcdbaa.QD
open Go.RowKit Go.Proofs.YtfhkpneffmcdbaaW.PrintWords Go.Proofs.YtfhkpneffmcdbaaW.PrintLast Go.Proofs.YtfhkpneffmcdbaaW.PrintMore
attribute [local go_sem] max2_int min2_int max_two min_two max_three min_three max_four min_four   -- for this text's walks alone
set_option linter.unusedVariables false
set_option linter.unusedSimpArgs false

/-! ### spec_l4Row: function 61 -/
def spec_l4Row.l0 : Nat → Int → List (S40) → Int → Int → Int → Bool → Bool → Bool → Option ((List (S40)))
 | 0, _, _, _, _, _, _, _, _ => none
 | k + 1, x0, x5, x6, x189000, x189001, x189002, x189003, x189004 => if x6 < x0 then ((spec_l4Blank.f x189000 x189001 x189002 x189003 x189004).bind fun bt192 => (if x5.length < 3518437208883 then (spec_l4Row.l0 k x0 (x5 ++ [(⟨bt192.1, (⟨bt192.2.1, bt192.2.2.1, bt192.2.2.2.1, bt192.2.2.2.2.1, bt192.2.2.2.2.2.1⟩ : S29), bt192.2.2.2.2.2.2⟩ : S40)]) (wrap64 (x6 + 1)) x189000 x189001 x189002 x189003 x189004) else (none))) else (some x5)
def spec_l4Row.f (k : Nat) (a0 : Int) (a1_0 : Int) (a1_1 : Int) (a1_2 : Bool) (a1_3 : Bool) (a1_4 : Bool) : Option ((List (S40))) := spec_l4Row.l0 k a0 (([] : List (S40))) 0 a1_0 a1_1 a1_2 a1_3 a1_4
theorem spec_l4Row.mono_l : ∀ k, (∀ y0 y1 y2 y3 y4 y5 y6 y7, LeO (spec_l4Row.l0 k y0 y1 y2 y3 y4 y5 y6 y7) (spec_l4Row.l0 (k + 1) y0 y1 y2 y3 y4 y5 y6 y7))
 | 0 => fun _ _ _ _ _ _ _ _ r h => by simp [spec_l4Row.l0] at h
 | k + 1 => by
  have ih0 := spec_l4Row.mono_l k
  ·intro y0 y1 y2 y3 y4 y5 y6 y7
   unfold spec_l4Row.l0
   repeat' first
   | (with_reducible exact ih0 _ _ _ _ _ _ _ _)
   | (with_reducible exact LeO.refl _)
   | (with_reducible exact LeO.none _)
   | (with_reducible refine LeO.ite ?_ ?_)
   | (with_reducible refine LeO.bind ?_ (fun _ => ?_))
theorem spec_l4Row.mono : ∀ a0 a1 a2 a3 a4 a5 k, LeO (spec_l4Row.f k a0 a1 a2 a3 a4 a5) (spec_l4Row.f (k + 1) a0 a1 a2 a3 a4 a5) := by
 intro a0 a1 a2 a3 a4 a5 k
 have ih0 := spec_l4Row.mono_l k
 unfold spec_l4Row.f
 repeat' first
   | (with_reducible exact ih0 _ _ _ _ _ _ _ _)
   | (with_reducible exact LeO.refl _)
   | (with_reducible exact LeO.none _)
   | (with_reducible refine LeO.ite ?_ ?_)
   | (with_reducible refine LeO.bind ?_ (fun _ => ?_))
set_option maxHeartbeats 8000000 in
set_option maxRecDepth 100000 in
theorem spec_l4Row.calls (k : Nat) (a0 : Int) (a1_0 : Int) (a1_1 : Int) (a1_2 : Bool) (a1_3 : Bool) (a1_4 : Bool) (r : List (S40)) (w : World) (h : spec_l4Row.f k a0 a1_0 a1_1 a1_2 a1_3 a1_4 = some r) :
  Calls Try.prog 61 #[.int .i64 a0, .agg #[.int .i64 a1_0, .int .i64 a1_1, .bool a1_2, .bool a1_3, .bool a1_4]] w fun e w' => ∃ v0_ : Value, e = .returned (v0_) ∧ Kd.R k40 40 w' w.heap.size (fun _ => True) v0_ r ∧ Below w.heap.size w w' := by
 have hu29 := Try.underlying29
 have HB := am (Below.refl w.heap.size w)
 have H : (spec_l4Row.l0 k a0 (([] : List (S40))) 0 a1_0 a1_1 a1_2 a1_3 a1_4) = some r := h
 clear h
 obtain ⟨y189, hy189⟩ : ∃ y_ : List (S40), y_ = (([] : List (S40))) := ⟨_, rfl⟩
 replace H : (spec_l4Row.l0 k a0 y189 0 a1_0 a1_1 a1_2 a1_3 a1_4) = some r := by first | (rw [hy189]; with_reducible exact H) | (rw [hy189]; exact H) | exact H
 have Ny189 := am hy189
 clear hy189
 have H' := am H
 clear H
 go_enter Try.func61, Try.ntmps61
 go_wp2_with (first | ((with_reducible refine gate_dst (N := 3) rfl ?_); refine box_event ?hg (N := 3) ?hd (cs := #[.int .i64 a1_0, .int .i64 a1_1, .bool a1_2, .bool a1_3, .bool a1_4]) (t := 29) ?hr ?_; (case hd => rfl); (case hg => rfl); (case hr => first | (go_simp; done) | (go_simp; rfl)); intro gb188 hg w3 hbox hb; have n0_ := am (below_step (rb HB) hb); have n1_ := am (hbox); have n2_ := am ((by rw [hg]; exact (below_size (rb HB)) : w.heap.size ≤ gb188)); have n3_ := am ((by rw [hg]; exact (below_size (rb HB)) : w.heap.size ≤ gb188)); clear HB; have HB := n0_; have BK188 := n1_; have GW188 := n2_; have GE188 := n3_; clear n0_ n1_ n2_ n3_; clear hb hbox hg) | ((with_reducible refine gate_dst (N := 7) rfl ?_); refine Kd.R_lit k40 _ 40 ?hg (N := 7) ?hd (xs := ([] : List (S40))) (inner := []) (ok := fun _ => True) (okp := fun _ => True) ?hr ?hp (fun _ hk => hk) trivial (Below.refl _ _) (Nat.le_refl _) (by simp) ?_; (case hd => rfl); (case hg => rfl); (case hr => first | (go_simp; done) | (go_simp; rfl)); (case hp => exact (Reps.none _ _)); intro v190 w4 ho5 hb hg_ hnew_; clear hg_ hnew_; (first | rw [← Ny189.out] at ho5 | (simp only [Int.reduceToNat] at ho5; rw [← Ny189.out] at ho5)); have n0_ := am (Kd.R_lower ho5 (below_size (rb1 HB GE188))); have n1_ := am (blk_below (g := gb188) (o := .cells #[.int .i64 a1_0, .int .i64 a1_1, .bool a1_2, .bool a1_3, .bool a1_4] 29 (0, 0)) (rk BK188) hb); have n2_ := am (below_step (rb1 HB GE188) hb); clear BK188; clear HB; have HO191 := n0_; have BK188 := n1_; have HB := n2_; clear n0_ n1_ n2_; clear hb ho5))
 go_loopg [5, 6] k (fun kq v5 v6 w' => ∃ (x5_1 : List (S40)) (x6_1 : Int), v6 = .int .i64 x6_1 ∧ Aside0 (spec_l4Row.l0 kq a0 x5_1 x6_1 a1_0 a1_1 a1_2 a1_3 a1_4 = some r) ∧ Aside0 (kq ≤ k) ∧ Aside0 (Kd.R k40 40 w' w.heap.size (fun _ => True) v5 x5_1) ∧ Aside0 (w'.heap[gb188]? = some (.cells #[.int .i64 a1_0, .int .i64 a1_1, .bool a1_2, .bool a1_3, .bool a1_4] 29 (0, 0))) ∧ Aside0 (Below w.heap.size w w'))
 case atStart => exact ⟨(y189), (0), (by first | rfl | (simp; done) | (simp [*]; done)), H', ⟨Nat.le_refl _⟩, ⟨rr HO191⟩, ⟨rk BK188⟩, ⟨by repeat (first | (with_reducible first | exact HB.out | apply b1 | apply b2 | apply b3 | refine below_set ?_ GE188.out) | exact HB.out)⟩⟩
 case round =>
  clear H'
  try clear p2
  obtain ⟨x5_1, x6_1, rfl, HA, HK1, HO_5, BK188, HB⟩ := hrel
  cases gk with
  | zero => exact absurd HA.out (by simp [spec_l4Row.l0])
  | succ k1 =>
   have H := HA.out
   clear HA
   simp only [spec_l4Row.l0] at H
   by_cases c6 : x6_1 < a0
   ·rw [if_pos c6] at H
    have c6b0 : decide (x6_1 < a0) = true := decide_eq_true c6
    clear c6
    replace H := Option.bind_eq_some_iff.mp H
    obtain ⟨⟨t192, t193, t194, t195, t196, t197, t198⟩, A70, H⟩ := H
    (try dsimp only at H)
    have A7 := am A70
    clear A70
    refine em_ (p := x5_1.length < 3518437208883) (fun c8 => ?g0p) (fun c8 => ?g0n)
    case' g0p =>
     rw [if_pos c8] at H
     have LMc8 := am c8
     clear c8
     obtain ⟨y199, hy199⟩ : ∃ y_ : List (S40), y_ = (x5_1 ++ [(⟨t192, (⟨t193, t194, t195, t196, t197⟩ : S29), t198⟩ : S40)]) := ⟨_, rfl⟩
     replace H : (spec_l4Row.l0 k1 a0 y199 (wrap64 (x6_1 + 1)) a1_0 a1_1 a1_2 a1_3 a1_4) = some r := by first | (rw [hy199]; with_reducible exact H) | (rw [hy199]; exact H) | exact H
     have Ny199 := am hy199
     clear hy199
     have H' := am H
     clear H
     have lf1_ := trivial
    case g0n =>
     rw [if_neg c8] at H
     exact absurd H (by simp)
    all_goals
     have hcz9_0 : wr.cell? ⟨gb188, 0, none⟩ = some (.int .i64 a1_0) := (blk_cell BK188.out 0).trans rfl
     have hcz9_1 : wr.cell? ⟨gb188, 1, none⟩ = some (.int .i64 a1_1) := (blk_cell BK188.out 1).trans rfl
     have hcz9_2 : wr.cell? ⟨gb188, 2, none⟩ = some (.bool a1_2) := (blk_cell BK188.out 2).trans rfl
     have hcz9_3 : wr.cell? ⟨gb188, 3, none⟩ = some (.bool a1_3) := (blk_cell BK188.out 3).trans rfl
     have hcz9_4 : wr.cell? ⟨gb188, 4, none⟩ = some (.bool a1_4) := (blk_cell BK188.out 4).trans rfl
     have hfz9_0 := blk_frozen BK188.out 0
     have hfz9_1 := blk_frozen BK188.out 1
     have hfz9_2 := blk_frozen BK188.out 2
     have hfz9_3 := blk_frozen BK188.out 3
     have hfz9_4 := blk_frozen BK188.out 4
     go_wp2_with (first | ((with_reducible refine gate_callee (f := 81) rfl ?_); refine gl_ (some 15) Try.func81 #[.agg #[.int .i64 a1_0, .int .i64 a1_1, .bool a1_2, .bool a1_3, .bool a1_4]] ?_; (with_reducible refine (spec_l4Blank.calls a1_0 a1_1 a1_2 a1_3 a1_4 t192 t193 t194 t195 t196 t197 t198 _ A7.out).mono ?_); rintro e w10 ⟨rfl, hb⟩; refine ⟨_, rfl, ?_⟩; have n0_ := am (Kd.R_below (rr HO_5) hb); have n1_ := am (blk_below (g := gb188) (o := .cells #[.int .i64 a1_0, .int .i64 a1_1, .bool a1_2, .bool a1_3, .bool a1_4] 29 (0, 0)) (rk BK188) hb); have n2_ := am (below_step (rb1 HB GE188) hb); clear HO_5; clear BK188; clear HB; have HO_5 := n0_; have BK188 := n1_; have HB := n2_; clear n0_ n1_ n2_; (try clear hb); (try clear hb2); (try clear hk); (try clear hi)) | ((with_reducible refine gate_builtin (b := .append) (xs := #[.tmp 13, .tmp 16]) rfl ?_); at_builtin; refine Kd.R_append k40 (w0 := w) w.heap.size rfl (.tmp 13) (.tmp 16) 26 40 (.agg #[(.int .i64 0), (.int .i64 0), (.int .i64 0), (.bool false), (.bool false), (.bool false), (.int .i64 0)]) 40 rfl Try.underlying26 info40 rfl (by decide) (by omega) u5 x5_1 (⟨t192, (⟨t193, t194, t195, t196, t197⟩ : S29), t198⟩ : S40) [.int .i64 t192, .int .i64 t193, .int .i64 t194, .bool t195, .bool t196, .bool t197, .int .i64 t198] (fun _ => True) (fun _ => False) rfl rfl ?aP (fun _ hk => hk.elim) ?aF ?aO ?aB ?aS ?aL ?_; (case aP => exact k40_mkM _ _ _ (⟨t192, (⟨t193, t194, t195, t196, t197⟩ : S29), t198⟩ : S40)); (case aB => exact (rb1 HB GE188)); (case aF => exact (fun _ _ => trivial)); (case aO => exact (rr HO_5)); (case aS => exact (below_size (rb1 HB GE188))); (case aL => have := LMc8.out; omega); intro v200 w11 ho hb hg hat; rw [← Ny199.out] at ho; have n0_ := am (blk_grown (g := gb188) (o := .cells #[.int .i64 a1_0, .int .i64 a1_1, .bool a1_2, .bool a1_3, .bool a1_4] 29 (0, 0)) (rk BK188) hg (Kd.R_ne HO_5.out BK188.out (by decide))); have n1_ := am (hb); have n2_ := am (ho); clear BK188; clear HB; clear HO_5; have BK188 := n0_; have HB := n1_; have HO201 := n2_; clear n0_ n1_ n2_; clear ho hb hg hat))
     go_roundg k1
     case measure => have := HK1.out; omega
     case rel => exact ⟨(y199), (wrap64 (x6_1 + 1)), (by first | rfl | (simp; done) | (simp [*]; done)), H', ⟨by have := HK1.out; omega⟩, ⟨rr HO201⟩, ⟨rk BK188⟩, ⟨by repeat (first | (with_reducible first | exact HB.out | apply b1 | apply b2 | apply b3 | refine below_set ?_ GE188.out) | exact HB.out)⟩⟩
   ·rw [if_neg c6] at H
    have c6b0 : decide (x6_1 < a0) = false := decide_eq_false c6
    clear c6
    obtain rfl := Option.some.inj H
    go_wp2
    go_ret
    exact ⟨_, by first | rfl | (simp [errW_none, errW_some] <;> rfl) | (simp [*, errW_none, errW_some] <;> rfl), by (with_reducible repeat (first | apply r1 | apply r2 | apply r3)); exact HO_5.out, by repeat (first | (with_reducible first | exact HB.out | apply b1 | apply b2 | apply b3 | refine below_set ?_ GE188.out) | exact HB.out)⟩

/-! ### spec_l4Pulled: function 34 -/
def spec_l4Pulled.f (k : Nat) (l0 : List (S40)) (a1 : Int) (a2 : Int) (a3_0 : Int) (a3_1 : Int) (a3_2 : Bool) (a3_3 : Bool) (a3_4 : Bool) : Option ((List (S40))) := (spec_l1Min.f a2 (wrap64 ((l0.length : Int) - a1))).bind fun t203 => (if t203 = 0 then ((some (([] : List (S40)) : List (S40))).bind fun y204 => (if y204.length + l0.length < 3518437208883 then (some (y204 ++ l0)) else (none))) else (if 0 ≤ a1 then (if a1 ≤ (l0.length : Int) then ((spec_l4Mended.f k (l0.take (a1 : Int).toNat)).bind fun t214 => (if 0 ≤ (wrap64 (a1 + t203)) then (if (wrap64 (a1 + t203)) ≤ (l0.length : Int) then ((spec_l4Mended.f k (l0.drop ((wrap64 (a1 + t203)) : Int).toNat)).bind fun t221 => (if t214.length + t221.length < 3518437208883 then ((some (t214 ++ t221 : List (S40))).bind fun y224 => ((spec_l4Row.f k t203 a3_0 a3_1 a3_2 a3_3 a3_4).bind fun t227 => (if y224.length + t227.length < 3518437208883 then (some (y224 ++ t227)) else (none)))) else (none))) else (none)) else (none))) else (none)) else (none)))
theorem spec_l4Pulled.mono : ∀ a0 a1 a2 a3 a4 a5 a6 a7 k, LeO (spec_l4Pulled.f k a0 a1 a2 a3 a4 a5 a6 a7) (spec_l4Pulled.f (k + 1) a0 a1 a2 a3 a4 a5 a6 a7) := by
 intro a0 a1 a2 a3 a4 a5 a6 a7 k
 unfold spec_l4Pulled.f
 repeat' first
   | (with_reducible exact spec_l4Mended.mono _ _)
   | (with_reducible exact spec_l4Row.mono _ _ _ _ _ _ _)
   | (with_reducible exact LeO.refl _)
   | (with_reducible exact LeO.none _)
   | (with_reducible refine LeO.ite ?_ ?_)
   | (with_reducible refine LeO.bind ?_ (fun _ => ?_))
set_option maxHeartbeats 8000000 in
set_option maxRecDepth 100000 in
theorem spec_l4Pulled.calls (k : Nat) (A0 : Option Addr) (c0 : Nat) (l0 : List (S40)) (a1 : Int) (a2 : Int) (a3_0 : Int) (a3_1 : Int) (a3_2 : Bool) (a3_3 : Bool) (a3_4 : Bool) (r : List (S40)) (w : World) (hr0 : Kd.C k40 w A0 l0.length l0) (hc0 : l0.length ≤ c0) (h : spec_l4Pulled.f k l0 a1 a2 a3_0 a3_1 a3_2 a3_3 a3_4 = some r) :
  Calls Try.prog 34 #[.slice A0 l0.length c0, .int .i64 a1, .int .i64 a2, .agg #[.int .i64 a3_0, .int .i64 a3_1, .bool a3_2, .bool a3_3, .bool a3_4]] w fun e w' => ∃ v0_ : Value, e = .returned (v0_) ∧ Kd.R k40 40 w' w.heap.size (fun _ => True) v0_ r ∧ Below w.heap.size w w' := by
 have hu29 := Try.underlying29
 have HR0 := am hr0
 have HC0 := am hc0
 clear hr0 hc0
 have HB := am (Below.refl w.heap.size w)
 have H := h
 unfold spec_l4Pulled.f at H
 clear h
 replace H := Option.bind_eq_some_iff.mp H
 obtain ⟨t203, A50, H⟩ := H
 (try dsimp only at H)
 have A5 := am A50
 clear A50
 refine em_ (p := t203 = 0) (fun c6 => ?g8p) (fun c6 => ?g8n)
 case' g8p =>
  rw [if_pos c6] at H
  have c6b0 : (t203 == 0) = true := beq_iff_eq.mpr c6
  have c6b1 : (t203 != 0) = false := bne_eq_false_iff_eq.mpr c6
  clear c6
  obtain ⟨y204, hy204⟩ : ∃ y_ : List (S40), y_ = (([] : List (S40))) := ⟨_, rfl⟩
  replace H : (if y204.length + l0.length < 3518437208883 then (some (y204 ++ l0)) else (none)) = some r := by first | (rw [hy204]; with_reducible exact H) | (rw [hy204]; exact H) | exact H
  have Ny204 := am hy204
  clear hy204
  refine em_ (p := y204.length + l0.length < 3518437208883) (fun c7 => ?g1p) (fun c7 => ?g1n)
  case' g1p =>
   rw [if_pos c7] at H
   have LMc7 := am c7
   clear c7
   obtain ⟨y207, hy207⟩ : ∃ y_ : List (S40), y_ = (y204 ++ l0) := ⟨_, rfl⟩
   replace H : (some y207) = some r := by first | (rw [hy207]; with_reducible exact H) | (rw [hy207]; exact H) | exact H
   have Ny207 := am hy207
   clear hy207
   obtain rfl := Option.some.inj H
   have lf3_ := trivial
  case g1n =>
   rw [if_neg c7] at H
   exact absurd H (by simp)
 case' g8n =>
  rw [if_neg c6] at H
  have c6b0 : (t203 == 0) = false := beq_eq_false_iff_ne.mpr c6
  have c6b1 : (t203 != 0) = true := bne_iff_ne.mpr c6
  refine em_ (p := 0 ≤ a1) (fun c12 => ?g7p) (fun c12 => ?g7n)
  case' g7p =>
   rw [if_pos c12] at H
   have c12b0 := eq_true c12
   have c12b1 : decide (0 ≤ a1) = true := decide_eq_true c12
   clear c12
   refine em_ (p := a1 ≤ (l0.length : Int)) (fun c13 => ?g6p) (fun c13 => ?g6n)
   case' g6p =>
    rw [if_pos c13] at H
    have c13b0 := eq_true c13
    have c13b1 : decide (a1 ≤ (l0.length : Int)) = true := decide_eq_true c13
    clear c13
    obtain ⟨y210, hy210⟩ : ∃ y_ : List (S40), y_ = (l0.take (a1 : Int).toNat) := ⟨_, rfl⟩
    replace H : ((spec_l4Mended.f k y210).bind fun t214 => (if 0 ≤ (wrap64 (a1 + t203)) then (if (wrap64 (a1 + t203)) ≤ (l0.length : Int) then ((spec_l4Mended.f k (l0.drop ((wrap64 (a1 + t203)) : Int).toNat)).bind fun t221 => (if t214.length + t221.length < 3518437208883 then ((some (t214 ++ t221 : List (S40))).bind fun y224 => ((spec_l4Row.f k t203 a3_0 a3_1 a3_2 a3_3 a3_4).bind fun t227 => (if y224.length + t227.length < 3518437208883 then (some (y224 ++ t227)) else (none)))) else (none))) else (none)) else (none))) = some r := by first | (rw [hy210]; with_reducible exact H) | (rw [hy210]; exact H) | exact H
    have Ny210 := am hy210
    clear hy210
    replace H := Option.bind_eq_some_iff.mp H
    obtain ⟨t214, A140, H⟩ := H
    (try dsimp only at H)
    have A14 := am A140
    clear A140
    obtain ⟨ji15, hji15⟩ : ∃ j_ : Int, (wrap64 (a1 + t203)) = j_ := ⟨_, rfl⟩
    replace H : (if 0 ≤ (ji15) then (if (ji15) ≤ (l0.length : Int) then ((spec_l4Mended.f k (l0.drop ((ji15) : Int).toNat)).bind fun t221 => (if t214.length + t221.length < 3518437208883 then ((some (t214 ++ t221 : List (S40))).bind fun y224 => ((spec_l4Row.f k t203 a3_0 a3_1 a3_2 a3_3 a3_4).bind fun t227 => (if y224.length + t227.length < 3518437208883 then (some (y224 ++ t227)) else (none)))) else (none))) else (none)) else (none)) = some r := by first | (rw [hji15] at H; exact H) | (simp only [hji15] at H ⊢; exact H)
    (try rw [hji15] at A5)
    (try rw [hji15] at A14)
    have hji15w : (IntKind.i64.wrap (a1 + t203)) = ji15 := (i64_w _).trans hji15
    refine em_ (p := 0 ≤ (ji15)) (fun c16 => ?g5p) (fun c16 => ?g5n)
    case' g5p =>
     rw [if_pos c16] at H
     have c16b0 := eq_true c16
     have c16b1 : decide (0 ≤ (ji15)) = true := decide_eq_true c16
     clear c16
     refine em_ (p := (ji15) ≤ (l0.length : Int)) (fun c17 => ?g4p) (fun c17 => ?g4n)
     case' g4p =>
      rw [if_pos c17] at H
      have c17b0 := eq_true c17
      have c17b1 : decide ((ji15) ≤ (l0.length : Int)) = true := decide_eq_true c17
      clear c17
      obtain ⟨y217, hy217⟩ : ∃ y_ : List (S40), y_ = (l0.drop ((ji15) : Int).toNat) := ⟨_, rfl⟩
      replace H : ((spec_l4Mended.f k y217).bind fun t221 => (if t214.length + t221.length < 3518437208883 then ((some (t214 ++ t221 : List (S40))).bind fun y224 => ((spec_l4Row.f k t203 a3_0 a3_1 a3_2 a3_3 a3_4).bind fun t227 => (if y224.length + t227.length < 3518437208883 then (some (y224 ++ t227)) else (none)))) else (none))) = some r := by first | (rw [hy217]; with_reducible exact H) | (rw [hy217]; exact H) | exact H
      have Ny217 := am hy217
      clear hy217
      replace H := Option.bind_eq_some_iff.mp H
      obtain ⟨t221, A180, H⟩ := H
      (try dsimp only at H)
      have A18 := am A180
      clear A180
      refine em_ (p := t214.length + t221.length < 3518437208883) (fun c19 => ?g3p) (fun c19 => ?g3n)
      case' g3p =>
       rw [if_pos c19] at H
       have LMc19 := am c19
       clear c19
       obtain ⟨y224, hy224⟩ : ∃ y_ : List (S40), y_ = (t214 ++ t221) := ⟨_, rfl⟩
       replace H : ((spec_l4Row.f k t203 a3_0 a3_1 a3_2 a3_3 a3_4).bind fun t227 => (if y224.length + t227.length < 3518437208883 then (some (y224 ++ t227)) else (none))) = some r := by first | (rw [hy224]; with_reducible exact H) | (rw [hy224]; exact H) | exact H
       have Ny224 := am hy224
       clear hy224
       replace H := Option.bind_eq_some_iff.mp H
       obtain ⟨t227, A200, H⟩ := H
       (try dsimp only at H)
       have A20 := am A200
       clear A200
       refine em_ (p := y224.length + t227.length < 3518437208883) (fun c21 => ?g2p) (fun c21 => ?g2n)
       case' g2p =>
        rw [if_pos c21] at H
        have LMc21 := am c21
        clear c21
        obtain ⟨y230, hy230⟩ : ∃ y_ : List (S40), y_ = (y224 ++ t227) := ⟨_, rfl⟩
        replace H : (some y230) = some r := by first | (rw [hy230]; with_reducible exact H) | (rw [hy230]; exact H) | exact H
        have Ny230 := am hy230
        clear hy230
        obtain rfl := Option.some.inj H
        have lf4_ := trivial
       case g2n =>
        rw [if_neg c21] at H
        exact absurd H (by simp)
      case g3n =>
       rw [if_neg c19] at H
       exact absurd H (by simp)
     case g4n =>
      rw [if_neg c17] at H
      exact absurd H (by simp)
    case g5n =>
     rw [if_neg c16] at H
     exact absurd H (by simp)
   case g6n =>
    rw [if_neg c13] at H
    exact absurd H (by simp)
  case g7n =>
   rw [if_neg c12] at H
   exact absurd H (by simp)
 all_goals
  go_enter Try.func34, Try.ntmps34
  go_wp2_with (first | ((with_reducible refine gate_builtin (b := .append) (xs := #[.tmp 25, .tmp 31]) rfl ?_); at_builtin; refine Kd.R_append_rows k40 (w0 := w) w.heap.size rfl (.tmp 25) (.tmp 31) 26 40 (.agg #[(.int .i64 0), (.int .i64 0), (.int .i64 0), (.bool false), (.bool false), (.bool false), (.int .i64 0)]) 40 rfl Try.underlying26 info40 rfl (by decide) (by omega) v215 t214 t221 _ _ _ (fun k_ => some k_ ≠ (.slice Ao28 t221.length co28 : Value).ownBlock) (fun _ => False) rfl rfl ?aO ?aR (fun _ _ h => h) (fun _ h => h.elim) ?aF ?aB ?aS ?aL ?_; (case aR => repeat (first | exact (Kd.R_reads' HO223.out).2.2 | (with_reducible refine Kd.C_alloc ?_ _) | (with_reducible refine Kd.C_drewN ?_ _) | (with_reducible refine Kd.C_drew ?_))); (case aB => exact (rb1 HB GE202)); (case aF => exact (fun k_ hk => Kd.fresh' (Kd.R_lt (rr HO223)) k_ hk)); (case aO => exact (by (with_reducible repeat (first | apply r1 | apply r2 | apply r3)); exact Kd.R_mono HO216.out (fun _ hk => hk.2))); (case aS => exact (below_size (rb1 HB GE202))); (case aL => have := LMc19.out; omega); intro v225 w27 ho hb hg hat; rw [← Ny224.out] at ho; have n0_ := am (blk_grown (g := gb202) (o := .cells #[.int .i64 a3_0, .int .i64 a3_1, .bool a3_2, .bool a3_3, .bool a3_4] 29 (0, 0)) (rk BK202) hg (Kd.R_ne HO216.out BK202.out (by decide))); have n1_ := am (Kd.R_after (ok := (fun _ => True)) (rr HO223) hg hat); have n2_ := am (hb); have n3_ := am (ho); clear BK202; clear HO223; clear HB; clear HO216; have BK202 := n0_; have HO223 := n1_; have HB := n2_; have HO226 := n3_; clear n0_ n1_ n2_ n3_; clear ho hb hg hat; have hcz29_0 : w27.cell? ⟨gb202, 0, none⟩ = some (.int .i64 a3_0) := (blk_cell BK202.out 0).trans rfl; have hcz29_1 : w27.cell? ⟨gb202, 1, none⟩ = some (.int .i64 a3_1) := (blk_cell BK202.out 1).trans rfl; have hcz29_2 : w27.cell? ⟨gb202, 2, none⟩ = some (.bool a3_2) := (blk_cell BK202.out 2).trans rfl; have hcz29_3 : w27.cell? ⟨gb202, 3, none⟩ = some (.bool a3_3) := (blk_cell BK202.out 3).trans rfl; have hcz29_4 : w27.cell? ⟨gb202, 4, none⟩ = some (.bool a3_4) := (blk_cell BK202.out 4).trans rfl; have hfz29_0 := blk_frozen BK202.out 0; have hfz29_1 := blk_frozen BK202.out 1; have hfz29_2 := blk_frozen BK202.out 2; have hfz29_3 := blk_frozen BK202.out 3; have hfz29_4 := blk_frozen BK202.out 4) | ((with_reducible refine gate_callee (f := 60) rfl ?_); refine gl_ (some 24) Try.func60 #[.slice A0 y210.length c0] ?_; (with_reducible refine (spec_l4Mended.calls k _ _ y210 t214 _ ?side1 ?side2 A14.out).mono ?_); (case side1 => exact rc ((Kd.C_below HR213.out (rb1 HB GE202)))); (case side2 => exact HC213.out); rintro e w24 ⟨v215, rfl, ho0, hb⟩; refine ⟨_, rfl, ?_⟩; have n0_ := am (Kd.R_lower ho0 (below_size (rb1 HB GE202))); have n1_ := am (blk_below (g := gb202) (o := .cells #[.int .i64 a3_0, .int .i64 a3_1, .bool a3_2, .bool a3_3, .bool a3_4] 29 (0, 0)) (rk BK202) hb); have n2_ := am (below_step (rb1 HB GE202) hb); clear BK202; clear HB; have HO216 := n0_; have BK202 := n1_; have HB := n2_; clear n0_ n1_ n2_; (try clear hb); (try clear hb2); (try clear hk); (try clear hi); (try clear ho0); have q25 : ((ji15) : Int) ≤ ((l0.length : Int) : Int) := dt_; obtain ⟨i025, hi025, _, hsz25, _⟩ := info_parts info40; have hroom25 : l0.length ≤ c0 := HC0.out; have hC25 : Kd.C k40 _ A0 l0.length l0 := HR0.out; have q025 : (0 : Int) ≤ ((ji15) : Int) := dt_; have hcut25 := cut_from (P := Try.prog) 26 40 .i64 Try.underlying26 hi025 7 hsz25 A0 l0.length c0 (ji15) q025 q25; have hr25 := Kd.C_drop (m := ((ji15) : Int).toNat) (c := c0) hC25 (by omega) hroom25; obtain ⟨A25, hA25⟩ : ∃ A1, A1 = (if c0 = ((ji15) : Int).toNat then A0 else (A0 : Option Addr).map (·.add (((ji15) : Int).toNat * 7))) := ⟨_, rfl⟩; obtain ⟨c25, hc25⟩ : ∃ c1, c1 = c0 - ((ji15) : Int).toNat := ⟨_, rfl⟩; have hy25 : y217.length = l0.length - ((ji15) : Int).toNat := (by rw [Ny217.out, List.length_drop] <;> omega); rw [show (l0).drop ((ji15) : Int).toNat = y217 from Ny217.out.symm] at hr25; replace hr25 : Kd.C k40 _ A25 y217.length y217 := (by rw [hA25]; exact hr25); rw [← hy25, ← hA25, ← hc25] at hcut25; have HR220 := am hr25; have HC220 := am (show y217.length ≤ c25 from by rw [hy25, hc25]; exact Nat.sub_le_sub_right hroom25 _); clear hr25 hC25 hroom25 hi025 hsz25 hc25; have KY25 := am hy25; have KA25 := am hA25; clear hy25 hA25; replace q25 := eq_true q25) | ((with_reducible refine gate_builtin (b := .append) (xs := #[.tmp 33, .tmp 36]) rfl ?_); at_builtin; refine Kd.R_append_rows k40 (w0 := w) w.heap.size rfl (.tmp 33) (.tmp 36) 26 40 (.agg #[(.int .i64 0), (.int .i64 0), (.int .i64 0), (.bool false), (.bool false), (.bool false), (.int .i64 0)]) 40 rfl Try.underlying26 info40 rfl (by decide) (by omega) v225 y224 t227 _ _ _ (fun k_ => some k_ ≠ (.slice Ao28 t221.length co28 : Value).ownBlock ∧ some k_ ≠ (.slice Ao32 t227.length co32 : Value).ownBlock) (fun _ => False) rfl rfl ?aO ?aR (fun _ _ h => h) (fun _ h => h.elim) ?aF ?aB ?aS ?aL ?_; (case aR => repeat (first | exact (Kd.R_reads' HO229.out).2.2 | (with_reducible refine Kd.C_alloc ?_ _) | (with_reducible refine Kd.C_drewN ?_ _) | (with_reducible refine Kd.C_drew ?_))); (case aB => exact (rb1 HB GE202)); (case aF => exact (fun k_ hk => ⟨Kd.fresh' (Kd.R_lt (rr HO223)) k_ hk, Kd.fresh' (Kd.R_lt (rr HO229)) k_ hk⟩)); (case aO => exact (rr HO226)); (case aS => exact (below_size (rb1 HB GE202))); (case aL => have := LMc21.out; omega); intro v231 w31 ho hb hg hat; rw [← Ny230.out] at ho; have n0_ := am (blk_grown (g := gb202) (o := .cells #[.int .i64 a3_0, .int .i64 a3_1, .bool a3_2, .bool a3_3, .bool a3_4] 29 (0, 0)) (rk BK202) hg (Kd.R_ne HO226.out BK202.out (by decide))); have n1_ := am (Kd.R_after (ok := (fun k_ => some k_ ≠ (.slice Ao32 t227.length co32 : Value).ownBlock)) (by (with_reducible repeat (first | apply r1 | apply r2 | apply r3)); exact Kd.R_mono HO223.out (fun _ hk => ⟨hk.2, hk.1.2⟩)) hg hat); have n2_ := am (Kd.R_after (ok := (fun k_ => some k_ ≠ (.slice Ao28 t221.length co28 : Value).ownBlock)) (by (with_reducible repeat (first | apply r1 | apply r2 | apply r3)); exact Kd.R_mono HO229.out (fun _ hk => ⟨hk.1.2, hk.2⟩)) hg hat); have n3_ := am (hb); have n4_ := am (ho); clear BK202; clear HO223; clear HO229; clear HB; clear HO226; have BK202 := n0_; have HO223 := n1_; have HO229 := n2_; have HB := n3_; have HO232 := n4_; clear n0_ n1_ n2_ n3_ n4_; clear ho hb hg hat) | ((with_reducible refine gate_builtin (b := .append) (xs := #[.tmp 18, .tmp 19]) rfl ?_); at_builtin; refine Kd.R_append_rows k40 (w0 := w) w.heap.size rfl (.tmp 18) (.tmp 19) 26 40 (.agg #[(.int .i64 0), (.int .i64 0), (.int .i64 0), (.bool false), (.bool false), (.bool false), (.int .i64 0)]) 40 rfl Try.underlying26 info40 rfl (by decide) (by omega) v205 y204 l0 _ _ _ (fun _ => True) (fun _ => False) rfl rfl ?aO ?aR (fun _ _ h => h) (fun _ h => h.elim) ?aF ?aB ?aS ?aL ?_; (case aR => repeat (first | exact (Kd.C_below HR0.out HB.out) | (with_reducible refine Kd.C_alloc ?_ _) | (with_reducible refine Kd.C_drewN ?_ _) | (with_reducible refine Kd.C_drew ?_))); (case aB => exact (rb1 HB GE202)); (case aF => exact (fun _ _ => trivial)); (case aO => exact (rr HO206)); (case aS => exact (below_size (rb1 HB GE202))); (case aL => have := LMc7.out; omega); intro v208 w11 ho hb hg hat; rw [← Ny207.out] at ho; have n0_ := am (blk_grown (g := gb202) (o := .cells #[.int .i64 a3_0, .int .i64 a3_1, .bool a3_2, .bool a3_3, .bool a3_4] 29 (0, 0)) (rk BK202) hg (Kd.R_ne HO206.out BK202.out (by decide))); have n1_ := am (hb); have n2_ := am (ho); clear BK202; clear HB; clear HO206; have BK202 := n0_; have HB := n1_; have HO209 := n2_; clear n0_ n1_ n2_; clear ho hb hg hat) | ((with_reducible refine gate_callee (f := 61) rfl ?_); refine gl_ (some 36) Try.func61 #[.int .i64 t203, .agg #[.int .i64 a3_0, .int .i64 a3_1, .bool a3_2, .bool a3_3, .bool a3_4]] ?_; (with_reducible refine (spec_l4Row.calls k t203 a3_0 a3_1 a3_2 a3_3 a3_4 t227 _ A20.out).mono ?_); rintro e w30 ⟨v228, rfl, ho0, hb⟩; refine ⟨_, rfl, ?_⟩; have n0_ := am (Kd.R_elder' (rr HO223) (Kd.R_base ho0) hb); have n1_ := am (Kd.R_elder' (rr HO226) (Kd.R_base ho0) hb); have n2_ := am (Kd.R_lower (Kd.R_new' (Kd.R_new' ho0 (Kd.R_lt (rr HO223))) (Kd.R_lt (rr HO226))) (below_size (rb1 HB GE202))); have n3_ := am (blk_below (g := gb202) (o := .cells #[.int .i64 a3_0, .int .i64 a3_1, .bool a3_2, .bool a3_3, .bool a3_4] 29 (0, 0)) (rk BK202) hb); have n4_ := am (below_step (rb1 HB GE202) hb); clear HO223; clear HO226; clear BK202; clear HB; have HO223 := n0_; have HO226 := n1_; have HO229 := n2_; have BK202 := n3_; have HB := n4_; clear n0_ n1_ n2_ n3_ n4_; (try clear hb); (try clear hb2); (try clear hk); (try clear hi); (try clear ho0); obtain ⟨Ao32, co32, eo32⟩ := Kd.R_slice HO229.out; subst eo32) | ((with_reducible refine gate_callee (f := 59) rfl ?_); refine gl_ (some 15) Try.func59 #[.int .i64 a2, .int .i64 (wrap64 ((l0.length : Int) - a1))] ?_; (with_reducible refine (spec_l1Min.calls a2 (wrap64 ((l0.length : Int) - a1)) t203 _ A5.out).mono ?_); rintro e w' ⟨rfl, ⟨nd, rfl⟩⟩; refine ⟨_, rfl, ?_⟩; have q23 : (a1 : Int) ≤ ((l0.length : Int) : Int) := dt_; obtain ⟨i023, hi023, _, hsz23, _⟩ := info_parts info40; have hroom23 : l0.length ≤ c0 := HC0.out; have hC23 : Kd.C k40 _ A0 l0.length l0 := HR0.out; have hcut23 := cut_to (P := Try.prog) 26 40 .i64 Try.underlying26 hi023 A0 l0.length c0 a1 dt_ q23 hroom23; have hr23 := Kd.C_take (m := (a1 : Int).toNat) hC23 (by omega); have hy23 : y210.length = (a1 : Int).toNat := (by rw [Ny210.out, List.length_take]; omega); rw [← Ny210.out] at hr23; rw [← hy23] at hcut23; have HR213 := am hr23; have HC213 := am (show y210.length ≤ c0 from by omega); clear hr23 hC23 hroom23 hi023 hsz23; have KY23 := am hy23; clear hy23; replace q23 := eq_true q23) | ((with_reducible refine gate_callee (f := 60) rfl ?_); refine gl_ (some 31) Try.func60 #[.slice A25 y217.length c25] ?_; (with_reducible refine (spec_l4Mended.calls k _ _ y217 t221 _ ?side1 ?side2 A18.out).mono ?_); (case side1 => exact rc ((Kd.C_below HR220.out HB.out))); (case side2 => exact HC220.out); rintro e w26 ⟨v222, rfl, ho0, hb⟩; refine ⟨_, rfl, ?_⟩; have n0_ := am (Kd.R_elder' (rr HO216) (Kd.R_base ho0) hb); have n1_ := am (Kd.R_lower (Kd.R_new' ho0 (Kd.R_lt (rr HO216))) (below_size (rb1 HB GE202))); have n2_ := am (blk_below (g := gb202) (o := .cells #[.int .i64 a3_0, .int .i64 a3_1, .bool a3_2, .bool a3_3, .bool a3_4] 29 (0, 0)) (rk BK202) hb); have n3_ := am (below_step (rb1 HB GE202) hb); clear HO216; clear BK202; clear HB; have HO216 := n0_; have HO223 := n1_; have BK202 := n2_; have HB := n3_; clear n0_ n1_ n2_ n3_; (try clear hb); (try clear hb2); (try clear hk); (try clear hi); (try clear ho0); obtain ⟨Ao28, co28, eo28⟩ := Kd.R_slice HO223.out; subst eo28) | ((with_reducible refine gate_dst (N := 18) rfl ?_); refine Kd.R_lit k40 _ 40 ?hg (N := 18) ?hd (xs := ([] : List (S40))) (inner := []) (ok := fun _ => True) (okp := fun _ => True) ?hr ?hp (fun _ hk => hk) trivial (Below.refl _ _) (Nat.le_refl _) (by simp) ?_; (case hd => rfl); (case hg => rfl); (case hr => first | (go_simp; done) | (go_simp; rfl)); (case hp => exact (Reps.none _ _)); intro v205 w9 ho10 hb hg_ hnew_; clear hg_ hnew_; (first | rw [← Ny204.out] at ho10 | (simp only [Int.reduceToNat] at ho10; rw [← Ny204.out] at ho10)); have n0_ := am (Kd.R_lower ho10 (below_size (rb1 HB GE202))); have n1_ := am (blk_below (g := gb202) (o := .cells #[.int .i64 a3_0, .int .i64 a3_1, .bool a3_2, .bool a3_3, .bool a3_4] 29 (0, 0)) (rk BK202) hb); have n2_ := am (below_step (rb1 HB GE202) hb); clear BK202; clear HB; have HO206 := n0_; have BK202 := n1_; have HB := n2_; clear n0_ n1_ n2_; clear hb ho10) | ((with_reducible refine gate_dst (N := 7) rfl ?_); refine box_event ?hg (N := 7) ?hd (cs := #[.int .i64 a3_0, .int .i64 a3_1, .bool a3_2, .bool a3_3, .bool a3_4]) (t := 29) ?hr ?_; (case hd => rfl); (case hg => rfl); (case hr => first | (go_simp; done) | (go_simp; rfl)); intro gb202 hg w8 hbox hb; have n0_ := am (below_step (rb HB) hb); have n1_ := am (hbox); have n2_ := am ((by rw [hg]; exact (below_size (rb HB)) : w.heap.size ≤ gb202)); have n3_ := am ((by rw [hg]; exact (below_size (rb HB)) : w.heap.size ≤ gb202)); clear HB; have HB := n0_; have BK202 := n1_; have GW202 := n2_; have GE202 := n3_; clear n0_ n1_ n2_ n3_; clear hb hbox hg) | ((with_reducible refine gate_callee (f := 59) rfl ?_); refine gl_ (some 15) Try.func59 #[.int .i64 a2, .int .i64 (wrap64 ((l0.length : Int) - a1))] ?_; (with_reducible refine (spec_l1Min.calls a2 (wrap64 ((l0.length : Int) - a1)) t203 _ A5.out).mono ?_); rintro e w' ⟨rfl, ⟨nd, rfl⟩⟩; refine ⟨_, rfl, ?_⟩))
  go_ret
  first
  | (
    have q_ := lf4_
    exact ⟨_, by first | rfl | (simp [errW_none, errW_some] <;> rfl) | (simp only [← hji15]; first | rfl | (simp [errW_none, errW_some] <;> rfl)) | (simp [*, errW_none, errW_some] <;> rfl), by (with_reducible repeat (first | apply r1 | apply r2 | apply r3)); exact Kd.R_mono HO232.out (fun _ hk => trivial), by repeat (first | (with_reducible first | exact HB.out | apply b1 | apply b2 | apply b3 | refine below_set ?_ GE202.out) | exact HB.out)⟩
    )
  | (
    have q_ := lf3_
    exact ⟨_, by first | rfl | (simp [errW_none, errW_some] <;> rfl) | (simp [*, errW_none, errW_some] <;> rfl), by (with_reducible repeat (first | apply r1 | apply r2 | apply r3)); exact HO209.out, by repeat (first | (with_reducible first | exact HB.out | apply b1 | apply b2 | apply b3 | refine below_set ?_ GE202.out) | exact HB.out)⟩
    )

/-! ### spec_Pulled: function 9 -/
def spec_Pulled.f (k : Nat) (l0 : List (S40)) (a1 : Int) (a2 : Int) (a3_0 : Int) (a3_1 : Int) (a3_2 : Bool) (a3_3 : Bool) (a3_4 : Bool) : Option ((List (S40))) := (spec_RowOk.f k l0).bind fun t234 => (if t234 = true then ((spec_StyleOk.f a3_0 a3_1 a3_2 a3_3 a3_4).bind fun t235 => (if t235 = true then ((spec_l1In.f a1 0 (wrap64 ((l0.length : Int) - 1))).bind fun t236 => (if t236 = true then ((spec_l1In.f a2 0 (l0.length : Int)).bind fun t237 => (if t237 = true then ((spec_l4Pulled.f k l0 a1 a2 a3_0 a3_1 a3_2 a3_3 a3_4).bind fun t238 => (some t238)) else (some (([] : List (S40)))))) else (some (([] : List (S40)))))) else (some (([] : List (S40)))))) else (some (([] : List (S40)))))
theorem spec_Pulled.mono : ∀ a0 a1 a2 a3 a4 a5 a6 a7 k, LeO (spec_Pulled.f k a0 a1 a2 a3 a4 a5 a6 a7) (spec_Pulled.f (k + 1) a0 a1 a2 a3 a4 a5 a6 a7) := by
 intro a0 a1 a2 a3 a4 a5 a6 a7 k
 unfold spec_Pulled.f
 repeat' first
   | (with_reducible exact spec_RowOk.mono _ _)
   | (with_reducible exact spec_l4Pulled.mono _ _ _ _ _ _ _ _ _)
   | (with_reducible exact LeO.refl _)
   | (with_reducible exact LeO.none _)
   | (with_reducible refine LeO.ite ?_ ?_)
   | (with_reducible refine LeO.bind ?_ (fun _ => ?_))
set_option maxHeartbeats 8000000 in
set_option maxRecDepth 100000 in
theorem spec_Pulled.calls (k : Nat) (A0 : Option Addr) (c0 : Nat) (l0 : List (S40)) (a1 : Int) (a2 : Int) (a3_0 : Int) (a3_1 : Int) (a3_2 : Bool) (a3_3 : Bool) (a3_4 : Bool) (r : List (S40)) (w : World) (hr0 : Kd.C k40 w A0 l0.length l0) (hc0 : l0.length ≤ c0) (h : spec_Pulled.f k l0 a1 a2 a3_0 a3_1 a3_2 a3_3 a3_4 = some r) :
  Calls Try.prog 9 #[.slice A0 l0.length c0, .int .i64 a1, .int .i64 a2, .agg #[.int .i64 a3_0, .int .i64 a3_1, .bool a3_2, .bool a3_3, .bool a3_4]] w fun e w' => ∃ v0_ : Value, e = .returned (v0_) ∧ Kd.R k40 40 w' w.heap.size (fun _ => True) v0_ r ∧ Below w.heap.size w w' := by
 have hu29 := Try.underlying29
 have HR0 := am hr0
 have HC0 := am hc0
 clear hr0 hc0
 have HB := am (Below.refl w.heap.size w)
 have H := h
 unfold spec_Pulled.f at H
 clear h
 replace H := Option.bind_eq_some_iff.mp H
 obtain ⟨t234, A50, H⟩ := H
 (try dsimp only at H)
 have A5 := am A50
 clear A50
 refine em_ (p := t234 = true) (fun c6 => ?g12p) (fun c6 => ?g12n)
 case' g12p =>
  subst c6
  rw [if_pos rfl] at H
  replace H := Option.bind_eq_some_iff.mp H
  obtain ⟨t235, A70, H⟩ := H
  (try dsimp only at H)
  have A7 := am A70
  clear A70
  refine em_ (p := t235 = true) (fun c8 => ?g11p) (fun c8 => ?g11n)
  case' g11p =>
   subst c8
   rw [if_pos rfl] at H
   replace H := Option.bind_eq_some_iff.mp H
   obtain ⟨t236, A90, H⟩ := H
   (try dsimp only at H)
   have A9 := am A90
   clear A90
   refine em_ (p := t236 = true) (fun c10 => ?g10p) (fun c10 => ?g10n)
   case' g10p =>
    subst c10
    rw [if_pos rfl] at H
    replace H := Option.bind_eq_some_iff.mp H
    obtain ⟨t237, A110, H⟩ := H
    (try dsimp only at H)
    have A11 := am A110
    clear A110
    refine em_ (p := t237 = true) (fun c12 => ?g9p) (fun c12 => ?g9n)
    case' g9p =>
     subst c12
     rw [if_pos rfl] at H
     replace H := Option.bind_eq_some_iff.mp H
     obtain ⟨t238, A130, H⟩ := H
     replace H : (some t238) = some r := H
     have A13 := am A130
     clear A130
     obtain rfl := Option.some.inj H
     have lf5_ := trivial
    case' g9n =>
     replace c12 := Bool.eq_false_iff.mpr c12
     subst c12
     have H1 : (some (([] : List (S40)))) = some r := by rw [if_neg (show ¬ (false = true) by decide)] at H; exact H
     clear H
     have H := H1
     clear H1
     obtain ⟨y241, hy241⟩ : ∃ y_ : List (S40), y_ = (([] : List (S40))) := ⟨_, rfl⟩
     replace H : (some y241) = some r := by first | (rw [hy241]; with_reducible exact H) | (rw [hy241]; exact H) | exact H
     have Ny241 := am hy241
     clear hy241
     obtain rfl := Option.some.inj H
     have lf6_ := trivial
   case' g10n =>
    replace c10 := Bool.eq_false_iff.mpr c10
    subst c10
    have H1 : (some (([] : List (S40)))) = some r := by rw [if_neg (show ¬ (false = true) by decide)] at H; exact H
    clear H
    have H := H1
    clear H1
    obtain ⟨y244, hy244⟩ : ∃ y_ : List (S40), y_ = (([] : List (S40))) := ⟨_, rfl⟩
    replace H : (some y244) = some r := by first | (rw [hy244]; with_reducible exact H) | (rw [hy244]; exact H) | exact H
    have Ny244 := am hy244
    clear hy244
    obtain rfl := Option.some.inj H
    have lf7_ := trivial
  case' g11n =>
   replace c8 := Bool.eq_false_iff.mpr c8
   subst c8
   have H1 : (some (([] : List (S40)))) = some r := by rw [if_neg (show ¬ (false = true) by decide)] at H; exact H
   clear H
   have H := H1
   clear H1
   obtain ⟨y247, hy247⟩ : ∃ y_ : List (S40), y_ = (([] : List (S40))) := ⟨_, rfl⟩
   replace H : (some y247) = some r := by first | (rw [hy247]; with_reducible exact H) | (rw [hy247]; exact H) | exact H
   have Ny247 := am hy247
   clear hy247
   obtain rfl := Option.some.inj H
   have lf8_ := trivial
 case' g12n =>
  replace c6 := Bool.eq_false_iff.mpr c6
  subst c6
  have H1 : (some (([] : List (S40)))) = some r := by rw [if_neg (show ¬ (false = true) by decide)] at H; exact H
  clear H
  have H := H1
  clear H1
  obtain ⟨y250, hy250⟩ : ∃ y_ : List (S40), y_ = (([] : List (S40))) := ⟨_, rfl⟩
  replace H : (some y250) = some r := by first | (rw [hy250]; with_reducible exact H) | (rw [hy250]; exact H) | exact H
  have Ny250 := am hy250
  clear hy250
  obtain rfl := Option.some.inj H
  have lf9_ := trivial
 all_goals
  go_enter Try.func9, Try.ntmps9
  go_wp2_with (first | ((with_reducible refine gate_callee (f := 31) rfl ?_); refine gl_ (some 10) Try.func31 #[.slice A0 l0.length c0] ?_; (with_reducible refine (spec_RowOk.calls k _ _ l0 true _ ?side1 ?side2 A5.out).mono ?_); (case side1 => exact rc ((Kd.C_below HR0.out HB.out))); (case side2 => exact HC0.out); rintro e w15 ⟨rfl, hb⟩; refine ⟨_, rfl, ?_⟩; have n0_ := am (blk_below (g := gb233) (o := .cells #[.int .i64 a3_0, .int .i64 a3_1, .bool a3_2, .bool a3_3, .bool a3_4] 29 (0, 0)) (rk BK233) hb); have n1_ := am (below_step (rb1 HB GE233) hb); clear BK233; clear HB; have BK233 := n0_; have HB := n1_; clear n0_ n1_; (try clear hb); (try clear hb2); (try clear hk); (try clear hi); have hcz16_0 : w15.cell? ⟨gb233, 0, none⟩ = some (.int .i64 a3_0) := (blk_cell BK233.out 0).trans rfl; have hcz16_1 : w15.cell? ⟨gb233, 1, none⟩ = some (.int .i64 a3_1) := (blk_cell BK233.out 1).trans rfl; have hcz16_2 : w15.cell? ⟨gb233, 2, none⟩ = some (.bool a3_2) := (blk_cell BK233.out 2).trans rfl; have hcz16_3 : w15.cell? ⟨gb233, 3, none⟩ = some (.bool a3_3) := (blk_cell BK233.out 3).trans rfl; have hcz16_4 : w15.cell? ⟨gb233, 4, none⟩ = some (.bool a3_4) := (blk_cell BK233.out 4).trans rfl; have hfz16_0 := blk_frozen BK233.out 0; have hfz16_1 := blk_frozen BK233.out 1; have hfz16_2 := blk_frozen BK233.out 2; have hfz16_3 := blk_frozen BK233.out 3; have hfz16_4 := blk_frozen BK233.out 4) | ((with_reducible refine gate_dst (N := 32) rfl ?_); (try (refine gate_guard (by rfl) ?_; dsimp only)); refine Kd.R_lit k40 _ 40 ?hg (N := 32) ?hd (xs := ([] : List (S40))) (inner := []) (ok := fun _ => True) (okp := fun _ => True) ?hr ?hp (fun _ hk => hk) trivial (Below.refl _ _) (Nat.le_refl _) (by simp) ?_; (case hd => rfl); (case hg => rfl); (case hr => first | (go_simp; done) | (go_simp; rfl)); (case hp => exact (Reps.none _ _)); intro v242 w24 ho25 hb hg_ hnew_; clear hg_ hnew_; (first | rw [← Ny241.out] at ho25 | (simp only [Int.reduceToNat] at ho25; rw [← Ny241.out] at ho25)); have n0_ := am (Kd.R_lower ho25 (below_size (rb1 HB GE233))); have n1_ := am (blk_below (g := gb233) (o := .cells #[.int .i64 a3_0, .int .i64 a3_1, .bool a3_2, .bool a3_3, .bool a3_4] 29 (0, 0)) (rk BK233) hb); have n2_ := am (below_step (rb1 HB GE233) hb); clear BK233; clear HB; have HO240 := n0_; have BK233 := n1_; have HB := n2_; clear n0_ n1_ n2_; clear hb ho25) | ((with_reducible refine gate_dst (N := 32) rfl ?_); (try (refine gate_guard (by rfl) ?_; dsimp only)); refine Kd.R_lit k40 _ 40 ?hg (N := 32) ?hd (xs := ([] : List (S40))) (inner := []) (ok := fun _ => True) (okp := fun _ => True) ?hr ?hp (fun _ hk => hk) trivial (Below.refl _ _) (Nat.le_refl _) (by simp) ?_; (case hd => rfl); (case hg => rfl); (case hr => first | (go_simp; done) | (go_simp; rfl)); (case hp => exact (Reps.none _ _)); intro v245 w30 ho31 hb hg_ hnew_; clear hg_ hnew_; (first | rw [← Ny244.out] at ho31 | (simp only [Int.reduceToNat] at ho31; rw [← Ny244.out] at ho31)); have n0_ := am (Kd.R_lower ho31 (below_size (rb1 HB GE233))); have n1_ := am (blk_below (g := gb233) (o := .cells #[.int .i64 a3_0, .int .i64 a3_1, .bool a3_2, .bool a3_3, .bool a3_4] 29 (0, 0)) (rk BK233) hb); have n2_ := am (below_step (rb1 HB GE233) hb); clear BK233; clear HB; have HO240 := n0_; have BK233 := n1_; have HB := n2_; clear n0_ n1_ n2_; clear hb ho31) | ((with_reducible refine gate_dst (N := 32) rfl ?_); (try (refine gate_guard (by rfl) ?_; dsimp only)); refine Kd.R_lit k40 _ 40 ?hg (N := 32) ?hd (xs := ([] : List (S40))) (inner := []) (ok := fun _ => True) (okp := fun _ => True) ?hr ?hp (fun _ hk => hk) trivial (Below.refl _ _) (Nat.le_refl _) (by simp) ?_; (case hd => rfl); (case hg => rfl); (case hr => first | (go_simp; done) | (go_simp; rfl)); (case hp => exact (Reps.none _ _)); intro v248 w36 ho37 hb hg_ hnew_; clear hg_ hnew_; (first | rw [← Ny247.out] at ho37 | (simp only [Int.reduceToNat] at ho37; rw [← Ny247.out] at ho37)); have n0_ := am (Kd.R_lower ho37 (below_size (rb1 HB GE233))); have n1_ := am (blk_below (g := gb233) (o := .cells #[.int .i64 a3_0, .int .i64 a3_1, .bool a3_2, .bool a3_3, .bool a3_4] 29 (0, 0)) (rk BK233) hb); have n2_ := am (below_step (rb1 HB GE233) hb); clear BK233; clear HB; have HO240 := n0_; have BK233 := n1_; have HB := n2_; clear n0_ n1_ n2_; clear hb ho37) | ((with_reducible refine gate_dst (N := 32) rfl ?_); (try (refine gate_guard (by rfl) ?_; dsimp only)); refine Kd.R_lit k40 _ 40 ?hg (N := 32) ?hd (xs := ([] : List (S40))) (inner := []) (ok := fun _ => True) (okp := fun _ => True) ?hr ?hp (fun _ hk => hk) trivial (Below.refl _ _) (Nat.le_refl _) (by simp) ?_; (case hd => rfl); (case hg => rfl); (case hr => first | (go_simp; done) | (go_simp; rfl)); (case hp => exact (Reps.none _ _)); intro v251 w40 ho41 hb hg_ hnew_; clear hg_ hnew_; (first | rw [← Ny250.out] at ho41 | (simp only [Int.reduceToNat] at ho41; rw [← Ny250.out] at ho41)); have n0_ := am (Kd.R_lower ho41 (below_size (rb1 HB GE233))); have n1_ := am (blk_below (g := gb233) (o := .cells #[.int .i64 a3_0, .int .i64 a3_1, .bool a3_2, .bool a3_3, .bool a3_4] 29 (0, 0)) (rk BK233) hb); have n2_ := am (below_step (rb1 HB GE233) hb); clear BK233; clear HB; have HO240 := n0_; have BK233 := n1_; have HB := n2_; clear n0_ n1_ n2_; clear hb ho41) | ((with_reducible refine gate_callee (f := 34) rfl ?_); refine gl_ (some 37) Try.func34 #[.slice A0 l0.length c0, .int .i64 a1, .int .i64 a2, .agg #[.int .i64 a3_0, .int .i64 a3_1, .bool a3_2, .bool a3_3, .bool a3_4]] ?_; (with_reducible refine (spec_l4Pulled.calls k _ _ l0 a1 a2 a3_0 a3_1 a3_2 a3_3 a3_4 t238 _ ?side1 ?side2 A13.out).mono ?_); (case side1 => exact rc ((Kd.C_below HR0.out (rb1 HB GE233)))); (case side2 => exact HC0.out); rintro e w19 ⟨v239, rfl, ho0, hb⟩; refine ⟨_, rfl, ?_⟩; have n0_ := am (Kd.R_lower ho0 (below_size (rb1 HB GE233))); have n1_ := am (blk_below (g := gb233) (o := .cells #[.int .i64 a3_0, .int .i64 a3_1, .bool a3_2, .bool a3_3, .bool a3_4] 29 (0, 0)) (rk BK233) hb); have n2_ := am (below_step (rb1 HB GE233) hb); clear BK233; clear HB; have HO240 := n0_; have BK233 := n1_; have HB := n2_; clear n0_ n1_ n2_; (try clear hb); (try clear hb2); (try clear hk); (try clear hi); (try clear ho0)) | (go_at_call 33; (with_reducible refine (spec_l1In.calls a2 0 (l0.length : Int) true _ A11.out).mono ?_); rintro e w' ⟨rfl, ⟨nd, rfl⟩⟩; have hcz18_0 : w17.cell? ⟨gb233, 0, none⟩ = some (.int .i64 a3_0) := (blk_cell BK233.out 0).trans rfl; have hcz18_1 : w17.cell? ⟨gb233, 1, none⟩ = some (.int .i64 a3_1) := (blk_cell BK233.out 1).trans rfl; have hcz18_2 : w17.cell? ⟨gb233, 2, none⟩ = some (.bool a3_2) := (blk_cell BK233.out 2).trans rfl; have hcz18_3 : w17.cell? ⟨gb233, 3, none⟩ = some (.bool a3_3) := (blk_cell BK233.out 3).trans rfl; have hcz18_4 : w17.cell? ⟨gb233, 4, none⟩ = some (.bool a3_4) := (blk_cell BK233.out 4).trans rfl; have hfz18_0 := blk_frozen BK233.out 0; have hfz18_1 := blk_frozen BK233.out 1; have hfz18_2 := blk_frozen BK233.out 2; have hfz18_3 := blk_frozen BK233.out 3; have hfz18_4 := blk_frozen BK233.out 4) | ((with_reducible refine gate_dst (N := 7) rfl ?_); (try (refine gate_guard (by rfl) ?_; dsimp only)); refine box_event ?hg (N := 7) ?hd (cs := #[.int .i64 a3_0, .int .i64 a3_1, .bool a3_2, .bool a3_3, .bool a3_4]) (t := 29) ?hr ?_; (case hd => rfl); (case hg => rfl); (case hr => first | (go_simp; done) | (go_simp; rfl)); intro gb233 hg w14 hbox hb; have n0_ := am (below_step (rb HB) hb); have n1_ := am (hbox); have n2_ := am ((by rw [hg]; exact (below_size (rb HB)) : w.heap.size ≤ gb233)); have n3_ := am ((by rw [hg]; exact (below_size (rb HB)) : w.heap.size ≤ gb233)); clear HB; have HB := n0_; have BK233 := n1_; have GW233 := n2_; have GE233 := n3_; clear n0_ n1_ n2_ n3_; clear hb hbox hg) | ((with_reducible refine gate_callee (f := 31) rfl ?_); refine gl_ (some 10) Try.func31 #[.slice A0 l0.length c0] ?_; (with_reducible refine (spec_RowOk.calls k _ _ l0 false _ ?side1 ?side2 A5.out).mono ?_); (case side1 => exact rc ((Kd.C_below HR0.out HB.out))); (case side2 => exact HC0.out); rintro e w39 ⟨rfl, hb⟩; refine ⟨_, rfl, ?_⟩; have n0_ := am (blk_below (g := gb233) (o := .cells #[.int .i64 a3_0, .int .i64 a3_1, .bool a3_2, .bool a3_3, .bool a3_4] 29 (0, 0)) (rk BK233) hb); have n1_ := am (below_step (rb1 HB GE233) hb); clear BK233; clear HB; have BK233 := n0_; have HB := n1_; clear n0_ n1_; (try clear hb); (try clear hb2); (try clear hk); (try clear hi)) | (go_at_call 32; (with_reducible refine (spec_StyleOk.calls a3_0 a3_1 a3_2 a3_3 a3_4 false _ A7.out).mono ?_); rintro e w35 ⟨rfl, hb⟩; have n0_ := am (blk_below (g := gb233) (o := .cells #[.int .i64 a3_0, .int .i64 a3_1, .bool a3_2, .bool a3_3, .bool a3_4] 29 (0, 0)) (rk BK233) hb); have n1_ := am (below_step (rb1 HB GE233) hb); clear BK233; clear HB; have BK233 := n0_; have HB := n1_; clear n0_ n1_; (try clear hb); (try clear hb2); (try clear hk); (try clear hi)) | (go_at_call 32; (with_reducible refine (spec_StyleOk.calls a3_0 a3_1 a3_2 a3_3 a3_4 true _ A7.out).mono ?_); rintro e w17 ⟨rfl, hb⟩; have n0_ := am (blk_below (g := gb233) (o := .cells #[.int .i64 a3_0, .int .i64 a3_1, .bool a3_2, .bool a3_3, .bool a3_4] 29 (0, 0)) (rk BK233) hb); have n1_ := am (below_step (rb1 HB GE233) hb); clear BK233; clear HB; have BK233 := n0_; have HB := n1_; clear n0_ n1_; (try clear hb); (try clear hb2); (try clear hk); (try clear hi)) | (go_at_call 33; (with_reducible refine (spec_l1In.calls a1 0 (wrap64 ((l0.length : Int) - 1)) false _ A9.out).mono ?_); rintro e w' ⟨rfl, ⟨nd, rfl⟩⟩) | (go_at_call 33; (with_reducible refine (spec_l1In.calls a1 0 (wrap64 ((l0.length : Int) - 1)) true _ A9.out).mono ?_); rintro e w' ⟨rfl, ⟨nd, rfl⟩⟩) | (go_at_call 33; (with_reducible refine (spec_l1In.calls a2 0 (l0.length : Int) false _ A11.out).mono ?_); rintro e w' ⟨rfl, ⟨nd, rfl⟩⟩))
  go_ret
  exact ⟨_, by first | rfl | (simp [errW_none, errW_some] <;> rfl) | (simp [*, errW_none, errW_some] <;> rfl), by (with_reducible repeat (first | apply r1 | apply r2 | apply r3)); exact HO240.out, by repeat (first | (with_reducible first | exact HB.out | apply b1 | apply b2 | apply b3 | refine below_set ?_ GE233.out) | exact HB.out)⟩

/-! ### laws_toStyle: function 11 -/
def laws_toStyle.f (a0_0 : Int) (a0_1 : Int) (a0_2 : Bool) (a0_3 : Bool) (a0_4 : Bool) : Option (Int × Int × Bool × Bool × Bool) := some (a0_0, a0_1, a0_2, a0_3, a0_4)
set_option maxHeartbeats 8000000 in
set_option maxRecDepth 100000 in
theorem laws_toStyle.calls (a0_0 : Int) (a0_1 : Int) (a0_2 : Bool) (a0_3 : Bool) (a0_4 : Bool) (r1 : Int) (r2 : Int) (r3 : Bool) (r4 : Bool) (r5 : Bool) (w : World) (h : laws_toStyle.f a0_0 a0_1 a0_2 a0_3 a0_4 = some (r1, r2, r3, r4, r5)) :
  Calls Try.prog 11 #[.agg #[.int .i64 a0_0, .int .i64 a0_1, .bool a0_2, .bool a0_3, .bool a0_4]] w fun e w' => e = .returned (.agg #[.int .i64 r1, .int .i64 r2, .bool r3, .bool r4, .bool r5]) ∧ Below w.heap.size w w' := by
 have hu24 := Try.underlying24
 have hu29 := Try.underlying29
 have HB := am (Below.refl w.heap.size w)
 have H : (some (a0_0, a0_1, a0_2, a0_3, a0_4)) = some (r1, r2, r3, r4, r5) := h
 clear h
 simp only [Option.some.injEq, Prod.mk.injEq] at H
 obtain ⟨rfl, rfl, rfl, rfl, rfl⟩ := H
 go_enter Try.func11, Try.ntmps11
 go_wp2_with (first | ((with_reducible refine gate_dst (N := 1) rfl ?_); refine box_event ?hg (N := 1) ?hd (cs := #[.int .i64 a0_0, .int .i64 a0_1, .bool a0_2, .bool a0_3, .bool a0_4]) (t := 24) ?hr ?_; (case hd => rfl); (case hg => rfl); (case hr => first | (go_simp; done) | (go_simp; rfl)); intro gb253 hg w2 hbox hb; have n0_ := am (below_step (rb HB) hb); have n1_ := am (hbox); have n2_ := am ((by rw [hg]; exact (below_size (rb HB)) : w.heap.size ≤ gb253)); have n3_ := am ((by rw [hg]; exact (below_size (rb HB)) : w.heap.size ≤ gb253)); clear HB; have HB := n0_; have BK253 := n1_; have GW253 := n2_; have GE253 := n3_; clear n0_ n1_ n2_ n3_; clear hb hbox hg) | ((with_reducible refine gate_dst (N := 2) rfl ?_); refine box_event ?hg (N := 2) ?hd (cs := #[.int .i64 0, .int .i64 0, .bool false, .bool false, .bool false]) (t := 29) ?hr ?_; (case hd => rfl); (case hg => rfl); (case hr => first | (go_simp; done) | (go_simp; rfl)); intro gb254 hg w3 hbox hb; have n0_ := am (blk_below (g := gb253) (o := .cells #[.int .i64 a0_0, .int .i64 a0_1, .bool a0_2, .bool a0_3, .bool a0_4] 24 (0, 0)) (rk BK253) hb); have n1_ := am (below_step (rb1 HB GE253) hb); have n2_ := am (hbox); have n3_ := am ((by rw [hg]; exact (below_size (rb1 HB GE253)) : w.heap.size ≤ gb254)); have n4_ := am ((by rw [hg]; exact (below_size (rb1 HB GE253)) : w.heap.size ≤ gb254)); have n5_ := am ((by rw [hg]; exact Nat.ne_of_lt (blk_lt (g := gb253) (o := .cells #[.int .i64 a0_0, .int .i64 a0_1, .bool a0_2, .bool a0_3, .bool a0_4] 24 (0, 0)) (rk BK253)) : gb253 ≠ gb254)); have n6_ := am ((by rw [hg]; exact Nat.ne_of_gt (blk_lt (g := gb253) (o := .cells #[.int .i64 a0_0, .int .i64 a0_1, .bool a0_2, .bool a0_3, .bool a0_4] 24 (0, 0)) (rk BK253)) : gb254 ≠ gb253)); clear BK253; clear HB; have BK253 := n0_; have HB := n1_; have BK254 := n2_; have GW254 := n3_; have GE254 := n4_; have NB253_254 := n5_; have NB254_253 := n6_; clear n0_ n1_ n2_ n3_ n4_ n5_ n6_; clear hb hbox hg) | ((with_reducible refine gate_dst (N := 3) rfl ?_); refine box_event ?hg (N := 3) ?hd (cs := #[.int .i64 0, .int .i64 0, .bool false, .bool false, .bool false]) (t := 29) ?hr ?_; (case hd => rfl); (case hg => rfl); (case hr => first | (go_simp; done) | (go_simp; rfl)); intro gb255 hg w4 hbox hb; have n0_ := am (blk_below (g := gb253) (o := .cells #[.int .i64 a0_0, .int .i64 a0_1, .bool a0_2, .bool a0_3, .bool a0_4] 24 (0, 0)) (rk BK253) hb); have n1_ := am (blk_below (g := gb254) (o := .cells #[.int .i64 0, .int .i64 0, .bool false, .bool false, .bool false] 29 (0, 0)) (rk BK254) hb); have n2_ := am (below_step (rb2 HB GE253 GE254) hb); have n3_ := am (hbox); have n4_ := am ((by rw [hg]; exact (below_size (rb2 HB GE253 GE254)) : w.heap.size ≤ gb255)); have n5_ := am ((by rw [hg]; exact (below_size (rb2 HB GE253 GE254)) : w.heap.size ≤ gb255)); have n6_ := am ((by rw [hg]; exact Nat.ne_of_lt (blk_lt (g := gb253) (o := .cells #[.int .i64 a0_0, .int .i64 a0_1, .bool a0_2, .bool a0_3, .bool a0_4] 24 (0, 0)) (rk BK253)) : gb253 ≠ gb255)); have n7_ := am ((by rw [hg]; exact Nat.ne_of_gt (blk_lt (g := gb253) (o := .cells #[.int .i64 a0_0, .int .i64 a0_1, .bool a0_2, .bool a0_3, .bool a0_4] 24 (0, 0)) (rk BK253)) : gb255 ≠ gb253)); have n8_ := am ((by rw [hg]; exact Nat.ne_of_lt (blk_lt (g := gb254) (o := .cells #[.int .i64 0, .int .i64 0, .bool false, .bool false, .bool false] 29 (0, 0)) (rk BK254)) : gb254 ≠ gb255)); have n9_ := am ((by rw [hg]; exact Nat.ne_of_gt (blk_lt (g := gb254) (o := .cells #[.int .i64 0, .int .i64 0, .bool false, .bool false, .bool false] 29 (0, 0)) (rk BK254)) : gb255 ≠ gb254)); clear BK253; clear BK254; clear HB; have BK253 := n0_; have BK254 := n1_; have HB := n2_; have BK255 := n3_; have GW255 := n4_; have GE255 := n5_; have NB253_255 := n6_; have NB255_253 := n7_; have NB254_255 := n8_; have NB255_254 := n9_; clear n0_ n1_ n2_ n3_ n4_ n5_ n6_ n7_ n8_ n9_; clear hb hbox hg; have hnb5 := NB253_254.out; have hnc5 := NB254_253.out; have hnb6 := NB253_255.out; have hnc6 := NB255_253.out; have hcz7_0 : w4.cell? ⟨gb253, 0, none⟩ = some (.int .i64 a0_0) := (blk_cell BK253.out 0).trans rfl; have hcz7_1 : w4.cell? ⟨gb253, 1, none⟩ = some (.int .i64 a0_1) := (blk_cell BK253.out 1).trans rfl; have hcz7_2 : w4.cell? ⟨gb253, 2, none⟩ = some (.bool a0_2) := (blk_cell BK253.out 2).trans rfl; have hcz7_3 : w4.cell? ⟨gb253, 3, none⟩ = some (.bool a0_3) := (blk_cell BK253.out 3).trans rfl; have hcz7_4 : w4.cell? ⟨gb253, 4, none⟩ = some (.bool a0_4) := (blk_cell BK253.out 4).trans rfl; have hfz7_0 := blk_frozen BK253.out 0; have hfz7_1 := blk_frozen BK253.out 1; have hfz7_2 := blk_frozen BK253.out 2; have hfz7_3 := blk_frozen BK253.out 3; have hfz7_4 := blk_frozen BK253.out 4; have hnb8 := NB255_254.out; have hnc8 := NB254_255.out; have hcz9_0 : w4.cell? ⟨gb255, 0, none⟩ = some (.int .i64 0) := (blk_cell BK255.out 0).trans rfl; have hcz9_1 : w4.cell? ⟨gb255, 1, none⟩ = some (.int .i64 0) := (blk_cell BK255.out 1).trans rfl; have hcz9_2 : w4.cell? ⟨gb255, 2, none⟩ = some (.bool false) := (blk_cell BK255.out 2).trans rfl; have hcz9_3 : w4.cell? ⟨gb255, 3, none⟩ = some (.bool false) := (blk_cell BK255.out 3).trans rfl; have hcz9_4 : w4.cell? ⟨gb255, 4, none⟩ = some (.bool false) := (blk_cell BK255.out 4).trans rfl; have hfz9_0 := blk_frozen BK255.out 0; have hfz9_1 := blk_frozen BK255.out 1; have hfz9_2 := blk_frozen BK255.out 2; have hfz9_3 := blk_frozen BK255.out 3; have hfz9_4 := blk_frozen BK255.out 4; have hcz10_0 : w4.cell? ⟨gb254, 0, none⟩ = some (.int .i64 0) := (blk_cell BK254.out 0).trans rfl; have hcz10_1 : w4.cell? ⟨gb254, 1, none⟩ = some (.int .i64 0) := (blk_cell BK254.out 1).trans rfl; have hcz10_2 : w4.cell? ⟨gb254, 2, none⟩ = some (.bool false) := (blk_cell BK254.out 2).trans rfl; have hcz10_3 : w4.cell? ⟨gb254, 3, none⟩ = some (.bool false) := (blk_cell BK254.out 3).trans rfl; have hcz10_4 : w4.cell? ⟨gb254, 4, none⟩ = some (.bool false) := (blk_cell BK254.out 4).trans rfl; have hfz10_0 := blk_frozen BK254.out 0; have hfz10_1 := blk_frozen BK254.out 1; have hfz10_2 := blk_frozen BK254.out 2; have hfz10_3 := blk_frozen BK254.out 3; have hfz10_4 := blk_frozen BK254.out 4))
 refine bodyPost_ret (results_cell_row rfl _ _ gb254 29 #[.int .i64 a0_0, .int .i64 a0_1, .bool a0_2, .bool a0_3, .bool a0_4] (0, 0) _ rfl (by (with_reducible repeat (first | apply k1 | apply k2 | apply k3)); refine blk_put (cs := #[.int .i64 a0_0, .int .i64 a0_1, .bool a0_2, .bool a0_3, .bool false]) ?_ 4 _ rfl; (with_reducible repeat (first | apply k1 | apply k2 | apply k3)); refine blk_put (cs := #[.int .i64 a0_0, .int .i64 a0_1, .bool a0_2, .bool false, .bool false]) ?_ 3 _ rfl; (with_reducible repeat (first | apply k1 | apply k2 | apply k3)); refine blk_put (cs := #[.int .i64 a0_0, .int .i64 a0_1, .bool false, .bool false, .bool false]) ?_ 2 _ rfl; (with_reducible repeat (first | apply k1 | apply k2 | apply k3)); refine blk_put (cs := #[.int .i64 a0_0, .int .i64 0, .bool false, .bool false, .bool false]) ?_ 1 _ rfl; (with_reducible repeat (first | apply k1 | apply k2 | apply k3)); refine blk_put (cs := #[.int .i64 0, .int .i64 0, .bool false, .bool false, .bool false]) ?_ 0 _ rfl; (with_reducible repeat (first | apply k1 | apply k2 | apply k3)); refine blk_far ?_ NB254_255.out _; (with_reducible repeat (first | apply k1 | apply k2 | apply k3)); refine blk_far ?_ NB254_255.out _; (with_reducible repeat (first | apply k1 | apply k2 | apply k3)); refine blk_far ?_ NB254_255.out _; (with_reducible repeat (first | apply k1 | apply k2 | apply k3)); refine blk_far ?_ NB254_255.out _; (with_reducible repeat (first | apply k1 | apply k2 | apply k3)); refine blk_far ?_ NB254_255.out _; (with_reducible repeat (first | apply k1 | apply k2 | apply k3)); exact BK254.out) Try.underlying29 rfl (by kernel_rfl)) rfl ?_
 exact ⟨by first | rfl | (simp [errW_none, errW_some] <;> rfl) | (simp [*, errW_none, errW_some] <;> rfl), by repeat (first | (with_reducible first | exact HB.out | apply b1 | apply b2 | apply b3 | refine below_set ?_ GE253.out | refine below_set ?_ GE254.out | refine below_set ?_ GE255.out) | exact HB.out)⟩

/-! ### laws_toCell: function 35 -/
def laws_toCell.f (a0_0 : Int) (a0_1 : Int) (a0_2 : Int) (a0_3 : Bool) (a0_4 : Bool) (a0_5 : Bool) (a0_6 : Int) : Option (Int × Int × Int × Bool × Bool × Bool × Int) := (laws_toStyle.f a0_1 a0_2 a0_3 a0_4 a0_5).bind fun bt259 => (some (a0_0, bt259.1, bt259.2.1, bt259.2.2.1, bt259.2.2.2.1, bt259.2.2.2.2, a0_6))
set_option maxHeartbeats 8000000 in
set_option maxRecDepth 100000 in
theorem laws_toCell.calls (a0_0 : Int) (a0_1 : Int) (a0_2 : Int) (a0_3 : Bool) (a0_4 : Bool) (a0_5 : Bool) (a0_6 : Int) (r1 : Int) (r2 : Int) (r3 : Int) (r4 : Bool) (r5 : Bool) (r6 : Bool) (r7 : Int) (w : World) (h : laws_toCell.f a0_0 a0_1 a0_2 a0_3 a0_4 a0_5 a0_6 = some (r1, r2, r3, r4, r5, r6, r7)) :
  Calls Try.prog 35 #[.agg #[.int .i64 a0_0, .int .i64 a0_1, .int .i64 a0_2, .bool a0_3, .bool a0_4, .bool a0_5, .int .i64 a0_6]] w fun e w' => e = .returned (.agg #[.int .i64 r1, .int .i64 r2, .int .i64 r3, .bool r4, .bool r5, .bool r6, .int .i64 r7]) ∧ Below w.heap.size w w' := by
 have hu60 := Try.underlying60
 have hu40 := Try.underlying40
 have hu24 := Try.underlying24
 have hu29 := Try.underlying29
 have HB := am (Below.refl w.heap.size w)
 have H := h
 unfold laws_toCell.f at H
 clear h
 replace H := Option.bind_eq_some_iff.mp H
 obtain ⟨⟨t259, t260, t261, t262, t263⟩, A20, H⟩ := H
 (try dsimp only at H)
 have A2 := am A20
 clear A20
 simp only [Option.some.injEq, Prod.mk.injEq] at H
 obtain ⟨rfl, rfl, rfl, rfl, rfl, rfl, rfl⟩ := H
 go_enter Try.func35, Try.ntmps35
 go_wp2_with (first | ((with_reducible refine gate_dst (N := 1) rfl ?_); refine box_event ?hg (N := 1) ?hd (cs := #[.int .i64 a0_0, .int .i64 a0_1, .int .i64 a0_2, .bool a0_3, .bool a0_4, .bool a0_5, .int .i64 a0_6]) (t := 60) ?hr ?_; (case hd => rfl); (case hg => rfl); (case hr => first | (go_simp; done) | (go_simp; rfl)); intro gb256 hg w3 hbox hb; have n0_ := am (below_step (rb HB) hb); have n1_ := am (hbox); have n2_ := am ((by rw [hg]; exact (below_size (rb HB)) : w.heap.size ≤ gb256)); have n3_ := am ((by rw [hg]; exact (below_size (rb HB)) : w.heap.size ≤ gb256)); clear HB; have HB := n0_; have BK256 := n1_; have GW256 := n2_; have GE256 := n3_; clear n0_ n1_ n2_ n3_; clear hb hbox hg) | ((with_reducible refine gate_dst (N := 2) rfl ?_); refine box_event ?hg (N := 2) ?hd (cs := #[.int .i64 0, .int .i64 0, .int .i64 0, .bool false, .bool false, .bool false, .int .i64 0]) (t := 40) ?hr ?_; (case hd => rfl); (case hg => rfl); (case hr => first | (go_simp; done) | (go_simp; rfl)); intro gb257 hg w4 hbox hb; have n0_ := am (blk_below (g := gb256) (o := .cells #[.int .i64 a0_0, .int .i64 a0_1, .int .i64 a0_2, .bool a0_3, .bool a0_4, .bool a0_5, .int .i64 a0_6] 60 (0, 0)) (rk BK256) hb); have n1_ := am (below_step (rb1 HB GE256) hb); have n2_ := am (hbox); have n3_ := am ((by rw [hg]; exact (below_size (rb1 HB GE256)) : w.heap.size ≤ gb257)); have n4_ := am ((by rw [hg]; exact (below_size (rb1 HB GE256)) : w.heap.size ≤ gb257)); have n5_ := am ((by rw [hg]; exact Nat.ne_of_lt (blk_lt (g := gb256) (o := .cells #[.int .i64 a0_0, .int .i64 a0_1, .int .i64 a0_2, .bool a0_3, .bool a0_4, .bool a0_5, .int .i64 a0_6] 60 (0, 0)) (rk BK256)) : gb256 ≠ gb257)); have n6_ := am ((by rw [hg]; exact Nat.ne_of_gt (blk_lt (g := gb256) (o := .cells #[.int .i64 a0_0, .int .i64 a0_1, .int .i64 a0_2, .bool a0_3, .bool a0_4, .bool a0_5, .int .i64 a0_6] 60 (0, 0)) (rk BK256)) : gb257 ≠ gb256)); clear BK256; clear HB; have BK256 := n0_; have HB := n1_; have BK257 := n2_; have GW257 := n3_; have GE257 := n4_; have NB256_257 := n5_; have NB257_256 := n6_; clear n0_ n1_ n2_ n3_ n4_ n5_ n6_; clear hb hbox hg) | ((with_reducible refine gate_dst (N := 3) rfl ?_); refine box_event ?hg (N := 3) ?hd (cs := #[.int .i64 0, .int .i64 0, .int .i64 0, .bool false, .bool false, .bool false, .int .i64 0]) (t := 40) ?hr ?_; (case hd => rfl); (case hg => rfl); (case hr => first | (go_simp; done) | (go_simp; rfl)); intro gb258 hg w5 hbox hb; have n0_ := am (blk_below (g := gb256) (o := .cells #[.int .i64 a0_0, .int .i64 a0_1, .int .i64 a0_2, .bool a0_3, .bool a0_4, .bool a0_5, .int .i64 a0_6] 60 (0, 0)) (rk BK256) hb); have n1_ := am (blk_below (g := gb257) (o := .cells #[.int .i64 0, .int .i64 0, .int .i64 0, .bool false, .bool false, .bool false, .int .i64 0] 40 (0, 0)) (rk BK257) hb); have n2_ := am (below_step (rb2 HB GE256 GE257) hb); have n3_ := am (hbox); have n4_ := am ((by rw [hg]; exact (below_size (rb2 HB GE256 GE257)) : w.heap.size ≤ gb258)); have n5_ := am ((by rw [hg]; exact (below_size (rb2 HB GE256 GE257)) : w.heap.size ≤ gb258)); have n6_ := am ((by rw [hg]; exact Nat.ne_of_lt (blk_lt (g := gb256) (o := .cells #[.int .i64 a0_0, .int .i64 a0_1, .int .i64 a0_2, .bool a0_3, .bool a0_4, .bool a0_5, .int .i64 a0_6] 60 (0, 0)) (rk BK256)) : gb256 ≠ gb258)); have n7_ := am ((by rw [hg]; exact Nat.ne_of_gt (blk_lt (g := gb256) (o := .cells #[.int .i64 a0_0, .int .i64 a0_1, .int .i64 a0_2, .bool a0_3, .bool a0_4, .bool a0_5, .int .i64 a0_6] 60 (0, 0)) (rk BK256)) : gb258 ≠ gb256)); have n8_ := am ((by rw [hg]; exact Nat.ne_of_lt (blk_lt (g := gb257) (o := .cells #[.int .i64 0, .int .i64 0, .int .i64 0, .bool false, .bool false, .bool false, .int .i64 0] 40 (0, 0)) (rk BK257)) : gb257 ≠ gb258)); have n9_ := am ((by rw [hg]; exact Nat.ne_of_gt (blk_lt (g := gb257) (o := .cells #[.int .i64 0, .int .i64 0, .int .i64 0, .bool false, .bool false, .bool false, .int .i64 0] 40 (0, 0)) (rk BK257)) : gb258 ≠ gb257)); clear BK256; clear BK257; clear HB; have BK256 := n0_; have BK257 := n1_; have HB := n2_; have BK258 := n3_; have GW258 := n4_; have GE258 := n5_; have NB256_258 := n6_; have NB258_256 := n7_; have NB257_258 := n8_; have NB258_257 := n9_; clear n0_ n1_ n2_ n3_ n4_ n5_ n6_ n7_ n8_ n9_; clear hb hbox hg; have hnb6 := NB256_257.out; have hnc6 := NB257_256.out; have hnb7 := NB256_258.out; have hnc7 := NB258_256.out; have hcz8_0 : w5.cell? ⟨gb256, 0, none⟩ = some (.int .i64 a0_0) := (blk_cell BK256.out 0).trans rfl; have hcz8_1 : w5.cell? ⟨gb256, 1, none⟩ = some (.int .i64 a0_1) := (blk_cell BK256.out 1).trans rfl; have hcz8_2 : w5.cell? ⟨gb256, 2, none⟩ = some (.int .i64 a0_2) := (blk_cell BK256.out 2).trans rfl; have hcz8_3 : w5.cell? ⟨gb256, 3, none⟩ = some (.bool a0_3) := (blk_cell BK256.out 3).trans rfl; have hcz8_4 : w5.cell? ⟨gb256, 4, none⟩ = some (.bool a0_4) := (blk_cell BK256.out 4).trans rfl; have hcz8_5 : w5.cell? ⟨gb256, 5, none⟩ = some (.bool a0_5) := (blk_cell BK256.out 5).trans rfl; have hcz8_6 : w5.cell? ⟨gb256, 6, none⟩ = some (.int .i64 a0_6) := (blk_cell BK256.out 6).trans rfl; have hfz8_0 := blk_frozen BK256.out 0; have hfz8_1 := blk_frozen BK256.out 1; have hfz8_2 := blk_frozen BK256.out 2; have hfz8_3 := blk_frozen BK256.out 3; have hfz8_4 := blk_frozen BK256.out 4; have hfz8_5 := blk_frozen BK256.out 5; have hfz8_6 := blk_frozen BK256.out 6; have hnb9 := NB258_257.out; have hnc9 := NB257_258.out; have hcz10_0 : w5.cell? ⟨gb258, 0, none⟩ = some (.int .i64 0) := (blk_cell BK258.out 0).trans rfl; have hcz10_1 : w5.cell? ⟨gb258, 1, none⟩ = some (.int .i64 0) := (blk_cell BK258.out 1).trans rfl; have hcz10_2 : w5.cell? ⟨gb258, 2, none⟩ = some (.int .i64 0) := (blk_cell BK258.out 2).trans rfl; have hcz10_3 : w5.cell? ⟨gb258, 3, none⟩ = some (.bool false) := (blk_cell BK258.out 3).trans rfl; have hcz10_4 : w5.cell? ⟨gb258, 4, none⟩ = some (.bool false) := (blk_cell BK258.out 4).trans rfl; have hcz10_5 : w5.cell? ⟨gb258, 5, none⟩ = some (.bool false) := (blk_cell BK258.out 5).trans rfl; have hcz10_6 : w5.cell? ⟨gb258, 6, none⟩ = some (.int .i64 0) := (blk_cell BK258.out 6).trans rfl; have hfz10_0 := blk_frozen BK258.out 0; have hfz10_1 := blk_frozen BK258.out 1; have hfz10_2 := blk_frozen BK258.out 2; have hfz10_3 := blk_frozen BK258.out 3; have hfz10_4 := blk_frozen BK258.out 4; have hfz10_5 := blk_frozen BK258.out 5; have hfz10_6 := blk_frozen BK258.out 6) | ((with_reducible refine gate_callee (f := 11) rfl ?_); refine gl_ (some 9) Try.func11 #[.agg #[.int .i64 a0_1, .int .i64 a0_2, .bool a0_3, .bool a0_4, .bool a0_5]] ?_; (with_reducible refine (laws_toStyle.calls a0_1 a0_2 a0_3 a0_4 a0_5 t259 t260 t261 t262 t263 _ A2.out).mono ?_); rintro e w11 ⟨rfl, hb⟩; refine ⟨_, rfl, ?_⟩; have n0_ := am (blk_below (g := gb256) (o := .cells #[.int .i64 a0_0, .int .i64 a0_1, .int .i64 a0_2, .bool a0_3, .bool a0_4, .bool a0_5, .int .i64 a0_6] 60 (0, 0)) (by (with_reducible repeat (first | apply k1 | apply k2 | apply k3)); refine blk_far ?_ NB256_258.out _; (with_reducible repeat (first | apply k1 | apply k2 | apply k3)); exact BK256.out) hb); have n1_ := am (blk_below (g := gb257) (o := .cells #[.int .i64 0, .int .i64 0, .int .i64 0, .bool false, .bool false, .bool false, .int .i64 0] 40 (0, 0)) (by (with_reducible repeat (first | apply k1 | apply k2 | apply k3)); refine blk_far ?_ NB257_258.out _; (with_reducible repeat (first | apply k1 | apply k2 | apply k3)); exact BK257.out) hb); have n2_ := am (blk_below (g := gb258) (o := .cells #[.int .i64 a0_0, .int .i64 0, .int .i64 0, .bool false, .bool false, .bool false, .int .i64 0] 40 (0, 0)) (by (with_reducible repeat (first | apply k1 | apply k2 | apply k3)); refine blk_put (cs := #[.int .i64 0, .int .i64 0, .int .i64 0, .bool false, .bool false, .bool false, .int .i64 0]) ?_ 0 _ rfl; (with_reducible repeat (first | apply k1 | apply k2 | apply k3)); exact BK258.out) hb); have n3_ := am (below_step (by repeat (first | (with_reducible first | exact HB.out | apply b1 | apply b2 | apply b3 | refine below_set ?_ GE256.out | refine below_set ?_ GE257.out | refine below_set ?_ GE258.out) | exact HB.out)) hb); clear BK256; clear BK257; clear BK258; clear HB; have BK256 := n0_; have BK257 := n1_; have BK258 := n2_; have HB := n3_; clear n0_ n1_ n2_ n3_; (try clear hb); (try clear hb2); (try clear hk); (try clear hi); have hcz12_0 : w11.cell? ⟨gb258, 0, none⟩ = some (.int .i64 a0_0) := (blk_cell BK258.out 0).trans rfl; have hcz12_1 : w11.cell? ⟨gb258, 1, none⟩ = some (.int .i64 0) := (blk_cell BK258.out 1).trans rfl; have hcz12_2 : w11.cell? ⟨gb258, 2, none⟩ = some (.int .i64 0) := (blk_cell BK258.out 2).trans rfl; have hcz12_3 : w11.cell? ⟨gb258, 3, none⟩ = some (.bool false) := (blk_cell BK258.out 3).trans rfl; have hcz12_4 : w11.cell? ⟨gb258, 4, none⟩ = some (.bool false) := (blk_cell BK258.out 4).trans rfl; have hcz12_5 : w11.cell? ⟨gb258, 5, none⟩ = some (.bool false) := (blk_cell BK258.out 5).trans rfl; have hcz12_6 : w11.cell? ⟨gb258, 6, none⟩ = some (.int .i64 0) := (blk_cell BK258.out 6).trans rfl; have hfz12_0 := blk_frozen BK258.out 0; have hfz12_1 := blk_frozen BK258.out 1; have hfz12_2 := blk_frozen BK258.out 2; have hfz12_3 := blk_frozen BK258.out 3; have hfz12_4 := blk_frozen BK258.out 4; have hfz12_5 := blk_frozen BK258.out 5; have hfz12_6 := blk_frozen BK258.out 6; have hcz13_0 : w11.cell? ⟨gb256, 0, none⟩ = some (.int .i64 a0_0) := (blk_cell BK256.out 0).trans rfl; have hcz13_1 : w11.cell? ⟨gb256, 1, none⟩ = some (.int .i64 a0_1) := (blk_cell BK256.out 1).trans rfl; have hcz13_2 : w11.cell? ⟨gb256, 2, none⟩ = some (.int .i64 a0_2) := (blk_cell BK256.out 2).trans rfl; have hcz13_3 : w11.cell? ⟨gb256, 3, none⟩ = some (.bool a0_3) := (blk_cell BK256.out 3).trans rfl; have hcz13_4 : w11.cell? ⟨gb256, 4, none⟩ = some (.bool a0_4) := (blk_cell BK256.out 4).trans rfl; have hcz13_5 : w11.cell? ⟨gb256, 5, none⟩ = some (.bool a0_5) := (blk_cell BK256.out 5).trans rfl; have hcz13_6 : w11.cell? ⟨gb256, 6, none⟩ = some (.int .i64 a0_6) := (blk_cell BK256.out 6).trans rfl; have hfz13_0 := blk_frozen BK256.out 0; have hfz13_1 := blk_frozen BK256.out 1; have hfz13_2 := blk_frozen BK256.out 2; have hfz13_3 := blk_frozen BK256.out 3; have hfz13_4 := blk_frozen BK256.out 4; have hfz13_5 := blk_frozen BK256.out 5; have hfz13_6 := blk_frozen BK256.out 6; have hcz14_0 : w11.cell? ⟨gb257, 0, none⟩ = some (.int .i64 0) := (blk_cell BK257.out 0).trans rfl; have hcz14_1 : w11.cell? ⟨gb257, 1, none⟩ = some (.int .i64 0) := (blk_cell BK257.out 1).trans rfl; have hcz14_2 : w11.cell? ⟨gb257, 2, none⟩ = some (.int .i64 0) := (blk_cell BK257.out 2).trans rfl; have hcz14_3 : w11.cell? ⟨gb257, 3, none⟩ = some (.bool false) := (blk_cell BK257.out 3).trans rfl; have hcz14_4 : w11.cell? ⟨gb257, 4, none⟩ = some (.bool false) := (blk_cell BK257.out 4).trans rfl; have hcz14_5 : w11.cell? ⟨gb257, 5, none⟩ = some (.bool false) := (blk_cell BK257.out 5).trans rfl; have hcz14_6 : w11.cell? ⟨gb257, 6, none⟩ = some (.int .i64 0) := (blk_cell BK257.out 6).trans rfl; have hfz14_0 := blk_frozen BK257.out 0; have hfz14_1 := blk_frozen BK257.out 1; have hfz14_2 := blk_frozen BK257.out 2; have hfz14_3 := blk_frozen BK257.out 3; have hfz14_4 := blk_frozen BK257.out 4; have hfz14_5 := blk_frozen BK257.out 5; have hfz14_6 := blk_frozen BK257.out 6))
 refine bodyPost_ret (results_cell_row rfl _ _ gb257 40 #[.int .i64 a0_0, .int .i64 t259, .int .i64 t260, .bool t261, .bool t262, .bool t263, .int .i64 a0_6] (0, 0) _ rfl (by (with_reducible repeat (first | apply k1 | apply k2 | apply k3)); refine blk_put (cs := #[.int .i64 a0_0, .int .i64 t259, .int .i64 t260, .bool t261, .bool t262, .bool t263, .int .i64 0]) ?_ 6 _ rfl; (with_reducible repeat (first | apply k1 | apply k2 | apply k3)); refine blk_put (cs := #[.int .i64 a0_0, .int .i64 t259, .int .i64 t260, .bool t261, .bool t262, .bool false, .int .i64 0]) ?_ 5 _ rfl; (with_reducible repeat (first | apply k1 | apply k2 | apply k3)); refine blk_put (cs := #[.int .i64 a0_0, .int .i64 t259, .int .i64 t260, .bool t261, .bool false, .bool false, .int .i64 0]) ?_ 4 _ rfl; (with_reducible repeat (first | apply k1 | apply k2 | apply k3)); refine blk_put (cs := #[.int .i64 a0_0, .int .i64 t259, .int .i64 t260, .bool false, .bool false, .bool false, .int .i64 0]) ?_ 3 _ rfl; (with_reducible repeat (first | apply k1 | apply k2 | apply k3)); refine blk_put (cs := #[.int .i64 a0_0, .int .i64 t259, .int .i64 0, .bool false, .bool false, .bool false, .int .i64 0]) ?_ 2 _ rfl; (with_reducible repeat (first | apply k1 | apply k2 | apply k3)); refine blk_put (cs := #[.int .i64 a0_0, .int .i64 0, .int .i64 0, .bool false, .bool false, .bool false, .int .i64 0]) ?_ 1 _ rfl; (with_reducible repeat (first | apply k1 | apply k2 | apply k3)); refine blk_put (cs := #[.int .i64 0, .int .i64 0, .int .i64 0, .bool false, .bool false, .bool false, .int .i64 0]) ?_ 0 _ rfl; (with_reducible repeat (first | apply k1 | apply k2 | apply k3)); refine blk_far ?_ NB257_258.out _; (with_reducible repeat (first | apply k1 | apply k2 | apply k3)); refine blk_far ?_ NB257_258.out _; (with_reducible repeat (first | apply k1 | apply k2 | apply k3)); refine blk_far ?_ NB257_258.out _; (with_reducible repeat (first | apply k1 | apply k2 | apply k3)); refine blk_far ?_ NB257_258.out _; (with_reducible repeat (first | apply k1 | apply k2 | apply k3)); refine blk_far ?_ NB257_258.out _; (with_reducible repeat (first | apply k1 | apply k2 | apply k3)); refine blk_far ?_ NB257_258.out _; (with_reducible repeat (first | apply k1 | apply k2 | apply k3)); exact BK257.out) Try.underlying40 rfl (by kernel_rfl)) rfl ?_
 exact ⟨by first | rfl | (simp [errW_none, errW_some] <;> rfl) | (simp [*, errW_none, errW_some] <;> rfl), by repeat (first | (with_reducible first | exact HB.out | apply b1 | apply b2 | apply b3 | refine below_set ?_ GE256.out | refine below_set ?_ GE257.out | refine below_set ?_ GE258.out) | exact HB.out)⟩

end Go.Proofs.Ytfhkpneffmcdbaa.QD
