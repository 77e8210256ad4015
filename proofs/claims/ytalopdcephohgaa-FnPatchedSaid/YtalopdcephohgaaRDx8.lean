/- Contracts of Go functions that laws of this seat reach: each Lean function answers as its Go function does. No condition. Written by wip/tools/inj.py, over the kit's print. -/
import Derived.Test.YtalopdcephohgaaRDx0
import Derived.Test.YtalopdcephohgaaRDx6
namespace Go.Proofs.Ytalopdcephohgaa.RD
open Go.RowKit Go.Proofs.YtalopdcephohgaaW.PrintWords Go.Proofs.YtalopdcephohgaaW.PrintLast Go.Proofs.YtalopdcephohgaaW.PrintMore
attribute [local go_sem] max2_int min2_int max_two min_two max_three min_three max_four min_four   -- for this text's walks alone
set_option linter.unusedVariables false
set_option linter.unusedSimpArgs false

/-! ### spec_l1Min: function 99 -/
def spec_l1Min.f (a0 : Int) (a1 : Int) : Option (Int) := if a0 < a1 then (some a0) else (some a1)
set_option maxHeartbeats 8000000 in
set_option maxRecDepth 100000 in
theorem spec_l1Min.calls (a0 : Int) (a1 : Int) (r : Int) (w : World) (h : spec_l1Min.f a0 a1 = some r) :
  Calls Try.prog 99 #[.int .i64 a0, .int .i64 a1] w fun e w' => e = .returned (.int .i64 r) ∧ Drawn0 w w' := by
 (
have H : (if a0 < a1 then (some a0) else (some a1)) = some r := h
clear h
by_cases c3 : a0 < a1
·(
rw [if_pos c3] at H
have a8 : decide (a0 < a1) = true := decide_eq_true c3
clear c3
obtain rfl := Option.some.inj H
go_enter Try.func99, Try.ntmps99
go_wp2
go_ret
exact ⟨sd, dw⟩
)
·(
rw [if_neg c3] at H
have a8 : decide (a0 < a1) = false := decide_eq_false c3
clear c3
obtain rfl := Option.some.inj H
go_enter Try.func99, Try.ntmps99
go_wp2
go_ret
exact ⟨sd, dw⟩
)
)

/-! ### spec_l4Row: function 100 -/
def spec_l4Row.l0 : Nat → Int → List (S98) → Int → Int → Int → Bool → Bool → Bool → Option ((List (S98)))
 | 0, _, _, _, _, _, _, _, _ => none
 | k + 1, x0, x5, x6, a9, aa, ac, ae, af => if x6 < x0 then ((spec_l4Blank.f a9 aa ac ae af).bind fun a8 => (if x5.length < 3518437208883 then (spec_l4Row.l0 k x0 (x5 ++ [(⟨a8.1, (⟨a8.2.1, a8.2.2.1, a8.2.2.2.1, a8.2.2.2.2.1, a8.2.2.2.2.2.1⟩ : S96), a8.2.2.2.2.2.2⟩ : S98)]) (wrap64 (x6 + 1)) a9 aa ac ae af) else (none))) else (some x5)
def spec_l4Row.f (k : Nat) (a0 : Int) (a8 : Int) (a9 : Int) (aa : Bool) (ac : Bool) (ae : Bool) : Option ((List (S98))) := spec_l4Row.l0 k a0 (([] : List (S98))) 0 a8 a9 aa ac ae
theorem spec_l4Row.mono_l : ∀ k, (∀ y0 y1 y2 y3 y4 y5 y6 y7, LeO (spec_l4Row.l0 k y0 y1 y2 y3 y4 y5 y6 y7) (spec_l4Row.l0 (k + 1) y0 y1 y2 y3 y4 y5 y6 y7))
 | 0 => fun _ _ _ _ _ _ _ _ r h => by simp [spec_l4Row.l0] at h
 | k + 1 => by
  have ih0 := spec_l4Row.mono_l k
  ·intro y0 y1 y2 y3 y4 y5 y6 y7
   unfold spec_l4Row.l0
   repeat' first
   | (with_reducible exact ih0 _ _ _ _ _ _ _ _)
   | (with_reducible exact LeO.refl _)
   | (with_reducible exact LeO.none _)
   | (with_reducible refine LeO.ite ?_ ?_)
   | (with_reducible refine LeO.bind ?_ (fun _ => ?_))
theorem spec_l4Row.mono : ∀ a0 a1 a2 a3 a4 a5 k, LeO (spec_l4Row.f k a0 a1 a2 a3 a4 a5) (spec_l4Row.f (k + 1) a0 a1 a2 a3 a4 a5) := by
 intro a0 a1 a2 a3 a4 a5 k
 have ih0 := spec_l4Row.mono_l k
 unfold spec_l4Row.f
 repeat' first
   | (with_reducible exact ih0 _ _ _ _ _ _ _ _)
   | (with_reducible exact LeO.refl _)
   | (with_reducible exact LeO.none _)
   | (with_reducible refine LeO.ite ?_ ?_)
   | (with_reducible refine LeO.bind ?_ (fun _ => ?_))
set_option maxHeartbeats 8000000 in
set_option maxRecDepth 100000 in
theorem spec_l4Row.calls (k : Nat) (a0 : Int) (a9 : Int) (aa : Int) (ac : Bool) (ae : Bool) (af : Bool) (r : List (S98)) (w : World) (h : spec_l4Row.f k a0 a9 aa ac ae af = some r) :
  Calls Try.prog 100 #[.int .i64 a0, .agg #[.int .i64 a9, .int .i64 aa, .bool ac, .bool ae, .bool af]] w fun e w' => ∃ v0_ : Value, e = .returned (v0_) ∧ Kd.R k98 98 w' w.heap.size (fun _ => True) v0_ r ∧ Below w.heap.size w w' := by
 (
have aR := Try.underlying96
have HB := am (Below.refl w.heap.size w)
have H : (spec_l4Row.l0 k a0 (([] : List (S98))) 0 a9 aa ac ae af) = some r := h
clear h
obtain ⟨aA, aj⟩ : ∃ y_ : List (S98), y_ = (([] : List (S98))) := ⟨_, rfl⟩
replace H : (spec_l4Row.l0 k a0 aA 0 a9 aa ac ae af) = some r := by first | (rw [aj]; with_reducible exact H) | (rw [aj]; exact H) | exact H
have az := am aj
clear aj
have H' := am H
clear H
go_enter Try.func100, Try.ntmps100
go_wp2_with (first | (refine bx 3 #[.int .i64 a9, .int .i64 aa, .bool ac, .bool ae, .bool af] 96 ?_; intro aI hg w3 hbox hb; have a8 := am (hbox); have aD := am (gw hg (rb HB)); have aQ := aD; replace HB := bs HB hb; clear hb hbox hg) | ((with_reducible refine gate_dst (N := 7) rfl ?_); refine Kd.R_lit k98 _ 98 ?hg (N := 7) ?hd (xs := ([] : List (S98))) (inner := []) (ok := fun _ => True) (okp := fun _ => True) ?hr ?hp (fun _ hk => hk) trivial (Below.refl _ _) (Nat.le_refl _) (by simp) ?_; (case hd => rfl); (case hg => rfl); (case hr => first | (go_simp; done) | (go_simp; rfl)); (case hp => exact (Reps.none _ _)); intro aU w4 ay hb hg_ hnew_; clear hg_ hnew_; (first | rw [← az.out] at ay | (simp only [Int.reduceToNat] at ay; rw [← az.out] at ay)); have aE := am (Kd.R_lower ay (below_size (rb HB))); replace a8 := kk a8 hb; replace HB := bs HB hb; clear hb ay))
go_loopg [5, 6] k (fun kq v5 v6 w' => ∃ (ai : List (S98)) (ag : Int), v6 = .int .i64 ag ∧ Aside0 (spec_l4Row.l0 kq a0 ai ag a9 aa ac ae af = some r) ∧ Aside0 (kq ≤ k) ∧ Aside0 (Kd.R k98 98 w' w.heap.size (fun _ => True) v5 ai) ∧ Aside0 (w'.heap[aI]? = some (.cells #[.int .i64 a9, .int .i64 aa, .bool ac, .bool ae, .bool af] 96 (0, 0))) ∧ Aside0 (Below w.heap.size w w'))
case atStart => exact ⟨(aA), (0), sd, H', ⟨Nat.le_refl _⟩, ⟨rr aE⟩, ⟨rk a8⟩, ⟨rb HB⟩⟩
case round => (
clear H'
obtain ⟨ai, ag, rfl, HA, aJ, ah, a8, HB⟩ := hrel
cases gk with
| zero => exact absurd HA.out (by simp [spec_l4Row.l0])
| succ k1 => (
have H := HA.out
clear HA
simp only [spec_l4Row.l0] at H
by_cases c6 : ag < a0
·(
rw [if_pos c6] at H
have aK : decide (ag < a0) = true := decide_eq_true c6
clear c6
obtain ⟨⟨al, ao, ap, aq, au, av, ax⟩, A7, H⟩ := bd H
(try dsimp only at H)
refine em_ (p := ai.length < 3518437208883) (fun c8 => ?aN) (fun c8 => ?aM)
case' aN => (
rw [if_pos c8] at H
have LMc8 := am c8
clear c8
obtain ⟨aC, ak⟩ : ∃ y_ : List (S98), y_ = (ai ++ [(⟨al, (⟨ao, ap, aq, au, av⟩ : S96), ax⟩ : S98)]) := ⟨_, rfl⟩
replace H : (spec_l4Row.l0 k1 a0 aC (wrap64 (ag + 1)) a9 aa ac ae af) = some r := by first | (rw [ak]; with_reducible exact H) | (rw [ak]; exact H) | exact H
have aH := am ak
clear ak
have H' := am H
clear H
have aT := trivial
)
case aM => (
rw [if_neg c8] at H
exact absurd H (by simp)
)
all_goals (
have aZ := z5 a8
go_wp2_with (first | ((with_reducible refine cg 121 rfl ?_); refine gl_ (some 15) Try.func121 #[.agg #[.int .i64 a9, .int .i64 aa, .bool ac, .bool ae, .bool af]] ?_; (with_reducible refine (spec_l4Blank.calls a9 aa ac ae af al ao ap aq au av ax _ A7.out).mono ?_); rintro e aX ⟨rfl, hb⟩; refine ⟨_, rfl, ?_⟩; replace ah := am (Kd.R_below (rr ah) hb); replace a8 := kk a8 hb; replace HB := bs HB hb; (try clear hb); (try clear aW); (try clear hk); (try clear hi)) | ((with_reducible refine gate_builtin (b := .append) (xs := #[.tmp 13, .tmp 16]) rfl ?_); at_builtin; refine Kd.R_append k98 (w0 := w) w.heap.size rfl (.tmp 13) (.tmp 16) 99 98 (.agg #[(.int .i64 0), (.int .i64 0), (.int .i64 0), (.bool false), (.bool false), (.bool false), (.int .i64 0)]) 40 rfl Try.underlying99 info98 rfl (by decide) (by omega) u5 ai (⟨al, (⟨ao, ap, aq, au, av⟩ : S96), ax⟩ : S98) [.int .i64 al, .int .i64 ao, .int .i64 ap, .bool aq, .bool au, .bool av, .int .i64 ax] (fun _ => True) (fun _ => False) rfl rfl ?aP (fun _ hk => hk.elim) ?aF ?aO ?aB ?aS ?aL ?_; (case aP => exact k98_mkM _ _ _ (⟨al, (⟨ao, ap, aq, au, av⟩ : S96), ax⟩ : S98)); (case aB => exact (rb HB)); (case aF => exact (fun _ _ => trivial)); (case aO => exact (rr ah)); (case aS => exact (below_size (rb HB))); (case aL => have := LMc8.out; omega); intro aV aY ho hb hg hat; rw [← aH.out] at ho; replace a8 := am (blk_grown (rk a8) hg (Kd.R_ne ah.out a8.out (by decide))); replace HB := am (hb); have aG := am (ho); clear ah; clear ho hb hg hat))
go_roundg k1
case measure => have := aJ.out; omega
case rel => exact ⟨(aC), (wrap64 (ag + 1)), sd, H', ⟨by have := aJ.out; omega⟩, ⟨rr aG⟩, ⟨rk a8⟩, ⟨rb HB⟩⟩
)
)
·(
rw [if_neg c6] at H
have aK : decide (ag < a0) = false := decide_eq_false c6
clear c6
obtain rfl := Option.some.inj H
go_wp2
go_ret
exact ⟨_, ew, qR_ ah, rb HB⟩
)
)
)
)

end Go.Proofs.Ytalopdcephohgaa.RD
