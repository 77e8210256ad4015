/- Contracts of Go functions that laws of this seat reach: each Lean function answers as its Go function does. No condition. Written by wip/tools/inj.py, over the kit's print. -/
import Derived.Test.YtalopdcephohgaaRDx0
import Derived.Test.YtalopdcephohgaaRDx3
import Derived.Test.YtalopdcephohgaaRDx5
import Derived.Test.YtalopdcephohgaaRDx9
namespace Go.Proofs.Ytalopdcephohgaa.RD
open Go.RowKit Go.Proofs.YtalopdcephohgaaW.PrintWords Go.Proofs.YtalopdcephohgaaW.PrintLast Go.Proofs.YtalopdcephohgaaW.PrintMore
attribute [local go_sem] max2_int min2_int max_two min_two max_three min_three max_four min_four   -- for this text's walks alone
set_option linter.unusedVariables false
set_option linter.unusedSimpArgs false

/-! ### spec_Resized: function 80 -/
def spec_Resized.f (k : Nat) (a9 : Int) (aa : List (List (S98))) (a1 : Int) (a2 : Int) : Option (Int × (List (List (S98)))) := (spec_GridOk.f k a9 aa).bind fun ac => (if ac = true then ((spec_l1In.f a1 1 60).bind fun ae => (if ae = true then ((spec_l1In.f a2 1 30).bind fun af => (if af = true then ((spec_l5Resized.f k a9 aa a1 a2).bind fun a8 => (some (a8.1, a8.2))) else (some (0, ([] : List (List (S98))))))) else (some (0, ([] : List (List (S98))))))) else (some (0, ([] : List (List (S98))))))
theorem spec_Resized.mono : ∀ a0 a1 a2 a3 k, LeO (spec_Resized.f k a0 a1 a2 a3) (spec_Resized.f (k + 1) a0 a1 a2 a3) := by
 intro a0 a1 a2 a3 k
 unfold spec_Resized.f
 repeat' first
   | (with_reducible exact spec_GridOk.mono _ _ _)
   | (with_reducible exact spec_l5Resized.mono _ _ _ _ _)
   | (with_reducible exact LeO.refl _)
   | (with_reducible exact LeO.none _)
   | (with_reducible refine LeO.ite ?_ ?_)
   | (with_reducible refine LeO.bind ?_ (fun _ => ?_))
set_option maxHeartbeats 8000000 in
set_option maxRecDepth 100000 in
theorem spec_Resized.calls (k : Nat) (ae : Int) (af : Option Addr) (ag : Nat) (ac : List (List (S98))) (a1 : Int) (a2 : Int) (r1 : Int) (r2 : List (List (S98))) (w : World) (av : Kd.C (Kd.slice 98 k98) w af ac.length ac) (au : ac.length ≤ ag) (h : spec_Resized.f k ae ac a1 a2 = some (r1, r2)) :
  Calls Try.prog 80 #[.agg #[.int .i64 ae, .slice af ac.length ag], .int .i64 a1, .int .i64 a2] w fun e w' => ∃ v1_ : Value, e = .returned (.agg #[.int .i64 r1, v1_]) ∧ Kd.S (Kd.slice 98 k98) 99 w' w.heap.size (fun _ => True) v1_ r2 ∧ Below w.heap.size w w' := by
 (
have aW := Try.underlying58
have al := am av
have ak := am au
clear av au
have HB := am (Below.refl w.heap.size w)
have H := h
unfold spec_Resized.f at H
clear h
obtain ⟨aK, A4, H⟩ := bd H
(try dsimp only at H)
refine em_ (p := aK = true) (fun c5 => ?aT) (fun c5 => ?aS)
case' aT => (
subst c5
rw [if_pos rfl] at H
obtain ⟨aL, A6, H⟩ := bd H
(try dsimp only at H)
refine em_ (p := aL = true) (fun c7 => ?aR) (fun c7 => ?aQ)
case' aR => (
subst c7
rw [if_pos rfl] at H
obtain ⟨aM, A8, H⟩ := bd H
(try dsimp only at H)
refine em_ (p := aM = true) (fun c9 => ?aP) (fun c9 => ?aO)
case' aP => (
subst c9
rw [if_pos rfl] at H
replace H := Option.bind_eq_some_iff.mp H
obtain ⟨⟨ao, ap⟩, ax, H⟩ := H
replace H : (some (ao, ap)) = some (r1, r2) := H
have aN := am ax
clear ax
simp only [Option.some.injEq, Prod.mk.injEq] at H
obtain ⟨rfl, rfl⟩ := H
have aG := trivial
)
case' aO => (
replace c9 := Bool.eq_false_iff.mpr c9
subst c9
rw [if_neg (show ¬ (false = true) by decide)] at H
simp only [Option.some.injEq, Prod.mk.injEq] at H
obtain ⟨rfl, rfl⟩ := H
have aH := trivial
)
)
case' aQ => (
replace c7 := Bool.eq_false_iff.mpr c7
subst c7
rw [if_neg (show ¬ (false = true) by decide)] at H
simp only [Option.some.injEq, Prod.mk.injEq] at H
obtain ⟨rfl, rfl⟩ := H
have aI := trivial
)
)
case' aS => (
replace c5 := Bool.eq_false_iff.mpr c5
subst c5
rw [if_neg (show ¬ (false = true) by decide)] at H
simp only [Option.some.injEq, Prod.mk.injEq] at H
obtain ⟨rfl, rfl⟩ := H
have aJ := trivial
)
all_goals (
go_enter Try.func80, Try.ntmps80
go_wp2_with (first | ((with_reducible refine cg 70 rfl ?_); refine gl_ (some 24) Try.func70 #[.agg #[.int .i64 ae, .slice af ac.length ag], .int .i64 a1, .int .i64 a2] ?_; (with_reducible refine (spec_l5Resized.calls k ae _ _ ac a1 a2 ao ap _ ?side1 ?side2 aN.out).mono ?_); (case side1 => exact rc ((Kd.C_below al.out HB.out))); (case side2 => exact ak.out); rintro e bb ⟨aY, rfl, aC, hb⟩; refine ⟨_, rfl, ?_⟩; have aq := am (Kd.S_lower aC (below_size (rb HB))); replace a9 := kk a9 hb; replace a8 := kk a8 hb; replace HB := bs HB hb; (try clear hb); (try clear aB); (try clear hk); (try clear hi); (try clear aC); have b5 := z2 a8; obtain ⟨aD, aE, aF⟩ := Kd.S_slice aq.out; subst aF) | (refine bx 6 #[.int .i64 0, .slice none 0 0] 58 ?_; intro ah hg ba hbox hb; have a8 := am (hbox); have az := am (gw hg (rb HB)); have aV := az; replace HB := bs HB hb; have ai := am (nl hg (rk a9)); have aA := ns ai; replace a9 := kk a9 hb; clear hb hbox hg; have aX := nN ai; have aZ := z2 a9) | ((with_reducible refine cg 69 rfl ?_); refine gl_ (some 8) Try.func69 #[.agg #[.int .i64 ae, .slice af ac.length ag]] ?_; (with_reducible refine (spec_GridOk.calls k ae _ _ ac false _ ?side1 ?side2 A4.out).mono ?_); (case side1 => exact rc ((Kd.C_below al.out HB.out))); (case side2 => exact ak.out); rintro e bc ⟨rfl, hb⟩; refine ⟨_, rfl, ?_⟩; replace a9 := kk a9 hb; replace a8 := kk a8 hb; replace HB := bs HB hb; (try clear hb); (try clear aB); (try clear hk); (try clear hi); have b8 := z2 a8) | (go_at_call 60; (with_reducible refine (spec_l1In.calls a2 1 30 true _ A8.out).mono ?_); rintro e w' ⟨rfl, ⟨nd, rfl⟩⟩; (try (rw [drewN_self aa]; generalize hq_ : World.drewN aa _ = aa; have n0_ : Aside0 (aa.heap[aj]? = some (.cells #[.int .i64 ae, .slice af ac.length ag] 58 (0, 0))) := ⟨by rw [← hq_]; exact (rk a9)⟩; have n1_ : Aside0 (aa.heap[ah]? = some (.cells #[.int .i64 0, .slice none 0 0] 58 (0, 0))) := ⟨by rw [← hq_]; exact (rk a8)⟩; have n2_ : Aside0 (Below w.heap.size w aa) := ⟨by rw [← hq_]; exact (rb HB)⟩; clear a9 a8 HB hq_; have a9 := n0_; have a8 := n1_; have HB := n2_; clear n0_ n1_ n2_)); have b4 := z2 a9) | (go_at_call 60; (with_reducible refine (spec_l1In.calls a2 1 30 false _ A8.out).mono ?_); rintro e w' ⟨rfl, ⟨nd, rfl⟩⟩; (try (rw [drewN_self aa]; generalize hq_ : World.drewN aa _ = aa; have n0_ : Aside0 (aa.heap[aj]? = some (.cells #[.int .i64 ae, .slice af ac.length ag] 58 (0, 0))) := ⟨by rw [← hq_]; exact (rk a9)⟩; have n1_ : Aside0 (aa.heap[ah]? = some (.cells #[.int .i64 0, .slice none 0 0] 58 (0, 0))) := ⟨by rw [← hq_]; exact (rk a8)⟩; have n2_ : Aside0 (Below w.heap.size w aa) := ⟨by rw [← hq_]; exact (rb HB)⟩; clear a9 a8 HB hq_; have a9 := n0_; have a8 := n1_; have HB := n2_; clear n0_ n1_ n2_)); have b6 := z2 a8) | (go_at_call 60; (with_reducible refine (spec_l1In.calls a1 1 60 false _ A6.out).mono ?_); rintro e w' ⟨rfl, ⟨nd, rfl⟩⟩; (try (rw [drewN_self aa]; generalize hq_ : World.drewN aa _ = aa; have n0_ : Aside0 (aa.heap[aj]? = some (.cells #[.int .i64 ae, .slice af ac.length ag] 58 (0, 0))) := ⟨by rw [← hq_]; exact (rk a9)⟩; have n1_ : Aside0 (aa.heap[ah]? = some (.cells #[.int .i64 0, .slice none 0 0] 58 (0, 0))) := ⟨by rw [← hq_]; exact (rk a8)⟩; have n2_ : Aside0 (Below w.heap.size w aa) := ⟨by rw [← hq_]; exact (rb HB)⟩; clear a9 a8 HB hq_; have a9 := n0_; have a8 := n1_; have HB := n2_; clear n0_ n1_ n2_)); have b7 := z2 a8) | ((with_reducible refine cg 69 rfl ?_); refine gl_ (some 8) Try.func69 #[.agg #[.int .i64 ae, .slice af ac.length ag]] ?_; (with_reducible refine (spec_GridOk.calls k ae _ _ ac true _ ?side1 ?side2 A4.out).mono ?_); (case side1 => exact rc ((Kd.C_below al.out HB.out))); (case side2 => exact ak.out); rintro e aa ⟨rfl, hb⟩; refine ⟨_, rfl, ?_⟩; replace a9 := kk a9 hb; replace a8 := kk a8 hb; replace HB := bs HB hb; (try clear hb); (try clear aB); (try clear hk); (try clear hi)) | (go_at_call 60; (with_reducible refine (spec_l1In.calls a1 1 60 true _ A6.out).mono ?_); rintro e w' ⟨rfl, ⟨nd, rfl⟩⟩; (try (rw [drewN_self aa]; generalize hq_ : World.drewN aa _ = aa; have n0_ : Aside0 (aa.heap[aj]? = some (.cells #[.int .i64 ae, .slice af ac.length ag] 58 (0, 0))) := ⟨by rw [← hq_]; exact (rk a9)⟩; have n1_ : Aside0 (aa.heap[ah]? = some (.cells #[.int .i64 0, .slice none 0 0] 58 (0, 0))) := ⟨by rw [← hq_]; exact (rk a8)⟩; have n2_ : Aside0 (Below w.heap.size w aa) := ⟨by rw [← hq_]; exact (rb HB)⟩; clear a9 a8 HB hq_; have a9 := n0_; have a8 := n1_; have HB := n2_; clear n0_ n1_ n2_))) | (refine bx 3 #[.int .i64 ae, .slice af ac.length ag] 58 ?_; intro aj hg b9 hbox hb; have a9 := am (hbox); have ay := am (gw hg (rb HB)); have aU := ay; replace HB := bs HB hb; clear hb hbox hg))
first
| (
have q_ := aG
refine bodyPost_ret (results_cell_row rfl _ _ ah 58 #[.int .i64 ao, .slice aD ap.length aE] (0, 0) _ rfl (rk a8) Try.underlying58 rfl (by kernel_rfl)) rfl ?_
exact ⟨_, ew, tS1 aq a8, rb HB⟩
)
| (
first | have q_ := aH | have q_ := aI | have q_ := aJ
refine bodyPost_ret (results_cell_row rfl _ _ ah 58 #[.int .i64 0, .slice none 0 0] (0, 0) _ rfl (rk a8) Try.underlying58 rfl (by kernel_rfl)) rfl ?_
exact ⟨_, ew, xn, rb HB⟩
)
)
)

end Go.Proofs.Ytalopdcephohgaa.RD

namespace Go.Proofs.Ytalopdcephohgaa.RD
open Go.RowKit Go.Proofs.YtalopdcephohgaaW.PrintWords Go.Proofs.YtalopdcephohgaaW.PrintLast Go.Proofs.YtalopdcephohgaaW.PrintMore
attribute [local go_sem] max2_int min2_int max_two min_two max_three min_three max_four min_four   -- for this text's walks alone
set_option linter.unusedVariables false
set_option linter.unusedSimpArgs false

/-! ### spec_Patched: function 40 -/
mutual
def spec_Patched.j0 : Nat → Bool → Int → Int → List (S101) → Int → List (List (S98)) → Option (Int × (List (List (S98))) × Bool)
 | 0, _, _, _, _, _, _ => none
 | k + 1, af, a8, a9, aa, ac, ae => if af = true then (some (0, ([] : List (List (S98))), false)) else (spec_Patched.l0 k 0 a8 a9 aa ac ae)
def spec_Patched.l0 : Nat → Int → Int → Int → List (S101) → Int → List (List (S98)) → Option (Int × (List (List (S98))) × Bool)
 | 0, _, _, _, _, _, _ => none
 | k + 1, x7, ac, ae, a8, a9, aa => if x7 < (a8.length : Int) then (if 0 ≤ x7 then (if (((rd_T101 a8 x7).f2).length : Int) < 1 then (spec_Patched.j2 k x7 (((rd_T101 a8 x7).f2).length : Int) true ac ae a8 a9 aa ((rd_T101 a8 x7).f0) ((rd_T101 a8 x7).f1) ((rd_T101 a8 x7).f2)) else ((spec_l1In.f ((rd_T101 a8 x7).f0) 0 (wrap64 (ae - 1))).bind fun ag => (if ag = true then ((spec_l1In.f ((rd_T101 a8 x7).f1) 0 (wrap64 (ac - (((rd_T101 a8 x7).f2).length : Int)))).bind fun ah => (spec_Patched.j2 k x7 (((rd_T101 a8 x7).f2).length : Int) (!ah) ac ae a8 a9 aa ((rd_T101 a8 x7).f0) ((rd_T101 a8 x7).f1) ((rd_T101 a8 x7).f2))) else (spec_Patched.j2 k x7 (((rd_T101 a8 x7).f2).length : Int) true ac ae a8 a9 aa ((rd_T101 a8 x7).f0) ((rd_T101 a8 x7).f1) ((rd_T101 a8 x7).f2))))) else (none)) else ((spec_GridOk.f k a9 aa).bind fun af => (if af = true then (some (a9, aa, true)) else (some (0, ([] : List (List (S98))), false))))
def spec_Patched.j2 : Nat → Int → Int → Bool → Int → Int → List (S101) → Int → List (List (S98)) → Int → Int → List (S98) → Option (Int × (List (List (S98))) × Bool)
 | 0, _, _, _, _, _, _, _, _, _, _, _ => none
 | k + 1, x7, x9, ai, a8, a9, aa, ac, ae, af, ag, ah => if ai = true then (some (0, ([] : List (List (S98))), false)) else (spec_Patched.l1 k x7 x9 0 a8 a9 aa ac ae af ag ah)
def spec_Patched.l1 : Nat → Int → Int → Int → Int → Int → List (S101) → Int → List (List (S98)) → Int → Int → List (S98) → Option (Int × (List (List (S98))) × Bool)
 | 0, _, _, _, _, _, _, _, _, _, _, _ => none
 | k + 1, x7, x9, aa, af, ag, ah, ai, ac, a9, ae, a8 => if aa < x9 then (if 0 ≤ a9 then (if a9 < (ac.length : Int) then (if 0 ≤ aa then (if aa < (a8.length : Int) then (if 0 ≤ (wrap64 (ae + aa)) then (if (wrap64 (ae + aa)) < ((rd_L5 ac a9).length : Int) then (spec_Patched.l1 k x7 x9 (wrap64 (aa + 1)) af ag ah ai (ac.set (a9 : Int).toNat ((rd_L5 ac a9).set ((wrap64 (ae + aa)) : Int).toNat (⟨(rd_T98 a8 aa).f0, (⟨(rd_T98 a8 aa).f1.f0, (rd_T98 a8 aa).f1.f1, (rd_T98 a8 aa).f1.f2, (rd_T98 a8 aa).f1.f3, (rd_T98 a8 aa).f1.f4⟩ : S96), (rd_T98 a8 aa).f2⟩ : S98))) a9 ae a8) else (none)) else (none)) else (none)) else (none)) else (none)) else (none)) else (spec_Patched.l0 k (wrap64 (x7 + 1)) af ag ah ai ac)
end
def spec_Patched.f (k : Nat) (ae : Int) (af : List (List (S98))) (a9 : Int) (aa : Int) (ac : List (S101)) : Option (Int × (List (List (S98))) × Bool) := (spec_Resized.f k ae af a9 aa).bind fun a8 => (if (a8.2.length : Int) = 0 then (spec_Patched.j0 k true a9 aa ac a8.1 a8.2) else (spec_Patched.j0 k (decide ((ac.length : Int) > 400)) a9 aa ac a8.1 a8.2))
theorem spec_Patched.mono_l : ∀ k, (∀ y0 y1 y2 y3 y4 y5, LeO (spec_Patched.j0 k y0 y1 y2 y3 y4 y5) (spec_Patched.j0 (k + 1) y0 y1 y2 y3 y4 y5)) ∧ (∀ y0 y1 y2 y3 y4 y5, LeO (spec_Patched.l0 k y0 y1 y2 y3 y4 y5) (spec_Patched.l0 (k + 1) y0 y1 y2 y3 y4 y5)) ∧ (∀ y0 y1 y2 y3 y4 y5 y6 y7 y8 y9 y10, LeO (spec_Patched.j2 k y0 y1 y2 y3 y4 y5 y6 y7 y8 y9 y10) (spec_Patched.j2 (k + 1) y0 y1 y2 y3 y4 y5 y6 y7 y8 y9 y10)) ∧ (∀ y0 y1 y2 y3 y4 y5 y6 y7 y8 y9 y10, LeO (spec_Patched.l1 k y0 y1 y2 y3 y4 y5 y6 y7 y8 y9 y10) (spec_Patched.l1 (k + 1) y0 y1 y2 y3 y4 y5 y6 y7 y8 y9 y10))
 | 0 => ⟨fun _ _ _ _ _ _ r h => by simp [spec_Patched.j0] at h, fun _ _ _ _ _ _ r h => by simp [spec_Patched.l0] at h, fun _ _ _ _ _ _ _ _ _ _ _ r h => by simp [spec_Patched.j2] at h, fun _ _ _ _ _ _ _ _ _ _ _ r h => by simp [spec_Patched.l1] at h⟩
 | k + 1 => by
  obtain ⟨ih0, ih1, ih2, ih3⟩ := spec_Patched.mono_l k
  refine ⟨?_, ?_, ?_, ?_⟩
  ·intro y0 y1 y2 y3 y4 y5
   unfold spec_Patched.j0
   repeat' first
   | (with_reducible exact ih0 _ _ _ _ _ _)
   | (with_reducible exact ih1 _ _ _ _ _ _)
   | (with_reducible exact ih2 _ _ _ _ _ _ _ _ _ _ _)
   | (with_reducible exact ih3 _ _ _ _ _ _ _ _ _ _ _)
   | (with_reducible exact spec_GridOk.mono _ _ _)
   | (with_reducible exact spec_Resized.mono _ _ _ _ _)
   | (with_reducible exact LeO.refl _)
   | (with_reducible exact LeO.none _)
   | (with_reducible refine LeO.ite ?_ ?_)
   | (with_reducible refine LeO.bind ?_ (fun _ => ?_))
  ·intro y0 y1 y2 y3 y4 y5
   unfold spec_Patched.l0
   repeat' first
   | (with_reducible exact ih0 _ _ _ _ _ _)
   | (with_reducible exact ih1 _ _ _ _ _ _)
   | (with_reducible exact ih2 _ _ _ _ _ _ _ _ _ _ _)
   | (with_reducible exact ih3 _ _ _ _ _ _ _ _ _ _ _)
   | (with_reducible exact spec_GridOk.mono _ _ _)
   | (with_reducible exact spec_Resized.mono _ _ _ _ _)
   | (with_reducible exact LeO.refl _)
   | (with_reducible exact LeO.none _)
   | (with_reducible refine LeO.ite ?_ ?_)
   | (with_reducible refine LeO.bind ?_ (fun _ => ?_))
  ·intro y0 y1 y2 y3 y4 y5 y6 y7 y8 y9 y10
   unfold spec_Patched.j2
   repeat' first
   | (with_reducible exact ih0 _ _ _ _ _ _)
   | (with_reducible exact ih1 _ _ _ _ _ _)
   | (with_reducible exact ih2 _ _ _ _ _ _ _ _ _ _ _)
   | (with_reducible exact ih3 _ _ _ _ _ _ _ _ _ _ _)
   | (with_reducible exact spec_GridOk.mono _ _ _)
   | (with_reducible exact spec_Resized.mono _ _ _ _ _)
   | (with_reducible exact LeO.refl _)
   | (with_reducible exact LeO.none _)
   | (with_reducible refine LeO.ite ?_ ?_)
   | (with_reducible refine LeO.bind ?_ (fun _ => ?_))
  ·intro y0 y1 y2 y3 y4 y5 y6 y7 y8 y9 y10
   unfold spec_Patched.l1
   repeat' first
   | (with_reducible exact ih0 _ _ _ _ _ _)
   | (with_reducible exact ih1 _ _ _ _ _ _)
   | (with_reducible exact ih2 _ _ _ _ _ _ _ _ _ _ _)
   | (with_reducible exact ih3 _ _ _ _ _ _ _ _ _ _ _)
   | (with_reducible exact spec_GridOk.mono _ _ _)
   | (with_reducible exact spec_Resized.mono _ _ _ _ _)
   | (with_reducible exact LeO.refl _)
   | (with_reducible exact LeO.none _)
   | (with_reducible refine LeO.ite ?_ ?_)
   | (with_reducible refine LeO.bind ?_ (fun _ => ?_))
theorem spec_Patched.mono : ∀ a0 a1 a2 a3 a4 k, LeO (spec_Patched.f k a0 a1 a2 a3 a4) (spec_Patched.f (k + 1) a0 a1 a2 a3 a4) := by
 intro a0 a1 a2 a3 a4 k
 obtain ⟨ih0, ih1, ih2, ih3⟩ := spec_Patched.mono_l k
 unfold spec_Patched.f
 repeat' first
   | (with_reducible exact ih0 _ _ _ _ _ _)
   | (with_reducible exact ih1 _ _ _ _ _ _)
   | (with_reducible exact ih2 _ _ _ _ _ _ _ _ _ _ _)
   | (with_reducible exact ih3 _ _ _ _ _ _ _ _ _ _ _)
   | (with_reducible exact spec_GridOk.mono _ _ _)
   | (with_reducible exact spec_Resized.mono _ _ _ _ _)
   | (with_reducible exact LeO.refl _)
   | (with_reducible exact LeO.none _)
   | (with_reducible refine LeO.ite ?_ ?_)
   | (with_reducible refine LeO.bind ?_ (fun _ => ?_))
def spec_Patched.T14 : Bool × List (List Nat × List Nat) := (true, [([], []), ([0], [0]), ([], []), ([2], [2]), ([1, 3], [1, 3]), ([4], [4]), ([], []), ([6], [6]), ([], []), ([7, 8], [7, 8]), ([], []), ([10], [10]), ([], []), ([11, 12], [11, 12]), ([13], [13]), ([5, 9, 0, 1, 2, 3, 4, 5, 6, 7, 8, 9, 10, 11, 12, 13, 14], [5, 9]), ([15, 14, 0, 1, 2, 3, 4, 5, 6, 7, 8, 9, 10, 11, 12, 13, 14], [14, 15])])
def spec_Patched.B14 : List Nat := [0, 1, 0, 4, 15, 31, 0, 64, 0, 448, 0, 1024, 0, 7168, 15360, 32767, 65535]
theorem spec_Patched.tab14 : rtab .any (opsOf Try.f40 14) = spec_Patched.T14 := by kernel_rfl
theorem spec_Patched.bits14 : waitsOk spec_Patched.T14.2 spec_Patched.B14 = true := by kernel_rfl
set_option maxHeartbeats 8000000 in
set_option maxRecDepth 100000 in
theorem spec_Patched.calls (k : Nat) (aM : Int) (aN : Option Addr) (aQ : Nat) (aC : List (List (S98))) (av : Int) (aq : Int) (bH : Option Addr) (bb : Nat) (a8 : List (S101)) (r1 : Int) (r2 : List (List (S98))) (r3 : Bool) (w : World) (cQ : Kd.C (Kd.slice 98 k98) w aN aC.length aC) (cO : aC.length ≤ aQ) (cR : Kd.C k101 w bH a8.length a8) (cP : a8.length ≤ bb) (h : spec_Patched.f k aM aC av aq a8 = some (r1, r2, r3)) :
  Calls Try.prog 40 #[.agg #[.int .i64 aM, .slice aN aC.length aQ], .agg #[.int .i64 av, .int .i64 aq, .slice bH a8.length bb]] w fun e w' => ∃ v1_ : Value, e = .returned (.tuple #[.agg #[.int .i64 r1, v1_], .bool r3]) ∧ Kd.S (Kd.slice 98 k98) 99 w' w.heap.size (fun _ => True) v1_ r2 ∧ Below w.heap.size w w' := by
 (
have fi := Try.underlying58
have fh := Try.underlying53
have f5 := Try.underlying101
have fj := Try.underlying98
have dF := am cQ
have dE := am cO
clear cQ cO
have dG := am cR
have eQ := am cP
clear cR cP
have HB := am (Below.refl w.heap.size w)
have H := h
unfold spec_Patched.f at H
clear h
obtain ⟨⟨ap, aA⟩, A3, H⟩ := bd H
(try dsimp only at H)
have d3 := am H
clear H
go_enter Try.func40, Try.ntmps40
go_upto_region 2 with (first | ((with_reducible refine gate_dst (N := 2) rfl ?_); (try (refine gate_guard (by rfl) ?_; dsimp only)); refine bx 2 #[.int .i64 aM, .slice aN aC.length aQ] 58 ?_; intro bB hg w5 hbox hb; have ah := am (hbox); have dz := am (gw hg (rb HB)); have eL := dz; replace HB := bs HB hb; clear hb hbox hg) | ((with_reducible refine gate_dst (N := 3) rfl ?_); (try (refine gate_guard (by rfl) ?_; dsimp only)); refine bx 3 #[.int .i64 av, .int .i64 aq, .slice bH a8.length bb] 53 ?_; intro bC hg w6 hbox hb; have ag := am (hbox); have dA := am (gw hg (rb HB)); have eM := dA; replace HB := bs HB hb; have bo := am (nl hg (rk ah)); have aD := ns bo; replace ah := kk ah hb; clear hb hbox hg) | ((with_reducible refine gate_dst (N := 4) rfl ?_); (try (refine gate_guard (by rfl) ?_; dsimp only)); refine bx 4 #[.int .i64 0, .slice none 0 0] 58 ?_; intro aI hg w7 hbox hb; have af := am (hbox); have dB := am (gw hg (rb HB)); have eN := dB; replace HB := bs HB hb; have bp := am (nl hg (rk ah)); have aF := ns bp; replace ah := kk ah hb; have az := am (nl hg (rk ag)); have bq := ns az; replace ag := kk ag hb; clear hb hbox hg; have gn := nN bo; have gp := nN bp; have aS := z2 ah; have fl := nN az; have aT := z3 ag) | ((with_reducible refine cg 80 rfl ?_); refine gl_ (some 16) Try.func80 #[.agg #[.int .i64 aM, .slice aN aC.length aQ], .int .i64 av, .int .i64 aq] ?_; (with_reducible refine (spec_Resized.calls k aM _ _ aC av aq ap aA _ ?side1 ?side2 A3.out).mono ?_); (case side1 => exact rc ((Kd.C_below dF.out HB.out))); (case side2 => exact dE.out); rintro e gq ⟨g8, rfl, dU, hb⟩; refine ⟨_, rfl, ?_⟩; have bc := am (Kd.S_lower dU (below_size (rb HB))); replace ah := kk ah hb; replace ag := kk ag hb; replace af := kk af hb; replace HB := bs HB hb; (try clear hb); (try clear dS); (try clear hk); (try clear hi); (try clear dU)) | ((with_reducible refine gate_dst (N := 6) rfl ?_); (try (refine gate_guard (by rfl) ?_; dsimp only)); refine bx 6 #[.int .i64 0, .slice none 0 0] 58 ?_; intro aV hg gr hbox hb; replace bc := am (Kd.S_below (rs bc) hb); have ai := am (hbox); have dC := am (gw hg (rb HB)); have eO := dC; replace HB := bs HB hb; have cn := am (nl hg (rk ah)); have aG := ns cn; replace ah := kk ah hb; have aE := am (nl hg (rk ag)); have aP := ns aE; replace ag := kk ag hb; have aO := am (nl hg (rk af)); have aH := ns aO; replace af := kk af hb; clear hb hbox hg; have fm := nN aG; have fo := nN aP; have fp := nN aH; have aU := z2 ai; obtain ⟨cE, cH, e8⟩ := Kd.S_slice bc.out; subst e8))
(try simp only [Act.put, List.setIfInBounds_toArray, List.set_cons_zero, List.set_cons_succ])
go_cut [26] (fun eJ wc => ∃ (kq : Nat) (bG : Bool), eJ = .bool bG ∧ Aside0 (spec_Patched.j0 kq bG av aq a8 ap aA = some (r1, r2, r3)) ∧ Aside0 (kq ≤ k) ∧ Aside0 (Kd.S (Kd.slice 98 k98) 99 wc w.heap.size (fun _ => True) (.slice cE aA.length cH) aA) ∧ Aside0 (wc.heap[bB]? = some (.cells #[.int .i64 aM, (.slice aN aC.length aQ)] 58 (0, 0))) ∧ Aside0 (wc.heap[bC]? = some (.cells #[.int .i64 av, .int .i64 aq, (.slice bH a8.length bb)] 53 (0, 0))) ∧ Aside0 (wc.heap[aI]? = some (.cells #[.int .i64 0, (.slice none 0 0)] 58 (0, 0))) ∧ Aside0 (wc.heap[aV]? = some (.cells #[.int .i64 ap, (.slice cE aA.length cH)] 58 (0, 0))) ∧ Aside0 (Below w.heap.size w wc))
case first => (
have H := d3.out
clear d3
by_cases bz : (aA.length : Int) = 0
·(
rw [if_pos bz] at H
have bf : ((aA.length : Int) == 0) = true := beq_iff_eq.mpr bz
have ca : ((aA.length : Int) != 0) = false := bne_eq_false_iff_eq.mpr bz
clear bz
(first | rw [bf] | rw [ca] | (simp only [i64_w, i32_w]; rw [bf]) | skip)
have H' := am H
clear H
have fq := nN aG
have ft := nN aP
have fu := nN aH
have gb := z2 ai
go_wp2
go_meet
case rel => exact ⟨_, (true), sd, H', ⟨by first | omega | exact Nat.le_refl _⟩, ⟨tS1 bc ai⟩, ⟨rk ah⟩, ⟨rk ag⟩, ⟨rk af⟩, ⟨rk ai⟩, ⟨rb HB⟩⟩
)
·(
rw [if_neg bz] at H
have bf : ((aA.length : Int) == 0) = false := beq_eq_false_iff_ne.mpr bz
have ca : ((aA.length : Int) != 0) = true := bne_iff_ne.mpr bz
have eR : ¬ (aA = []) := fun h_ => bz (by rw [h_]; rfl)
(first | rw [bf] | rw [ca] | (simp only [i64_w, i32_w]; rw [bf]) | skip)
have H' := am H
clear H
have fv := nN aG
have fw := nN aP
have fx := nN aH
have gc := z2 ai
have fy := nN aD
have fz := nN az
have gf := z3 ag
go_wp2
go_meet
case rel => exact ⟨_, (decide ((a8.length : Int) > 400)), sd, H', ⟨by first | omega | exact Nat.le_refl _⟩, ⟨tS1 bc ai⟩, ⟨rk ah⟩, ⟨rk ag⟩, ⟨rk af⟩, ⟨rk ai⟩, ⟨rb HB⟩⟩
)
)
case rest => (
clear d3
try clear aS
try clear aT
try clear aU
try clear aS
try clear aT
try clear aU
obtain ⟨kq, bG, rfl, HA, bI, ae, ah, ag, af, ai, HB⟩ := hcut
cases kq with
| zero => exact absurd HA.out (by simp [spec_Patched.j0])
| succ dV => (
have H := HA.out
clear HA
simp only [spec_Patched.j0] at H
by_cases bK : bG = true
·(
subst bK
have H1 : (some (0, ([] : List (List (S98))), false)) = some (r1, r2, r3) := by rw [if_pos rfl] at H; exact H
clear H
have H := H1
clear H1
simp only [Option.some.injEq, Prod.mk.injEq] at H
obtain ⟨rfl, rfl, rfl⟩ := H
have fA := nN aF
have fB := nN bq
have fC := nN aO
have gg := z2 af
go_wp2
refine bodyPost_ret (results_ct rfl _ _ aI 58 #[.int .i64 0, .slice none 0 0] (0, 0) _ rfl (rk af) Try.underlying58 rfl (by kernel_rfl)) rfl ?_
exact ⟨_, ew, xn, rb HB⟩
)
·(
replace bK := Bool.eq_false_iff.mpr bK
subst bK
rw [if_neg (show ¬ (false = true) by decide)] at H
have H' := am H
clear H
go_wp2
go_loopg [7] dV (fun kq v7 w' => ∃ (a9 : Int) (aB : Int) (ak : List (List (S98))) (ao : Value), v7 = .int .i64 a9 ∧ Aside0 (spec_Patched.l0 kq a9 av aq a8 ap ak = some (r1, r2, r3)) ∧ Aside0 (kq ≤ dV) ∧ Aside0 (Kd.S (Kd.slice 98 k98) 99 w' w.heap.size (fun _ => True) ao ak) ∧ Aside0 (w'.heap[bB]? = some (.cells #[.int .i64 aM, (.slice aN aC.length aQ)] 58 (0, 0))) ∧ Aside0 (w'.heap[bC]? = some (.cells #[.int .i64 av, .int .i64 aq, (.slice bH a8.length bb)] 53 (0, 0))) ∧ Aside0 (w'.heap[aI]? = some (.cells #[.int .i64 aB, (.slice none 0 0)] 58 (0, 0))) ∧ Aside0 (w'.heap[aV]? = some (.cells #[.int .i64 ap, ao] 58 (0, 0))) ∧ Aside0 (Below w.heap.size w w'))
case atStart => exact ⟨(0), (0), (aA), (.slice cE aA.length cH), sd, H', ⟨Nat.le_refl _⟩, ⟨rs ae⟩, ⟨rk ah⟩, ⟨rk ag⟩, ⟨rk af⟩, ⟨rk ai⟩, ⟨rb HB⟩⟩
case round => (
clear H'
try clear bK
try clear aS
try clear aT
try clear aU
try clear aS
try clear aT
try clear aU
obtain ⟨a9, aB, ak, ao, rfl, HA, bJ, ae, ah, ag, af, ai, HB⟩ := hrel
cases gk with
| zero => exact absurd HA.out (by simp [spec_Patched.l0])
| succ k2 => (
have H := HA.out
clear HA
simp only [spec_Patched.l0] at H
by_cases bA : a9 < (a8.length : Int)
·(
rw [if_pos bA] at H
have cb : decide (a9 < (a8.length : Int)) = true := decide_eq_true bA
clear bA
refine em_ (p := 0 ≤ a9) (fun bL => ?eo) (fun bL => ?el)
case' eo => (
rw [if_pos bL] at H
have eS : decide (0 ≤ a9) = true := decide_eq_true bL
clear bL
have cF := am H
clear H
have fk := trivial
)
case el => (
rw [if_neg bL] at H
exact absurd H (by simp)
)
all_goals (
have fD := nN aD
have fE := nN az
have fF := nN aE
have ck := z3 ag
have bN : 0 ≤ (a9 : Int) := dt_
have bO : a9 < (a8.length : Int) := dt_
obtain ⟨cM, cm, bM, dX, aW, aX, aY, bU, bS⟩ := at_T101 dG.out a9 bN bO
cases dX
replace aW := mv HB.out aW
replace aX := mv HB.out aX
replace aY := mv HB.out aY
have cS := am bS
have eh := am bU
clear bS bU
replace bN := eq_true bN
replace bO := eq_true bO
go_upto_region 9 with (first | ((with_reducible refine gate_dst (N := 8) rfl ?_); (try (refine gate_guard (by rfl) ?_; dsimp only)); refine bx 8 #[.int .i64 0, .int .i64 0, .slice none 0 0] 101 ?_; intro bh hg gu hbox hb; replace ae := am (Kd.S_below (rs ae) hb); have al := am (hbox); have dD := am (gw hg (rb HB)); have eP := dD; replace HB := bs HB hb; have co := am (nl hg (rk ah)); have bt := ns co; replace ah := kk ah hb; have cp := am (nl hg (rk ag)); have bu := ns cp; replace ag := kk ag hb; have br := am (nl hg (rk af)); have bv := ns br; replace af := kk af hb; have cq := am (nl hg (rk ai)); have bw := ns cq; replace ai := kk ai hb; clear hb hbox hg; have fG := nN bt; have fH := nN bu; have fI := nN bv; have fJ := nN bw; have cl := z3 al))
(try simp only [Act.put, List.setIfInBounds_toArray, List.set_cons_zero, List.set_cons_succ])
go_cut [63] (fun eK wc => ∃ (kq : Nat) (bj : Bool), eK = .bool bj ∧ Aside0 (spec_Patched.j2 kq a9 (((rd_T101 a8 a9).f2).length : Int) bj av aq a8 ap ak ((rd_T101 a8 a9).f0) ((rd_T101 a8 a9).f1) ((rd_T101 a8 a9).f2) = some (r1, r2, r3)) ∧ Aside0 (kq ≤ k2) ∧ Aside0 (Kd.S (Kd.slice 98 k98) 99 wc w.heap.size (fun _ => True) ao ak) ∧ Aside0 (wc.heap[bB]? = some (.cells #[.int .i64 aM, (.slice aN aC.length aQ)] 58 (0, 0))) ∧ Aside0 (wc.heap[bC]? = some (.cells #[.int .i64 av, .int .i64 aq, (.slice (some cM) a8.length bb)] 53 (0, 0))) ∧ Aside0 (wc.heap[aI]? = some (.cells #[.int .i64 aB, (.slice none 0 0)] 58 (0, 0))) ∧ Aside0 (wc.heap[aV]? = some (.cells #[.int .i64 ap, ao] 58 (0, 0))) ∧ Aside0 (wc.heap[bh]? = some (.cells #[.int .i64 ((rd_T101 a8 a9).f0), .int .i64 ((rd_T101 a8 a9).f1), (.slice cm ((rd_T101 a8 a9).f2).length bM)] 101 (0, 0))) ∧ Aside0 (Below w.heap.size w wc))
case first => (
have H := cF.out
clear cF
by_cases bQ : (((rd_T101 a8 a9).f2).length : Int) < 1
·(
rw [if_pos bQ] at H
have bg : decide ((((rd_T101 a8 a9).f2).length : Int) < 1) = true := decide_eq_true bQ
have dJ : decide (((rd_T101 a8 a9).f2).length < 1) = true := decide_eq_true (by omega)
clear bQ
(first | rw [bg] | (simp only [i64_w, i32_w]; rw [bg]) | skip)
have H' := am H
clear H
go_wp2
go_meet
case rel => exact ⟨_, (true), sd, H', ⟨by have := bI.out; have := bJ.out; first | omega | exact Nat.le_refl _⟩, ⟨tS1 ae al⟩, ⟨rk ah⟩, ⟨rk ag⟩, ⟨rk af⟩, ⟨rk ai⟩, ⟨rk al⟩, ⟨rb HB⟩⟩
)
·(
rw [if_neg bQ] at H
have bg : decide ((((rd_T101 a8 a9).f2).length : Int) < 1) = false := decide_eq_false bQ
have dJ : decide (((rd_T101 a8 a9).f2).length < 1) = false := decide_eq_false (by omega)
clear bQ
(first | rw [bg] | (simp only [i64_w, i32_w]; rw [bg]) | skip)
obtain ⟨eg, dQ, H⟩ := bd H
(try dsimp only at H)
refine em_ (p := eg = true) (fun ct => ?eu) (fun ct => ?es)
case' eu => (
subst ct
rw [if_pos rfl] at H
obtain ⟨dx, ek, H⟩ := bd H
(try dsimp only at H)
have H' := am H
clear H
have ee := trivial
)
case' es => (
replace ct := Bool.eq_false_iff.mpr ct
subst ct
rw [if_neg (show ¬ (false = true) by decide)] at H
have H' := am H
clear H
have dP := trivial
)
all_goals (
have fK := nN bt
have fL := nN bu
have fM := nN bv
have fN := nN bw
have gh := z3 al
have fO := nN aD
have fP := nN az
have fQ := nN aE
have gi := z3 ag
go_wp2_with (first | (go_at_call 60; (with_reducible refine (spec_l1In.calls ((rd_T101 a8 a9).f1) 0 (wrap64 (av - (((rd_T101 a8 a9).f2).length : Int))) dx _ ek.out).mono ?_); rintro e w' ⟨rfl, ⟨nd, rfl⟩⟩) | (go_at_call 60; (with_reducible refine (spec_l1In.calls ((rd_T101 a8 a9).f0) 0 (wrap64 (aq - 1)) false _ dQ.out).mono ?_); rintro e w' ⟨rfl, ⟨nd, rfl⟩⟩) | (go_at_call 60; (with_reducible refine (spec_l1In.calls ((rd_T101 a8 a9).f0) 0 (wrap64 (aq - 1)) true _ dQ.out).mono ?_); rintro e w' ⟨rfl, ⟨nd, rfl⟩⟩))
go_meet
first
| (
have q_ := ee
case rel => exact ⟨_, (!dx), sd, H', ⟨by have := bI.out; have := bJ.out; first | omega | exact Nat.le_refl _⟩, ⟨tS1 ae al⟩, ⟨rk ah⟩, ⟨rk ag⟩, ⟨rk af⟩, ⟨rk ai⟩, ⟨rk al⟩, ⟨rb HB⟩⟩
)
| (
have q_ := dP
case rel => exact ⟨_, (true), sd, H', ⟨by have := bI.out; have := bJ.out; first | omega | exact Nat.le_refl _⟩, ⟨tS1 ae al⟩, ⟨rk ah⟩, ⟨rk ag⟩, ⟨rk af⟩, ⟨rk ai⟩, ⟨rk al⟩, ⟨rb HB⟩⟩
)
)
)
)
case rest => (
clear cF
try clear bK
try clear bA
try clear cb
try clear bL
try clear aS
try clear aT
try clear aU
try clear ck
try clear cl
try clear aS
try clear aT
try clear aU
try clear ck
try clear cl
try clear aW
try clear aX
try clear aY
try clear bN
try clear bO
obtain ⟨kq, bj, rfl, HA, bX, ae, ah, ag, af, ai, al, HB⟩ := hcut
cases kq with
| zero => exact absurd HA.out (by simp [spec_Patched.j2])
| succ dt => (
have H := HA.out
clear HA
simp only [spec_Patched.j2] at H
by_cases cu : bj = true
·(
subst cu
have H1 : (some (0, ([] : List (List (S98))), false)) = some (r1, r2, r3) := by rw [if_pos rfl] at H; exact H
clear H
have H := H1
clear H1
simp only [Option.some.injEq, Prod.mk.injEq] at H
obtain ⟨rfl, rfl, rfl⟩ := H
have fR := nN aF
have fS := nN bq
have fT := nN aO
have fU := nN br
have gj := z2 af
go_wp2
refine bodyPost_ret (results_ct rfl _ _ aI 58 #[.int .i64 0, .slice none 0 0] (0, 0) _ rfl (rk af) Try.underlying58 rfl (by kernel_rfl)) rfl ?_
exact ⟨_, ew, xn, rb HB⟩
)
·(
replace cu := Bool.eq_false_iff.mpr cu
subst cu
rw [if_neg (show ¬ (false = true) by decide)] at H
have H' := am H
clear H
go_wp2
go_loopg [10] dt (fun kq eI w' => ∃ (aa : Int) (ac : List (List (S98))) (ao : Value), eI = .int .i64 aa ∧ Aside0 (spec_Patched.l1 kq a9 (((rd_T101 a8 a9).f2).length : Int) aa av aq a8 ap ac ((rd_T101 a8 a9).f0) ((rd_T101 a8 a9).f1) ((rd_T101 a8 a9).f2) = some (r1, r2, r3)) ∧ Aside0 (kq ≤ dt) ∧ Aside0 (Kd.S (Kd.slice 98 k98) 99 w' w.heap.size (fun _ => True) ao ac) ∧ Aside0 (w'.heap[bB]? = some (.cells #[.int .i64 aM, (.slice aN aC.length aQ)] 58 (0, 0))) ∧ Aside0 (w'.heap[bC]? = some (.cells #[.int .i64 av, .int .i64 aq, (.slice (some cM) a8.length bb)] 53 (0, 0))) ∧ Aside0 (w'.heap[aI]? = some (.cells #[.int .i64 aB, (.slice none 0 0)] 58 (0, 0))) ∧ Aside0 (w'.heap[aV]? = some (.cells #[.int .i64 ap, ao] 58 (0, 0))) ∧ Aside0 (w'.heap[bh]? = some (.cells #[.int .i64 ((rd_T101 a8 a9).f0), .int .i64 ((rd_T101 a8 a9).f1), (.slice cm ((rd_T101 a8 a9).f2).length bM)] 101 (0, 0))) ∧ Aside0 (Below w.heap.size w w'))
case atStart => exact ⟨(0), (ak), (ao), sd, H', ⟨Nat.le_refl _⟩, ⟨rs ae⟩, ⟨rk ah⟩, ⟨rk ag⟩, ⟨rk af⟩, ⟨rk ai⟩, ⟨rk al⟩, ⟨rb HB⟩⟩
case round => (
clear H'
try clear bK
try clear bA
try clear cb
try clear bL
try clear cu
try clear aS
try clear aT
try clear aU
try clear ck
try clear cl
try clear aS
try clear aT
try clear aU
try clear ck
try clear cl
try clear aW
try clear aX
try clear aY
try clear bN
try clear bO
obtain ⟨aa, ac, ao, rfl, HA, cL, ae, ah, ag, af, ai, al, HB⟩ := hrel
cases gk with
| zero => exact absurd HA.out (by simp [spec_Patched.l1])
| succ k4 => (
have H := HA.out
clear HA
simp only [spec_Patched.l1] at H
by_cases bR : aa < (((rd_T101 a8 a9).f2).length : Int)
·(
rw [if_pos bR] at H
have dK : decide (aa < (((rd_T101 a8 a9).f2).length : Int)) = true := decide_eq_true bR
clear bR
refine em_ (p := 0 ≤ ((rd_T101 a8 a9).f0)) (fun cv => ?eH) (fun cv => ?eG)
case' eH => (
rw [if_pos cv] at H
have eT : decide (0 ≤ ((rd_T101 a8 a9).f0)) = true := decide_eq_true cv
clear cv
refine em_ (p := ((rd_T101 a8 a9).f0) < (ac.length : Int)) (fun cw => ?eF) (fun cw => ?eE)
case' eF => (
rw [if_pos cw] at H
have eU : decide (((rd_T101 a8 a9).f0) < (ac.length : Int)) = true := decide_eq_true cw
clear cw
refine em_ (p := 0 ≤ aa) (fun cy => ?eD) (fun cy => ?eC)
case' eD => (
rw [if_pos cy] at H
have eV : decide (0 ≤ aa) = true := decide_eq_true cy
clear cy
refine em_ (p := aa < (((rd_T101 a8 a9).f2).length : Int)) (fun cz => ?eB) (fun cz => ?eA)
case' eB => (
rw [if_pos cz] at H
have eW : decide (aa < (((rd_T101 a8 a9).f2).length : Int)) = true := decide_eq_true cz
clear cz
obtain ⟨aj, ce⟩ : ∃ j_ : Int, (wrap64 (((rd_T101 a8 a9).f1) + aa)) = j_ := ⟨_, rfl⟩
replace H : (if 0 ≤ (aj) then (if (aj) < ((rd_L5 ac ((rd_T101 a8 a9).f0)).length : Int) then (spec_Patched.l1 k4 a9 (((rd_T101 a8 a9).f2).length : Int) (wrap64 (aa + 1)) av aq a8 ap (ac.set (((rd_T101 a8 a9).f0) : Int).toNat ((rd_L5 ac ((rd_T101 a8 a9).f0)).set ((aj) : Int).toNat (⟨(rd_T98 ((rd_T101 a8 a9).f2) aa).f0, (⟨(rd_T98 ((rd_T101 a8 a9).f2) aa).f1.f0, (rd_T98 ((rd_T101 a8 a9).f2) aa).f1.f1, (rd_T98 ((rd_T101 a8 a9).f2) aa).f1.f2, (rd_T98 ((rd_T101 a8 a9).f2) aa).f1.f3, (rd_T98 ((rd_T101 a8 a9).f2) aa).f1.f4⟩ : S96), (rd_T98 ((rd_T101 a8 a9).f2) aa).f2⟩ : S98))) ((rd_T101 a8 a9).f0) ((rd_T101 a8 a9).f1) ((rd_T101 a8 a9).f2)) else (none)) else (none)) = some (r1, r2, r3) := by first | (rw [ce] at H; exact H) | (simp only [ce] at H ⊢; exact H)
have hji83w : (IntKind.i64.wrap (((rd_T101 a8 a9).f1) + aa)) = aj := (i64_w _).trans ce
refine em_ (p := 0 ≤ (aj)) (fun cA => ?ez) (fun cA => ?ey)
case' ez => (
rw [if_pos cA] at H
have eX : decide (0 ≤ (aj)) = true := decide_eq_true cA
clear cA
refine em_ (p := (aj) < ((rd_L5 ac ((rd_T101 a8 a9).f0)).length : Int)) (fun cB => ?ex) (fun cB => ?ev)
case' ex => (
rw [if_pos cB] at H
have eY : decide ((aj) < ((rd_L5 ac ((rd_T101 a8 a9).f0)).length : Int)) = true := decide_eq_true cB
clear cB
obtain ⟨cK, bE⟩ : ∃ y_ : List (S98), y_ = ((rd_L5 ac ((rd_T101 a8 a9).f0)).set ((aj) : Int).toNat (⟨(rd_T98 ((rd_T101 a8 a9).f2) aa).f0, (⟨(rd_T98 ((rd_T101 a8 a9).f2) aa).f1.f0, (rd_T98 ((rd_T101 a8 a9).f2) aa).f1.f1, (rd_T98 ((rd_T101 a8 a9).f2) aa).f1.f2, (rd_T98 ((rd_T101 a8 a9).f2) aa).f1.f3, (rd_T98 ((rd_T101 a8 a9).f2) aa).f1.f4⟩ : S96), (rd_T98 ((rd_T101 a8 a9).f2) aa).f2⟩ : S98)) := ⟨_, rfl⟩
replace H : (spec_Patched.l1 k4 a9 (((rd_T101 a8 a9).f2).length : Int) (wrap64 (aa + 1)) av aq a8 ap (ac.set (((rd_T101 a8 a9).f0) : Int).toNat cK) ((rd_T101 a8 a9).f0) ((rd_T101 a8 a9).f1) ((rd_T101 a8 a9).f2)) = some (r1, r2, r3) := by first | (rw [bE]; with_reducible exact H) | (rw [bE]; exact H) | exact H
have dH := am bE
clear bE
obtain ⟨dy, bF⟩ : ∃ y_ : List (List (S98)), y_ = (ac.set (((rd_T101 a8 a9).f0) : Int).toNat cK) := ⟨_, rfl⟩
replace H : (spec_Patched.l1 k4 a9 (((rd_T101 a8 a9).f2).length : Int) (wrap64 (aa + 1)) av aq a8 ap dy ((rd_T101 a8 a9).f0) ((rd_T101 a8 a9).f1) ((rd_T101 a8 a9).f2)) = some (r1, r2, r3) := by first | (rw [bF]; with_reducible exact H) | (rw [bF]; exact H) | exact H
have dI := am bF
clear bF
have H' := am H
clear H
have f6 := trivial
)
case ev => (
rw [if_neg cB] at H
exact absurd H (by simp)
)
)
case ey => (
rw [if_neg cA] at H
exact absurd H (by simp)
)
)
case eA => (
rw [if_neg cz] at H
exact absurd H (by simp)
)
)
case eC => (
rw [if_neg cy] at H
exact absurd H (by simp)
)
)
case eE => (
rw [if_neg cw] at H
exact absurd H (by simp)
)
)
case eG => (
rw [if_neg cv] at H
exact absurd H (by simp)
)
all_goals (
try go_wp2
replace ae := am (Kd.S_drew ae.out)
replace ah := am (blk_drew ah.out)
replace ag := am (blk_drew ag.out)
replace af := am (blk_drew af.out)
replace ai := am (blk_drew ai.out)
replace al := am (blk_drew al.out)
replace HB := am (below_drew1 HB.out)
obtain ⟨fc, d7, d9⟩ := Kd.S_slice ae.out
(first | subst d9 | (injection d9 with f1_ f2_ f3_; have f4_ := f1_.symm; have f5_ := f3_.symm; clear f1_ f2_ f3_; subst f4_; subst f5_))
have ch : 0 ≤ (((rd_T101 a8 a9).f0) : Int) := dt_
have cj : ((rd_T101 a8 a9).f0) < (ac.length : Int) := dt_
obtain ⟨bZ, ej, d6, dY, aZ, bV, bT⟩ := at_L5 (Kd.S_reads' ae.out).2.2 ((rd_T101 a8 a9).f0) ch cj
cases dY
obtain ⟨eZ, db, hMe466, cD⟩ := Kd.S_get ae.out [] ((rd_T101 a8 a9).f0) ch (by first | exact cj | exact dt_ | (have e_ := (Kd.S_reads' ae.out).1; omega))
obtain ⟨ve466_0, rfl, bn⟩ := hMe466
have aL := cD 0 _ rfl
rw [Nat.add_zero, show ((Kd.slice 98 k98)).sz = 1 from rfl, Nat.mul_one] at aL
replace aL := Option.some.inj (aL.symm.trans aZ)
rw [aL] at bn
have ay := am (show Kd.R k98 98 _ _ _ _ (rd_L5 ac ((rd_T101 a8 a9).f0)) from bn)
clear aL bn
have bP := am aZ
clear cD db
have bl := am bT
have ei := am bV
clear bT bV
replace ch := eq_true ch
replace cj := eq_true cj
have cI : 0 ≤ (aa : Int) := dt_
have cJ : aa < (((rd_T101 a8 a9).f2).length : Int) := dt_
obtain ⟨au, dZ, b4, b5, b6, b7, b8, b9, ba⟩ := at_T98 cS.out aa cI cJ
have cZ := ba
have cY := b9
have cX := b8
have cW := b7
have cV := b6
have cU := b5
have cT := b4
cases dZ
replace b4 := mv HB.out b4
replace b5 := mv HB.out b5
replace b6 := mv HB.out b6
replace b7 := mv HB.out b7
replace b8 := mv HB.out b8
replace b9 := mv HB.out b9
replace ba := mv HB.out ba
replace cI := eq_true cI
replace cJ := eq_true cJ
have du : 0 ≤ ((aj) : Int) := dt_
have dv : ((aj) : Int) < (((rd_L5 ac ((rd_T101 a8 a9).f0)).length : Int) : Int) := dt_
obtain ⟨ax, fg, d8, da, gl86, cl86, d4⟩ := Kd.R_form ay.out (by omega)
(first | cases d8 | (injection d8 with ea_ en_ ec_; (first | subst ea_ | (injection ea_ with ea_; subst ea_)); subst ec_; clear en_))
have fd := am da
have dW := am d4
clear da gl86 d4
obtain ⟨fe, dM, hM86, aJ, aK⟩ := Kd.R_elem ay.out z98 ((aj) : Int) du dv
obtain rfl := k98_openM hM86
have dj : World.cell? _ ⟨ax, ((aj) : Int).toNat * 7, none⟩ = some (.int .i64 ((rd_T98 (rd_L5 ac ((rd_T101 a8 a9).f0)) (aj)).f0)) := aJ 0 _ rfl
have dk : World.cell? _ ⟨ax, ((aj) : Int).toNat * 7 + 1, none⟩ = some (.int .i64 ((rd_T98 (rd_L5 ac ((rd_T101 a8 a9).f0)) (aj)).f1.f0)) := aJ 1 _ rfl
have dm : World.cell? _ ⟨ax, ((aj) : Int).toNat * 7 + 2, none⟩ = some (.int .i64 ((rd_T98 (rd_L5 ac ((rd_T101 a8 a9).f0)) (aj)).f1.f1)) := aJ 2 _ rfl
have dn : World.cell? _ ⟨ax, ((aj) : Int).toNat * 7 + 3, none⟩ = some (.bool ((rd_T98 (rd_L5 ac ((rd_T101 a8 a9).f0)) (aj)).f1.f2)) := aJ 3 _ rfl
have dp : World.cell? _ ⟨ax, ((aj) : Int).toNat * 7 + 4, none⟩ = some (.bool ((rd_T98 (rd_L5 ac ((rd_T101 a8 a9).f0)) (aj)).f1.f3)) := aJ 4 _ rfl
have dq : World.cell? _ ⟨ax, ((aj) : Int).toNat * 7 + 5, none⟩ = some (.bool ((rd_T98 (rd_L5 ac ((rd_T101 a8 a9).f0)) (aj)).f1.f4)) := aJ 5 _ rfl
have dr : World.cell? _ ⟨ax, ((aj) : Int).toNat * 7 + 6, none⟩ = some (.int .i64 ((rd_T98 (rd_L5 ac ((rd_T101 a8 a9).f0)) (aj)).f2)) := aJ 6 _ rfl
have dc : World.frozen? _ ⟨ax, ((aj) : Int).toNat * 7, none⟩ = false := aK 0
have dd : World.frozen? _ ⟨ax, ((aj) : Int).toNat * 7 + 1, none⟩ = false := aK 1
have de : World.frozen? _ ⟨ax, ((aj) : Int).toNat * 7 + 2, none⟩ = false := aK 2
have df : World.frozen? _ ⟨ax, ((aj) : Int).toNat * 7 + 3, none⟩ = false := aK 3
have dg : World.frozen? _ ⟨ax, ((aj) : Int).toNat * 7 + 4, none⟩ = false := aK 4
have dh : World.frozen? _ ⟨ax, ((aj) : Int).toNat * 7 + 5, none⟩ = false := aK 5
have di : World.frozen? _ ⟨ax, ((aj) : Int).toNat * 7 + 6, none⟩ = false := aK 6
clear dM aJ aK hM86
replace du := eq_true du
replace dv := eq_true dv
have e9 : (((rd_T101 a8 a9).f0) : Int) < (ac.length : Int) := (by have h_ : (((rd_T101 a8 a9).f0) : Int) < ((ac.length : Int) : Int) := dt_; first | exact h_ | (have e_ := (Kd.S_reads' ae.out).1; omega) | simpa only [List.length_set, List.length_set] using h_)
obtain ⟨oki89, ff, bD, hM89, bi, dO, cN⟩ := Kd.S_borrow ae.out [] (((rd_T101 a8 a9).f0) : Int) dt_ e9
obtain ⟨ve89_0, rfl, aR⟩ := hM89
have cf := bi 0 _ rfl
rw [Nat.add_zero, show ((Kd.slice 98 k98)).sz = 1 from rfl, Nat.mul_one] at cf
replace cf := Option.some.inj (cf.symm.trans bP.out)
subst cf
clear bi bD
replace aR := (show Kd.R k98 98 _ _ _ _ (rd_L5 ac ((rd_T101 a8 a9).f0)) from aR)
obtain ⟨cf89, bD, hN89, bi, dN⟩ := Kd.R_elem aR z98 ((aj) : Int) dt_ (by have h_ : ((aj) : Int) < (((rd_L5 ac ((rd_T101 a8 a9).f0)).length : Int) : Int) := dt_; first | exact h_ | (have e_ := (Kd.R_reads' bl.out).1; omega) | simpa using h_)
obtain rfl := k98_openM hN89
have bY := Kd.R_seg aR ((aj) : Int) dt_ (by have h_ : ((aj) : Int) < (((rd_L5 ac ((rd_T101 a8 a9).f0)).length : Int) : Int) := dt_; first | exact h_ | (have e_ := (Kd.R_reads' bl.out).1; omega) | simpa using h_) (seg := [.int .i64 ((rd_T98 ((rd_T101 a8 a9).f2) aa).f0), .int .i64 ((rd_T98 ((rd_T101 a8 a9).f2) aa).f1.f0), .int .i64 ((rd_T98 ((rd_T101 a8 a9).f2) aa).f1.f1), .bool ((rd_T98 ((rd_T101 a8 a9).f2) aa).f1.f2), .bool ((rd_T98 ((rd_T101 a8 a9).f2) aa).f1.f3), .bool ((rd_T98 ((rd_T101 a8 a9).f2) aa).f1.f4), .int .i64 ((rd_T98 ((rd_T101 a8 a9).f2) aa).f2)]) (j := 0) bD bi (show 7 ≤ 7 from by decide) (x' := (⟨(rd_T98 ((rd_T101 a8 a9).f2) aa).f0, (⟨(rd_T98 ((rd_T101 a8 a9).f2) aa).f1.f0, (rd_T98 ((rd_T101 a8 a9).f2) aa).f1.f1, (rd_T98 ((rd_T101 a8 a9).f2) aa).f1.f2, (rd_T98 ((rd_T101 a8 a9).f2) aa).f1.f3, (rd_T98 ((rd_T101 a8 a9).f2) aa).f1.f4⟩ : S96), (rd_T98 ((rd_T101 a8 a9).f2) aa).f2⟩ : S98)) (k98_mkM _ _ _ (⟨(rd_T98 ((rd_T101 a8 a9).f2) aa).f0, (⟨(rd_T98 ((rd_T101 a8 a9).f2) aa).f1.f0, (rd_T98 ((rd_T101 a8 a9).f2) aa).f1.f1, (rd_T98 ((rd_T101 a8 a9).f2) aa).f1.f2, (rd_T98 ((rd_T101 a8 a9).f2) aa).f1.f3, (rd_T98 ((rd_T101 a8 a9).f2) aa).f1.f4⟩ : S96), (rd_T98 ((rd_T101 a8 a9).f2) aa).f2⟩ : S98)) (fun _ hk => hk)
clear bD bi dN hN89
rw [← dH.out] at bY
have cG := cN bY.2 (fun k_ e_ => by injection e_ with e_; subst e_; exact aR.1 _ rfl) (x' := cK) (Kd.M_row bY.1)
rw [← dI.out] at cG
have d5 := am cG
clear bY cG cN dO
refine start_ (n := 17) (S := fun w' => w'.cell? ⟨aV, 0, none⟩ = some (.int .i64 ap) ∧ w'.cell? ⟨aV, 1, none⟩ = some (.slice (some bZ) ac.length d7) ∧ w'.cell? ⟨bh, 0, none⟩ = some (.int .i64 ((rd_T101 a8 a9).f0)) ∧ w'.cell? ⟨bh, 1, none⟩ = some (.int .i64 ((rd_T101 a8 a9).f1)) ∧ w'.cell? ⟨bh, 2, none⟩ = some (.slice (some au) ((rd_T101 a8 a9).f2).length bM) ∧ w'.cell? (bZ.add (((rd_T101 a8 a9).f0)).toNat) = some (.slice (some ⟨ax, 0, none⟩) (rd_L5 ac ((rd_T101 a8 a9).f0)).length d6) ∧ w'.cell? (au.add ((aa).toNat * 7)) = some (.int .i64 ((rd_T98 ((rd_T101 a8 a9).f2) aa).f0)) ∧ w'.cell? ⟨(au.add ((aa).toNat * 7)).block, (au.add ((aa).toNat * 7)).off + 1, none⟩ = some (.int .i64 ((rd_T98 ((rd_T101 a8 a9).f2) aa).f1.f0)) ∧ w'.cell? ⟨(au.add ((aa).toNat * 7)).block, (au.add ((aa).toNat * 7)).off + 2, none⟩ = some (.int .i64 ((rd_T98 ((rd_T101 a8 a9).f2) aa).f1.f1)) ∧ w'.cell? ⟨(au.add ((aa).toNat * 7)).block, (au.add ((aa).toNat * 7)).off + 3, none⟩ = some (.bool ((rd_T98 ((rd_T101 a8 a9).f2) aa).f1.f2)) ∧ w'.cell? ⟨(au.add ((aa).toNat * 7)).block, (au.add ((aa).toNat * 7)).off + 4, none⟩ = some (.bool ((rd_T98 ((rd_T101 a8 a9).f2) aa).f1.f3)) ∧ w'.cell? ⟨(au.add ((aa).toNat * 7)).block, (au.add ((aa).toNat * 7)).off + 5, none⟩ = some (.bool ((rd_T98 ((rd_T101 a8 a9).f2) aa).f1.f4)) ∧ w'.cell? ⟨(au.add ((aa).toNat * 7)).block, (au.add ((aa).toNat * 7)).off + 6, none⟩ = some (.int .i64 ((rd_T98 ((rd_T101 a8 a9).f2) aa).f2))) (ds := [16]) (bm 17 0) (by kernel_rfl) rfl rfl ⟨(blk_cell ai.out 0).trans rfl, (blk_cell ai.out 1).trans rfl, (blk_cell al.out 0).trans rfl, (blk_cell al.out 1).trans rfl, (blk_cell al.out 2).trans rfl, aZ, (mv HB.out cT), (mv HB.out cU), (mv HB.out cV), (mv HB.out cW), (mv HB.out cX), (mv HB.out cY), (mv HB.out cZ)⟩ (fun hHeld => ?_); refine with_tabW spec_Patched.tab14 spec_Patched.bits14 (fun HT_ HW_ => ?_)
generalize wr.drew = gv at ae ah ag af ai al HB dW ay d5 bl bP dc dd de df dg dh di aZ b4 b5 b6 b7 b8 b9 ba dj dk dm dn dp dq dr hHeld ⊢
refine pu_ 0 70 (bm 17 1) HT_.out ?_
refine pu_ 2 72 (bm 17 5) HT_.out ?_
refine pu_ 6 76 (bm 17 69) HT_.out ?_
refine pu_ 8 78 (bm 17 325) HT_.out ?_
refine pu_ 10 80 (bm 17 1349) HT_.out ?_
refine pu_ 12 82 (bm 17 5445) HT_.out ?_
refine tk 1 71 (bm 17 5447) HT_ HW_ hHeld ?_
refine tk 3 73 (bm 17 5455) HT_ HW_ hHeld ?_
refine pu_ 4 74 (bm 17 5471) HT_.out ?_
refine tk 5 75 (bm 17 5503) HT_ HW_ hHeld ?_
refine tk 7 77 (bm 17 5631) HT_ HW_ hHeld ?_
refine pu_ 9 79 (bm 17 6143) HT_.out ?_
refine tk 11 81 (bm 17 8191) HT_ HW_ hHeld ?_
refine pu_ 13 83 (bm 17 16383) HT_.out ?_
refine tk 14 84 (bm 17 32767) HT_ HW_ hHeld ?_
refine pu_ 15 85 (bm 17 65535) HT_.out ?_
refine last_ (i := 16) (N := none) (bm 17 131071) rfl rfl (one_of HT_.out (by kernel_rfl)) (by decide) (fun K hK => ?_)
refine skip_ (w1 := ?_) (by rfl) rfl ?_ ?_
rotate_left
·(
go_simp
rfl
)
refine hK.out _ _ ?_
clear hK K
refine done_ (done_of HT_.out (by kernel_rfl)) ?_
try go_wp2
go_roundg k4
case measure => have := bI.out; have := bJ.out; have := bX.out; have := cL.out; omega
case rel => exact ⟨(wrap64 (aa + 1)), (dy), (.slice (some bZ) ac.length d7), sd, H', ⟨by have := bI.out; have := bJ.out; have := bX.out; have := cL.out; omega⟩, ⟨rs d5⟩, ⟨rkw (neR ay ah) ah⟩, ⟨rkw (neR ay ag) ag⟩, ⟨rkw (neR ay af) af⟩, ⟨rkw (neR ay ai) ai⟩, ⟨rkw (neR ay al) al⟩, ⟨rb HB⟩⟩
)
)
·(
rw [if_neg bR] at H
have dK : decide (aa < (((rd_T101 a8 a9).f2).length : Int)) = false := decide_eq_false bR
clear bR
have H' := am H
clear H
go_wp2
go_roundg k4
case measure => have := bI.out; have := bJ.out; have := bX.out; have := cL.out; omega
case rel => exact ⟨(wrap64 (a9 + 1)), (aB), (ac), (ao), sd, H', ⟨by have := bI.out; have := bJ.out; have := bX.out; have := cL.out; omega⟩, ⟨rs ae⟩, ⟨rk ah⟩, ⟨rk ag⟩, ⟨rk af⟩, ⟨rk ai⟩, ⟨rb HB⟩⟩
)
)
)
)
)
)
)
)
·(
rw [if_neg bA] at H
have cb : decide (a9 < (a8.length : Int)) = false := decide_eq_false bA
clear bA
obtain ⟨ef, dR, H⟩ := bd H
(try dsimp only at H)
refine em_ (p := ef = true) (fun cC => ?er) (fun cC => ?ep)
case' er => (
subst cC
have H1 : (some (ap, ak, true)) = some (r1, r2, r3) := by rw [if_pos rfl] at H; exact H
clear H
have H := H1
clear H1
simp only [Option.some.injEq, Prod.mk.injEq] at H
obtain ⟨rfl, rfl, rfl⟩ := H
have eb := trivial
)
case' ep => (
replace cC := Bool.eq_false_iff.mpr cC
subst cC
rw [if_neg (show ¬ (false = true) by decide)] at H
simp only [Option.some.injEq, Prod.mk.injEq] at H
obtain ⟨rfl, rfl, rfl⟩ := H
have ed := trivial
)
all_goals (
have fV := nN aD
have fW := nN az
have fX := nN aE
have gl := z3 ag
have fY := nN aG
have fZ := nN aH
have gm := z2 ai
obtain ⟨bW, cd, dL⟩ := Kd.S_slice ae.out
subst dL
go_wp2_with (first | ((with_reducible refine cg 69 rfl ?_); refine gl_ (some 87) Try.func69 #[.agg #[.int .i64 ap, .slice bW ak.length cd]] ?_; (with_reducible refine (spec_GridOk.calls k2 ap _ _ ak true _ ?side1 ?side2 dR.out).mono ?_); (case side1 => exact rcs ae); (case side2 => exact (Kd.S_reads' ae.out).2.1); rintro e g9 ⟨rfl, hb⟩; refine ⟨_, rfl, ?_⟩; replace ae := am (Kd.S_below (rs ae) hb); replace ah := kk ah hb; replace ag := kk ag hb; replace af := kk af hb; replace ai := kk ai hb; replace HB := bs HB hb; (try clear hb); (try clear dS); (try clear hk); (try clear hi); have f9 := z2 ai; have f7 := nN aF; have fa := z2 af) | ((with_reducible refine cg 69 rfl ?_); refine gl_ (some 87) Try.func69 #[.agg #[.int .i64 ap, .slice bW ak.length cd]] ?_; (with_reducible refine (spec_GridOk.calls k2 ap _ _ ak false _ ?side1 ?side2 dR.out).mono ?_); (case side1 => exact rcs ae); (case side2 => exact (Kd.S_reads' ae.out).2.1); rintro e ga ⟨rfl, hb⟩; refine ⟨_, rfl, ?_⟩; replace ae := am (Kd.S_below (rs ae) hb); replace ah := kk ah hb; replace ag := kk ag hb; replace af := kk af hb; replace ai := kk ai hb; replace HB := bs HB hb; (try clear hb); (try clear dS); (try clear hk); (try clear hi); have f8 := nN aF; have fb := z2 af))
first
| (
have q_ := eb
refine bodyPost_ret (results_ct rfl _ _ aI 58 #[.int .i64 ap, .slice bW ak.length cd] (0, 0) _ rfl (rk af) Try.underlying58 rfl (by kernel_rfl)) rfl ?_
exact ⟨_, ew, tS1 ae af, rb HB⟩
)
| (
have q_ := ed
refine bodyPost_ret (results_ct rfl _ _ aI 58 #[.int .i64 0, .slice none 0 0] (0, 0) _ rfl (rk af) Try.underlying58 rfl (by kernel_rfl)) rfl ?_
exact ⟨_, ew, xn, rb HB⟩
)
)
)
)
)
)
)
)
)

end Go.Proofs.Ytalopdcephohgaa.RD
