/- Contracts of Go functions that laws of this seat reach: each Lean function answers as its Go function does. No condition. Written by wip/tools/inj.py, over the kit's print. -/
import Derived.Test.YtalopdcephohgaaRDx0
import Derived.Test.YtalopdcephohgaaRDx2
import Derived.Test.YtalopdcephohgaaRDx5
import Derived.Test.YtalopdcephohgaaRDx9
import Derived.Test.YtalopdcephohgaaRDx18
namespace Go.Proofs.Ytalopdcephohgaa.RD
open Go.RowKit Go.Proofs.YtalopdcephohgaaW.PrintWords Go.Proofs.YtalopdcephohgaaW.PrintLast Go.Proofs.YtalopdcephohgaaW.PrintMore
attribute [local go_sem] max2_int min2_int max_two min_two max_three min_three max_four min_four   -- for this text's walks alone
set_option linter.unusedVariables false
set_option linter.unusedSimpArgs false

attribute [local go_sem high] eqA98
/-! ### spec_Diff: function 31 -/
mutual
def spec_Diff.j0 : Nat → Bool → Int → List (List (S98)) → Int → List (List (S98)) → Option (Int × Int × (List (S101)) × Bool)
 | 0, _, _, _, _, _ => none
 | k + 1, af, ac, ae, a8, a9 => if af = true then (some (0, 0, ([] : List (S101)), false)) else ((spec_l5Resized.f k ac ae a8 (a9.length : Int)).bind fun aa => (spec_Diff.l0 k 0 a8 a9 a8 (a9.length : Int) ([] : List (S101)) aa.1 aa.2))
def spec_Diff.l0 : Nat → Int → Int → List (List (S98)) → Int → Int → List (S101) → Int → List (List (S98)) → Option (Int × Int × (List (S101)) × Bool)
 | 0, _, _, _, _, _, _, _, _ => none
 | k + 1, x8, ac, ae, aa, a8, a9, af, ag => if x8 < a8 then (spec_Diff.l1 k x8 0 ac ae aa a8 a9 af ag) else (if (a9.length : Int) > 400 then (some (0, 0, ([] : List (S101)), false)) else (some (aa, a8, a9, true)))
def spec_Diff.l1 : Nat → Int → Int → Int → List (List (S98)) → Int → Int → List (S101) → Int → List (List (S98)) → Option (Int × Int × (List (S101)) × Bool)
 | 0, _, _, _, _, _, _, _, _, _ => none
 | k + 1, x8, x9, a9, aa, a8, ac, ae, af, ag => if x9 < a8 then (spec_Diff.l2 k x8 x9 x9 a9 aa a8 ac ae af ag) else (spec_Diff.l0 k (wrap64 (x8 + 1)) a9 aa a8 ac ae af ag)
def spec_Diff.l2 : Nat → Int → Int → Int → Int → List (List (S98)) → Int → Int → List (S101) → Int → List (List (S98)) → Option (Int × Int × (List (S101)) × Bool)
 | 0, _, _, _, _, _, _, _, _, _, _ => none
 | k + 1, x8, x9, aa, af, a8, ae, ag, ac, ah, a9 => if aa < ae then (if 0 ≤ x8 then (if x8 < (a9.length : Int) then (if 0 ≤ aa then (if aa < ((rd_L5 a9 x8).length : Int) then (if x8 < (a8.length : Int) then (if aa < ((rd_L5 a8 x8).length : Int) then (if (!(((rd_T98 (rd_L5 a9 x8) aa).f0) == ((rd_T98 (rd_L5 a8 x8) aa).f0)) || ((!(((rd_T98 (rd_L5 a9 x8) aa).f1.f0) == ((rd_T98 (rd_L5 a8 x8) aa).f1.f0)) || (!(((rd_T98 (rd_L5 a9 x8) aa).f1.f1) == ((rd_T98 (rd_L5 a8 x8) aa).f1.f1)) || (!(((rd_T98 (rd_L5 a9 x8) aa).f1.f2) == ((rd_T98 (rd_L5 a8 x8) aa).f1.f2)) || (!(((rd_T98 (rd_L5 a9 x8) aa).f1.f3) == ((rd_T98 (rd_L5 a8 x8) aa).f1.f3)) || (!(((rd_T98 (rd_L5 a9 x8) aa).f1.f4) == ((rd_T98 (rd_L5 a8 x8) aa).f1.f4))))))) || (!(((rd_T98 (rd_L5 a9 x8) aa).f2) == ((rd_T98 (rd_L5 a8 x8) aa).f2))))) = true then (spec_Diff.l2 k x8 x9 (wrap64 (aa + 1)) af a8 ae ag ac ah a9) else (if aa > x9 then ((some (([] : List (S98)) : List (S98))).bind fun ai => (if 0 ≤ x9 then (if x9 ≤ aa then (if aa ≤ ((rd_L5 a8 x8).length : Int) then ((some (((rd_L5 a8 x8).take (aa : Int).toNat).drop (x9 : Int).toNat : List (S98))).bind fun aj => (if ai.length + aj.length < 3518437208883 then (if ac.length < 3518437208883 then (spec_Diff.l1 k x8 (wrap64 (aa + 1)) af a8 ae ag (ac ++ [(⟨x8, x9, (ai ++ aj)⟩ : S101)]) ah a9) else (none)) else (none))) else (none)) else (none)) else (none))) else (spec_Diff.l1 k x8 (wrap64 (aa + 1)) af a8 ae ag ac ah a9))) else (none)) else (none)) else (none)) else (none)) else (none)) else (none)) else (if aa > x9 then ((some (([] : List (S98)) : List (S98))).bind fun ak => (if 0 ≤ x8 then (if x8 < (a8.length : Int) then (if 0 ≤ x9 then (if x9 ≤ aa then (if aa ≤ ((rd_L5 a8 x8).length : Int) then ((some (((rd_L5 a8 x8).take (aa : Int).toNat).drop (x9 : Int).toNat : List (S98))).bind fun al => (if ak.length + al.length < 3518437208883 then (if ac.length < 3518437208883 then (spec_Diff.l1 k x8 (wrap64 (aa + 1)) af a8 ae ag (ac ++ [(⟨x8, x9, (ak ++ al)⟩ : S101)]) ah a9) else (none)) else (none))) else (none)) else (none)) else (none)) else (none)) else (none))) else (spec_Diff.l1 k x8 (wrap64 (aa + 1)) af a8 ae ag ac ah a9))
end
def spec_Diff.f (k : Nat) (a8 : Int) (aa : List (List (S98))) (a9 : Int) (ac : List (List (S98))) : Option (Int × Int × (List (S101)) × Bool) := (spec_GridOk.f k a8 aa).bind fun ae => (if ae = true then ((spec_GridOk.f k a9 ac).bind fun af => (spec_Diff.j0 k (!af) a8 aa a9 ac)) else (spec_Diff.j0 k true a8 aa a9 ac))
theorem spec_Diff.mono_l : ∀ k, (∀ y0 y1 y2 y3 y4, LeO (spec_Diff.j0 k y0 y1 y2 y3 y4) (spec_Diff.j0 (k + 1) y0 y1 y2 y3 y4)) ∧ (∀ y0 y1 y2 y3 y4 y5 y6 y7, LeO (spec_Diff.l0 k y0 y1 y2 y3 y4 y5 y6 y7) (spec_Diff.l0 (k + 1) y0 y1 y2 y3 y4 y5 y6 y7)) ∧ (∀ y0 y1 y2 y3 y4 y5 y6 y7 y8, LeO (spec_Diff.l1 k y0 y1 y2 y3 y4 y5 y6 y7 y8) (spec_Diff.l1 (k + 1) y0 y1 y2 y3 y4 y5 y6 y7 y8)) ∧ (∀ y0 y1 y2 y3 y4 y5 y6 y7 y8 y9, LeO (spec_Diff.l2 k y0 y1 y2 y3 y4 y5 y6 y7 y8 y9) (spec_Diff.l2 (k + 1) y0 y1 y2 y3 y4 y5 y6 y7 y8 y9))
 | 0 => ⟨fun _ _ _ _ _ r h => by simp [spec_Diff.j0] at h, fun _ _ _ _ _ _ _ _ r h => by simp [spec_Diff.l0] at h, fun _ _ _ _ _ _ _ _ _ r h => by simp [spec_Diff.l1] at h, fun _ _ _ _ _ _ _ _ _ _ r h => by simp [spec_Diff.l2] at h⟩
 | k + 1 => by
  obtain ⟨ih0, ih1, ih2, ih3⟩ := spec_Diff.mono_l k
  refine ⟨?_, ?_, ?_, ?_⟩
  ·intro y0 y1 y2 y3 y4
   unfold spec_Diff.j0
   repeat' first
   | (with_reducible exact ih0 _ _ _ _ _)
   | (with_reducible exact ih1 _ _ _ _ _ _ _ _)
   | (with_reducible exact ih2 _ _ _ _ _ _ _ _ _)
   | (with_reducible exact ih3 _ _ _ _ _ _ _ _ _ _)
   | (with_reducible exact spec_GridOk.mono _ _ _)
   | (with_reducible exact spec_l5Resized.mono _ _ _ _ _)
   | (with_reducible exact LeO.refl _)
   | (with_reducible exact LeO.none _)
   | (with_reducible refine LeO.ite ?_ ?_)
   | (with_reducible refine LeO.bind ?_ (fun _ => ?_))
  ·intro y0 y1 y2 y3 y4 y5 y6 y7
   unfold spec_Diff.l0
   repeat' first
   | (with_reducible exact ih0 _ _ _ _ _)
   | (with_reducible exact ih1 _ _ _ _ _ _ _ _)
   | (with_reducible exact ih2 _ _ _ _ _ _ _ _ _)
   | (with_reducible exact ih3 _ _ _ _ _ _ _ _ _ _)
   | (with_reducible exact spec_GridOk.mono _ _ _)
   | (with_reducible exact spec_l5Resized.mono _ _ _ _ _)
   | (with_reducible exact LeO.refl _)
   | (with_reducible exact LeO.none _)
   | (with_reducible refine LeO.ite ?_ ?_)
   | (with_reducible refine LeO.bind ?_ (fun _ => ?_))
  ·intro y0 y1 y2 y3 y4 y5 y6 y7 y8
   unfold spec_Diff.l1
   repeat' first
   | (with_reducible exact ih0 _ _ _ _ _)
   | (with_reducible exact ih1 _ _ _ _ _ _ _ _)
   | (with_reducible exact ih2 _ _ _ _ _ _ _ _ _)
   | (with_reducible exact ih3 _ _ _ _ _ _ _ _ _ _)
   | (with_reducible exact spec_GridOk.mono _ _ _)
   | (with_reducible exact spec_l5Resized.mono _ _ _ _ _)
   | (with_reducible exact LeO.refl _)
   | (with_reducible exact LeO.none _)
   | (with_reducible refine LeO.ite ?_ ?_)
   | (with_reducible refine LeO.bind ?_ (fun _ => ?_))
  ·intro y0 y1 y2 y3 y4 y5 y6 y7 y8 y9
   unfold spec_Diff.l2
   repeat' first
   | (with_reducible exact ih0 _ _ _ _ _)
   | (with_reducible exact ih1 _ _ _ _ _ _ _ _)
   | (with_reducible exact ih2 _ _ _ _ _ _ _ _ _)
   | (with_reducible exact ih3 _ _ _ _ _ _ _ _ _ _)
   | (with_reducible exact spec_GridOk.mono _ _ _)
   | (with_reducible exact spec_l5Resized.mono _ _ _ _ _)
   | (with_reducible exact LeO.refl _)
   | (with_reducible exact LeO.none _)
   | (with_reducible refine LeO.ite ?_ ?_)
   | (with_reducible refine LeO.bind ?_ (fun _ => ?_))
theorem spec_Diff.mono : ∀ a0 a1 a2 a3 k, LeO (spec_Diff.f k a0 a1 a2 a3) (spec_Diff.f (k + 1) a0 a1 a2 a3) := by
 intro a0 a1 a2 a3 k
 obtain ⟨ih0, ih1, ih2, ih3⟩ := spec_Diff.mono_l k
 unfold spec_Diff.f
 repeat' first
   | (with_reducible exact ih0 _ _ _ _ _)
   | (with_reducible exact ih1 _ _ _ _ _ _ _ _)
   | (with_reducible exact ih2 _ _ _ _ _ _ _ _ _)
   | (with_reducible exact ih3 _ _ _ _ _ _ _ _ _ _)
   | (with_reducible exact spec_GridOk.mono _ _ _)
   | (with_reducible exact spec_l5Resized.mono _ _ _ _ _)
   | (with_reducible exact LeO.refl _)
   | (with_reducible exact LeO.none _)
   | (with_reducible refine LeO.ite ?_ ?_)
   | (with_reducible refine LeO.bind ?_ (fun _ => ?_))
def spec_Diff.T11 : Bool × List (List Nat × List Nat) := (true, [([], []), ([], []), ([1], [1]), ([0, 2], [0, 2]), ([3], [3]), ([4], [4]), ([5, 4], [4, 5]), ([4], [4]), ([6, 7, 4], [4, 6, 7]), ([8, 4], [4, 8]), ([4], [4]), ([9, 10, 4], [4, 9, 10]), ([11, 4], [4, 11]), ([4], [4]), ([13, 4], [4, 13]), ([4], [4]), ([14, 15, 4], [4, 14, 15]), ([16, 4], [4, 16]), ([4], [4]), ([17, 18, 4], [4, 17, 18]), ([19, 4], [4, 19]), ([12, 20, 4], [4, 12, 20]), ([4, 21], [4, 21])])
def spec_Diff.B11 : List Nat := [0, 0, 2, 7, 15, 31, 63, 31, 255, 511, 31, 2047, 4095, 31, 8223, 31, 57375, 122911, 31, 516127, 1040415, 2097151, 4194303]
theorem spec_Diff.tab11 : rtab .any (opsOf Try.f31 11) = spec_Diff.T11 := by kernel_rfl
theorem spec_Diff.bits11 : waitsOk spec_Diff.T11.2 spec_Diff.B11 = true := by kernel_rfl
def spec_Diff.T14 : Bool × List (List Nat × List Nat) := (true, [([], []), ([0], [0]), ([], []), ([], []), ([], []), ([], []), ([5], [5]), ([], []), ([6, 7], [6, 7]), ([8], [8]), ([], []), ([], []), ([9, 10, 11], [9, 10, 11]), ([4, 12], [4, 12]), ([2, 3, 13], [2, 3, 13]), ([14], [14]), ([1, 15, 13], [1, 15]), ([0, 1, 2, 3, 4, 5, 6, 7, 8, 9, 10, 11, 12, 13, 14, 15, 16], []), ([17, 16, 16, 0, 1, 2, 3, 4, 5, 6, 7, 8, 9, 10, 11, 12, 13, 14, 15, 16], [16, 17])])
def spec_Diff.B14 : List Nat := [0, 1, 0, 0, 0, 0, 32, 0, 224, 480, 0, 0, 4064, 8176, 16380, 32764, 65535, 131071, 262143]
theorem spec_Diff.tab14 : rtab .any (opsOf Try.f31 14) = spec_Diff.T14 := by kernel_rfl
theorem spec_Diff.bits14 : waitsOk spec_Diff.T14.2 spec_Diff.B14 = true := by kernel_rfl
set_option maxHeartbeats 8000000 in
set_option maxRecDepth 100000 in
theorem spec_Diff.calls (k : Nat) (aD : Int) (aV : Option Addr) (aW : Nat) (aA : List (List (S98))) (ap : Int) (bE : Option Addr) (aX : Nat) (aa : List (List (S98))) (r1 : Int) (r2 : Int) (r3 : List (S101)) (r4 : Bool) (w : World) (e8 : Kd.C (Kd.slice 98 k98) w aV aA.length aA) (dW : aA.length ≤ aW) (e9 : Kd.C (Kd.slice 98 k98) w bE aa.length aa) (dX : aa.length ≤ aX) (h : spec_Diff.f k aD aA ap aa = some (r1, r2, r3, r4)) :
  Calls Try.prog 31 #[.agg #[.int .i64 aD, .slice aV aA.length aW], .agg #[.int .i64 ap, .slice bE aa.length aX]] w fun e w' => ∃ v2_ : Value, e = .returned (.tuple #[.agg #[.int .i64 r1, .int .i64 r2, v2_], .bool r4]) ∧ Kd.S k101 101 w' w.heap.size (fun _ => True) v2_ r3 ∧ Below w.heap.size w w' := by
 (
have iR := Try.underlying58
have iQ := Try.underlying53
have iS := Try.underlying98
have iK := Try.underlying101
have d3 := am e8
have cZ := am dW
clear e8 dW
have ce := am e9
have eW := am dX
clear e9 dX
have HB := am (Below.refl w.heap.size w)
have H := h
unfold spec_Diff.f at H
clear h
have eu := am H
clear H
go_enter Try.func31, Try.ntmps31
go_upto_region 1 with (first | (refine bx 2 #[.int .i64 aD, .slice aV aA.length aW] 58 ?_; intro cf hg w4 hbox hb; have ag := am (hbox); have eR := am (gw hg (rb HB)); have ia := eR; replace HB := bs HB hb; clear hb hbox hg) | (refine bx 3 #[.int .i64 ap, .slice bE aa.length aX] 58 ?_; intro aI hg w5 hbox hb; have af := am (hbox); have eS := am (gw hg (rb HB)); have ib := eS; replace HB := bs HB hb; have ba := am (nl hg (rk ag)); have db := ns ba; replace ag := kk ag hb; clear hb hbox hg) | (refine bx 4 #[.int .i64 0, .int .i64 0, .slice none 0 0] 53 ?_; intro b7 hg w6 hbox hb; have ai := am (hbox); have eT := am (gw hg (rb HB)); have ic := eT; replace HB := bs HB hb; have aU := am (nl hg (rk ag)); have bW := ns aU; replace ag := kk ag hb; have bc := am (nl hg (rk af)); have bX := ns bc; replace af := kk af hb; clear hb hbox hg))
(try simp only [Act.put, List.setIfInBounds_toArray, List.set_cons_zero, List.set_cons_succ])
go_cut [18] (fun i5 wc => ∃ (kq : Nat) (cq : Bool), i5 = .bool cq ∧ Aside0 (spec_Diff.j0 kq cq aD aA ap aa = some (r1, r2, r3, r4)) ∧ Aside0 (kq ≤ k) ∧ Aside0 (wc.heap[cf]? = some (.cells #[.int .i64 aD, (.slice aV aA.length aW)] 58 (0, 0))) ∧ Aside0 (wc.heap[aI]? = some (.cells #[.int .i64 ap, (.slice bE aa.length aX)] 58 (0, 0))) ∧ Aside0 (wc.heap[b7]? = some (.cells #[.int .i64 0, .int .i64 0, (.slice none 0 0)] 53 (0, 0))) ∧ Aside0 (Below w.heap.size w wc))
case first => (
have H := eu.out
clear eu
obtain ⟨gu, A7, H⟩ := bd H
(try dsimp only at H)
by_cases c8 : gu = true
·(
subst c8
rw [if_pos rfl] at H
obtain ⟨eO, A9, H⟩ := bd H
(try dsimp only at H)
have H' := am H
clear H
have iT := nN ba
have iU := nN aU
have jq := z2 ag
go_wp2_with (first | ((with_reducible refine cg 69 rfl ?_); refine gl_ (some 12) Try.func69 #[.agg #[.int .i64 aD, .slice aV aA.length aW]] ?_; (with_reducible refine (spec_GridOk.calls k aD _ _ aA true _ ?side1 ?side2 A7.out).mono ?_); (case side1 => exact rc ((Kd.C_below d3.out HB.out))); (case side2 => exact cZ.out); rintro e ju ⟨rfl, hb⟩; refine ⟨_, rfl, ?_⟩; replace ag := kk ag hb; replace af := kk af hb; replace ai := kk ai hb; replace HB := bs HB hb; (try clear hb); (try clear eF); (try clear hk); (try clear hi); have iV := nN bc; have jr := z2 af) | (go_at_call 69; (with_reducible refine (spec_GridOk.calls k ap _ _ aa eO _ ?side1 ?side2 A9.out).mono ?_); (case side1 => exact rc ((Kd.C_below ce.out HB.out))); (case side2 => exact eW.out); rintro e jv ⟨rfl, hb⟩; replace ag := kk ag hb; replace af := kk af hb; replace ai := kk ai hb; replace HB := bs HB hb; (try clear hb); (try clear eF); (try clear hk); (try clear hi)))
go_meet
case rel => exact ⟨_, (!eO), sd, H', ⟨by first | omega | exact Nat.le_refl _⟩, ⟨rk ag⟩, ⟨rk af⟩, ⟨rk ai⟩, ⟨rb HB⟩⟩
)
·(
replace c8 := Bool.eq_false_iff.mpr c8
subst c8
rw [if_neg (show ¬ (false = true) by decide)] at H
have H' := am H
clear H
have iW := nN ba
have iX := nN aU
have js := z2 ag
go_wp2_with (first | ((with_reducible refine cg 69 rfl ?_); refine gl_ (some 12) Try.func69 #[.agg #[.int .i64 aD, .slice aV aA.length aW]] ?_; (with_reducible refine (spec_GridOk.calls k aD _ _ aA false _ ?side1 ?side2 A7.out).mono ?_); (case side1 => exact rc ((Kd.C_below d3.out HB.out))); (case side2 => exact cZ.out); rintro e jw ⟨rfl, hb⟩; refine ⟨_, rfl, ?_⟩; replace ag := kk ag hb; replace af := kk af hb; replace ai := kk ai hb; replace HB := bs HB hb; (try clear hb); (try clear eF); (try clear hk); (try clear hi)))
go_meet
case rel => exact ⟨_, (true), sd, H', ⟨by first | omega | exact Nat.le_refl _⟩, ⟨rk ag⟩, ⟨rk af⟩, ⟨rk ai⟩, ⟨rb HB⟩⟩
)
)
case rest => (
clear eu
obtain ⟨kq, cq, rfl, HA, bB, ag, af, ai, HB⟩ := hcut
cases kq with
| zero => exact absurd HA.out (by simp [spec_Diff.j0])
| succ eJ => (
have H := HA.out
clear HA
simp only [spec_Diff.j0] at H
by_cases ct : cq = true
·(
subst ct
have H1 : (some (0, 0, ([] : List (S101)), false)) = some (r1, r2, r3, r4) := by rw [if_pos rfl] at H; exact H
clear H
have H := H1
clear H1
simp only [Option.some.injEq, Prod.mk.injEq] at H
obtain ⟨rfl, rfl, rfl, rfl⟩ := H
have iY := nN bW
have iZ := nN bX
have jt := z3 ai
go_wp2
refine bodyPost_ret (results_ct rfl _ _ b7 53 #[.int .i64 0, .int .i64 0, .slice none 0 0] (0, 0) _ rfl (rk ai) Try.underlying53 rfl (by kernel_rfl)) rfl ?_
exact ⟨_, ew, xn, rb HB⟩
)
·(
replace ct := Bool.eq_false_iff.mpr ct
subst ct
rw [if_neg (show ¬ (false = true) by decide)] at H
obtain ⟨⟨aC, ak⟩, gI, H⟩ := bd H
(try dsimp only at H)
have H' := am H
clear H
have j3 := nN db
have j4 := nN bc
have bR := z2 af
go_wp2_with (first | (refine bx 6 #[.int .i64 0, .int .i64 0, .slice none 0 0] 53 ?_; intro ax hg jx hbox hb; have ae := am (hbox); have eU := am (gw hg (rb HB)); have ie := eU; replace HB := bs HB hb; have bb := am (nl hg (rk ag)); have aJ := ns bb; replace ag := kk ag hb; have bf := am (nl hg (rk af)); have aK := ns bf; replace af := kk af hb; have bg := am (nl hg (rk ai)); have aM := ns bg; replace ai := kk ai hb; clear hb hbox hg; have j5 := nN aJ; have j6 := nN aK; have j7 := nN aM; have bS := z3 ae; have j8 := nN aU; have bT := z2 ag) | ((with_reducible refine cg 70 rfl ?_); refine gl_ (some 31) Try.func70 #[.agg #[.int .i64 aD, .slice aV aA.length aW], .int .i64 ap, .int .i64 (aa.length : Int)] ?_; (with_reducible refine (spec_l5Resized.calls eJ aD _ _ aA ap (aa.length : Int) aC ak _ ?side1 ?side2 gI.out).mono ?_); (case side1 => exact Kd.C_below d3.out (rb HB)); (case side2 => exact cZ.out); rintro e jy ⟨jl, rfl, fk, hb⟩; refine ⟨_, rfl, ?_⟩; have ca := am (Kd.S_lower (Sx_floor fk) (below_size (rb HB))); replace ag := kk ag hb; replace af := kk af hb; replace ai := kk ai hb; replace ae := kk ae hb; replace HB := bs HB hb; (try clear hb); (try clear eF); (try clear hk); (try clear hi); (try clear fk)) | (refine bx 7 #[.int .i64 0, .slice none 0 0] 58 ?_; intro bL hg jz hbox hb; replace ca := am (Kd.S_below (rs ca) hb); have ao := am (hbox); have eV := am (gw hg (rb HB)); have ig := eV; replace HB := bs HB hb; have da := am (nl hg (rk ag)); have dd := ns da; replace ag := kk ag hb; have dc := am (nl hg (rk af)); have de := ns dc; replace af := kk af hb; have bY := am (nl hg (rk ai)); have df := ns bY; replace ai := kk ai hb; have aN := am (nl hg (rk ae)); have bh := ns aN; replace ae := kk ae hb; clear hb hbox hg; have j9 := nN dd; have ja := nN de; have jb := nN df; have jc := nN bh; have bU := z2 ao; obtain ⟨bM, bi, fy⟩ := Kd.S_slice ca.out; subst fy))
go_loopg [8] eJ (fun kq v8 w' => ∃ (a9 : Int) (au : List (S101)) (aq : Value), v8 = .int .i64 a9 ∧ Aside0 (spec_Diff.l0 kq a9 ap aa ap (aa.length : Int) au aC ak = some (r1, r2, r3, r4)) ∧ Aside0 (kq ≤ eJ) ∧ Aside0 (Kd.S k101 101 w' w.heap.size (fun _ => True) aq au) ∧ Aside0 (Kd.S (Kd.slice 98 k98) 99 w' w.heap.size (fun _ => True) (.slice bM ak.length bi) ak) ∧ Aside0 (w'.heap[cf]? = some (.cells #[.int .i64 aD, (.slice aV aA.length aW)] 58 (0, 0))) ∧ Aside0 (w'.heap[aI]? = some (.cells #[.int .i64 ap, (.slice bE aa.length aX)] 58 (0, 0))) ∧ Aside0 (w'.heap[b7]? = some (.cells #[.int .i64 0, .int .i64 0, (.slice none 0 0)] 53 (0, 0))) ∧ Aside0 (w'.heap[ax]? = some (.cells #[.int .i64 ap, .int .i64 (aa.length : Int), aq] 53 (0, 0))) ∧ Aside0 (w'.heap[bL]? = some (.cells #[.int .i64 aC, (.slice bM ak.length bi)] 58 (0, 0))) ∧ Aside0 (Below w.heap.size w w'))
case atStart => exact ⟨(0), (([] : List (S101))), (.slice none 0 0), sd, H', ⟨Nat.le_refl _⟩, ⟨xn⟩, ⟨tS1 ca ao⟩, ⟨rk ag⟩, ⟨rk af⟩, ⟨rk ai⟩, ⟨rk ae⟩, ⟨rk ao⟩, ⟨rb HB⟩⟩
case round => (
clear H'
try clear ct
try clear bR
try clear bS
try clear bT
try clear bU
try clear bR
try clear bS
try clear bT
try clear bU
obtain ⟨a9, au, aq, rfl, HA, bC, ac, ah, ag, af, ai, ae, ao, HB⟩ := hrel
cases gk with
| zero => exact absurd HA.out (by simp [spec_Diff.l0])
| succ k2 => (
have H := HA.out
clear HA
simp only [spec_Diff.l0] at H
refine em_ (p := a9 < (aa.length : Int)) (fun bK => ?gS) (fun bK => ?gR)
case' gS => (
rw [if_pos bK] at H
have f7 : decide (a9 < (aa.length : Int)) = true := decide_eq_true bK
clear bK
have H' := am H
clear H
have gm := trivial
)
case' gR => (
rw [if_neg bK] at H
have f7 : decide (a9 < (aa.length : Int)) = false := decide_eq_false bK
clear bK
refine em_ (p := (au.length : Int) > 400) (fun bF => ?gQ) (fun bF => ?gP)
case' gQ => (
rw [if_pos bF] at H
have ev : decide (400 < (au.length : Int)) = true := decide_eq_true bF
have ex : decide (400 < au.length) = true := decide_eq_true (by omega)
clear bF
simp only [Option.some.injEq, Prod.mk.injEq] at H
obtain ⟨rfl, rfl, rfl, rfl⟩ := H
have eK := trivial
)
case' gP => (
rw [if_neg bF] at H
have ev : decide (400 < (au.length : Int)) = false := decide_eq_false bF
have ex : decide (400 < au.length) = false := decide_eq_false (by omega)
clear bF
simp only [Option.some.injEq, Prod.mk.injEq] at H
obtain ⟨rfl, rfl, rfl, rfl⟩ := H
have eL := trivial
)
)
all_goals (
have jd := nN aJ
have je := nN aK
have jf := nN aM
have jg := nN aN
have d9 := z3 ae
first
| (
have q_ := gm
go_wp2
go_loopg [9] k2 (fun kq v9 w' => ∃ (aj : Int) (al : List (S101)) (aq : Value), v9 = .int .i64 aj ∧ Aside0 (spec_Diff.l1 kq a9 aj ap aa ap (aa.length : Int) al aC ak = some (r1, r2, r3, r4)) ∧ Aside0 (kq ≤ k2) ∧ Aside0 (Kd.S k101 101 w' w.heap.size (fun _ => True) aq al) ∧ Aside0 (Kd.S (Kd.slice 98 k98) 99 w' w.heap.size (fun _ => True) (.slice bM ak.length bi) ak) ∧ Aside0 (w'.heap[cf]? = some (.cells #[.int .i64 aD, (.slice aV aA.length aW)] 58 (0, 0))) ∧ Aside0 (w'.heap[aI]? = some (.cells #[.int .i64 ap, (.slice bE aa.length aX)] 58 (0, 0))) ∧ Aside0 (w'.heap[b7]? = some (.cells #[.int .i64 0, .int .i64 0, (.slice none 0 0)] 53 (0, 0))) ∧ Aside0 (w'.heap[ax]? = some (.cells #[.int .i64 ap, .int .i64 (aa.length : Int), aq] 53 (0, 0))) ∧ Aside0 (w'.heap[bL]? = some (.cells #[.int .i64 aC, (.slice bM ak.length bi)] 58 (0, 0))) ∧ Aside0 (Below w.heap.size w w'))
case atStart => exact ⟨(0), (au), (aq), sd, H', ⟨Nat.le_refl _⟩, ⟨rs ac⟩, ⟨rs ah⟩, ⟨rk ag⟩, ⟨rk af⟩, ⟨rk ai⟩, ⟨rk ae⟩, ⟨rk ao⟩, ⟨rb HB⟩⟩
case round => (
clear H'
try clear ct
try clear bK
try clear bR
try clear bS
try clear bT
try clear bU
try clear d9
try clear bR
try clear bS
try clear bT
try clear bU
try clear d9
obtain ⟨aj, al, aq, rfl, HA, bD, ac, ah, ag, af, ai, ae, ao, HB⟩ := hrel
cases gk with
| zero => exact absurd HA.out (by simp [spec_Diff.l1])
| succ k3 => (
have H := HA.out
clear HA
simp only [spec_Diff.l1] at H
refine em_ (p := aj < ap) (fun bZ => ?gU) (fun bZ => ?gT)
case' gU => (
rw [if_pos bZ] at H
have f8 : decide (aj < ap) = true := decide_eq_true bZ
clear bZ
have H' := am H
clear H
have gn := trivial
)
case' gT => (
rw [if_neg bZ] at H
have f8 : decide (aj < ap) = false := decide_eq_false bZ
clear bZ
have H' := am H
clear H
have gp := trivial
)
all_goals (
have jh := nN aJ
have ji := nN aK
have jj := nN aM
have jk := nN aN
have eP := z3 ae
go_wp2
first
| (
have q_ := gn
go_loopg [10] k3 (fun kq i4 w' => ∃ (a8 : Int), i4 = .int .i64 a8 ∧ Aside0 (spec_Diff.l2 kq a9 aj a8 ap aa ap (aa.length : Int) al aC ak = some (r1, r2, r3, r4)) ∧ Aside0 (kq ≤ k3) ∧ Aside0 (Kd.S k101 101 w' w.heap.size (fun _ => True) aq al) ∧ Aside0 (Kd.S (Kd.slice 98 k98) 99 w' w.heap.size (fun _ => True) (.slice bM ak.length bi) ak) ∧ Aside0 (w'.heap[cf]? = some (.cells #[.int .i64 aD, (.slice aV aA.length aW)] 58 (0, 0))) ∧ Aside0 (w'.heap[aI]? = some (.cells #[.int .i64 ap, (.slice bE aa.length aX)] 58 (0, 0))) ∧ Aside0 (w'.heap[b7]? = some (.cells #[.int .i64 0, .int .i64 0, (.slice none 0 0)] 53 (0, 0))) ∧ Aside0 (w'.heap[ax]? = some (.cells #[.int .i64 ap, .int .i64 (aa.length : Int), aq] 53 (0, 0))) ∧ Aside0 (w'.heap[bL]? = some (.cells #[.int .i64 aC, (.slice bM ak.length bi)] 58 (0, 0))) ∧ Aside0 (Below w.heap.size w w'))
case atStart => exact ⟨(aj), sd, H', ⟨Nat.le_refl _⟩, ⟨rs ac⟩, ⟨rs ah⟩, ⟨rk ag⟩, ⟨rk af⟩, ⟨rk ai⟩, ⟨rk ae⟩, ⟨rk ao⟩, ⟨rb HB⟩⟩
case round => (
clear H'
try clear ct
try clear bK
try clear bZ
try clear bR
try clear bS
try clear bT
try clear bU
try clear d9
try clear eP
try clear bR
try clear bS
try clear bT
try clear bU
try clear d9
try clear eP
obtain ⟨a8, rfl, HA, bV, ac, ah, ag, af, ai, ae, ao, HB⟩ := hrel
cases gk with
| zero => exact absurd HA.out (by simp [spec_Diff.l2])
| succ k4 => (
have H := HA.out
clear HA
simp only [spec_Diff.l2] at H
refine em_ (p := a8 < ap) (fun cu => ?ga) (fun cu => ?g9)
case' ga => (
rw [if_pos cu] at H
have f9 : decide (a8 < ap) = true := decide_eq_true cu
clear cu
refine em_ (p := 0 ≤ a9) (fun dh => ?fK) (fun dh => ?fJ)
case' fK => (
rw [if_pos dh] at H
have ik : decide (0 ≤ a9) = true := decide_eq_true dh
clear dh
refine em_ (p := a9 < (ak.length : Int)) (fun di => ?fI) (fun di => ?fH)
case' fI => (
rw [if_pos di] at H
have il : decide (a9 < (ak.length : Int)) = true := decide_eq_true di
clear di
refine em_ (p := 0 ≤ a8) (fun dj => ?fG) (fun dj => ?fF)
case' fG => (
rw [if_pos dj] at H
have im : decide (0 ≤ a8) = true := decide_eq_true dj
clear dj
refine em_ (p := a8 < ((rd_L5 ak a9).length : Int)) (fun dk => ?fE) (fun dk => ?fD)
case' fE => (
rw [if_pos dk] at H
have io : decide (a8 < ((rd_L5 ak a9).length : Int)) = true := decide_eq_true dk
clear dk
refine em_ (p := a9 < (aa.length : Int)) (fun dm => ?fC) (fun dm => ?fB)
case' fC => (
rw [if_pos dm] at H
have ip : decide (a9 < (aa.length : Int)) = true := decide_eq_true dm
clear dm
refine em_ (p := a8 < ((rd_L5 aa a9).length : Int)) (fun dn => ?fA) (fun dn => ?fz)
case' fA => (
rw [if_pos dn] at H
have iq : decide (a8 < ((rd_L5 aa a9).length : Int)) = true := decide_eq_true dn
clear dn
refine em_ (p := (!(((rd_T98 (rd_L5 ak a9) a8).f0) == ((rd_T98 (rd_L5 aa a9) a8).f0)) || ((!(((rd_T98 (rd_L5 ak a9) a8).f1.f0) == ((rd_T98 (rd_L5 aa a9) a8).f1.f0)) || (!(((rd_T98 (rd_L5 ak a9) a8).f1.f1) == ((rd_T98 (rd_L5 aa a9) a8).f1.f1)) || (!(((rd_T98 (rd_L5 ak a9) a8).f1.f2) == ((rd_T98 (rd_L5 aa a9) a8).f1.f2)) || (!(((rd_T98 (rd_L5 ak a9) a8).f1.f3) == ((rd_T98 (rd_L5 aa a9) a8).f1.f3)) || (!(((rd_T98 (rd_L5 ak a9) a8).f1.f4) == ((rd_T98 (rd_L5 aa a9) a8).f1.f4))))))) || (!(((rd_T98 (rd_L5 ak a9) a8).f2) == ((rd_T98 (rd_L5 aa a9) a8).f2))))) = true) (fun cv => ?i2) (fun cv => ?i1)
case' i2 => (
rw [if_pos cv] at H
have fa : (!(((rd_T98 (rd_L5 ak a9) a8).f0) == ((rd_T98 (rd_L5 aa a9) a8).f0)) || ((!(((rd_T98 (rd_L5 ak a9) a8).f1.f0) == ((rd_T98 (rd_L5 aa a9) a8).f1.f0)) || (!(((rd_T98 (rd_L5 ak a9) a8).f1.f1) == ((rd_T98 (rd_L5 aa a9) a8).f1.f1)) || (!(((rd_T98 (rd_L5 ak a9) a8).f1.f2) == ((rd_T98 (rd_L5 aa a9) a8).f1.f2)) || (!(((rd_T98 (rd_L5 ak a9) a8).f1.f3) == ((rd_T98 (rd_L5 aa a9) a8).f1.f3)) || (!(((rd_T98 (rd_L5 ak a9) a8).f1.f4) == ((rd_T98 (rd_L5 aa a9) a8).f1.f4))))))) || (!(((rd_T98 (rd_L5 ak a9) a8).f2) == ((rd_T98 (rd_L5 aa a9) a8).f2))))) = true := cv
clear cv
have H' := am H
clear H
have ff := trivial
)
case' i1 => (
rw [if_neg cv] at H
have fa : (!(((rd_T98 (rd_L5 ak a9) a8).f0) == ((rd_T98 (rd_L5 aa a9) a8).f0)) || ((!(((rd_T98 (rd_L5 ak a9) a8).f1.f0) == ((rd_T98 (rd_L5 aa a9) a8).f1.f0)) || (!(((rd_T98 (rd_L5 ak a9) a8).f1.f1) == ((rd_T98 (rd_L5 aa a9) a8).f1.f1)) || (!(((rd_T98 (rd_L5 ak a9) a8).f1.f2) == ((rd_T98 (rd_L5 aa a9) a8).f1.f2)) || (!(((rd_T98 (rd_L5 ak a9) a8).f1.f3) == ((rd_T98 (rd_L5 aa a9) a8).f1.f3)) || (!(((rd_T98 (rd_L5 ak a9) a8).f1.f4) == ((rd_T98 (rd_L5 aa a9) a8).f1.f4))))))) || (!(((rd_T98 (rd_L5 ak a9) a8).f2) == ((rd_T98 (rd_L5 aa a9) a8).f2))))) = false := by simpa using cv
clear cv
refine em_ (p := a8 > aj) (fun cw => ?hV) (fun cw => ?hU)
case' hV => (
rw [if_pos cw] at H
have fb : decide (aj < a8) = true := decide_eq_true cw
clear cw
obtain ⟨bH, ch⟩ : ∃ y_ : List (S98), y_ = (([] : List (S98))) := ⟨_, rfl⟩
replace H : (if 0 ≤ aj then (if aj ≤ a8 then (if a8 ≤ ((rd_L5 aa a9).length : Int) then ((some (((rd_L5 aa a9).take (a8 : Int).toNat).drop (aj : Int).toNat : List (S98))).bind fun aG => (if bH.length + aG.length < 3518437208883 then (if al.length < 3518437208883 then (spec_Diff.l1 k4 a9 (wrap64 (a8 + 1)) ap aa ap (aa.length : Int) (al ++ [(⟨a9, aj, (bH ++ aG)⟩ : S101)]) aC ak) else (none)) else (none))) else (none)) else (none)) else (none)) = some (r1, r2, r3, r4) := by first | (rw [ch]; with_reducible exact H) | (rw [ch]; exact H) | exact H
have dQ := am ch
clear ch
refine em_ (p := 0 ≤ aj) (fun cE => ?hP) (fun cE => ?hL)
case' hP => (
rw [if_pos cE] at H
have ir := eq_true cE
have iu : decide (0 ≤ aj) = true := decide_eq_true cE
clear cE
refine em_ (p := aj ≤ a8) (fun cF => ?hJ) (fun cF => ?hI)
case' hJ => (
rw [if_pos cF] at H
have iv := eq_true cF
have iw : decide (aj ≤ a8) = true := decide_eq_true cF
clear cF
refine em_ (p := a8 ≤ ((rd_L5 aa a9).length : Int)) (fun cG => ?hD) (fun cG => ?gZ)
case' hD => (
rw [if_pos cG] at H
have ix := eq_true cG
have iy : decide (a8 ≤ ((rd_L5 aa a9).length : Int)) = true := decide_eq_true cG
clear cG
obtain ⟨aG, cj⟩ : ∃ y_ : List (S98), y_ = (((rd_L5 aa a9).take (a8 : Int).toNat).drop (aj : Int).toNat) := ⟨_, rfl⟩
replace H : (if bH.length + aG.length < 3518437208883 then (if al.length < 3518437208883 then (spec_Diff.l1 k4 a9 (wrap64 (a8 + 1)) ap aa ap (aa.length : Int) (al ++ [(⟨a9, aj, (bH ++ aG)⟩ : S101)]) aC ak) else (none)) else (none)) = some (r1, r2, r3, r4) := by first | (rw [cj]; with_reducible exact H) | (rw [cj]; exact H) | exact H
have dR := am cj
clear cj
refine em_ (p := bH.length + aG.length < 3518437208883) (fun dp => ?gY) (fun dp => ?gX)
case' gY => (
rw [if_pos dp] at H
have LMc70 := am dp
clear dp
obtain ⟨bP, ck⟩ : ∃ y_ : List (S98), y_ = (bH ++ aG) := ⟨_, rfl⟩
replace H : (if al.length < 3518437208883 then (spec_Diff.l1 k4 a9 (wrap64 (a8 + 1)) ap aa ap (aa.length : Int) (al ++ [(⟨a9, aj, bP⟩ : S101)]) aC ak) else (none)) = some (r1, r2, r3, r4) := by first | (rw [ck]; with_reducible exact H) | (rw [ck]; exact H) | exact H
have eX := am ck
clear ck
refine em_ (p := al.length < 3518437208883) (fun dq => ?gW) (fun dq => ?gV)
case' gW => (
rw [if_pos dq] at H
have LMc71 := am dq
clear dq
obtain ⟨dK, cl⟩ : ∃ y_ : List (S101), y_ = (al ++ [(⟨a9, aj, bP⟩ : S101)]) := ⟨_, rfl⟩
replace H : (spec_Diff.l1 k4 a9 (wrap64 (a8 + 1)) ap aa ap (aa.length : Int) dK aC ak) = some (r1, r2, r3, r4) := by first | (rw [cl]; with_reducible exact H) | (rw [cl]; exact H) | exact H
have eY := am cl
clear cl
have H' := am H
clear H
have fg := trivial
)
case gV => (
rw [if_neg dq] at H
exact absurd H (by simp)
)
)
case gX => (
rw [if_neg dp] at H
exact absurd H (by simp)
)
)
case gZ => (
rw [if_neg cG] at H
exact absurd H (by simp)
)
)
case hI => (
rw [if_neg cF] at H
exact absurd H (by simp)
)
)
case hL => (
rw [if_neg cE] at H
exact absurd H (by simp)
)
)
case' hU => (
rw [if_neg cw] at H
have fb : decide (aj < a8) = false := decide_eq_false cw
clear cw
have H' := am H
clear H
have fh := trivial
)
)
)
case fz => (
rw [if_neg dn] at H
exact absurd H (by simp)
)
)
case fB => (
rw [if_neg dm] at H
exact absurd H (by simp)
)
)
case fD => (
rw [if_neg dk] at H
exact absurd H (by simp)
)
)
case fF => (
rw [if_neg dj] at H
exact absurd H (by simp)
)
)
case fH => (
rw [if_neg di] at H
exact absurd H (by simp)
)
)
case fJ => (
rw [if_neg dh] at H
exact absurd H (by simp)
)
)
case' g9 => (
rw [if_neg cu] at H
have f9 : decide (a8 < ap) = false := decide_eq_false cu
clear cu
refine em_ (p := a8 > aj) (fun cy => ?g8) (fun cy => ?fZ)
case' g8 => (
rw [if_pos cy] at H
have fc : decide (aj < a8) = true := decide_eq_true cy
clear cy
obtain ⟨bI, cm⟩ : ∃ y_ : List (S98), y_ = (([] : List (S98))) := ⟨_, rfl⟩
replace H : (if 0 ≤ a9 then (if a9 < (aa.length : Int) then (if 0 ≤ aj then (if aj ≤ a8 then (if a8 ≤ ((rd_L5 aa a9).length : Int) then ((some (((rd_L5 aa a9).take (a8 : Int).toNat).drop (aj : Int).toNat : List (S98))).bind fun aH => (if bI.length + aH.length < 3518437208883 then (if al.length < 3518437208883 then (spec_Diff.l1 k4 a9 (wrap64 (a8 + 1)) ap aa ap (aa.length : Int) (al ++ [(⟨a9, aj, (bI ++ aH)⟩ : S101)]) aC ak) else (none)) else (none))) else (none)) else (none)) else (none)) else (none)) else (none)) = some (r1, r2, r3, r4) := by first | (rw [cm]; with_reducible exact H) | (rw [cm]; exact H) | exact H
have dS := am cm
clear cm
refine em_ (p := 0 ≤ a9) (fun dr => ?fY) (fun dr => ?fX)
case' fY => (
rw [if_pos dr] at H
have iz : decide (0 ≤ a9) = true := decide_eq_true dr
clear dr
refine em_ (p := a9 < (aa.length : Int)) (fun dt => ?fW) (fun dt => ?fV)
case' fW => (
rw [if_pos dt] at H
have iA : decide (a9 < (aa.length : Int)) = true := decide_eq_true dt
clear dt
refine em_ (p := 0 ≤ aj) (fun cH => ?fU) (fun cH => ?fT)
case' fU => (
rw [if_pos cH] at H
have iB := eq_true cH
have iC : decide (0 ≤ aj) = true := decide_eq_true cH
clear cH
refine em_ (p := aj ≤ a8) (fun cI => ?fS) (fun cI => ?fR)
case' fS => (
rw [if_pos cI] at H
have iD := eq_true cI
have iE : decide (aj ≤ a8) = true := decide_eq_true cI
clear cI
refine em_ (p := a8 ≤ ((rd_L5 aa a9).length : Int)) (fun cJ => ?fQ) (fun cJ => ?fP)
case' fQ => (
rw [if_pos cJ] at H
have iF := eq_true cJ
have iG : decide (a8 ≤ ((rd_L5 aa a9).length : Int)) = true := decide_eq_true cJ
clear cJ
obtain ⟨aH, cn⟩ : ∃ y_ : List (S98), y_ = (((rd_L5 aa a9).take (a8 : Int).toNat).drop (aj : Int).toNat) := ⟨_, rfl⟩
replace H : (if bI.length + aH.length < 3518437208883 then (if al.length < 3518437208883 then (spec_Diff.l1 k4 a9 (wrap64 (a8 + 1)) ap aa ap (aa.length : Int) (al ++ [(⟨a9, aj, (bI ++ aH)⟩ : S101)]) aC ak) else (none)) else (none)) = some (r1, r2, r3, r4) := by first | (rw [cn]; with_reducible exact H) | (rw [cn]; exact H) | exact H
have dU := am cn
clear cn
refine em_ (p := bI.length + aH.length < 3518437208883) (fun du => ?fO) (fun du => ?fN)
case' fO => (
rw [if_pos du] at H
have LMc89 := am du
clear du
obtain ⟨bQ, co⟩ : ∃ y_ : List (S98), y_ = (bI ++ aH) := ⟨_, rfl⟩
replace H : (if al.length < 3518437208883 then (spec_Diff.l1 k4 a9 (wrap64 (a8 + 1)) ap aa ap (aa.length : Int) (al ++ [(⟨a9, aj, bQ⟩ : S101)]) aC ak) else (none)) = some (r1, r2, r3, r4) := by first | (rw [co]; with_reducible exact H) | (rw [co]; exact H) | exact H
have eZ := am co
clear co
refine em_ (p := al.length < 3518437208883) (fun dv => ?fM) (fun dv => ?fL)
case' fM => (
rw [if_pos dv] at H
have LMc90 := am dv
clear dv
obtain ⟨dL, cp⟩ : ∃ y_ : List (S101), y_ = (al ++ [(⟨a9, aj, bQ⟩ : S101)]) := ⟨_, rfl⟩
replace H : (spec_Diff.l1 k4 a9 (wrap64 (a8 + 1)) ap aa ap (aa.length : Int) dL aC ak) = some (r1, r2, r3, r4) := by first | (rw [cp]; with_reducible exact H) | (rw [cp]; exact H) | exact H
have f5 := am cp
clear cp
have H' := am H
clear H
have fi := trivial
)
case fL => (
rw [if_neg dv] at H
exact absurd H (by simp)
)
)
case fN => (
rw [if_neg du] at H
exact absurd H (by simp)
)
)
case fP => (
rw [if_neg cJ] at H
exact absurd H (by simp)
)
)
case fR => (
rw [if_neg cI] at H
exact absurd H (by simp)
)
)
case fT => (
rw [if_neg cH] at H
exact absurd H (by simp)
)
)
case fV => (
rw [if_neg dt] at H
exact absurd H (by simp)
)
)
case fX => (
rw [if_neg dr] at H
exact absurd H (by simp)
)
)
case' fZ => (
rw [if_neg cy] at H
have fc : decide (aj < a8) = false := decide_eq_false cy
clear cy
have H' := am H
clear H
have fj := trivial
)
)
all_goals (
try go_wp2
replace ac := am (Kd.S_drew ac.out)
replace ah := am (Kd.S_drew ah.out)
replace ag := am (blk_drew ag.out)
replace af := am (blk_drew af.out)
replace ai := am (blk_drew ai.out)
replace ae := am (blk_drew ae.out)
replace ao := am (blk_drew ao.out)
replace HB := am (below_drew1 HB.out)
first
| (
have d7 : 0 ≤ (a9 : Int) := dt_
have d8 : a9 < (ak.length : Int) := dt_
obtain ⟨d4, gJ, dg, fq, bO, cO, cK⟩ := at_L5 (Kd.S_reads' ah.out).2.2 a9 d7 d8
cases fq
obtain ⟨iH, eG, hMe252, dx⟩ := Kd.S_get ah.out [] a9 d7 (by first | exact d8 | exact dt_ | (have e_ := (Kd.S_reads' ah.out).1; omega))
obtain ⟨ve252_0, rfl, bN⟩ := hMe252
have b4 := dx 0 _ rfl
rw [Nat.add_zero, show ((Kd.slice 98 k98)).sz = 1 from rfl, Nat.mul_one] at b4
replace b4 := Option.some.inj (b4.symm.trans bO)
rw [b4] at bN
have av := am (show Kd.R k98 98 _ _ _ _ (rd_L5 ak a9) from bN)
clear b4 bN
clear dx eG
have aE := am cK
have gy := am cO
clear cK cO
replace d7 := eq_true d7
replace d8 := eq_true d8
have dA : 0 ≤ (a8 : Int) := dt_
have dF : a8 < ((rd_L5 ak a9).length : Int) := dt_
obtain ⟨ay, ft, cS, cT, cU, cV, cW, cX, cY⟩ := at_T98 (rc aE.out) a8 dA dF
cases ft
replace dA := eq_true dA
replace dF := eq_true dF
have dB : 0 ≤ (a9 : Int) := dt_
have dG : a9 < (aa.length : Int) := dt_
obtain ⟨bJ, gK, ey, fu, bo, cP, cL⟩ := at_L5 ce.out a9 dB dG
have eg := bo
cases fu
replace bo := mv HB.out bo
have cB := am cL
have gz := am cP
clear cL cP
replace dB := eq_true dB
replace dG := eq_true dG
have dC : 0 ≤ (a8 : Int) := dt_
have dH : a8 < ((rd_L5 aa a9).length : Int) := dt_
obtain ⟨az, fv, bp, bq, br, bt, bu, bv, bw⟩ := at_T98 cB.out a8 dC dH
have ep := bw
have eo := bv
have el := bu
have ek := bt
have ej := br
have ei := bq
have eh := bp
cases fv
replace bp := mv HB.out bp
replace bq := mv HB.out bq
replace br := mv HB.out br
replace bt := mv HB.out bt
replace bu := mv HB.out bu
replace bv := mv HB.out bv
replace bw := mv HB.out bw
replace dC := eq_true dC
replace dH := eq_true dH
refine start_ (n := 23) (S := fun w' => w'.cell? ⟨ax, 0, none⟩ = some (.int .i64 ap) ∧ w'.cell? ⟨ax, 1, none⟩ = some (.int .i64 (aa.length : Int)) ∧ w'.cell? ⟨ax, 2, none⟩ = some (aq) ∧ w'.cell? ⟨bL, 0, none⟩ = some (.int .i64 aC) ∧ w'.cell? ⟨bL, 1, none⟩ = some (.slice (some d4) ak.length bi) ∧ w'.cell? ⟨aI, 0, none⟩ = some (.int .i64 ap) ∧ w'.cell? ⟨aI, 1, none⟩ = some (.slice (some bJ) aa.length aX) ∧ w'.cell? (d4.add (a9).toNat) = some (.slice (some ay) (rd_L5 ak a9).length dg) ∧ w'.cell? (ay.add ((a8).toNat * 7)) = some (.int .i64 ((rd_T98 (rd_L5 ak a9) a8).f0)) ∧ w'.cell? ⟨(ay.add ((a8).toNat * 7)).block, (ay.add ((a8).toNat * 7)).off + 1, none⟩ = some (.int .i64 ((rd_T98 (rd_L5 ak a9) a8).f1.f0)) ∧ w'.cell? ⟨(ay.add ((a8).toNat * 7)).block, (ay.add ((a8).toNat * 7)).off + 2, none⟩ = some (.int .i64 ((rd_T98 (rd_L5 ak a9) a8).f1.f1)) ∧ w'.cell? ⟨(ay.add ((a8).toNat * 7)).block, (ay.add ((a8).toNat * 7)).off + 3, none⟩ = some (.bool ((rd_T98 (rd_L5 ak a9) a8).f1.f2)) ∧ w'.cell? ⟨(ay.add ((a8).toNat * 7)).block, (ay.add ((a8).toNat * 7)).off + 4, none⟩ = some (.bool ((rd_T98 (rd_L5 ak a9) a8).f1.f3)) ∧ w'.cell? ⟨(ay.add ((a8).toNat * 7)).block, (ay.add ((a8).toNat * 7)).off + 5, none⟩ = some (.bool ((rd_T98 (rd_L5 ak a9) a8).f1.f4)) ∧ w'.cell? ⟨(ay.add ((a8).toNat * 7)).block, (ay.add ((a8).toNat * 7)).off + 6, none⟩ = some (.int .i64 ((rd_T98 (rd_L5 ak a9) a8).f2)) ∧ w'.cell? (bJ.add (a9).toNat) = some (.slice (some az) (rd_L5 aa a9).length ey) ∧ w'.cell? (az.add ((a8).toNat * 7)) = some (.int .i64 ((rd_T98 (rd_L5 aa a9) a8).f0)) ∧ w'.cell? ⟨(az.add ((a8).toNat * 7)).block, (az.add ((a8).toNat * 7)).off + 1, none⟩ = some (.int .i64 ((rd_T98 (rd_L5 aa a9) a8).f1.f0)) ∧ w'.cell? ⟨(az.add ((a8).toNat * 7)).block, (az.add ((a8).toNat * 7)).off + 2, none⟩ = some (.int .i64 ((rd_T98 (rd_L5 aa a9) a8).f1.f1)) ∧ w'.cell? ⟨(az.add ((a8).toNat * 7)).block, (az.add ((a8).toNat * 7)).off + 3, none⟩ = some (.bool ((rd_T98 (rd_L5 aa a9) a8).f1.f2)) ∧ w'.cell? ⟨(az.add ((a8).toNat * 7)).block, (az.add ((a8).toNat * 7)).off + 4, none⟩ = some (.bool ((rd_T98 (rd_L5 aa a9) a8).f1.f3)) ∧ w'.cell? ⟨(az.add ((a8).toNat * 7)).block, (az.add ((a8).toNat * 7)).off + 5, none⟩ = some (.bool ((rd_T98 (rd_L5 aa a9) a8).f1.f4)) ∧ w'.cell? ⟨(az.add ((a8).toNat * 7)).block, (az.add ((a8).toNat * 7)).off + 6, none⟩ = some (.int .i64 ((rd_T98 (rd_L5 aa a9) a8).f2))) (ds := []) (bm 23 0) (by kernel_rfl) rfl rfl ⟨(blk_cell ae.out 0).trans rfl, (blk_cell ae.out 1).trans rfl, (blk_cell ae.out 2).trans rfl, (blk_cell ao.out 0).trans rfl, (blk_cell ao.out 1).trans rfl, (blk_cell af.out 0).trans rfl, (blk_cell af.out 1).trans rfl, bO, cS, cT, cU, cV, cW, cX, cY, (mv HB.out eg), (mv HB.out eh), (mv HB.out ei), (mv HB.out ej), (mv HB.out ek), (mv HB.out el), (mv HB.out eo), (mv HB.out ep)⟩ (fun hHeld => ?_); refine with_tabW spec_Diff.tab11 spec_Diff.bits11 (fun HT_ HW_ => ?_)
generalize wr.drew = i6 at ac ah ag af ai ae ao HB av aE cB bO cS cT cU cV cW cX cY bo bp bq br bt bu bv bw hHeld ⊢
)
| (
refine start_ (n := 23) (S := fun w' => w'.cell? ⟨ax, 0, none⟩ = some (.int .i64 ap) ∧ w'.cell? ⟨ax, 1, none⟩ = some (.int .i64 (aa.length : Int)) ∧ w'.cell? ⟨ax, 2, none⟩ = some (aq)) (ds := []) (bm 23 0) (by kernel_rfl) rfl rfl (bc3 ae) (fun hHeld => ?_); refine with_tabW spec_Diff.tab11 spec_Diff.bits11 (fun HT_ HW_ => ?_)
generalize wr.drew = i8 at ac ah ag af ai ae ao HB hHeld ⊢
)
refine pu_ 0 43 (bm 23 1) HT_.out ?_
refine pu_ 1 44 (bm 23 3) HT_.out ?_
refine take_ (i := 2) (N := some 45) (v := ?_) (a' := ?_) (bm 23 7) rfl rfl (take_ofW HT_.out HW_.out (by kernel_rfl)) (fun _ _ _ h => h) (Or.inl ⟨by rfl, ?_⟩) hHeld ?_ ?_
rotate_left
first
| (
·(
rintro w' ⟨s0, s1, s2, s3, s4, s5, s6, s7, s8, s9, s10, s11, s12, s13, s14, s15, s16, s17, s18, s19, s20, s21, s22⟩
go_simp
with_reducible rfl
)
)
| (
·(
rintro w' ⟨s0, s1, s2⟩
go_simp
with_reducible rfl
)
)
rotate_left
·(
simp only [Act.put, List.setIfInBounds_toArray, List.set_cons_zero, List.set_cons_succ, i64_w, i32_w]
rfl
)
refine pu_ 3 46 (bm 23 15) HT_.out ?_
refine pu_ 4 47 (bm 23 31) HT_.out ?_
first | refine pu_ 5 48 (bm 23 63) HT_.out ?_ | refine un_ 5 48 (bm 23 63) HT_.out ?_
first
| (
refine pu_ 7 50 (bm 23 191) HT_.out ?_
refine pu_ 10 53 (bm 23 1215) HT_.out ?_
refine pu_ 13 56 (bm 23 9407) HT_.out ?_
refine pu_ 15 58 (bm 23 42175) HT_.out ?_
refine pu_ 18 61 (bm 23 304319) HT_.out ?_
refine tk 6 49 (bm 23 304383) HT_ HW_ hHeld ?_
refine pu_ 8 51 (bm 23 304639) HT_.out ?_
refine tk 9 52 (bm 23 305151) HT_ HW_ hHeld ?_
refine pu_ 11 54 (bm 23 307199) HT_.out ?_
refine tk 12 55 (bm 23 311295) HT_ HW_ hHeld ?_
refine tk 14 57 (bm 23 327679) HT_ HW_ hHeld ?_
refine pu_ 16 59 (bm 23 393215) HT_.out ?_
refine tk 17 60 (bm 23 524287) HT_ HW_ hHeld ?_
refine pu_ 19 62 (bm 23 1048575) HT_.out ?_
refine tk 20 63 (bm 23 2097151) HT_ HW_ hHeld ?_
)
| (
refine un_ 6 49 (bm 23 127) HT_.out ?_
refine un_ 7 50 (bm 23 255) HT_.out ?_
refine un_ 8 51 (bm 23 511) HT_.out ?_
refine un_ 9 52 (bm 23 1023) HT_.out ?_
refine un_ 10 53 (bm 23 2047) HT_.out ?_
refine un_ 11 54 (bm 23 4095) HT_.out ?_
refine un_ 12 55 (bm 23 8191) HT_.out ?_
refine un_ 13 56 (bm 23 16383) HT_.out ?_
refine un_ 14 57 (bm 23 32767) HT_.out ?_
refine un_ 15 58 (bm 23 65535) HT_.out ?_
refine un_ 16 59 (bm 23 131071) HT_.out ?_
refine un_ 17 60 (bm 23 262143) HT_.out ?_
refine un_ 18 61 (bm 23 524287) HT_.out ?_
refine un_ 19 62 (bm 23 1048575) HT_.out ?_
refine un_ 20 63 (bm 23 2097151) HT_.out ?_
)
first | refine pu_ 21 64 (bm 23 4194303) HT_.out ?_ | refine un_ 21 64 (bm 23 4194303) HT_.out ?_
refine pu_ 22 65 (bm 23 8388607) HT_.out ?_
refine done_ (done_of HT_.out (by kernel_rfl)) ?_
try go_wp2
first
| (
have q_ := fg
replace ac := am (Kd.S_drew ac.out)
replace ah := am (Kd.S_drew ah.out)
replace av := am (Kd.R_drew av.out)
replace ag := am (blk_drew ag.out)
replace af := am (blk_drew af.out)
replace ai := am (blk_drew ai.out)
replace ae := am (blk_drew ae.out)
replace ao := am (blk_drew ao.out)
replace aE := am (Kd.C_drew aE.out)
replace HB := am (below_drew1 HB.out)
have dD : 0 ≤ (a9 : Int) := dt_
have dI : a9 < (aa.length : Int) := dt_
obtain ⟨f6, b8, aY, fw, bz, cQ, cM⟩ := at_L5 ce.out a9 dD dI
have aQ := bz
obtain rfl : bJ = f6 := (by injection fw)
replace bz := mv HB.out bz
have cC := am cM
have ee := am cQ
clear cM cQ
replace dD := eq_true dD
replace dI := eq_true dI
have eM : (a8 : Int) ≤ (((rd_L5 aa a9).length : Int) : Int) := dt_
obtain ⟨i074, dY, _, eb, _⟩ := info_parts info98
have bl : (rd_L5 aa a9).length ≤ aY := ee.out
have hC74 : Kd.C k98 _ b8 (rd_L5 aa a9).length (rd_L5 aa a9) := cC.out
have ql74 : (aj : Int) ≤ (a8 : Int) := dt_
have gq : (0 : Int) ≤ (aj : Int) := dt_
have eH := cut_mid (P := Try.prog) 99 98 .i64 .i64 Try.underlying99 dY 7 eb b8 (rd_L5 aa a9).length aY aj a8 gq ql74 eM bl
have cz := Kd.C_mid (lo := (aj : Int).toNat) (hi := (a8 : Int).toNat) (c := aY) hC74 (by omega) (by omega) bl
obtain ⟨gL, hA74⟩ : ∃ A1, A1 = (if aY = (aj : Int).toNat then b8 else (b8 : Option Addr).map (·.add ((aj : Int).toNat * 7))) := ⟨_, rfl⟩
obtain ⟨gN, dy⟩ : ∃ c1, c1 = aY - (aj : Int).toNat := ⟨_, rfl⟩
have d5 : aG.length = (a8 : Int).toNat - (aj : Int).toNat := (by rw [dR.out, List.length_drop, List.length_take] <;> omega)
rw [show ((rd_L5 aa a9).take (a8 : Int).toNat).drop (aj : Int).toNat = aG from dR.out.symm] at cz
replace cz : Kd.C k98 _ gL aG.length aG := (by rw [hA74]; exact cz)
rw [← d5, ← hA74, ← dy] at eH
have dO := am cz
have ii := am (show aG.length ≤ gN from by rw [d5, dy]; exact Nat.sub_le_sub_right (Nat.le_trans (by omega) bl) _)
clear cz hC74 bl dY eb dy
have KY74 := am d5
have KA74 := am hA74
clear d5 hA74
replace eM := eq_true eM
refine start_ (n := 19) (S := fun w' => w'.cell? ⟨ax, 0, none⟩ = some (.int .i64 ap) ∧ w'.cell? ⟨ax, 1, none⟩ = some (.int .i64 (aa.length : Int)) ∧ w'.cell? ⟨ax, 2, none⟩ = some (aq) ∧ w'.cell? ⟨aI, 0, none⟩ = some (.int .i64 ap) ∧ w'.cell? ⟨aI, 1, none⟩ = some (.slice (some bJ) aa.length aX) ∧ w'.cell? (bJ.add (a9).toNat) = some (.slice b8 (rd_L5 aa a9).length aY)) (ds := [18]) (bm 19 0) (by kernel_rfl) rfl rfl ⟨(blk_cell ae.out 0).trans rfl, (blk_cell ae.out 1).trans rfl, (blk_cell ae.out 2).trans rfl, (blk_cell af.out 0).trans rfl, (blk_cell af.out 1).trans rfl, (mv HB.out aQ)⟩ (fun hHeld => ?_); refine with_tabW spec_Diff.tab14 spec_Diff.bits14 (fun HT_ HW_ => ?_)
generalize i6.drew = jA at ac ah av ag af ai ae ao aE HB cC dO bz hHeld ⊢
refine pu_ 0 71 (bm 19 1) HT_.out ?_
refine pu_ 2 73 (bm 19 5) HT_.out ?_
refine pu_ 3 74 (bm 19 13) HT_.out ?_
refine pu_ 5 76 (bm 19 45) HT_.out ?_
refine pu_ 7 78 (bm 19 173) HT_.out ?_
refine pu_ 10 81 (bm 19 1197) HT_.out ?_
refine pu_ 11 82 (bm 19 3245) HT_.out ?_
refine tk 1 72 (bm 19 3247) HT_ HW_ hHeld ?_
refine tk 6 77 (bm 19 3311) HT_ HW_ hHeld ?_
refine pu_ 8 79 (bm 19 3567) HT_.out ?_
refine tk 9 80 (bm 19 4079) HT_ HW_ hHeld ?_
refine pu_ 12 83 (bm 19 8175) HT_.out ?_
refine o1 4 75 (bm 19 8191) HT_ (fun K hK => ?_)
refine Kd.R_lit_step k98 _ 98 ?hg (N := 75) ?hd (xs := ([] : List (S98))) (inner := []) (ok := fun _ => True) (okp := fun _ => True) ?hr ?hp (fun _ hk => hk) trivial (Below.refl _ _) (Nat.le_refl _) (by simp) ?_; (case hd => rfl); (case hg => rfl); (case hr => first | (go_simp; done) | (go_simp; rfl)); (case hp => exact (Reps.none _ _))
intro gv jB bj hb hg_ hnew_
clear hg_ hnew_
(first | rw [← dQ.out] at bj | (simp only [Int.reduceToNat] at bj; rw [← dQ.out] at bj))
replace ac := am (Kd.S_elder' (rs ac) (Kd.R_base bj) hb)
replace ah := am (Kd.S_elder' (rs ah) (Kd.R_base bj) hb)
have b5 := am (Kd.R_lower (Kd.R_new' bj (Kd.R_lt (rr av))) (below_size (rb HB)))
replace av := am (Kd.R_elder' (rr av) (Kd.R_base bj) hb)
replace ag := kk ag hb
replace af := kk af hb
replace ai := kk ai hb
replace ae := kk ae hb
replace ao := kk ao hb
replace aE := am (Kd.C_below (rc aE.out) hb)
replace HB := bs HB hb
clear hb bj
refine hK.out _ _ ⟨(blk_cell ae.out 0).trans rfl, (blk_cell ae.out 1).trans rfl, (blk_cell ae.out 2).trans rfl, (blk_cell af.out 0).trans rfl, (blk_cell af.out 1).trans rfl, (mv HB.out aQ)⟩ (fun hHeld => ?_)
clear hK K
refine norm_ (a' := _) (show Act.put _ (some 75) _ = _ from na) ?_
refine o1 13 84 (bm 19 16383) HT_ (fun K hK => ?_)
refine Kd.R_append_rows_step k98 (w0 := w) w.heap.size (by rfl) (.tmp 75) (.tmp 83) 99 98 (.agg #[(.int .i64 0), (.int .i64 0), (.int .i64 0), (.bool false), (.bool false), (.bool false), (.int .i64 0)]) 40 rfl Try.underlying99 info98 rfl (by decide) (by omega) gv bH aG _ _ _ (fun k_ => some k_ ≠ (.slice (some ay) (rd_L5 ak a9).length dg : Value).ownBlock) (fun _ => False) rfl rfl ?aO ?aR (fun _ _ h => h) (fun _ h => h.elim) ?aF ?aB ?aS ?aL ?_
(case aR => repeat (first | exact (Kd.C_below dO.out HB.out) | (with_reducible refine Kd.C_alloc ?_ _) | (with_reducible refine Kd.C_drewN ?_ _) | (with_reducible refine Kd.C_drew ?_)))
(case aB => exact (rb HB))
(case aF => exact (fun k_ hk => Kd.fresh' (Kd.R_lt (rr av)) k_ hk))
(case aO => exact (rrm b5))
(case aS => exact (below_size (rb HB)))
(case aL => have := LMc70.out; omega)
intro jm jC ho hb hg hat
rw [← eX.out] at ho
replace ac := am (Kd.S_after (ok := (fun _ => True)) (rs ac) hg hat)
replace ah := am (Kd.S_after (ok := (fun _ => True)) (rs ah) hg hat)
replace ag := am (blk_grown (rk ag) hg (Kd.R_ne b5.out ag.out (by decide)))
replace af := am (blk_grown (rk af) hg (Kd.R_ne b5.out af.out (by decide)))
replace ai := am (blk_grown (rk ai) hg (Kd.R_ne b5.out ai.out (by decide)))
replace ae := am (blk_grown (rk ae) hg (Kd.R_ne b5.out ae.out (by decide)))
replace ao := am (blk_grown (rk ao) hg (Kd.R_ne b5.out ao.out (by decide)))
replace av := am (Kd.R_after (ok := (fun k_ => some k_ ≠ (.slice (some d4) ak.length bi : Value).ownBlock)) (qR_ av) hg hat)
replace HB := am (hb)
have cb := am (ho)
clear b5
clear ho hb hg hat
obtain ⟨er, ez, eB⟩ := Kd.R_slice cb.out
(first | subst eB | (injection eB with f1_ f2_ f3_; have f4_ := f1_.symm; have f5_ := f3_.symm; clear f1_ f2_ f3_; subst f4_; subst f5_))
refine hK.out _ _ ⟨(blk_cell ae.out 0).trans rfl, (blk_cell ae.out 1).trans rfl, (blk_cell ae.out 2).trans rfl, (blk_cell af.out 0).trans rfl, (blk_cell af.out 1).trans rfl, (mv HB.out aQ)⟩ (fun hHeld => ?_)
clear hK K
refine norm_ (a' := _) (show Act.put _ (some 84) _ = _ from na) ?_
refine pu_ 14 85 (bm 19 32767) HT_.out ?_
refine o1 15 86 (bm 19 65535) HT_ (fun K hK => ?_)
refine value_ (w1 := ?_) (v := ?_) (by rfl) rfl ?_ ?_
rotate_left 2
·(
go_simp
constructor
·rfl
·rfl
)
refine hK.out _ _ ⟨(blk_cell (blk_alloc ae.out _) 0).trans rfl, (blk_cell (blk_alloc ae.out _) 1).trans rfl, (blk_cell (blk_alloc ae.out _) 2).trans rfl, (blk_cell (blk_alloc af.out _) 0).trans rfl, (blk_cell (blk_alloc af.out _) 1).trans rfl, (World.cell?_alloc_lt _ _ _ (World.block_lt_of_cell? _ _ ((mv HB.out aQ)))).trans ((mv HB.out aQ))⟩ (fun hHeld => ?_)
clear hK K
refine norm_ (a' := _) (show Act.put _ (some 86) _ = _ from na) ?_
refine o1 16 87 (bm 19 131071) HT_ (fun K hK => ?_)
refine Kd.S_append_step k101 (w0 := w) w.heap.size (by rfl) (.tmp 72) (.tmp 86) 51 101 (.agg #[(.int .i64 0), (.int .i64 0), (.slice none 0 0)]) 40 rfl Try.underlying51 info101 rfl (by decide) (by omega) aq al (⟨a9, aj, bP⟩ : S101) [.int .i64 a9, .int .i64 aj, .slice er bP.length ez] (fun _ => True) (fun k_ => some k_ = (.slice er bP.length ez : Value).ownBlock) rfl rfl ?aP (fun k_ hk_ => ((Kd.R_mono (ok' := fun k_ => ((fun _ => True)) k_ ∧ some k_ ≠ (aq : Value).ownBlock) (Kd.R_apart' (cb.out) (Kd.S_typed ac.out) (by decide)) (fun k_ hk => ⟨trivial, hk.2⟩))).1 k_ hk_.symm) ?aF ?aO ?aB ?aS ?aL ?_
(case aP => exact k101_mkM _ _ _ (⟨a9, aj, bP⟩ : S101) (Kd.R_mono (Kd.R_tight rfl (Kd.R_mono (ok' := fun k_ => ((fun _ => True)) k_ ∧ some k_ ≠ (aq : Value).ownBlock) (Kd.R_apart' (cb.out) (Kd.S_typed ac.out) (by decide)) (fun k_ hk => ⟨trivial, hk.2⟩))) (fun _ h_ => h_)))
(case aB => exact (rb HB))
(case aF => exact (fun _ _ => trivial))
(case aO => exact (by (with_reducible repeat (first | apply Kd.S_alloc | apply Kd.S_drewN | apply Kd.S_drew)); exact Kd.S_mono ac.out (fun k_ hk => ⟨trivial, fun e_ => hk.2 e_⟩)))
(case aS => exact (below_size (rb HB)))
(case aL => have := LMc71.out; omega)
intro jn i7 ho hb hg hat
rw [← eY.out] at ho
replace ah := am (Kd.S_over' (rs ah) (Kd.S_typed (rs ac)) (by decide) hg)
replace ag := am (blk_grown (rk ag) hg (Kd.S_ne ac.out ag.out (by decide)))
replace af := am (blk_grown (rk af) hg (Kd.S_ne ac.out af.out (by decide)))
replace ai := am (blk_grown (rk ai) hg (Kd.S_ne ac.out ai.out (by decide)))
replace ae := am (blk_grown (rk ae) hg (Kd.S_ne ac.out ae.out (by decide)))
replace ao := am (blk_grown (rk ao) hg (Kd.S_ne ac.out ao.out (by decide)))
replace av := am (Kd.R_over' (rr av) (Kd.S_typed (rs ac)) (by decide) hg)
replace HB := am (hb)
have dM := am (ho)
clear ac cb
clear ho hb hg hat
obtain ⟨fl, fo, eC⟩ := Kd.S_slice dM.out
(first | subst eC | (injection eC with f1_ f2_ f3_; have f4_ := f1_.symm; have f5_ := f3_.symm; clear f1_ f2_ f3_; subst f4_; subst f5_))
refine hK.out _ _ ⟨(blk_cell ae.out 0).trans rfl, (blk_cell ae.out 1).trans rfl, (blk_cell ae.out 2).trans rfl, (blk_cell af.out 0).trans rfl, (blk_cell af.out 1).trans rfl, (mv HB.out aQ)⟩ (fun hHeld => ?_)
clear hK K
refine norm_ (a' := _) (show Act.put _ (some 87) _ = _ from na) ?_
refine pu_ 17 88 (bm 19 262143) HT_.out ?_
refine last_ (i := 18) (N := none) (bm 19 524287) rfl rfl (one_of HT_.out (by kernel_rfl)) (by decide) (fun K hK => ?_)
have iP : i7.cell? ⟨ax, 2, none⟩ = some (aq) := (blk_cell ae.out 2).trans rfl
have iI := blk_frozen ae.out 2
have gE := bb.out
have gF := bf.out
have gG := bg.out
have gH := bh.out
have gA := aJ.out
have gB := aK.out
have gC := aM.out
have gD := aN.out
refine skip_ (w1 := ?_) (by rfl) rfl ?_ ?_
rotate_left
·(
go_simp
rfl
)
refine hK.out _ _ ?_
clear hK K
refine done_ (done_of HT_.out (by kernel_rfl)) ?_
try go_wp2
go_roundg k4
case measure => have := bB.out; have := bC.out; have := bD.out; have := bV.out; omega
case rel => exact ⟨(wrap64 (a8 + 1)), (dK), (.slice fl dK.length fo), sd, H', ⟨by have := bB.out; have := bC.out; have := bD.out; have := bV.out; omega⟩, ⟨tS1 dM ae⟩, ⟨tS1 ah ae⟩, ⟨rk ag⟩, ⟨rk af⟩, ⟨rk ai⟩, ⟨rk ae⟩, ⟨rk ao⟩, ⟨rb HB⟩⟩
)
| (
have q_ := fi
replace ac := am (Kd.S_drew ac.out)
replace ah := am (Kd.S_drew ah.out)
replace ag := am (blk_drew ag.out)
replace af := am (blk_drew af.out)
replace ai := am (blk_drew ai.out)
replace ae := am (blk_drew ae.out)
replace ao := am (blk_drew ao.out)
replace HB := am (below_drew1 HB.out)
have dE : 0 ≤ (a9 : Int) := dt_
have dJ : a9 < (aa.length : Int) := dt_
obtain ⟨dV, b9, aZ, fx, bA, cR, cN⟩ := at_L5 ce.out a9 dE dJ
have aT := bA
cases fx
replace bA := mv HB.out bA
have cD := am cN
have ef := am cR
clear cN cR
replace dE := eq_true dE
replace dJ := eq_true dJ
have eN : (a8 : Int) ≤ (((rd_L5 aa a9).length : Int) : Int) := dt_
obtain ⟨i093, dZ, _, ed, _⟩ := info_parts info98
have bn : (rd_L5 aa a9).length ≤ aZ := ef.out
have hC93 : Kd.C k98 _ b9 (rd_L5 aa a9).length (rd_L5 aa a9) := cD.out
have ql93 : (aj : Int) ≤ (a8 : Int) := dt_
have gr : (0 : Int) ≤ (aj : Int) := dt_
have eI := cut_mid (P := Try.prog) 99 98 .i64 .i64 Try.underlying99 dZ 7 ed b9 (rd_L5 aa a9).length aZ aj a8 gr ql93 eN bn
have cA := Kd.C_mid (lo := (aj : Int).toNat) (hi := (a8 : Int).toNat) (c := aZ) hC93 (by omega) (by omega) bn
obtain ⟨gM, hA93⟩ : ∃ A1, A1 = (if aZ = (aj : Int).toNat then b9 else (b9 : Option Addr).map (·.add ((aj : Int).toNat * 7))) := ⟨_, rfl⟩
obtain ⟨gO, dz⟩ : ∃ c1, c1 = aZ - (aj : Int).toNat := ⟨_, rfl⟩
have d6 : aH.length = (a8 : Int).toNat - (aj : Int).toNat := (by rw [dU.out, List.length_drop, List.length_take] <;> omega)
rw [show ((rd_L5 aa a9).take (a8 : Int).toNat).drop (aj : Int).toNat = aH from dU.out.symm] at cA
replace cA : Kd.C k98 _ gM aH.length aH := (by rw [hA93]; exact cA)
rw [← d6, ← hA93, ← dz] at eI
have dP := am cA
have ij := am (show aH.length ≤ gO from by rw [d6, dz]; exact Nat.sub_le_sub_right (Nat.le_trans (by omega) bn) _)
clear cA hC93 bn dZ ed dz
have KY93 := am d6
have KA93 := am hA93
clear d6 hA93
replace eN := eq_true eN
refine start_ (n := 19) (S := fun w' => w'.cell? ⟨ax, 0, none⟩ = some (.int .i64 ap) ∧ w'.cell? ⟨ax, 1, none⟩ = some (.int .i64 (aa.length : Int)) ∧ w'.cell? ⟨ax, 2, none⟩ = some (aq) ∧ w'.cell? ⟨aI, 0, none⟩ = some (.int .i64 ap) ∧ w'.cell? ⟨aI, 1, none⟩ = some (.slice (some dV) aa.length aX) ∧ w'.cell? (dV.add (a9).toNat) = some (.slice b9 (rd_L5 aa a9).length aZ)) (ds := [18]) (bm 19 0) (by kernel_rfl) rfl rfl ⟨(blk_cell ae.out 0).trans rfl, (blk_cell ae.out 1).trans rfl, (blk_cell ae.out 2).trans rfl, (blk_cell af.out 0).trans rfl, (blk_cell af.out 1).trans rfl, (mv HB.out aT)⟩ (fun hHeld => ?_); refine with_tabW spec_Diff.tab14 spec_Diff.bits14 (fun HT_ HW_ => ?_)
generalize i8.drew = jD at ac ah ag af ai ae ao HB cD dP bA hHeld ⊢
refine pu_ 0 71 (bm 19 1) HT_.out ?_
refine pu_ 2 73 (bm 19 5) HT_.out ?_
refine pu_ 3 74 (bm 19 13) HT_.out ?_
refine pu_ 5 76 (bm 19 45) HT_.out ?_
refine pu_ 7 78 (bm 19 173) HT_.out ?_
refine pu_ 10 81 (bm 19 1197) HT_.out ?_
refine pu_ 11 82 (bm 19 3245) HT_.out ?_
refine tk 1 72 (bm 19 3247) HT_ HW_ hHeld ?_
refine tk 6 77 (bm 19 3311) HT_ HW_ hHeld ?_
refine pu_ 8 79 (bm 19 3567) HT_.out ?_
refine tk 9 80 (bm 19 4079) HT_ HW_ hHeld ?_
refine pu_ 12 83 (bm 19 8175) HT_.out ?_
refine o1 4 75 (bm 19 8191) HT_ (fun K hK => ?_)
refine Kd.R_lit_step k98 _ 98 ?hg (N := 75) ?hd (xs := ([] : List (S98))) (inner := []) (ok := fun _ => True) (okp := fun _ => True) ?hr ?hp (fun _ hk => hk) trivial (Below.refl _ _) (Nat.le_refl _) (by simp) ?_; (case hd => rfl); (case hg => rfl); (case hr => first | (go_simp; done) | (go_simp; rfl)); (case hp => exact (Reps.none _ _))
intro gx jE bG hb hg_ hnew_
clear hg_ hnew_
(first | rw [← dS.out] at bG | (simp only [Int.reduceToNat] at bG; rw [← dS.out] at bG))
replace ac := am (Kd.S_elder' (rs ac) (Kd.R_base bG) hb)
replace ah := am (Kd.S_elder' (rs ah) (Kd.R_base bG) hb)
have b6 := am (Kd.R_lower bG (below_size (rb HB)))
replace ag := kk ag hb
replace af := kk af hb
replace ai := kk ai hb
replace ae := kk ae hb
replace ao := kk ao hb
replace HB := bs HB hb
clear hb bG
refine hK.out _ _ ⟨(blk_cell ae.out 0).trans rfl, (blk_cell ae.out 1).trans rfl, (blk_cell ae.out 2).trans rfl, (blk_cell af.out 0).trans rfl, (blk_cell af.out 1).trans rfl, (mv HB.out aT)⟩ (fun hHeld => ?_)
clear hK K
refine norm_ (a' := _) (show Act.put _ (some 75) _ = _ from na) ?_
refine o1 13 84 (bm 19 16383) HT_ (fun K hK => ?_)
refine Kd.R_append_rows_step k98 (w0 := w) w.heap.size (by rfl) (.tmp 75) (.tmp 83) 99 98 (.agg #[(.int .i64 0), (.int .i64 0), (.int .i64 0), (.bool false), (.bool false), (.bool false), (.int .i64 0)]) 40 rfl Try.underlying99 info98 rfl (by decide) (by omega) gx bI aH _ _ _ (fun _ => True) (fun _ => False) rfl rfl ?aO ?aR (fun _ _ h => h) (fun _ h => h.elim) ?aF ?aB ?aS ?aL ?_
(case aR => repeat (first | exact (Kd.C_below dP.out HB.out) | (with_reducible refine Kd.C_alloc ?_ _) | (with_reducible refine Kd.C_drewN ?_ _) | (with_reducible refine Kd.C_drew ?_)))
(case aB => exact (rb HB))
(case aF => exact (fun _ _ => trivial))
(case aO => exact (rr b6))
(case aS => exact (below_size (rb HB)))
(case aL => have := LMc89.out; omega)
intro jo jF ho hb hg hat
rw [← eZ.out] at ho
replace ac := am (Kd.S_after (ok := (fun _ => True)) (rs ac) hg hat)
replace ah := am (Kd.S_after (ok := (fun _ => True)) (rs ah) hg hat)
replace ag := am (blk_grown (rk ag) hg (Kd.R_ne b6.out ag.out (by decide)))
replace af := am (blk_grown (rk af) hg (Kd.R_ne b6.out af.out (by decide)))
replace ai := am (blk_grown (rk ai) hg (Kd.R_ne b6.out ai.out (by decide)))
replace ae := am (blk_grown (rk ae) hg (Kd.R_ne b6.out ae.out (by decide)))
replace ao := am (blk_grown (rk ao) hg (Kd.R_ne b6.out ao.out (by decide)))
replace HB := am (hb)
have cd := am (ho)
clear b6
clear ho hb hg hat
obtain ⟨es, eA, eD⟩ := Kd.R_slice cd.out
(first | subst eD | (injection eD with f1_ f2_ f3_; have f4_ := f1_.symm; have f5_ := f3_.symm; clear f1_ f2_ f3_; subst f4_; subst f5_))
refine hK.out _ _ ⟨(blk_cell ae.out 0).trans rfl, (blk_cell ae.out 1).trans rfl, (blk_cell ae.out 2).trans rfl, (blk_cell af.out 0).trans rfl, (blk_cell af.out 1).trans rfl, (mv HB.out aT)⟩ (fun hHeld => ?_)
clear hK K
refine norm_ (a' := _) (show Act.put _ (some 84) _ = _ from na) ?_
refine pu_ 14 85 (bm 19 32767) HT_.out ?_
refine o1 15 86 (bm 19 65535) HT_ (fun K hK => ?_)
refine value_ (w1 := ?_) (v := ?_) (by rfl) rfl ?_ ?_
rotate_left 2
·(
go_simp
constructor
·rfl
·rfl
)
refine hK.out _ _ ⟨(blk_cell (blk_alloc ae.out _) 0).trans rfl, (blk_cell (blk_alloc ae.out _) 1).trans rfl, (blk_cell (blk_alloc ae.out _) 2).trans rfl, (blk_cell (blk_alloc af.out _) 0).trans rfl, (blk_cell (blk_alloc af.out _) 1).trans rfl, (World.cell?_alloc_lt _ _ _ (World.block_lt_of_cell? _ _ ((mv HB.out aT)))).trans ((mv HB.out aT))⟩ (fun hHeld => ?_)
clear hK K
refine norm_ (a' := _) (show Act.put _ (some 86) _ = _ from na) ?_
refine o1 16 87 (bm 19 131071) HT_ (fun K hK => ?_)
refine Kd.S_append_step k101 (w0 := w) w.heap.size (by rfl) (.tmp 72) (.tmp 86) 51 101 (.agg #[(.int .i64 0), (.int .i64 0), (.slice none 0 0)]) 40 rfl Try.underlying51 info101 rfl (by decide) (by omega) aq al (⟨a9, aj, bQ⟩ : S101) [.int .i64 a9, .int .i64 aj, .slice es bQ.length eA] (fun _ => True) (fun k_ => some k_ = (.slice es bQ.length eA : Value).ownBlock) rfl rfl ?aP (fun k_ hk_ => ((Kd.R_mono (ok' := fun k_ => ((fun _ => True)) k_ ∧ some k_ ≠ (aq : Value).ownBlock) (Kd.R_apart' (cd.out) (Kd.S_typed ac.out) (by decide)) (fun k_ hk => ⟨trivial, hk.2⟩))).1 k_ hk_.symm) ?aF ?aO ?aB ?aS ?aL ?_
(case aP => exact k101_mkM _ _ _ (⟨a9, aj, bQ⟩ : S101) (Kd.R_mono (Kd.R_tight rfl (Kd.R_mono (ok' := fun k_ => ((fun _ => True)) k_ ∧ some k_ ≠ (aq : Value).ownBlock) (Kd.R_apart' (cd.out) (Kd.S_typed ac.out) (by decide)) (fun k_ hk => ⟨trivial, hk.2⟩))) (fun _ h_ => h_)))
(case aB => exact (rb HB))
(case aF => exact (fun _ _ => trivial))
(case aO => exact (by (with_reducible repeat (first | apply Kd.S_alloc | apply Kd.S_drewN | apply Kd.S_drew)); exact Kd.S_mono ac.out (fun k_ hk => ⟨trivial, fun e_ => hk.2 e_⟩)))
(case aS => exact (below_size (rb HB)))
(case aL => have := LMc90.out; omega)
intro jp i9 ho hb hg hat
rw [← f5.out] at ho
replace ah := am (Kd.S_over' (rs ah) (Kd.S_typed (rs ac)) (by decide) hg)
replace ag := am (blk_grown (rk ag) hg (Kd.S_ne ac.out ag.out (by decide)))
replace af := am (blk_grown (rk af) hg (Kd.S_ne ac.out af.out (by decide)))
replace ai := am (blk_grown (rk ai) hg (Kd.S_ne ac.out ai.out (by decide)))
replace ae := am (blk_grown (rk ae) hg (Kd.S_ne ac.out ae.out (by decide)))
replace ao := am (blk_grown (rk ao) hg (Kd.S_ne ac.out ao.out (by decide)))
replace HB := am (hb)
have dN := am (ho)
clear ac cd
clear ho hb hg hat
obtain ⟨fm, fp, eE⟩ := Kd.S_slice dN.out
(first | subst eE | (injection eE with f1_ f2_ f3_; have f4_ := f1_.symm; have f5_ := f3_.symm; clear f1_ f2_ f3_; subst f4_; subst f5_))
refine hK.out _ _ ⟨(blk_cell ae.out 0).trans rfl, (blk_cell ae.out 1).trans rfl, (blk_cell ae.out 2).trans rfl, (blk_cell af.out 0).trans rfl, (blk_cell af.out 1).trans rfl, (mv HB.out aT)⟩ (fun hHeld => ?_)
clear hK K
refine norm_ (a' := _) (show Act.put _ (some 87) _ = _ from na) ?_
refine pu_ 17 88 (bm 19 262143) HT_.out ?_
refine last_ (i := 18) (N := none) (bm 19 524287) rfl rfl (one_of HT_.out (by kernel_rfl)) (by decide) (fun K hK => ?_)
have iJ : i9.cell? ⟨ax, 2, none⟩ = some (aq) := (blk_cell ae.out 2).trans rfl
have i3 := blk_frozen ae.out 2
have gh := bb.out
have gi := bf.out
have gj := bg.out
have gl := bh.out
have gb := aJ.out
have gc := aK.out
have gf := aM.out
have gg := aN.out
refine skip_ (w1 := ?_) (by rfl) rfl ?_ ?_
rotate_left
·(
go_simp
rfl
)
refine hK.out _ _ ?_
clear hK K
refine done_ (done_of HT_.out (by kernel_rfl)) ?_
try go_wp2
go_roundg k4
case measure => have := bB.out; have := bC.out; have := bD.out; have := bV.out; omega
case rel => exact ⟨(wrap64 (a8 + 1)), (dL), (.slice fm dL.length fp), sd, H', ⟨by have := bB.out; have := bC.out; have := bD.out; have := bV.out; omega⟩, ⟨tS1 dN ae⟩, ⟨tS1 ah ae⟩, ⟨rk ag⟩, ⟨rk af⟩, ⟨rk ai⟩, ⟨rk ae⟩, ⟨rk ao⟩, ⟨rb HB⟩⟩
)
| (
first | have q_ := fh | have q_ := fj
go_roundg k4
case measure => have := bB.out; have := bC.out; have := bD.out; have := bV.out; omega
case rel => exact ⟨(wrap64 (a8 + 1)), (al), (aq), sd, H', ⟨by have := bB.out; have := bC.out; have := bD.out; have := bV.out; omega⟩, ⟨rs ac⟩, ⟨rs ah⟩, ⟨rk ag⟩, ⟨rk af⟩, ⟨rk ai⟩, ⟨rk ae⟩, ⟨rk ao⟩, ⟨rb HB⟩⟩
)
| (
have q_ := ff
go_roundg k4
case measure => have := bB.out; have := bC.out; have := bD.out; have := bV.out; omega
case rel => exact ⟨(wrap64 (a8 + 1)), sd, H', ⟨by have := bB.out; have := bC.out; have := bD.out; have := bV.out; omega⟩, ⟨rs ac⟩, ⟨rs ah⟩, ⟨rk ag⟩, ⟨rk af⟩, ⟨rk ai⟩, ⟨rk ae⟩, ⟨rk ao⟩, ⟨rb HB⟩⟩
)
)
)
)
)
| (
have q_ := gp
go_roundg k3
case measure => have := bB.out; have := bC.out; have := bD.out; omega
case rel => exact ⟨(wrap64 (a9 + 1)), (al), (aq), sd, H', ⟨by have := bB.out; have := bC.out; have := bD.out; omega⟩, ⟨rs ac⟩, ⟨rs ah⟩, ⟨rk ag⟩, ⟨rk af⟩, ⟨rk ai⟩, ⟨rk ae⟩, ⟨rk ao⟩, ⟨rb HB⟩⟩
)
)
)
)
)
| (
first | have q_ := eK | have q_ := eL
obtain ⟨eQ, fd, fe⟩ := Kd.S_slice ac.out
subst fe
have iL := nN bW
have iM := nN bX
have iN := nN bY
have iO := z3 ai
go_wp2
first
| (
have q_ := eL
refine bodyPost_ret (results_ct rfl _ _ b7 53 #[.int .i64 ap, .int .i64 (aa.length : Int), .slice eQ au.length fd] (0, 0) _ rfl (rk ai) Try.underlying53 rfl (by kernel_rfl)) rfl ?_
exact ⟨_, ew, tS1 ac ai, rb HB⟩
)
| (
have q_ := eK
refine bodyPost_ret (results_ct rfl _ _ b7 53 #[.int .i64 0, .int .i64 0, .slice none 0 0] (0, 0) _ rfl (rk ai) Try.underlying53 rfl (by kernel_rfl)) rfl ?_
exact ⟨_, ew, xn, rb HB⟩
)
)
)
)
)
)
)
)
)

end Go.Proofs.Ytalopdcephohgaa.RD
