/- Contracts of Go functions that laws of this seat reach: each Lean function answers as its Go function does. No condition. Written by wip/tools/inj.py, over the kit's print. -/
import Derived.Test.YtalopdcephohgaaRDx0
import Derived.Test.YtalopdcephohgaaRDx3
import Derived.Test.YtalopdcephohgaaRDx10
import Derived.Test.YtalopdcephohgaaRDx14
import Derived.Test.YtalopdcephohgaaRDx20
import Derived.Test.YtalopdcephohgaaRDx22
import Derived.Test.YtalopdcephohgaaRDx23
import Derived.Test.YtalopdcephohgaaRDx31
import Derived.Test.YtalopdcephohgaaRDx33
import Derived.Test.YtalopdcephohgaaRDx34
import Derived.Test.YtalopdcephohgaaRDx35
namespace Go.Proofs.Ytalopdcephohgaa.RD
open Go.RowKit Go.Proofs.YtalopdcephohgaaW.PrintWords Go.Proofs.YtalopdcephohgaaW.PrintLast Go.Proofs.YtalopdcephohgaaW.PrintMore
attribute [local go_sem] max2_int min2_int max_two min_two max_three min_three max_four min_four   -- for this text's walks alone
set_option linter.unusedVariables false
set_option linter.unusedSimpArgs false

/-! ### laws_FnPatched: function 7 -/
mutual
def laws_FnPatched.j0 : Nat → Bool → Bool → Bool → Int → List (List (S98)) → Int → List (List (S98)) → Int → Int → List (S101) → Int → List (List (S98)) → Int → Int → List (S101) → Int → List (List (S98)) → Option (Bool)
 | 0, _, _, _, _, _, _, _, _, _, _, _, _, _, _, _, _, _ => none
 | k + 1, x6, au, ay, a8, a9, aa, ac, ae, af, ag, ak, al, ao, ap, aq, ah, ai => if ay = true then (some false) else ((spec_Patched.f k ak al ao ap aq).bind fun aj => (if (au != aj.2.2) = true then (laws_FnPatched.j1 k x6 true a8 a9 aa ac ae af ag) else ((laws_likeGrid.f k ah ai aj.1 aj.2.1).bind fun av => (if av = true then (if au = true then ((impl_GridOk.f k ah ai).bind fun ax => (laws_FnPatched.j1 k x6 (!ax) a8 a9 aa ac ae af ag)) else (laws_FnPatched.j1 k x6 false a8 a9 aa ac ae af ag)) else (laws_FnPatched.j1 k x6 true a8 a9 aa ac ae af ag)))))
def laws_FnPatched.j1 : Nat → Bool → Bool → Int → List (List (S98)) → Int → List (List (S98)) → Int → Int → List (S101) → Option (Bool)
 | 0, _, _, _, _, _, _, _, _, _ => none
 | k + 1, x6, al, a8, a9, ah, ai, aa, ac, ae => if al = true then (some false) else (if x6 = true then ((impl_Patched.f k a8 a9 aa ac ae).bind fun af => ((impl_Diff.f k a8 a9 a8 a9).bind fun ag => (if af.2.2 = true then ((laws_likeGrid.f k af.1 af.2.1 ah ai).bind fun aj => (if aj = true then (if ag.2.2.2 = true then (some ((ag.2.2.1.length : Int) == 0)) else (some false)) else (some false))) else (some false)))) else ((laws_likePatch.f k aa ac ae 0 0 ([] : List (S101))).bind fun ak => (some ak)))
end
def laws_FnPatched.f (k : Nat) (l0 : List Int) : Option (Bool) := (laws_big.f l0).bind fun af => (if af = true then (some true) else ((spec_DrawDiff.f k l0).bind fun a8 => ((impl_Diff.f k a8.1 a8.2.1 a8.2.2.1 a8.2.2.2).bind fun aa => ((spec_DrawPatched.f k l0).bind fun a9 => ((impl_Patched.f k a9.1 a9.2.1 a9.2.2.1 a9.2.2.2.1 a9.2.2.2.2).bind fun ac => ((spec_Diff.f k a8.1 a8.2.1 a8.2.2.1 a8.2.2.2).bind fun ae => (if (aa.2.2.2 != ae.2.2.2) = true then (laws_FnPatched.j0 k aa.2.2.2 ac.2.2 true a8.1 a8.2.1 a8.2.2.1 a8.2.2.2 aa.1 aa.2.1 aa.2.2.1 a9.1 a9.2.1 a9.2.2.1 a9.2.2.2.1 a9.2.2.2.2 ac.1 ac.2.1) else ((laws_likePatch.f k aa.1 aa.2.1 aa.2.2.1 ae.1 ae.2.1 ae.2.2.1).bind fun ag => (laws_FnPatched.j0 k aa.2.2.2 ac.2.2 (!ag) a8.1 a8.2.1 a8.2.2.1 a8.2.2.2 aa.1 aa.2.1 aa.2.2.1 a9.1 a9.2.1 a9.2.2.1 a9.2.2.2.1 a9.2.2.2.2 ac.1 ac.2.1)))))))))
theorem laws_FnPatched.mono_l : ∀ k, (∀ y0 y1 y2 y3 y4 y5 y6 y7 y8 y9 y10 y11 y12 y13 y14 y15 y16, LeO (laws_FnPatched.j0 k y0 y1 y2 y3 y4 y5 y6 y7 y8 y9 y10 y11 y12 y13 y14 y15 y16) (laws_FnPatched.j0 (k + 1) y0 y1 y2 y3 y4 y5 y6 y7 y8 y9 y10 y11 y12 y13 y14 y15 y16)) ∧ (∀ y0 y1 y2 y3 y4 y5 y6 y7 y8, LeO (laws_FnPatched.j1 k y0 y1 y2 y3 y4 y5 y6 y7 y8) (laws_FnPatched.j1 (k + 1) y0 y1 y2 y3 y4 y5 y6 y7 y8))
 | 0 => ⟨fun _ _ _ _ _ _ _ _ _ _ _ _ _ _ _ _ _ r h => by simp [laws_FnPatched.j0] at h, fun _ _ _ _ _ _ _ _ _ r h => by simp [laws_FnPatched.j1] at h⟩
 | k + 1 => by
  obtain ⟨ih0, ih1⟩ := laws_FnPatched.mono_l k
  refine ⟨?_, ?_⟩
  ·intro y0 y1 y2 y3 y4 y5 y6 y7 y8 y9 y10 y11 y12 y13 y14 y15 y16
   unfold laws_FnPatched.j0
   repeat' first
   | (with_reducible exact ih0 _ _ _ _ _ _ _ _ _ _ _ _ _ _ _ _ _)
   | (with_reducible exact ih1 _ _ _ _ _ _ _ _ _)
   | (with_reducible exact impl_Diff.mono _ _ _ _ _)
   | (with_reducible exact impl_GridOk.mono _ _ _)
   | (with_reducible exact impl_Patched.mono _ _ _ _ _ _)
   | (with_reducible exact laws_likeGrid.mono _ _ _ _ _)
   | (with_reducible exact laws_likePatch.mono _ _ _ _ _ _ _)
   | (with_reducible exact spec_Diff.mono _ _ _ _ _)
   | (with_reducible exact spec_DrawDiff.mono _ _)
   | (with_reducible exact spec_DrawPatched.mono _ _)
   | (with_reducible exact spec_Patched.mono _ _ _ _ _ _)
   | (with_reducible exact LeO.refl _)
   | (with_reducible exact LeO.none _)
   | (with_reducible refine LeO.ite ?_ ?_)
   | (with_reducible refine LeO.bind ?_ (fun _ => ?_))
  ·intro y0 y1 y2 y3 y4 y5 y6 y7 y8
   unfold laws_FnPatched.j1
   repeat' first
   | (with_reducible exact ih0 _ _ _ _ _ _ _ _ _ _ _ _ _ _ _ _ _)
   | (with_reducible exact ih1 _ _ _ _ _ _ _ _ _)
   | (with_reducible exact impl_Diff.mono _ _ _ _ _)
   | (with_reducible exact impl_GridOk.mono _ _ _)
   | (with_reducible exact impl_Patched.mono _ _ _ _ _ _)
   | (with_reducible exact laws_likeGrid.mono _ _ _ _ _)
   | (with_reducible exact laws_likePatch.mono _ _ _ _ _ _ _)
   | (with_reducible exact spec_Diff.mono _ _ _ _ _)
   | (with_reducible exact spec_DrawDiff.mono _ _)
   | (with_reducible exact spec_DrawPatched.mono _ _)
   | (with_reducible exact spec_Patched.mono _ _ _ _ _ _)
   | (with_reducible exact LeO.refl _)
   | (with_reducible exact LeO.none _)
   | (with_reducible refine LeO.ite ?_ ?_)
   | (with_reducible refine LeO.bind ?_ (fun _ => ?_))
theorem laws_FnPatched.mono : ∀ a0 k, LeO (laws_FnPatched.f k a0) (laws_FnPatched.f (k + 1) a0) := by
 intro a0 k
 obtain ⟨ih0, ih1⟩ := laws_FnPatched.mono_l k
 unfold laws_FnPatched.f
 repeat' first
   | (with_reducible exact ih0 _ _ _ _ _ _ _ _ _ _ _ _ _ _ _ _ _)
   | (with_reducible exact ih1 _ _ _ _ _ _ _ _ _)
   | (with_reducible exact impl_Diff.mono _ _ _ _ _)
   | (with_reducible exact impl_GridOk.mono _ _ _)
   | (with_reducible exact impl_Patched.mono _ _ _ _ _ _)
   | (with_reducible exact laws_likeGrid.mono _ _ _ _ _)
   | (with_reducible exact laws_likePatch.mono _ _ _ _ _ _ _)
   | (with_reducible exact spec_Diff.mono _ _ _ _ _)
   | (with_reducible exact spec_DrawDiff.mono _ _)
   | (with_reducible exact spec_DrawPatched.mono _ _)
   | (with_reducible exact spec_Patched.mono _ _ _ _ _ _)
   | (with_reducible exact LeO.refl _)
   | (with_reducible exact LeO.none _)
   | (with_reducible refine LeO.ite ?_ ?_)
   | (with_reducible refine LeO.bind ?_ (fun _ => ?_))
set_option maxHeartbeats 8000000 in
set_option maxRecDepth 100000 in
theorem laws_FnPatched.calls (k : Nat) (A0 : Option Addr) (c0 : Nat) (l0 : List Int) (r : Bool) (w : World) (hr0 : Kd.C (Kd.int .u8) w A0 l0.length l0) (hc0 : l0.length ≤ c0) (h : laws_FnPatched.f k l0 = some r) (hT_ : r = true) :
  Calls Try.prog 7 #[.slice A0 l0.length c0] w fun e w' => e = .returned (.bool r) ∧ Below w.heap.size w w' := by
 (
have hD := Try.underlying58
have gZ := Try.underlying53
have ef := am hr0
have ed := am hc0
clear hr0 hc0
have HB := am (Below.refl w.heap.size w)
have H := h
unfold laws_FnPatched.f at H
clear h
obtain ⟨f7, A2, H⟩ := bd H
(try dsimp only at H)
by_cases c3 : f7 = true
·(
subst c3
have H1 : (some true) = some r := by rw [if_pos rfl] at H; exact H
clear H
have H := H1
clear H1
obtain rfl := Option.some.inj H
go_enter Try.func7, Try.ntmps7
go_wp2_with (first | ((with_reducible refine cg 8 rfl ?_); refine gl_ (some 20) Try.func8 #[.slice A0 l0.length c0] ?_; (with_reducible refine (laws_big.calls _ _ l0 true _ ?side1 ?side2 A2.out).mono ?_); (case side1 => exact rc (ef.out)); (case side2 => exact ed.out); rintro e w' ⟨rfl, ⟨nd, rfl⟩⟩; refine ⟨_, rfl, ?_⟩))
go_ret
exact ⟨ew, rb HB⟩
)
·(
replace c3 := Bool.eq_false_iff.mpr c3
subst c3
rw [if_neg (show ¬ (false = true) by decide)] at H
obtain ⟨⟨aW, aN, bb, aT⟩, A4, H⟩ := bd H
(try dsimp only at H)
obtain ⟨⟨bc, bf, ay, bg⟩, A5, H⟩ := bd H
(try dsimp only at H)
obtain ⟨⟨bI, b7, bJ, bK, b8⟩, A6, H⟩ := bd H
(try dsimp only at H)
obtain ⟨⟨bL, aJ, bl⟩, A7, H⟩ := bd H
(try dsimp only at H)
obtain ⟨⟨d4, d5, aP, bz⟩, A8, H⟩ := bd H
(try dsimp only at H)
have eh := am H
clear H
go_enter Try.func7, Try.ntmps7
go_upto_region 8 with (first | ((with_reducible refine cg 8 rfl ?_); refine gl_ (some 20) Try.func8 #[.slice A0 l0.length c0] ?_; (with_reducible refine (laws_big.calls _ _ l0 false _ ?side1 ?side2 A2.out).mono ?_); (case side1 => exact rc (ef.out)); (case side2 => exact ed.out); rintro e w' ⟨rfl, ⟨nd, rfl⟩⟩; refine ⟨_, rfl, ?_⟩) | ((with_reducible refine cg 44 rfl ?_); refine gl_ (some 23) Try.func44 #[.slice A0 l0.length c0] ?_; (with_reducible refine (spec_DrawDiff.calls k _ _ l0 aW aN bb aT _ ?side1 ?side2 A4.out).mono ?_); (case side1 => exact rc (ef.out)); (case side2 => exact ed.out); rintro e jf ⟨iQ, iR, rfl, ax, dY, hb⟩; refine ⟨_, rfl, ?_⟩; have au := am (Kd.V_lower (Kd.V_mono (ok' := fun k_ => True) ax (fun k_ hk_ => trivial)) (below_size (rb HB))); have av := am (Kd.V_lower (Kd.V_mono (ok' := fun k_ => True) dY (fun k_ hk_ => trivial)) (below_size (rb HB))); replace HB := bs HB hb; (try clear hb); (try clear bt); (try clear hk); (try clear hi); (try clear ax); (try clear dY)) | ((with_reducible refine gate_dst (N := 3) rfl ?_); (try (refine gate_guard (by rfl) ?_; dsimp only)); refine bx 3 #[.int .i64 0, .slice none 0 0] 58 ?_; intro aB hg jg hbox hb; replace au := am (Kd.V_below (Kd.V_elderB (qV_ au) aB (Nat.le_of_eq hg.symm)) hb); replace av := am (Kd.V_below (Kd.V_elderB (qV_ av) aB (Nat.le_of_eq hg.symm)) hb); have a9 := am (hbox); have ev := am (gw hg (rb HB)); have fq := ev; replace HB := bs HB hb; clear hb hbox hg) | ((with_reducible refine gate_dst (N := 4) rfl ?_); (try (refine gate_guard (by rfl) ?_; dsimp only)); refine bx 4 #[.int .i64 0, .slice none 0 0] 58 ?_; intro aC hg jh hbox hb; replace au := am (Kd.V_below (Kd.V_elderB (qV_ au) aC (Nat.le_of_eq hg.symm)) hb); replace av := am (Kd.V_below (Kd.V_elderB (qV_ av) aC (Nat.le_of_eq hg.symm)) hb); have aa := am (hbox); have ex := am (gw hg (rb HB)); have ft := ex; replace HB := bs HB hb; have bC := am (nl hg (rk a9)); have eL := ns bC; replace a9 := kk a9 hb; clear hb hbox hg; have hJ := nN bC; have d6 := z2 a9; obtain ⟨bi, b6, eS⟩ := Kd.V_slice au.out; subst eS; have d7 := z2 aa; obtain ⟨bB, bu, eT⟩ := Kd.V_slice av.out; subst eT) | ((with_reducible refine cg 33 rfl ?_); refine gl_ (some 29) Try.func33 #[.agg #[.int .i64 aW, .slice bi aN.length b6], .agg #[.int .i64 bb, .slice bB aT.length bu]] ?_; (with_reducible refine (impl_Diff.calls k aW _ _ aN bb _ _ aT bc bf ay bg _ ?side1 ?side2 ?side3 ?side4 A5.out).mono ?_); (case side1 => exact (Kd.V_reads' (rV_ au)).2.2); (case side2 => exact (Kd.V_reads' au.out).2.1); (case side3 => exact (Kd.V_reads' (rV_ av)).2.2); (case side4 => exact (Kd.V_reads' av.out).2.1); rintro e ji ⟨iS, rfl, ax, hb⟩; refine ⟨_, rfl, ?_⟩; replace au := am (Kd.V_elder' (rV_ au) (Kd.S_base ax) hb); replace av := am (Kd.V_elder' (rV_ av) (Kd.S_base ax) hb); have az := am (Kd.S_lower ax (below_size (rb HB))); replace a9 := kk a9 hb; replace aa := kk aa hb; replace HB := bs HB hb; (try clear hb); (try clear bt); (try clear hk); (try clear hi); (try clear ax)) | ((with_reducible refine gate_dst (N := 5) rfl ?_); (try (refine gate_guard (by rfl) ?_; dsimp only)); refine bx 5 #[.int .i64 0, .int .i64 0, .slice none 0 0] 53 ?_; intro aD hg jj hbox hb; replace au := am (Kd.V_below (Kd.V_elderB (qV_ au) aD (Nat.le_of_eq hg.symm)) hb); replace av := am (Kd.V_below (Kd.V_elderB (qV_ av) aD (Nat.le_of_eq hg.symm)) hb); replace az := am (Kd.S_below (rs az) hb); have ac := am (hbox); have ey := am (gw hg (rb HB)); have fu := ey; replace HB := bs HB hb; have bT := am (nl hg (rk a9)); have bD := ns bT; replace a9 := kk a9 hb; have dh := am (nl hg (rk aa)); have bn := ns dh; replace aa := kk aa hb; clear hb hbox hg; have hL := nN bD; have hP := nN bn; have d8 := z3 ac; obtain ⟨aE, aF, eU⟩ := Kd.S_slice az.out; subst eU) | ((with_reducible refine cg 45 rfl ?_); refine gl_ (some 34) Try.func45 #[.slice A0 l0.length c0] ?_; (with_reducible refine (spec_DrawPatched.calls k _ _ l0 bI b7 bJ bK b8 _ ?side1 ?side2 A6.out).mono ?_); (case side1 => exact Kd.C_below ef.out (rb HB)); (case side2 => exact ed.out); rintro e jk ⟨iT, iU, rfl, ax, dY, hb⟩; refine ⟨_, rfl, ?_⟩; replace au := am (Kd.V_below (rV_ au) hb); replace av := am (Kd.V_below (rV_ av) hb); have aK := am (Kd.V_lower (Kd.V_mono (ok' := fun k_ => some k_ ≠ (.slice aE ay.length aF : Value).ownBlock ∧ k_ ≠ aB ∧ k_ ≠ aC ∧ k_ ≠ aD) ax (fun k_ hk_ => ⟨(Kd.fresh' (Kd.S_lt (sf3 az ac)) k_ hk_), (Kd.freshB (g := aB) (o := .cells #[.int .i64 aW, .slice bi aN.length b6] 58 (0, 0)) (rk a9) k_ hk_), (Kd.freshB (g := aC) (o := .cells #[.int .i64 bb, .slice bB aT.length bu] 58 (0, 0)) (rk aa) k_ hk_), (Kd.freshB (g := aD) (o := .cells #[.int .i64 bc, .int .i64 bf, .slice aE ay.length aF] 53 (0, 0)) (rk ac) k_ hk_)⟩)) (below_size (rb HB))); have aL := am (Kd.V_lower (Kd.V_mono (ok' := fun k_ => some k_ ≠ (.slice aE ay.length aF : Value).ownBlock ∧ k_ ≠ aB ∧ k_ ≠ aC ∧ k_ ≠ aD) dY (fun k_ hk_ => ⟨(Kd.fresh' (Kd.S_lt (sf3 az ac)) k_ hk_), (Kd.freshB (g := aB) (o := .cells #[.int .i64 aW, .slice bi aN.length b6] 58 (0, 0)) (rk a9) k_ hk_), (Kd.freshB (g := aC) (o := .cells #[.int .i64 bb, .slice bB aT.length bu] 58 (0, 0)) (rk aa) k_ hk_), (Kd.freshB (g := aD) (o := .cells #[.int .i64 bc, .int .i64 bf, .slice aE ay.length aF] 53 (0, 0)) (rk ac) k_ hk_)⟩)) (below_size (rb HB))); replace az := am (Kd.S_below (sf3 az ac) hb); replace a9 := kk a9 hb; replace aa := kk aa hb; replace ac := kk ac hb; replace HB := bs HB hb; (try clear hb); (try clear bt); (try clear hk); (try clear hi); (try clear ax); (try clear dY)) | ((with_reducible refine gate_dst (N := 7) rfl ?_); (try (refine gate_guard (by rfl) ?_; dsimp only)); refine bx 7 #[.int .i64 0, .slice none 0 0] 58 ?_; intro aH hg jl hbox hb; replace au := am (Kd.V_below (Kd.V_elderB (qV_ au) aH (Nat.le_of_eq hg.symm)) hb); replace av := am (Kd.V_below (Kd.V_elderB (qV_ av) aH (Nat.le_of_eq hg.symm)) hb); replace az := am (Kd.S_below (rs az) hb); replace aK := am (Kd.V_below (Kd.V_elderB (qV_ aK) aH (Nat.le_of_eq hg.symm)) hb); replace aL := am (Kd.V_below (Kd.V_elderB (qV_ aL) aH (Nat.le_of_eq hg.symm)) hb); have ak := am (hbox); have ez := am (gw hg (rb HB)); have fv := ez; replace HB := bs HB hb; have bU := am (nl hg (rk a9)); have cf := ns bU; replace a9 := kk a9 hb; have bZ := am (nl hg (rk aa)); have ch := ns bZ; replace aa := kk aa hb; have bo := am (nl hg (rk ac)); have cj := ns bo; replace ac := kk ac hb; clear hb hbox hg) | ((with_reducible refine gate_dst (N := 8) rfl ?_); (try (refine gate_guard (by rfl) ?_; dsimp only)); refine bx 8 #[.int .i64 0, .int .i64 0, .slice none 0 0] 53 ?_; intro aI hg jm hbox hb; replace au := am (Kd.V_below (Kd.V_elderB (qV_ au) aI (Nat.le_of_eq hg.symm)) hb); replace av := am (Kd.V_below (Kd.V_elderB (qV_ av) aI (Nat.le_of_eq hg.symm)) hb); replace az := am (Kd.S_below (rs az) hb); replace aK := am (Kd.V_below (Kd.V_elderB (qV_ aK) aI (Nat.le_of_eq hg.symm)) hb); replace aL := am (Kd.V_below (Kd.V_elderB (qV_ aL) aI (Nat.le_of_eq hg.symm)) hb); have ao := am (hbox); have eA := am (gw hg (rb HB)); have fw := eA; replace HB := bs HB hb; have bV := am (nl hg (rk a9)); have cm := ns bV; replace a9 := kk a9 hb; have ca := am (nl hg (rk aa)); have cn := ns ca; replace aa := kk aa hb; have bp := am (nl hg (rk ac)); have co := ns bp; replace ac := kk ac hb; have bF := am (nl hg (rk ak)); have eM := ns bF; replace ak := kk ak hb; clear hb hbox hg; have hU := nN cf; have hV := nN ch; have i1 := nN cj; have i2 := nN bF; have d9 := z2 ak; obtain ⟨bR, bM, eV⟩ := Kd.V_slice aK.out; subst eV; have i3 := nN cm; have i4 := nN cn; have i5 := nN co; have da := z3 ao; obtain ⟨bS, bN, eW⟩ := Kd.V_slice aL.out; subst eW) | ((with_reducible refine cg 42 rfl ?_); refine gl_ (some 40) Try.func42 #[.agg #[.int .i64 bI, .slice bR b7.length bM], .agg #[.int .i64 bJ, .int .i64 bK, .slice bS b8.length bN]] ?_; (with_reducible refine (impl_Patched.calls k bI _ _ b7 bJ bK _ _ b8 bL aJ bl _ ?side1 ?side2 ?side3 ?side4 A7.out).mono ?_); (case side1 => refine (Kd.V_reads' (e := 99) (base := w.heap.size) (ok := fun k_ => (((some k_ ≠ (.slice aE ay.length aF : Value).ownBlock ∧ (k_ ≠ aB ∧ (k_ ≠ aC ∧ k_ ≠ aD))) ∧ k_ ≠ aH) ∧ k_ ≠ aI)) (n := b7.length) (c := bM) ?_).2.2; exact (rV_ aK)); (case side2 => exact (Kd.V_reads' aK.out).2.1); (case side3 => refine (Kd.V_reads' (e := 101) (base := w.heap.size) (ok := fun k_ => (((some k_ ≠ (.slice aE ay.length aF : Value).ownBlock ∧ (k_ ≠ aB ∧ (k_ ≠ aC ∧ k_ ≠ aD))) ∧ k_ ≠ aH) ∧ k_ ≠ aI)) (n := b8.length) (c := bN) ?_).2.2; exact (rV_ aL)); (case side4 => exact (Kd.V_reads' aL.out).2.1); rintro e jn ⟨iV, rfl, ax, hb⟩; refine ⟨_, rfl, ?_⟩; replace au := am (Kd.V_elder' (rV_ au) (Kd.S_base ax) hb); replace av := am (Kd.V_elder' (rV_ av) (Kd.S_base ax) hb); replace az := am (Kd.S_below (tS2 az ak ao) hb); replace aK := am (Kd.V_elder' (rV_ aK) (Kd.S_base ax) hb); replace aL := am (Kd.V_elder' (rV_ aL) (Kd.S_base ax) hb); have b4 := am (Kd.S_lower ax (below_size (rb HB))); replace a9 := kk a9 hb; replace aa := kk aa hb; replace ac := kk ac hb; replace ak := kk ak hb; replace ao := kk ao hb; replace HB := bs HB hb; (try clear hb); (try clear bt); (try clear hk); (try clear hi); (try clear ax)) | ((with_reducible refine gate_dst (N := 9) rfl ?_); (try (refine gate_guard (by rfl) ?_; dsimp only)); refine bx 9 #[.int .i64 0, .slice none 0 0] 58 ?_; intro aM hg jo hbox hb; replace au := am (Kd.V_below (Kd.V_elderB (qV_ au) aM (Nat.le_of_eq hg.symm)) hb); replace av := am (Kd.V_below (Kd.V_elderB (qV_ av) aM (Nat.le_of_eq hg.symm)) hb); replace az := am (Kd.S_below (rs az) hb); replace aK := am (Kd.V_below (Kd.V_elderB (qV_ aK) aM (Nat.le_of_eq hg.symm)) hb); replace aL := am (Kd.V_below (Kd.V_elderB (qV_ aL) aM (Nat.le_of_eq hg.symm)) hb); replace b4 := am (Kd.S_below (rs b4) hb); have ap := am (hbox); have eB := am (gw hg (rb HB)); have fx := eB; replace HB := bs HB hb; have bW := am (nl hg (rk a9)); have ct := ns bW; replace a9 := kk a9 hb; have cb := am (nl hg (rk aa)); have cu := ns cb; replace aa := kk aa hb; have bq := am (nl hg (rk ac)); have cv := ns bq; replace ac := kk ac hb; have ck := am (nl hg (rk ak)); have cw := ns ck; replace ak := kk ak hb; have cp := am (nl hg (rk ao)); have cy := ns cp; replace ao := kk ao hb; clear hb hbox hg; have i6 := nN ct; have i7 := nN cu; have i8 := nN cv; have i9 := nN cw; have ia := nN cy; have db := z2 ap; obtain ⟨aR, aS, eX⟩ := Kd.S_slice b4.out; subst eX; have dc := z2 a9; have dd := z2 aa) | ((with_reducible refine cg 31 rfl ?_); refine gl_ (some 46) Try.func31 #[.agg #[.int .i64 aW, .slice bi aN.length b6], .agg #[.int .i64 bb, .slice bB aT.length bu]] ?_; (with_reducible refine (spec_Diff.calls k aW _ _ aN bb _ _ aT d4 d5 aP bz _ ?side1 ?side2 ?side3 ?side4 A8.out).mono ?_); (case side1 => refine (Kd.V_reads' (e := 99) (base := w.heap.size) (ok := fun k_ => ((((((((True ∧ k_ ≠ aB) ∧ k_ ≠ aC) ∧ some k_ ≠ (.slice aE ay.length aF : Value).ownBlock) ∧ k_ ≠ aD) ∧ k_ ≠ aH) ∧ k_ ≠ aI) ∧ some k_ ≠ (.slice aR aJ.length aS : Value).ownBlock) ∧ k_ ≠ aM)) (n := aN.length) (c := b6) ?_).2.2; exact (rV_ au)); (case side2 => exact (Kd.V_reads' au.out).2.1); (case side3 => refine (Kd.V_reads' (e := 99) (base := w.heap.size) (ok := fun k_ => ((((((((True ∧ k_ ≠ aB) ∧ k_ ≠ aC) ∧ some k_ ≠ (.slice aE ay.length aF : Value).ownBlock) ∧ k_ ≠ aD) ∧ k_ ≠ aH) ∧ k_ ≠ aI) ∧ some k_ ≠ (.slice aR aJ.length aS : Value).ownBlock) ∧ k_ ≠ aM)) (n := aT.length) (c := bu) ?_).2.2; exact (rV_ av)); (case side4 => exact (Kd.V_reads' av.out).2.1); rintro e jp ⟨iW, rfl, ax, hb⟩; refine ⟨_, rfl, ?_⟩; replace au := am (Kd.V_elder' (rV_ au) (Kd.S_base ax) hb); replace av := am (Kd.V_elder' (rV_ av) (Kd.S_base ax) hb); replace aK := am (Kd.V_elder' (rV_ aK) (Kd.S_base ax) hb); replace aL := am (Kd.V_elder' (rV_ aL) (Kd.S_base ax) hb); replace b4 := am (Kd.S_below (sf2 b4 ap) hb); have bh := am (Kd.S_lower (Kd.S_new' ax (Kd.S_lt (sf2 az ap))) (below_size (rb HB))); replace az := am (Kd.S_elder' (sf2 az ap) (Kd.S_base ax) hb); replace a9 := kk a9 hb; replace aa := kk aa hb; replace ac := kk ac hb; replace ak := kk ak hb; replace ao := kk ao hb; replace ap := kk ap hb; replace HB := bs HB hb; (try clear hb); (try clear bt); (try clear hk); (try clear hi); (try clear ax)) | ((with_reducible refine gate_dst (N := 11) rfl ?_); (try (refine gate_guard (by rfl) ?_; dsimp only)); refine bx 11 #[.int .i64 0, .int .i64 0, .slice none 0 0] 53 ?_; intro aO hg jq hbox hb; replace au := am (Kd.V_below (Kd.V_elderB (qV_ au) aO (Nat.le_of_eq hg.symm)) hb); replace av := am (Kd.V_below (Kd.V_elderB (qV_ av) aO (Nat.le_of_eq hg.symm)) hb); replace az := am (Kd.S_below (rs az) hb); replace aK := am (Kd.V_below (Kd.V_elderB (qV_ aK) aO (Nat.le_of_eq hg.symm)) hb); replace aL := am (Kd.V_below (Kd.V_elderB (qV_ aL) aO (Nat.le_of_eq hg.symm)) hb); replace b4 := am (Kd.S_below (rs b4) hb); replace bh := am (Kd.S_below (rs bh) hb); have aq := am (hbox); have eC := am (gw hg (rb HB)); have fy := eC; replace HB := bs HB hb; have bX := am (nl hg (rk a9)); have cB := ns bX; replace a9 := kk a9 hb; have cd := am (nl hg (rk aa)); have cC := ns cd; replace aa := kk aa hb; have br := am (nl hg (rk ac)); have dy := ns br; replace ac := kk ac hb; have cl := am (nl hg (rk ak)); have cD := ns cl; replace ak := kk ak hb; have cq := am (nl hg (rk ao)); have cE := ns cq; replace ao := kk ao hb; have cz := am (nl hg (rk ap)); have cF := ns cz; replace ap := kk ap hb; clear hb hbox hg; have ib := nN cB; have ic := nN cC; have ie := nN dy; have ig := nN cD; have ii := nN cE; have ij := nN cF; have de := z3 aq; obtain ⟨aU, aV, eY⟩ := Kd.S_slice bh.out; subst eY))
(try simp only [Act.put, List.setIfInBounds_toArray, List.set_cons_zero, List.set_cons_succ])
go_cut [57] (fun fo wc => ∃ (kq : Nat) (cM : Bool), fo = .bool cM ∧ Aside0 (laws_FnPatched.j0 kq bg bl cM aW aN bb aT bc bf ay bI b7 bJ bK b8 bL aJ = some r) ∧ Aside0 (kq ≤ k) ∧ Aside0 (Kd.V (Kd.slice 98 k98) 99 wc w.heap.size (fun k_ => some k_ ≠ ((.slice aE ay.length aF) : Value).ownBlock ∧ some k_ ≠ ((.slice aR aJ.length aS) : Value).ownBlock ∧ some k_ ≠ ((.slice aU aP.length aV) : Value).ownBlock ∧ k_ ≠ aB ∧ k_ ≠ aC ∧ k_ ≠ aD ∧ k_ ≠ aH ∧ k_ ≠ aI ∧ k_ ≠ aM ∧ k_ ≠ aO) (.slice bi aN.length b6) aN) ∧ Aside0 (Kd.V (Kd.slice 98 k98) 99 wc w.heap.size (fun k_ => some k_ ≠ ((.slice aE ay.length aF) : Value).ownBlock ∧ some k_ ≠ ((.slice aR aJ.length aS) : Value).ownBlock ∧ some k_ ≠ ((.slice aU aP.length aV) : Value).ownBlock ∧ k_ ≠ aB ∧ k_ ≠ aC ∧ k_ ≠ aD ∧ k_ ≠ aH ∧ k_ ≠ aI ∧ k_ ≠ aM ∧ k_ ≠ aO) (.slice bB aT.length bu) aT) ∧ Aside0 (Kd.S k101 101 wc w.heap.size (fun k_ => some k_ ≠ ((.slice aU aP.length aV) : Value).ownBlock) (.slice aE ay.length aF) ay) ∧ Aside0 (Kd.V (Kd.slice 98 k98) 99 wc w.heap.size (fun k_ => some k_ ≠ ((.slice aE ay.length aF) : Value).ownBlock ∧ some k_ ≠ ((.slice aR aJ.length aS) : Value).ownBlock ∧ some k_ ≠ ((.slice aU aP.length aV) : Value).ownBlock ∧ k_ ≠ aB ∧ k_ ≠ aC ∧ k_ ≠ aD ∧ k_ ≠ aH ∧ k_ ≠ aI ∧ k_ ≠ aM ∧ k_ ≠ aO) (.slice bR b7.length bM) b7) ∧ Aside0 (Kd.V k101 101 wc w.heap.size (fun k_ => some k_ ≠ ((.slice aE ay.length aF) : Value).ownBlock ∧ some k_ ≠ ((.slice aR aJ.length aS) : Value).ownBlock ∧ some k_ ≠ ((.slice aU aP.length aV) : Value).ownBlock ∧ k_ ≠ aB ∧ k_ ≠ aC ∧ k_ ≠ aD ∧ k_ ≠ aH ∧ k_ ≠ aI ∧ k_ ≠ aM ∧ k_ ≠ aO) (.slice bS b8.length bN) b8) ∧ Aside0 (Kd.S (Kd.slice 98 k98) 99 wc w.heap.size (fun _ => True) (.slice aR aJ.length aS) aJ) ∧ Aside0 (Kd.S k101 101 wc w.heap.size (fun k_ => some k_ ≠ ((.slice aE ay.length aF) : Value).ownBlock) (.slice aU aP.length aV) aP) ∧ Aside0 (wc.heap[aB]? = some (.cells #[.int .i64 aW, (.slice bi aN.length b6)] 58 (0, 0))) ∧ Aside0 (wc.heap[aC]? = some (.cells #[.int .i64 bb, (.slice bB aT.length bu)] 58 (0, 0))) ∧ Aside0 (wc.heap[aD]? = some (.cells #[.int .i64 bc, .int .i64 bf, (.slice aE ay.length aF)] 53 (0, 0))) ∧ Aside0 (wc.heap[aH]? = some (.cells #[.int .i64 bI, (.slice bR b7.length bM)] 58 (0, 0))) ∧ Aside0 (wc.heap[aI]? = some (.cells #[.int .i64 bJ, .int .i64 bK, (.slice bS b8.length bN)] 53 (0, 0))) ∧ Aside0 (wc.heap[aM]? = some (.cells #[.int .i64 bL, (.slice aR aJ.length aS)] 58 (0, 0))) ∧ Aside0 (wc.heap[aO]? = some (.cells #[.int .i64 d4, .int .i64 d5, (.slice aU aP.length aV)] 53 (0, 0))) ∧ Aside0 (Below w.heap.size w wc))
case first => (
have H := eh.out
clear eh
by_cases bH : (bg != bz) = true
·(
rw [if_pos bH] at H
have bP : (bg != bz) = true := bH
(try (have eF : decide (bg = bz) = false := by simpa using bH))
(try (have eG : (bg == bz) = false := by simpa using bH))
(try (have fD : ¬ (bg = bz) := by simpa using bH))
clear bH
(first | rw [bP] | (simp only [i64_w, i32_w]; rw [bP]) | skip)
have H' := am H
clear H
go_wp2
go_meet
case rel => exact ⟨_, (true), sd, H', ⟨by first | omega | exact Nat.le_refl _⟩, ⟨rV_ au⟩, ⟨rV_ av⟩, ⟨tS1 az aq⟩, ⟨rV_ aK⟩, ⟨rV_ aL⟩, ⟨tS1 b4 aq⟩, ⟨tS1 bh aq⟩, ⟨rk a9⟩, ⟨rk aa⟩, ⟨rk ac⟩, ⟨rk ak⟩, ⟨rk ao⟩, ⟨rk ap⟩, ⟨rk aq⟩, ⟨rb HB⟩⟩
)
·(
rw [if_neg bH] at H
have bP : (bg != bz) = false := by simpa using bH
(try (have eF : decide (bg = bz) = true := by simpa using bH))
(try (have eG : (bg == bz) = true := by simpa using bH))
clear bH
(first | rw [bP] | (simp only [i64_w, i32_w]; rw [bP]) | skip)
obtain ⟨ek, fe, H⟩ := bd H
(try dsimp only at H)
have H' := am H
clear H
have ik := nN bD
have il := nN bn
have im := nN bo
have io := nN bp
have ip := nN bq
have iq := nN br
have jd := z3 ac
have ir := nN cB
have iu := nN cC
have iv := nN cD
have iw := nN cE
have ix := nN cF
have je := z3 aq
go_wp2_with (first | (go_at_call 46; (with_reducible refine (laws_likePatch.calls k bc bf _ _ ay d4 d5 _ _ aP ek _ ?side1 ?side2 ?side3 ?side4 fe.out).mono ?_); (case side1 => exact (Kd.S_reads' (tS1 az aq)).2.2); (case side2 => exact (Kd.S_reads' az.out).2.1); (case side3 => exact (Kd.S_reads' (tS1 bh aq)).2.2); (case side4 => exact (Kd.S_reads' bh.out).2.1); rintro e jr ⟨rfl, hb⟩; replace au := am (Kd.V_below (rV_ au) hb); replace av := am (Kd.V_below (rV_ av) hb); replace az := am (Kd.S_below (sf3 az aq) hb); replace aK := am (Kd.V_below (rV_ aK) hb); replace aL := am (Kd.V_below (rV_ aL) hb); replace b4 := am (Kd.S_below (sf3 b4 aq) hb); replace bh := am (Kd.S_below (sf3 bh aq) hb); replace a9 := kk a9 hb; replace aa := kk aa hb; replace ac := kk ac hb; replace ak := kk ak hb; replace ao := kk ao hb; replace ap := kk ap hb; replace aq := kk aq hb; replace HB := bs HB hb; (try clear hb); (try clear bt); (try clear hk); (try clear hi)))
go_meet
case rel => exact ⟨_, (!ek), sd, H', ⟨by first | omega | exact Nat.le_refl _⟩, ⟨qV_ au⟩, ⟨qV_ av⟩, ⟨qS_ az⟩, ⟨qV_ aK⟩, ⟨qV_ aL⟩, ⟨rs b4⟩, ⟨qS_ bh⟩, ⟨rk a9⟩, ⟨rk aa⟩, ⟨rk ac⟩, ⟨rk ak⟩, ⟨rk ao⟩, ⟨rk ap⟩, ⟨rk aq⟩, ⟨rb HB⟩⟩
)
)
case rest => (
clear eh
try clear c3
try clear d6
try clear d7
try clear d8
try clear d9
try clear da
try clear db
try clear dc
try clear dd
try clear de
try clear d6
try clear d7
try clear d8
try clear d9
try clear da
try clear db
try clear dc
try clear dd
try clear de
obtain ⟨kq, cM, rfl, HA, ee, ae, ag, af, ah, ai, a8, aj, a9, aa, ac, ak, ao, ap, aq, HB⟩ := hcut
cases kq with
| zero => exact absurd HA.out (by simp [laws_FnPatched.j0])
| succ cS => (
have H := HA.out
clear HA
simp only [laws_FnPatched.j0] at H
refine em_ (p := cM = true) (fun cR => ?fi) (fun cR => ?fh)
case fi => (
subst cR
have H1 : (some false) = some r := by rw [if_pos rfl] at H; exact H
clear H
have H := H1
clear H1
exact absurd (Option.some.inj (H.trans (congrArg some hT_))) Bool.false_ne_true
)
case' fh => (
replace cR := Bool.eq_false_iff.mpr cR
subst cR
rw [if_neg (show ¬ (false = true) by decide)] at H
obtain ⟨⟨cP, aY, bA⟩, ff, H⟩ := bd H
(try dsimp only at H)
have e8 := am H
clear H
have hI := trivial
)
all_goals (
have iy := nN cf
have iz := nN ch
have iA := nN cj
have iB := nN bF
have iC := nN ck
have iD := nN cl
have er := z2 ak
have iE := nN cm
have iF := nN cn
have iG := nN co
have iH := nN cp
have iI := nN cq
have es := z3 ao
go_upto_region 11 with (first | ((with_reducible refine cg 40 rfl ?_); refine gl_ (some 61) Try.func40 #[.agg #[.int .i64 bI, .slice bR b7.length bM], .agg #[.int .i64 bJ, .int .i64 bK, .slice bS b8.length bN]] ?_; (with_reducible refine (spec_Patched.calls cS bI _ _ b7 bJ bK _ _ b8 cP aY bA _ ?side1 ?side2 ?side3 ?side4 ff.out).mono ?_); (case side1 => repeat (first | exact (Kd.V_reads' ah.out).2.2 | (with_reducible refine Kd.C_alloc ?_ _) | (with_reducible refine Kd.C_drewN ?_ _) | (with_reducible refine Kd.C_drew ?_))); (case side2 => exact (Kd.V_reads' ah.out).2.1); (case side3 => repeat (first | exact (Kd.V_reads' ai.out).2.2 | (with_reducible refine Kd.C_alloc ?_ _) | (with_reducible refine Kd.C_drewN ?_ _) | (with_reducible refine Kd.C_drew ?_))); (case side4 => exact (Kd.V_reads' ai.out).2.1); rintro e js ⟨iX, rfl, ax, hb⟩; refine ⟨_, rfl, ?_⟩; replace ae := am (Kd.V_elder' (qV_ ae) (Kd.S_base ax) hb); replace ag := am (Kd.V_elder' (qV_ ag) (Kd.S_base ax) hb); replace af := am (Kd.S_below (rs af) hb); replace ah := am (Kd.V_elder' (qV_ ah) (Kd.S_base ax) hb); replace ai := am (Kd.V_elder' (qV_ ai) (Kd.S_base ax) hb); replace aj := am (Kd.S_below (rs aj) hb); have aG := am (Kd.S_lower (Kd.S_new' ax (Kd.S_lt (rs a8))) (below_size (rb HB))); replace a8 := am (Kd.S_elder' (rs a8) (Kd.S_base ax) hb); replace a9 := kk a9 hb; replace aa := kk aa hb; replace ac := kk ac hb; replace ak := kk ak hb; replace ao := kk ao hb; replace ap := kk ap hb; replace aq := kk aq hb; replace HB := bs HB hb; (try clear hb); (try clear bt); (try clear hk); (try clear hi); (try clear ax)) | ((with_reducible refine gate_dst (N := 13) rfl ?_); (try (refine gate_guard (by rfl) ?_; dsimp only)); refine bx 13 #[.int .i64 0, .slice none 0 0] 58 ?_; intro aX hg jt hbox hb; replace ae := am (Kd.V_below (Kd.V_elderB (qV_ ae) aX (Nat.le_of_eq hg.symm)) hb); replace ag := am (Kd.V_below (Kd.V_elderB (qV_ ag) aX (Nat.le_of_eq hg.symm)) hb); replace af := am (Kd.S_below (rs af) hb); replace ah := am (Kd.V_below (Kd.V_elderB (qV_ ah) aX (Nat.le_of_eq hg.symm)) hb); replace ai := am (Kd.V_below (Kd.V_elderB (qV_ ai) aX (Nat.le_of_eq hg.symm)) hb); replace a8 := am (Kd.S_below (rs a8) hb); replace aj := am (Kd.S_below (rs aj) hb); replace aG := am (Kd.S_below (rs aG) hb); have al := am (hbox); have eD := am (gw hg (rb HB)); have fz := eD; replace HB := bs HB hb; have bY := am (nl hg (rk a9)); have cG := ns bY; replace a9 := kk a9 hb; have ce := am (nl hg (rk aa)); have cH := ns ce; replace aa := kk aa hb; have bE := am (nl hg (rk ac)); have cI := ns bE; replace ac := kk ac hb; have dn := am (nl hg (rk ak)); have cJ := ns dn; replace ak := kk ak hb; have dr := am (nl hg (rk ao)); have cK := ns dr; replace ao := kk ao hb; have cA := am (nl hg (rk ap)); have dC := ns cA; replace ap := kk ap hb; have dz := am (nl hg (rk aq)); have cL := ns dz; replace aq := kk aq hb; clear hb hbox hg; have iJ := nN cG; have iK := nN cH; have iL := nN cI; have iM := nN cJ; have iN := nN cK; have iO := nN dC; have iP := nN cL; have eg := z2 al; obtain ⟨b9, ba, eI⟩ := Kd.S_slice aG.out; subst eI))
(try simp only [Act.put, List.setIfInBounds_toArray, List.set_cons_zero, List.set_cons_succ])
go_cut [80] (fun fp wc => ∃ (kq : Nat) (bQ : Bool), fp = .bool bQ ∧ Aside0 (laws_FnPatched.j1 kq bg bQ aW aN bb aT bc bf ay = some r) ∧ Aside0 (kq ≤ cS) ∧ Aside0 (Kd.V (Kd.slice 98 k98) 99 wc w.heap.size (fun k_ => some k_ ≠ ((.slice aE ay.length aF) : Value).ownBlock ∧ some k_ ≠ ((.slice aR aJ.length aS) : Value).ownBlock ∧ some k_ ≠ ((.slice aU aP.length aV) : Value).ownBlock ∧ some k_ ≠ ((.slice b9 aY.length ba) : Value).ownBlock ∧ k_ ≠ aB ∧ k_ ≠ aC ∧ k_ ≠ aD ∧ k_ ≠ aH ∧ k_ ≠ aI ∧ k_ ≠ aM ∧ k_ ≠ aO ∧ k_ ≠ aX) (.slice bi aN.length b6) aN) ∧ Aside0 (Kd.V (Kd.slice 98 k98) 99 wc w.heap.size (fun k_ => some k_ ≠ ((.slice aE ay.length aF) : Value).ownBlock ∧ some k_ ≠ ((.slice aR aJ.length aS) : Value).ownBlock ∧ some k_ ≠ ((.slice aU aP.length aV) : Value).ownBlock ∧ some k_ ≠ ((.slice b9 aY.length ba) : Value).ownBlock ∧ k_ ≠ aB ∧ k_ ≠ aC ∧ k_ ≠ aD ∧ k_ ≠ aH ∧ k_ ≠ aI ∧ k_ ≠ aM ∧ k_ ≠ aO ∧ k_ ≠ aX) (.slice bB aT.length bu) aT) ∧ Aside0 (Kd.S k101 101 wc w.heap.size (fun k_ => some k_ ≠ ((.slice aU aP.length aV) : Value).ownBlock) (.slice aE ay.length aF) ay) ∧ Aside0 (Kd.V (Kd.slice 98 k98) 99 wc w.heap.size (fun k_ => some k_ ≠ ((.slice aE ay.length aF) : Value).ownBlock ∧ some k_ ≠ ((.slice aR aJ.length aS) : Value).ownBlock ∧ some k_ ≠ ((.slice aU aP.length aV) : Value).ownBlock ∧ some k_ ≠ ((.slice b9 aY.length ba) : Value).ownBlock ∧ k_ ≠ aB ∧ k_ ≠ aC ∧ k_ ≠ aD ∧ k_ ≠ aH ∧ k_ ≠ aI ∧ k_ ≠ aM ∧ k_ ≠ aO ∧ k_ ≠ aX) (.slice bR b7.length bM) b7) ∧ Aside0 (Kd.V k101 101 wc w.heap.size (fun k_ => some k_ ≠ ((.slice aE ay.length aF) : Value).ownBlock ∧ some k_ ≠ ((.slice aR aJ.length aS) : Value).ownBlock ∧ some k_ ≠ ((.slice aU aP.length aV) : Value).ownBlock ∧ some k_ ≠ ((.slice b9 aY.length ba) : Value).ownBlock ∧ k_ ≠ aB ∧ k_ ≠ aC ∧ k_ ≠ aD ∧ k_ ≠ aH ∧ k_ ≠ aI ∧ k_ ≠ aM ∧ k_ ≠ aO ∧ k_ ≠ aX) (.slice bS b8.length bN) b8) ∧ Aside0 (Kd.S (Kd.slice 98 k98) 99 wc w.heap.size (fun k_ => some k_ ≠ ((.slice b9 aY.length ba) : Value).ownBlock) (.slice aR aJ.length aS) aJ) ∧ Aside0 (Kd.S k101 101 wc w.heap.size (fun k_ => some k_ ≠ ((.slice aE ay.length aF) : Value).ownBlock) (.slice aU aP.length aV) aP) ∧ Aside0 (Kd.S (Kd.slice 98 k98) 99 wc w.heap.size (fun k_ => some k_ ≠ ((.slice aR aJ.length aS) : Value).ownBlock) (.slice b9 aY.length ba) aY) ∧ Aside0 (wc.heap[aB]? = some (.cells #[.int .i64 aW, (.slice bi aN.length b6)] 58 (0, 0))) ∧ Aside0 (wc.heap[aC]? = some (.cells #[.int .i64 bb, (.slice bB aT.length bu)] 58 (0, 0))) ∧ Aside0 (wc.heap[aD]? = some (.cells #[.int .i64 bc, .int .i64 bf, (.slice aE ay.length aF)] 53 (0, 0))) ∧ Aside0 (wc.heap[aH]? = some (.cells #[.int .i64 bI, (.slice bR b7.length bM)] 58 (0, 0))) ∧ Aside0 (wc.heap[aI]? = some (.cells #[.int .i64 bJ, .int .i64 bK, (.slice bS b8.length bN)] 53 (0, 0))) ∧ Aside0 (wc.heap[aM]? = some (.cells #[.int .i64 bL, (.slice aR aJ.length aS)] 58 (0, 0))) ∧ Aside0 (wc.heap[aO]? = some (.cells #[.int .i64 d4, .int .i64 d5, (.slice aU aP.length aV)] 53 (0, 0))) ∧ Aside0 (wc.heap[aX]? = some (.cells #[.int .i64 cP, (.slice b9 aY.length ba)] 58 (0, 0))) ∧ Aside0 (Below w.heap.size w wc))
case first => (
have H := e8.out
clear e8
by_cases bj : (bl != bA) = true
·(
rw [if_pos bj] at H
have bG : (bl != bA) = true := bj
(try (have ei : decide (bl = bA) = false := by simpa using bj))
(try (have ej : (bl == bA) = false := by simpa using bj))
(try (have fg : ¬ (bl = bA) := by simpa using bj))
clear bj
(first | rw [bG] | (simp only [i64_w, i32_w]; rw [bG]) | skip)
have H' := am H
clear H
go_wp2
go_meet
case rel => exact ⟨_, (true), sd, H', ⟨by have := ee.out; first | omega | exact Nat.le_refl _⟩, ⟨rV_ ae⟩, ⟨rV_ ag⟩, ⟨tS1 af al⟩, ⟨rV_ ah⟩, ⟨rV_ ai⟩, ⟨tS1 a8 al⟩, ⟨tS1 aj al⟩, ⟨tS1 aG al⟩, ⟨rk a9⟩, ⟨rk aa⟩, ⟨rk ac⟩, ⟨rk ak⟩, ⟨rk ao⟩, ⟨rk ap⟩, ⟨rk aq⟩, ⟨rk al⟩, ⟨rb HB⟩⟩
)
·(
rw [if_neg bj] at H
have bG : (bl != bA) = false := by simpa using bj
(try (have ei : decide (bl = bA) = true := by simpa using bj))
(try (have ej : (bl == bA) = true := by simpa using bj))
clear bj
(first | rw [bG] | (simp only [i64_w, i32_w]; rw [bG]) | skip)
obtain ⟨f8, dZ, H⟩ := bd H
(try dsimp only at H)
refine em_ (p := f8 = true) (fun cN => ?fm) (fun cN => ?fl)
case' fm => (
subst cN
rw [if_pos rfl] at H
refine em_ (p := bl = true) (fun cO => ?fk) (fun cO => ?fj)
case' fk => (
subst cO
rw [if_pos rfl] at H
obtain ⟨el, eN, H⟩ := bd H
(try dsimp only at H)
have H' := am H
clear H
have eZ := trivial
)
case' fj => (
replace cO := Bool.eq_false_iff.mpr cO
subst cO
rw [if_neg (show ¬ (false = true) by decide)] at H
have H' := am H
clear H
have f5 := trivial
)
)
case' fl => (
replace cN := Bool.eq_false_iff.mpr cN
subst cN
rw [if_neg (show ¬ (false = true) by decide)] at H
have H' := am H
clear H
have f6 := trivial
)
all_goals (
have fE := nN ct
have fF := nN cu
have fG := nN cv
have fH := nN cw
have fI := nN cy
have fJ := nN cz
have fK := nN cA
have gM := z2 ap
have fL := nN cG
have fM := nN cH
have fN := nN cI
have fO := nN cJ
have fP := nN cK
have fQ := nN cL
have gN := z2 al
go_wp2_with (first | (go_at_call 47; (with_reducible refine (laws_likeGrid.calls cS bL _ _ aJ cP _ _ aY true _ ?side1 ?side2 ?side3 ?side4 dZ.out).mono ?_); (case side1 => exact (Kd.S_reads' (tS1 a8 al)).2.2); (case side2 => exact (Kd.S_reads' a8.out).2.1); (case side3 => exact (Kd.S_reads' (tS1 aG al)).2.2); (case side4 => exact (Kd.S_reads' aG.out).2.1); rintro e j3 ⟨rfl, hb⟩; replace ae := am (Kd.V_below (rV_ ae) hb); replace ag := am (Kd.V_below (rV_ ag) hb); replace af := am (Kd.S_below (sf2 af al) hb); replace ah := am (Kd.V_below (rV_ ah) hb); replace ai := am (Kd.V_below (rV_ ai) hb); replace a8 := am (Kd.S_below (sf2 a8 al) hb); replace aj := am (Kd.S_below (sf2 aj al) hb); replace aG := am (Kd.S_below (sf2 aG al) hb); replace a9 := kk a9 hb; replace aa := kk aa hb; replace ac := kk ac hb; replace ak := kk ak hb; replace ao := kk ao hb; replace ap := kk ap hb; replace aq := kk aq hb; replace al := kk al hb; replace HB := bs HB hb; (try clear hb); (try clear bt); (try clear hk); (try clear hi); have gO := z2 ap) | (go_at_call 47; (with_reducible refine (laws_likeGrid.calls cS bL _ _ aJ cP _ _ aY false _ ?side1 ?side2 ?side3 ?side4 dZ.out).mono ?_); (case side1 => exact (Kd.S_reads' (tS1 a8 al)).2.2); (case side2 => exact (Kd.S_reads' a8.out).2.1); (case side3 => exact (Kd.S_reads' (tS1 aG al)).2.2); (case side4 => exact (Kd.S_reads' aG.out).2.1); rintro e j6 ⟨rfl, hb⟩; replace ae := am (Kd.V_below (rV_ ae) hb); replace ag := am (Kd.V_below (rV_ ag) hb); replace af := am (Kd.S_below (sf2 af al) hb); replace ah := am (Kd.V_below (rV_ ah) hb); replace ai := am (Kd.V_below (rV_ ai) hb); replace a8 := am (Kd.S_below (sf2 a8 al) hb); replace aj := am (Kd.S_below (sf2 aj al) hb); replace aG := am (Kd.S_below (sf2 aG al) hb); replace a9 := kk a9 hb; replace aa := kk aa hb; replace ac := kk ac hb; replace ak := kk ak hb; replace ao := kk ao hb; replace ap := kk ap hb; replace aq := kk aq hb; replace al := kk al hb; replace HB := bs HB hb; (try clear hb); (try clear bt); (try clear hk); (try clear hi)) | (go_at_call 47; (with_reducible refine (laws_likeGrid.calls cS bL _ _ aJ cP _ _ aY true _ ?side1 ?side2 ?side3 ?side4 dZ.out).mono ?_); (case side1 => exact (Kd.S_reads' (tS1 a8 al)).2.2); (case side2 => exact (Kd.S_reads' a8.out).2.1); (case side3 => exact (Kd.S_reads' (tS1 aG al)).2.2); (case side4 => exact (Kd.S_reads' aG.out).2.1); rintro e j5 ⟨rfl, hb⟩; replace ae := am (Kd.V_below (rV_ ae) hb); replace ag := am (Kd.V_below (rV_ ag) hb); replace af := am (Kd.S_below (sf2 af al) hb); replace ah := am (Kd.V_below (rV_ ah) hb); replace ai := am (Kd.V_below (rV_ ai) hb); replace a8 := am (Kd.S_below (sf2 a8 al) hb); replace aj := am (Kd.S_below (sf2 aj al) hb); replace aG := am (Kd.S_below (sf2 aG al) hb); replace a9 := kk a9 hb; replace aa := kk aa hb; replace ac := kk ac hb; replace ak := kk ak hb; replace ao := kk ao hb; replace ap := kk ap hb; replace aq := kk aq hb; replace al := kk al hb; replace HB := bs HB hb; (try clear hb); (try clear bt); (try clear hk); (try clear hi)) | (go_at_call 48; (with_reducible refine (impl_GridOk.calls cS bL _ _ aJ el _ ?side1 ?side2 eN.out).mono ?_); (case side1 => exact rcs a8); (case side2 => exact (Kd.S_reads' a8.out).2.1); rintro e j4 ⟨rfl, hb⟩; replace ae := am (Kd.V_below (qV_ ae) hb); replace ag := am (Kd.V_below (qV_ ag) hb); replace af := am (Kd.S_below (rs af) hb); replace ah := am (Kd.V_below (qV_ ah) hb); replace ai := am (Kd.V_below (qV_ ai) hb); replace a8 := am (Kd.S_below (rs a8) hb); replace aj := am (Kd.S_below (rs aj) hb); replace aG := am (Kd.S_below (rs aG) hb); replace a9 := kk a9 hb; replace aa := kk aa hb; replace ac := kk ac hb; replace ak := kk ak hb; replace ao := kk ao hb; replace ap := kk ap hb; replace aq := kk aq hb; replace al := kk al hb; replace HB := bs HB hb; (try clear hb); (try clear bt); (try clear hk); (try clear hi)))
go_meet
first
| (
have q_ := eZ
case rel => exact ⟨_, (!el), sd, H', ⟨by have := ee.out; first | omega | exact Nat.le_refl _⟩, ⟨qV_ ae⟩, ⟨qV_ ag⟩, ⟨rs af⟩, ⟨qV_ ah⟩, ⟨qV_ ai⟩, ⟨qS_ a8⟩, ⟨rs aj⟩, ⟨qS_ aG⟩, ⟨rk a9⟩, ⟨rk aa⟩, ⟨rk ac⟩, ⟨rk ak⟩, ⟨rk ao⟩, ⟨rk ap⟩, ⟨rk aq⟩, ⟨rk al⟩, ⟨rb HB⟩⟩
)
| (
have q_ := f5
case rel => exact ⟨_, (false), sd, H', ⟨by have := ee.out; first | omega | exact Nat.le_refl _⟩, ⟨qV_ ae⟩, ⟨qV_ ag⟩, ⟨rs af⟩, ⟨qV_ ah⟩, ⟨qV_ ai⟩, ⟨qS_ a8⟩, ⟨rs aj⟩, ⟨qS_ aG⟩, ⟨rk a9⟩, ⟨rk aa⟩, ⟨rk ac⟩, ⟨rk ak⟩, ⟨rk ao⟩, ⟨rk ap⟩, ⟨rk aq⟩, ⟨rk al⟩, ⟨rb HB⟩⟩
)
| (
have q_ := f6
case rel => exact ⟨_, (true), sd, H', ⟨by have := ee.out; first | omega | exact Nat.le_refl _⟩, ⟨qV_ ae⟩, ⟨qV_ ag⟩, ⟨rs af⟩, ⟨qV_ ah⟩, ⟨qV_ ai⟩, ⟨qS_ a8⟩, ⟨rs aj⟩, ⟨qS_ aG⟩, ⟨rk a9⟩, ⟨rk aa⟩, ⟨rk ac⟩, ⟨rk ak⟩, ⟨rk ao⟩, ⟨rk ap⟩, ⟨rk aq⟩, ⟨rk al⟩, ⟨rb HB⟩⟩
)
)
)
)
case rest => (
clear e8
try clear c3
try clear cR
try clear eg
try clear d6
try clear d7
try clear d8
try clear d9
try clear da
try clear db
try clear dc
try clear dd
try clear de
try clear er
try clear es
try clear eg
try clear d6
try clear d7
try clear d8
try clear d9
try clear da
try clear db
try clear dc
try clear dd
try clear de
try clear er
try clear es
obtain ⟨kq, bQ, rfl, HA, gY, ae, ag, af, ah, ai, a8, aj, aA, a9, aa, ac, ak, ao, ap, aq, al, HB⟩ := hcut
cases kq with
| zero => exact absurd HA.out (by simp [laws_FnPatched.j1])
| succ d3 => (
have H := HA.out
clear HA
simp only [laws_FnPatched.j1] at H
by_cases cU : bQ = true
·(
subst cU
have H1 : (some false) = some r := by rw [if_pos rfl] at H; exact H
clear H
have H := H1
clear H1
exact absurd (Option.some.inj (H.trans (congrArg some hT_))) Bool.false_ne_true
)
·(
replace cU := Bool.eq_false_iff.mpr cU
subst cU
rw [if_neg (show ¬ (false = true) by decide)] at H
by_cases cV : bg = true
·(
subst cV
rw [if_pos rfl] at H
obtain ⟨⟨eo, cQ, f9⟩, eO, H⟩ := bd H
(try dsimp only at H)
obtain ⟨⟨fa, fb, e9, fc⟩, eP, H⟩ := bd H
(try dsimp only at H)
by_cases cW : f9 = true
·(
subst cW
rw [if_pos rfl] at H
obtain ⟨fd, eQ, H⟩ := bd H
(try dsimp only at H)
by_cases cX : fd = true
·(
subst cX
rw [if_pos rfl] at H
by_cases cY : fc = true
·(
subst cY
have H1 : (some ((e9.length : Int) == 0)) = some r := by rw [if_pos rfl] at H; exact H
clear H
have H := H1
clear H1
first
| with_reducible exact absurd (Option.some.inj (H.trans (congrArg some hT_))) Bool.false_ne_true
| (
obtain rfl := Option.some.inj H
have fR := nN bC
have fS := nN bT
have fT := nN bU
have fU := nN bV
have fV := nN bW
have fW := nN bX
have fX := nN bY
have gP := z2 a9
have fY := nN bn
have fZ := nN bo
have g8 := nN bp
have g9 := nN bq
have ga := nN br
have gb := nN bE
have gQ := z3 ac
go_wp2_with (first | ((with_reducible refine cg 42 rfl ?_); refine gl_ (some 89) Try.func42 #[.agg #[.int .i64 aW, .slice bi aN.length b6], .agg #[.int .i64 bc, .int .i64 bf, .slice aE ay.length aF]] ?_; (with_reducible refine (impl_Patched.calls d3 aW _ _ aN bc bf _ _ ay eo cQ true _ ?side1 ?side2 ?side3 ?side4 eO.out).mono ?_); (case side1 => repeat (first | exact (Kd.V_reads' ae.out).2.2 | (with_reducible refine Kd.C_alloc ?_ _) | (with_reducible refine Kd.C_drewN ?_ _) | (with_reducible refine Kd.C_drew ?_))); (case side2 => exact (Kd.V_reads' ae.out).2.1); (case side3 => exact rcs af); (case side4 => exact (Kd.S_reads' af.out).2.1); rintro e j7 ⟨iY, rfl, ax, hb⟩; refine ⟨_, rfl, ?_⟩; replace ae := am (Kd.V_elder' (qV_ ae) (Kd.S_base ax) hb); replace ag := am (Kd.V_elder' (qV_ ag) (Kd.S_base ax) hb); replace af := am (Kd.S_below (rs af) hb); replace ah := am (Kd.V_elder' (qV_ ah) (Kd.S_base ax) hb); replace ai := am (Kd.V_elder' (qV_ ai) (Kd.S_base ax) hb); replace aj := am (Kd.S_below (rs aj) hb); have b5 := am (Kd.S_lower (Kd.S_new' (Kd.S_new' ax (Kd.S_lt (rs a8))) (Kd.S_lt (rs aA))) (below_size (rb HB))); replace a8 := am (Kd.S_elder' (rs a8) (Kd.S_base ax) hb); replace aA := am (Kd.S_elder' (rs aA) (Kd.S_base ax) hb); replace a9 := kk a9 hb; replace aa := kk aa hb; replace ac := kk ac hb; replace ak := kk ak hb; replace ao := kk ao hb; replace ap := kk ap hb; replace aq := kk aq hb; replace al := kk al hb; replace HB := bs HB hb; (try clear hb); (try clear bt); (try clear hk); (try clear hi); (try clear ax)) | ((with_reducible refine gate_dst (N := 15) rfl ?_); (try (refine gate_guard (by rfl) ?_; dsimp only)); refine bx 15 #[.int .i64 0, .slice none 0 0] 58 ?_; intro bv hg j8 hbox hb; replace ae := am (Kd.V_below (Kd.V_elderB (qV_ ae) bv (Nat.le_of_eq hg.symm)) hb); replace ag := am (Kd.V_below (Kd.V_elderB (qV_ ag) bv (Nat.le_of_eq hg.symm)) hb); replace af := am (Kd.S_below (rs af) hb); replace ah := am (Kd.V_below (Kd.V_elderB (qV_ ah) bv (Nat.le_of_eq hg.symm)) hb); replace ai := am (Kd.V_below (Kd.V_elderB (qV_ ai) bv (Nat.le_of_eq hg.symm)) hb); replace a8 := am (Kd.S_below (rs a8) hb); replace aj := am (Kd.S_below (rs aj) hb); replace aA := am (Kd.S_below (rs aA) hb); replace b5 := am (Kd.S_below (rs b5) hb); have aQ := am (hbox); have eE := am (gw hg (rb HB)); have fA := eE; replace HB := bs HB hb; have df := am (nl hg (rk a9)); have dF := ns df; replace a9 := kk a9 hb; have di := am (nl hg (rk aa)); have dG := ns di; replace aa := kk aa hb; have dk := am (nl hg (rk ac)); have dH := ns dk; replace ac := kk ac hb; have dp := am (nl hg (rk ak)); have dI := ns dp; replace ak := kk ak hb; have dt := am (nl hg (rk ao)); have dJ := ns dt; replace ao := kk ao hb; have dv := am (nl hg (rk ap)); have dK := ns dv; replace ap := kk ap hb; have dA := am (nl hg (rk aq)); have dL := ns dA; replace aq := kk aq hb; have dD := am (nl hg (rk al)); have dM := ns dD; replace al := kk al hb; clear hb hbox hg; have gc := nN dF; have gf := nN dG; have gg := nN dH; have gh := nN dI; have gi := nN dJ; have gj := nN dK; have gl := nN dL; have gm := nN dM; have gR := z2 aQ; obtain ⟨cT, cZ, eJ⟩ := Kd.S_slice b5.out; subst eJ; have gS := z2 a9) | ((with_reducible refine cg 33 rfl ?_); refine gl_ (some 95) Try.func33 #[.agg #[.int .i64 aW, .slice bi aN.length b6], .agg #[.int .i64 aW, .slice bi aN.length b6]] ?_; (with_reducible refine (impl_Diff.calls d3 aW _ _ aN aW _ _ aN fa fb e9 true _ ?side1 ?side2 ?side3 ?side4 eP.out).mono ?_); (case side1 => refine (Kd.V_reads' (e := 99) (base := w.heap.size) (ok := fun k_ => (((some k_ ≠ (.slice aE ay.length aF : Value).ownBlock ∧ (some k_ ≠ (.slice aR aJ.length aS : Value).ownBlock ∧ (some k_ ≠ (.slice aU aP.length aV : Value).ownBlock ∧ (some k_ ≠ (.slice b9 aY.length ba : Value).ownBlock ∧ (k_ ≠ aB ∧ (k_ ≠ aC ∧ (k_ ≠ aD ∧ (k_ ≠ aH ∧ (k_ ≠ aI ∧ (k_ ≠ aM ∧ (k_ ≠ aO ∧ k_ ≠ aX))))))))))) ∧ some k_ ≠ (.slice cT cQ.length cZ : Value).ownBlock) ∧ k_ ≠ bv)) (n := aN.length) (c := b6) ?_).2.2; exact (rV_ ae)); (case side2 => exact (Kd.V_reads' ae.out).2.1); (case side3 => refine (Kd.V_reads' (e := 99) (base := w.heap.size) (ok := fun k_ => (((some k_ ≠ (.slice aE ay.length aF : Value).ownBlock ∧ (some k_ ≠ (.slice aR aJ.length aS : Value).ownBlock ∧ (some k_ ≠ (.slice aU aP.length aV : Value).ownBlock ∧ (some k_ ≠ (.slice b9 aY.length ba : Value).ownBlock ∧ (k_ ≠ aB ∧ (k_ ≠ aC ∧ (k_ ≠ aD ∧ (k_ ≠ aH ∧ (k_ ≠ aI ∧ (k_ ≠ aM ∧ (k_ ≠ aO ∧ k_ ≠ aX))))))))))) ∧ some k_ ≠ (.slice cT cQ.length cZ : Value).ownBlock) ∧ k_ ≠ bv)) (n := aN.length) (c := b6) ?_).2.2; exact (rV_ ae)); (case side4 => exact (Kd.V_reads' ae.out).2.1); rintro e j9 ⟨iZ, rfl, ax, hb⟩; refine ⟨_, rfl, ?_⟩; replace ae := am (Kd.V_elder' (rV_ ae) (Kd.S_base ax) hb); replace ag := am (Kd.V_elder' (rV_ ag) (Kd.S_base ax) hb); replace ah := am (Kd.V_elder' (rV_ ah) (Kd.S_base ax) hb); replace ai := am (Kd.V_elder' (rV_ ai) (Kd.S_base ax) hb); replace a8 := am (Kd.S_below (sf2 a8 aQ) hb); replace aA := am (Kd.S_below (sf2 aA aQ) hb); replace b5 := am (Kd.S_below (sf2 b5 aQ) hb); have bO := am (Kd.S_lower (Kd.S_new' (Kd.S_new' ax (Kd.S_lt (sf2 af aQ))) (Kd.S_lt (sf2 aj aQ))) (below_size (rb HB))); replace af := am (Kd.S_elder' (sf2 af aQ) (Kd.S_base ax) hb); replace aj := am (Kd.S_elder' (sf2 aj aQ) (Kd.S_base ax) hb); replace a9 := kk a9 hb; replace aa := kk aa hb; replace ac := kk ac hb; replace ak := kk ak hb; replace ao := kk ao hb; replace ap := kk ap hb; replace aq := kk aq hb; replace al := kk al hb; replace aQ := kk aQ hb; replace HB := bs HB hb; (try clear hb); (try clear bt); (try clear hk); (try clear hi); (try clear ax)) | ((with_reducible refine gate_dst (N := 17) rfl ?_); (try (refine gate_guard (by rfl) ?_; dsimp only)); refine bx 17 #[.int .i64 0, .int .i64 0, .slice none 0 0] 53 ?_; intro bw hg ja hbox hb; replace ae := am (Kd.V_below (Kd.V_elderB (qV_ ae) bw (Nat.le_of_eq hg.symm)) hb); replace ag := am (Kd.V_below (Kd.V_elderB (qV_ ag) bw (Nat.le_of_eq hg.symm)) hb); replace af := am (Kd.S_below (rs af) hb); replace ah := am (Kd.V_below (Kd.V_elderB (qV_ ah) bw (Nat.le_of_eq hg.symm)) hb); replace ai := am (Kd.V_below (Kd.V_elderB (qV_ ai) bw (Nat.le_of_eq hg.symm)) hb); replace a8 := am (Kd.S_below (rs a8) hb); replace aj := am (Kd.S_below (rs aj) hb); replace aA := am (Kd.S_below (rs aA) hb); replace b5 := am (Kd.S_below (rs b5) hb); replace bO := am (Kd.S_below (rs bO) hb); have aZ := am (hbox); have fC := am ((by rw [hg]; exact (below_size (rb HB)) : w.heap.size ≤ bw)); have fB := am ((by rw [hg]; exact (below_size (rb HB)) : w.heap.size ≤ bw)); replace HB := bs HB hb; have dg := am (nl hg (rk a9)); have dO := ns dg; replace a9 := kk a9 hb; have dj := am (nl hg (rk aa)); have dP := ns dj; replace aa := kk aa hb; have dm := am (nl hg (rk ac)); have dQ := ns dm; replace ac := kk ac hb; have dq := am (nl hg (rk ak)); have dR := ns dq; replace ak := kk ak hb; have du := am (nl hg (rk ao)); have dS := ns du; replace ao := kk ao hb; have dx := am (nl hg (rk ap)); have dU := ns dx; replace ap := kk ap hb; have dB := am (nl hg (rk aq)); have dV := ns dB; replace aq := kk aq hb; have dE := am (nl hg (rk al)); have dW := ns dE; replace al := kk al hb; have dN := am (nl hg (rk aQ)); have dX := ns dN; replace aQ := kk aQ hb; clear hb hbox hg; have gn := nN dO; have gp := nN dP; have gq := nN dQ; have gr := nN dR; have gu := nN dS; have gv := nN dU; have gx := nN dV; have gy := nN dW; have gz := nN dX; have gT := z3 aZ; obtain ⟨eu, eH, eK⟩ := Kd.S_slice bO.out; subst eK; have gU := z2 aQ; have gA := nN bZ; have gB := nN ca; have gC := nN cb; have gD := nN cd; have gE := nN ce; have gV := z2 aa) | (go_at_call 47; (with_reducible refine (laws_likeGrid.calls d3 eo _ _ cQ bb _ _ aT true _ ?side1 ?side2 ?side3 ?side4 eQ.out).mono ?_); (case side1 => exact (Kd.S_reads' (tS1 b5 aZ)).2.2); (case side2 => exact (Kd.S_reads' b5.out).2.1); (case side3 => refine (Kd.V_reads' (e := 99) (base := w.heap.size) (ok := fun k_ => (((((some k_ ≠ (.slice aE ay.length aF : Value).ownBlock ∧ (some k_ ≠ (.slice aR aJ.length aS : Value).ownBlock ∧ (some k_ ≠ (.slice aU aP.length aV : Value).ownBlock ∧ (some k_ ≠ (.slice b9 aY.length ba : Value).ownBlock ∧ (k_ ≠ aB ∧ (k_ ≠ aC ∧ (k_ ≠ aD ∧ (k_ ≠ aH ∧ (k_ ≠ aI ∧ (k_ ≠ aM ∧ (k_ ≠ aO ∧ k_ ≠ aX))))))))))) ∧ some k_ ≠ (.slice cT cQ.length cZ : Value).ownBlock) ∧ k_ ≠ bv) ∧ some k_ ≠ (.slice eu e9.length eH : Value).ownBlock) ∧ k_ ≠ bw)) (n := aT.length) (c := bu) ?_).2.2; exact (rV_ ag)); (case side4 => exact (Kd.V_reads' ag.out).2.1); rintro e jb ⟨rfl, hb⟩; replace ae := am (Kd.V_below (rV_ ae) hb); replace ag := am (Kd.V_below (rV_ ag) hb); replace af := am (Kd.S_below (sf3 af aZ) hb); replace ah := am (Kd.V_below (rV_ ah) hb); replace ai := am (Kd.V_below (rV_ ai) hb); replace a8 := am (Kd.S_below (sf3 a8 aZ) hb); replace aj := am (Kd.S_below (sf3 aj aZ) hb); replace aA := am (Kd.S_below (sf3 aA aZ) hb); replace b5 := am (Kd.S_below (sf3 b5 aZ) hb); replace bO := am (Kd.S_below (sf3 bO aZ) hb); replace a9 := kk a9 hb; replace aa := kk aa hb; replace ac := kk ac hb; replace ak := kk ak hb; replace ao := kk ao hb; replace ap := kk ap hb; replace aq := kk aq hb; replace al := kk al hb; replace aQ := kk aQ hb; replace aZ := kk aZ hb; replace HB := bs HB hb; (try clear hb); (try clear bt); (try clear hk); (try clear hi); have gW := z3 aZ))
go_ret
exact ⟨ew, rb HB⟩)
)
·(
replace cY := Bool.eq_false_iff.mpr cY
subst cY
have H1 : (some false) = some r := by rw [if_neg (show ¬ (false = true) by decide)] at H; exact H
clear H
have H := H1
clear H1
exact absurd (Option.some.inj (H.trans (congrArg some hT_))) Bool.false_ne_true
)
)
·(
replace cX := Bool.eq_false_iff.mpr cX
subst cX
have H1 : (some false) = some r := by rw [if_neg (show ¬ (false = true) by decide)] at H; exact H
clear H
have H := H1
clear H1
exact absurd (Option.some.inj (H.trans (congrArg some hT_))) Bool.false_ne_true
)
)
·(
replace cW := Bool.eq_false_iff.mpr cW
subst cW
have H1 : (some false) = some r := by rw [if_neg (show ¬ (false = true) by decide)] at H; exact H
clear H
have H := H1
clear H1
exact absurd (Option.some.inj (H.trans (congrArg some hT_))) Bool.false_ne_true
)
)
·(
replace cV := Bool.eq_false_iff.mpr cV
subst cV
rw [if_neg (show ¬ (false = true) by decide)] at H
replace H := Option.bind_eq_some_iff.mp H
obtain ⟨ep, eb, H⟩ := H
replace H : (some ep) = some r := H
have eR := am eb
clear eb
first
| with_reducible exact absurd (Option.some.inj (H.trans (congrArg some hT_))) Bool.false_ne_true
| (
obtain rfl := Option.some.inj H
have gF := nN bD
have gG := nN bn
have gH := nN bo
have gI := nN bp
have gJ := nN bq
have gK := nN br
have gL := nN bE
have gX := z3 ac
go_wp2_with (first | ((with_reducible refine cg 46 rfl ?_); refine gl_ (some 85) Try.func46 #[.agg #[.int .i64 bc, .int .i64 bf, .slice aE ay.length aF], .agg #[.int .i64 0, .int .i64 0, .slice none 0 0]] ?_; (refine (laws_likePatch.calls d3 bc bf _ _ ay 0 0 _ _ ([] : List (S101)) ep _ ?side1 ?side2 ?side3 ?side4 eR.out).mono ?_); (case side1 => exact rcs af); (case side2 => exact (Kd.S_reads' af.out).2.1); (case side3 => exact Kd.C_nil _ _); (case side4 => exact Nat.le_refl _); rintro e jc ⟨rfl, hb⟩; refine ⟨_, rfl, ?_⟩; replace ae := am (Kd.V_below (qV_ ae) hb); replace ag := am (Kd.V_below (qV_ ag) hb); replace af := am (Kd.S_below (rs af) hb); replace ah := am (Kd.V_below (qV_ ah) hb); replace ai := am (Kd.V_below (qV_ ai) hb); replace a8 := am (Kd.S_below (rs a8) hb); replace aj := am (Kd.S_below (rs aj) hb); replace aA := am (Kd.S_below (rs aA) hb); replace a9 := kk a9 hb; replace aa := kk aa hb; replace ac := kk ac hb; replace ak := kk ak hb; replace ao := kk ao hb; replace ap := kk ap hb; replace aq := kk aq hb; replace al := kk al hb; replace HB := bs HB hb; (try clear hb); (try clear bt); (try clear hk); (try clear hi)))
go_ret
exact ⟨ew, rb HB⟩)
)
)
)
)
)
)
)
)
)

/-- THE ONE PURE STATEMENT of laws_FnPatched: yours. -/
def laws_FnPatched.Pure : Prop := ∀ (l0 : List Int), l0.length ≤ maxLen → l0.length * 1 ≤ 140737488351232 → (∀ x ∈ l0, (Lit.int .u8 x).wf = true) → ∃ k, laws_FnPatched.f k l0 = some true
end Go.Proofs.Ytalopdcephohgaa.RD
