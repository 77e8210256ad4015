/- Contracts of Go functions that laws of this seat reach: each Lean function answers as its Go function does. No condition. Written by wip/tools/inj.py, over the kit's print. -/
import Derived.Test.YtalopdcephohgaaRDx0
import Derived.Test.YtalopdcephohgaaRDx10
import Derived.Test.YtalopdcephohgaaRDx24
import Derived.Test.YtalopdcephohgaaRDx26
import Derived.Test.YtalopdcephohgaaRDx30
namespace Go.Proofs.Ytalopdcephohgaa.RD
open Go.RowKit Go.Proofs.YtalopdcephohgaaW.PrintWords Go.Proofs.YtalopdcephohgaaW.PrintLast Go.Proofs.YtalopdcephohgaaW.PrintMore
attribute [local go_sem] max2_int min2_int max_two min_two max_three min_three max_four min_four   -- for this text's walks alone
set_option linter.unusedVariables false
set_option linter.unusedSimpArgs false

/-! ### spec_l10Draw: function 85 -/
def spec_l10Draw.j0 : Nat → Bool → List Int → Int → Int → Int → Int → List (S101) → Option (Int × Int × (List (S101)) × Int × Int)
 | 0, _, _, _, _, _, _, _ => none
 | k + 1, aq, ah, aj, ak, ac, aa, a8 => if aq = true then (if 0 < (a8.length : Int) then ((spec_l1Below.f ah aj ak 5).bind fun a9 => (if a9.1 = 0 then ((some (([(-1), 0, 9999999, 10000000, 4611686018427387904] : List Int) : List Int)).bind fun al => ((spec_l1Below.f ah a9.2.1 a9.2.2 5).bind fun ae => (if 0 ≤ ae.1 then (if ae.1 < (al.length : Int) then (some (ac, aa, (a8.set (0 : Int).toNat (⟨rd al ae.1, (rd_T101 a8 0).f1, (rd_T101 a8 0).f2⟩ : S101)), ae.2.1, ae.2.2)) else (none)) else (none)))) else (if a9.1 = 1 then ((some (([(-1), 5, 60, (-9223372036854775808)] : List Int) : List Int)).bind fun ao => ((spec_l1Below.f ah a9.2.1 a9.2.2 4).bind fun af => (if 0 ≤ af.1 then (if af.1 < (ao.length : Int) then (some (ac, aa, (a8.set (0 : Int).toNat (⟨(rd_T101 a8 0).f0, rd ao af.1, (rd_T101 a8 0).f2⟩ : S101)), af.2.1, af.2.2)) else (none)) else (none)))) else (if a9.1 = 2 then (some (ac, aa, (a8.set (0 : Int).toNat (⟨(rd_T101 a8 0).f0, (rd_T101 a8 0).f1, (([] : List (S98)))⟩ : S101)), a9.2.1, a9.2.2)) else (if a9.1 = 3 then ((spec_l1From.f ah a9.2.1 a9.2.2 (-1) 4).bind fun ai => (if 0 < (((rd_T101 a8 0).f2).length : Int) then (some (ac, aa, (a8.set (0 : Int).toNat (⟨(rd_T101 a8 0).f0, (rd_T101 a8 0).f1, (((rd_T101 a8 0).f2).set (0 : Int).toNat (⟨(rd_T98 ((rd_T101 a8 0).f2) 0).f0, (⟨(rd_T98 ((rd_T101 a8 0).f2) 0).f1.f0, (rd_T98 ((rd_T101 a8 0).f2) 0).f1.f1, (rd_T98 ((rd_T101 a8 0).f2) 0).f1.f2, (rd_T98 ((rd_T101 a8 0).f2) 0).f1.f3, (rd_T98 ((rd_T101 a8 0).f2) 0).f1.f4⟩ : S96), ai.1⟩ : S98))⟩ : S101)), ai.2.1, ai.2.2)) else (none))) else (if a9.1 = 4 then ((some (([0, 60, 61, (-1)] : List Int) : List Int)).bind fun ap => ((spec_l1Below.f ah a9.2.1 a9.2.2 4).bind fun ag => (if 0 ≤ ag.1 then (if ag.1 < (ap.length : Int) then (some (rd ap ag.1, aa, a8, ag.2.1, ag.2.2)) else (none)) else (none)))) else (some (ac, aa, a8, a9.2.1, a9.2.2)))))))) else (none)) else (some (ac, aa, a8, aj, ak))
def spec_l10Draw.f (k : Nat) (ac : List Int) (ae : Int) (af : Int) : Option (Int × Int × (List (S101)) × Int × Int) := (spec_l10DrawTwo.f k ac ae af).bind fun a9 => ((spec_Diff.f k a9.1 a9.2.1 a9.2.2.1 a9.2.2.2.1).bind fun a8 => ((spec_l1Once.f ac a9.2.2.2.2.1 a9.2.2.2.2.2 8).bind fun aa => (if aa.1 = true then (spec_l10Draw.j0 k (decide ((a8.2.2.1.length : Int) > 0)) ac aa.2.1 aa.2.2 a8.1 a8.2.1 a8.2.2.1) else (spec_l10Draw.j0 k false ac aa.2.1 aa.2.2 a8.1 a8.2.1 a8.2.2.1))))
theorem spec_l10Draw.mono_l : ∀ k, (∀ y0 y1 y2 y3 y4 y5 y6, LeO (spec_l10Draw.j0 k y0 y1 y2 y3 y4 y5 y6) (spec_l10Draw.j0 (k + 1) y0 y1 y2 y3 y4 y5 y6))
 | 0 => fun _ _ _ _ _ _ _ r h => by simp [spec_l10Draw.j0] at h
 | k + 1 => by
  have ih0 := spec_l10Draw.mono_l k
  ·intro y0 y1 y2 y3 y4 y5 y6
   unfold spec_l10Draw.j0
   repeat' first
   | (with_reducible exact ih0 _ _ _ _ _ _ _)
   | (with_reducible exact spec_Diff.mono _ _ _ _ _)
   | (with_reducible exact spec_l10DrawTwo.mono _ _ _ _)
   | (with_reducible exact LeO.refl _)
   | (with_reducible exact LeO.none _)
   | (with_reducible refine LeO.ite ?_ ?_)
   | (with_reducible refine LeO.bind ?_ (fun _ => ?_))
theorem spec_l10Draw.mono : ∀ a0 a1 a2 k, LeO (spec_l10Draw.f k a0 a1 a2) (spec_l10Draw.f (k + 1) a0 a1 a2) := by
 intro a0 a1 a2 k
 have ih0 := spec_l10Draw.mono_l k
 unfold spec_l10Draw.f
 repeat' first
   | (with_reducible exact ih0 _ _ _ _ _ _ _)
   | (with_reducible exact spec_Diff.mono _ _ _ _ _)
   | (with_reducible exact spec_l10DrawTwo.mono _ _ _ _)
   | (with_reducible exact LeO.refl _)
   | (with_reducible exact LeO.none _)
   | (with_reducible refine LeO.ite ?_ ?_)
   | (with_reducible refine LeO.bind ?_ (fun _ => ?_))
def spec_l10Draw.T13 : Bool × List (List Nat × List Nat) := (true, [([], []), ([0], [0]), ([1], [1]), ([2], [2]), ([], []), ([4], [4]), ([3, 0, 1, 2, 3, 4, 5], [3]), ([6, 0, 1, 2, 3, 4, 5], [6]), ([7, 5, 5, 0, 1, 2, 3, 4, 5], [5, 7])])
def spec_l10Draw.B13 : List Nat := [0, 1, 3, 7, 0, 16, 63, 127, 255]
theorem spec_l10Draw.tab13 : rtab .any (opsOf Try.f85 13) = spec_l10Draw.T13 := by kernel_rfl
theorem spec_l10Draw.bits13 : waitsOk spec_l10Draw.T13.2 spec_l10Draw.B13 = true := by kernel_rfl
set_option maxHeartbeats 8000000 in
set_option maxRecDepth 100000 in
theorem spec_l10Draw.calls (k : Nat) (g : Nat) (aq : List Int) (ef : Int) (eg : Int) (r1 : Int) (r2 : Int) (r3 : List (S101)) (r4 : Int) (r5 : Int) (w0 w : World) (hI : IsS118 w0 w g aq ef eg) (hB : Below w0.heap.size w0 w) (h : spec_l10Draw.f k aq ef eg = some (r1, r2, r3, r4, r5)) :
  Calls Try.prog 85 #[.pointer (some ⟨g, 0, none⟩)] w fun e w' => ∃ v2_ : Value, e = .returned (.agg #[.int .i64 r1, .int .i64 r2, v2_]) ∧ Kd.S k101 101 w' w.heap.size (fun _ => True) v2_ r3 ∧ IsS118 w0 w' g aq r4 r5 ∧ Below w0.heap.size w0 w' ∧ KeepBut w w' g none := by
 (
have jG := Try.underlying53
have jH := Try.underlying58
have ac := am hI
have HK := am (KeepBut.refl w g none)
have HL := am hB.size
clear hI
have ei := am hB.size
have HB := am hB
clear hB
have H := h
unfold spec_l10Draw.f at H
clear h
obtain ⟨⟨bN, bt, bO, bu, bP, bQ⟩, A2, H⟩ := bd H
(try dsimp only at H)
obtain ⟨⟨aN, aG, a9, gT⟩, A3, H⟩ := bd H
(try dsimp only at H)
have eK := am H
clear H
go_enter Try.func85, Try.ntmps85
go_upto_region 3 with (first | ((with_reducible refine gate_dst (N := 2) rfl ?_); (try (refine gate_guard (by rfl) ?_; dsimp only)); refine bx 2 #[.int .i64 0, .int .i64 0, .slice none 0 0] 53 ?_; intro al hg w5 hbox hb; replace HB := bsi HB hb; have aa := am (hbox); have iM := am (gk hg HK); have iH := am ((Nat.le_trans ei.out (gk hg HK) : w0.heap.size ≤ al)); replace HK := kb HK hb; have eD := am (il118 hg ac); have aQ := ns eD; replace ac := am (IsS118.below (ri118 ac) hb); clear hb hbox hg) | ((with_reducible refine cg 83 rfl ?_); refine gl_ (some 10) Try.func83 #[.pointer (some ⟨g, 0, none⟩)] ?_; (with_reducible refine (spec_l10DrawTwo.calls k g aq ef eg bN bt bO bu bP bQ w0 _ ?side1 ?side2 A2.out).mono ?_); (case side1 => exact ri118 ac); (case side2 => exact rbi HB); rintro e w6 ⟨ke, kf, rfl, cH, gj, hi, hb, hk⟩; refine ⟨_, rfl, ?_⟩; have aE := am (Kd.V_lower (Kd.V_mono (ok' := fun k_ => k_ ≠ al ∧ k_ ≠ g) cH (fun k_ hk_ => ⟨(Kd.freshB (rk aa) k_ hk_), (IsS118.fresh (ri118 ac) k_ hk_)⟩)) (ks HK)); have aF := am (Kd.V_lower (Kd.V_mono (ok' := fun k_ => k_ ≠ al ∧ k_ ≠ g) gj (fun k_ hk_ => ⟨(Kd.freshB (rk aa) k_ hk_), (IsS118.fresh (ri118 ac) k_ hk_)⟩)) (ks HK)); replace aa := kh aa hk; replace HK := kt HK hk; replace HB := am (hb); replace ac := am (hi); (try clear hb); (try clear bl); (try clear hk); (try clear hi); (try clear cH); (try clear gj)) | ((with_reducible refine gate_dst (N := 3) rfl ?_); (try (refine gate_guard (by rfl) ?_; dsimp only)); refine bx 3 #[.int .i64 0, .slice none 0 0] 58 ?_; intro ao hg w7 hbox hb; replace aE := am (Kd.V_below (Kd.V_elderB (qV_ aE) ao (Nat.le_of_eq hg.symm)) hb); replace aF := am (Kd.V_below (Kd.V_elderB (qV_ aF) ao (Nat.le_of_eq hg.symm)) hb); replace HB := bsi HB hb; have ah := am (hbox); have iN := am (gk hg HK); have iI := am ((Nat.le_trans ei.out (gk hg HK) : w0.heap.size ≤ ao)); replace HK := kb HK hb; have aH := am (nl hg (rk aa)); have di := ns aH; replace aa := kk aa hb; have eE := am (il118 hg ac); have eH := ns eE; replace ac := am (IsS118.below (ri118 ac) hb); clear hb hbox hg) | ((with_reducible refine gate_dst (N := 4) rfl ?_); (try (refine gate_guard (by rfl) ?_; dsimp only)); refine bx 4 #[.int .i64 0, .slice none 0 0] 58 ?_; intro ap hg w8 hbox hb; replace aE := am (Kd.V_below (Kd.V_elderB (qV_ aE) ap (Nat.le_of_eq hg.symm)) hb); replace aF := am (Kd.V_below (Kd.V_elderB (qV_ aF) ap (Nat.le_of_eq hg.symm)) hb); replace HB := bsi HB hb; have ai := am (hbox); have iO := am (gk hg HK); have iJ := am ((Nat.le_trans ei.out (gk hg HK) : w0.heap.size ≤ ap)); replace HK := kb HK hb; have aI := am (nl hg (rk aa)); have dk := ns aI; replace aa := kk aa hb; have bS := am (nl hg (rk ah)); have gi := ns bS; replace ah := kk ah hb; have eF := am (il118 hg ac); have eI := ns eF; replace ac := am (IsS118.below (ri118 ac) hb); clear hb hbox hg; have kE := nN di; have jI := nN bS; have jJ := nN eH; have fF := z2 ah; obtain ⟨cw, cC, gF⟩ := Kd.V_slice aE.out; subst gF; have jK := nN dk; have jL := nN eI; have fG := z2 ai; obtain ⟨cy, cD, gG⟩ := Kd.V_slice aF.out; subst gG) | ((with_reducible refine cg 31 rfl ?_); refine gl_ (some 16) Try.func31 #[.agg #[.int .i64 bN, .slice cw bt.length cC], .agg #[.int .i64 bO, .slice cy bu.length cD]] ?_; (with_reducible refine (spec_Diff.calls k bN _ _ bt bO _ _ bu aN aG a9 gT _ ?side1 ?side2 ?side3 ?side4 A3.out).mono ?_); (case side1 => exact (Kd.V_reads' (rV_ aE)).2.2); (case side2 => exact (Kd.V_reads' aE.out).2.1); (case side3 => exact (Kd.V_reads' (rV_ aF)).2.2); (case side4 => exact (Kd.V_reads' aF.out).2.1); rintro e kF ⟨kg, rfl, cH, hb⟩; refine ⟨_, rfl, ?_⟩; replace aE := am (Kd.V_elder' (rV_ aE) (Kd.S_base cH) hb); replace aF := am (Kd.V_elder' (rV_ aF) (Kd.S_base cH) hb); have aY := am (Kd.S_lower cH (ks HK)); replace aa := kk aa hb; replace ah := kk ah hb; replace ai := kk ai hb; replace HK := kb HK hb; replace HB := bsi HB hb; replace ac := am (IsS118.below (show IsS118 w0 ((((w8.setCell ⟨ao, 0, none⟩ (.int .i64 bN)).setCell ⟨ao, 1, none⟩ (.slice cw bt.length cC)).setCell ⟨ap, 0, none⟩ (.int .i64 bO)).setCell ⟨ap, 1, none⟩ (.slice cy bu.length cD)) g aq bP bQ from ri118 ac) hb); (try clear hb); (try clear bl); (try clear hk); (try clear hi); (try clear cH)) | ((with_reducible refine gate_dst (N := 5) rfl ?_); (try (refine gate_guard (by rfl) ?_; dsimp only)); refine bx 5 #[.int .i64 0, .int .i64 0, .slice none 0 0] 53 ?_; intro au hg kG hbox hb; replace aE := am (Kd.V_below (Kd.V_elderB (qV_ aE) au (Nat.le_of_eq hg.symm)) hb); replace aF := am (Kd.V_below (Kd.V_elderB (qV_ aF) au (Nat.le_of_eq hg.symm)) hb); replace aY := am (Kd.S_below (rs aY) hb); replace HB := bsi HB hb; have ag := am (hbox); have iP := am (gk hg HK); have iK := am ((Nat.le_trans ei.out (gk hg HK) : w0.heap.size ≤ au)); replace HK := kb HK hb; have dh := am (nl hg (rk aa)); have bn := ns dh; replace aa := kk aa hb; have dj := am (nl hg (rk ah)); have bo := ns dj; replace ah := kk ah hb; have dm := am (nl hg (rk ai)); have bp := ns dm; replace ai := kk ai hb; have eG := am (il118 hg ac); have bK := ns eG; replace ac := am (IsS118.below (ri118 ac) hb); clear hb hbox hg; have jM := nN bn; have jN := nN bo; have jO := nN bp; have jP := nN bK; have fH := z3 ag; obtain ⟨bb, ak, gH⟩ := Kd.S_slice aY.out; subst gH))
(try simp only [Act.put, List.setIfInBounds_toArray, List.set_cons_zero, List.set_cons_succ])
go_cut [26] (fun iB wc => ∃ (kq : Nat) (cv : Bool) (ay : Int) (az : Int), iB = .bool cv ∧ Aside0 (spec_l10Draw.j0 kq cv aq ay az aN aG a9 = some (r1, r2, r3, r4, r5)) ∧ Aside0 (kq ≤ k) ∧ Aside0 (Kd.V (Kd.slice 98 k98) 99 wc w.heap.size (fun k_ => some k_ ≠ ((.slice bb a9.length ak) : Value).ownBlock ∧ k_ ≠ al ∧ k_ ≠ ao ∧ k_ ≠ ap ∧ k_ ≠ au ∧ k_ ≠ g) (.slice cw bt.length cC) bt) ∧ Aside0 (Kd.V (Kd.slice 98 k98) 99 wc w.heap.size (fun k_ => some k_ ≠ ((.slice bb a9.length ak) : Value).ownBlock ∧ k_ ≠ al ∧ k_ ≠ ao ∧ k_ ≠ ap ∧ k_ ≠ au ∧ k_ ≠ g) (.slice cy bu.length cD) bu) ∧ Aside0 (Kd.S k101 101 wc w.heap.size (fun _ => True) (.slice bb a9.length ak) a9) ∧ Aside0 (wc.heap[al]? = some (.cells #[.int .i64 0, .int .i64 0, (.slice none 0 0)] 53 (0, 0))) ∧ Aside0 (wc.heap[ao]? = some (.cells #[.int .i64 bN, (.slice cw bt.length cC)] 58 (0, 0))) ∧ Aside0 (wc.heap[ap]? = some (.cells #[.int .i64 bO, (.slice cy bu.length cD)] 58 (0, 0))) ∧ Aside0 (wc.heap[au]? = some (.cells #[.int .i64 aN, .int .i64 aG, (.slice bb a9.length ak)] 53 (0, 0))) ∧ Aside0 (IsS118 w0 wc g aq ay az) ∧ Aside0 (KeepBut w wc g none) ∧ Aside0 (Below w0.heap.size w0 wc))
case first => (
have H := eK.out
clear eK
obtain ⟨⟨gU, dc, dd⟩, gg, H⟩ := bd H
(try dsimp only at H)
by_cases es : gU = true
·(
subst es
rw [if_pos rfl] at H
have H' := am H
clear H
go_wp2_with (first | ((with_reducible refine cg 51 rfl ?_); refine gl_ (some 20) Try.func51 #[.pointer (some ⟨g, 0, none⟩), .int .i64 8] ?_; (with_reducible refine (spec_l1Once.calls g aq bP bQ 8 true dc dd w0 _ ?side1 ?side2 gg.out).mono ?_); (case side1 => exact ri118 ac); (case side2 => exact rbi HB); rintro e kH ⟨rfl, hi, hb, hk⟩; refine ⟨_, rfl, ?_⟩; replace aa := kh aa hk; replace aE := am (Kd.V_mono (Kd.V_keep (Kd.V_mono (ok := fun k_ => (((((k_ ≠ al ∧ k_ ≠ g) ∧ k_ ≠ ao) ∧ k_ ≠ ap) ∧ some k_ ≠ (.slice bb a9.length ak : Value).ownBlock) ∧ k_ ≠ au)) (rV_ aE) (fun k_ hk_ => (⟨hk_, hk_.1.1.1.1.2⟩ : _ ∧ k_ ≠ g))) hk (fun _ h => h.2)) (fun _ h => h.1)); replace aF := am (Kd.V_mono (Kd.V_keep (Kd.V_mono (ok := fun k_ => (((((k_ ≠ al ∧ k_ ≠ g) ∧ k_ ≠ ao) ∧ k_ ≠ ap) ∧ some k_ ≠ (.slice bb a9.length ak : Value).ownBlock) ∧ k_ ≠ au)) (rV_ aF) (fun k_ hk_ => (⟨hk_, hk_.1.1.1.1.2⟩ : _ ∧ k_ ≠ g))) hk (fun _ h => h.2)) (fun _ h => h.1)); replace ah := kh ah hk; replace ai := kh ai hk; replace aY := am (Kd.S_mono (Kd.S_keep (IsS118.apartS (show IsS118 w0 _ g aq bP bQ from ri118 ac) (sf3 aY ag) (by decide)) hk (fun _ h => h.2)) (fun _ h => h.1)); replace ag := kh ag hk; replace HK := kt HK hk; replace HB := am (hb); replace ac := am (hi); (try clear hb); (try clear bl); (try clear hk); (try clear hi); have jQ := nN bn; have jR := nN bo; have jS := nN bp; have jT := nN bK; have ku := z3 ag))
go_meet
case rel => exact ⟨_, (decide ((a9.length : Int) > 0)), (dc), (dd), sd, H', ⟨by first | omega | exact Nat.le_refl _⟩, ⟨qV_ aE⟩, ⟨qV_ aF⟩, ⟨rs aY⟩, ⟨rk aa⟩, ⟨rk ah⟩, ⟨rk ai⟩, ⟨rk ag⟩, ⟨ri118 ac⟩, ⟨rkk HK⟩, ⟨rbi HB⟩⟩
)
·(
replace es := Bool.eq_false_iff.mpr es
subst es
rw [if_neg (show ¬ (false = true) by decide)] at H
have H' := am H
clear H
go_wp2_with (first | ((with_reducible refine cg 51 rfl ?_); refine gl_ (some 20) Try.func51 #[.pointer (some ⟨g, 0, none⟩), .int .i64 8] ?_; (with_reducible refine (spec_l1Once.calls g aq bP bQ 8 false dc dd w0 _ ?side1 ?side2 gg.out).mono ?_); (case side1 => exact ri118 ac); (case side2 => exact rbi HB); rintro e kI ⟨rfl, hi, hb, hk⟩; refine ⟨_, rfl, ?_⟩; replace aa := kh aa hk; replace aE := am (Kd.V_mono (Kd.V_keep (Kd.V_mono (ok := fun k_ => (((((k_ ≠ al ∧ k_ ≠ g) ∧ k_ ≠ ao) ∧ k_ ≠ ap) ∧ some k_ ≠ (.slice bb a9.length ak : Value).ownBlock) ∧ k_ ≠ au)) (rV_ aE) (fun k_ hk_ => (⟨hk_, hk_.1.1.1.1.2⟩ : _ ∧ k_ ≠ g))) hk (fun _ h => h.2)) (fun _ h => h.1)); replace aF := am (Kd.V_mono (Kd.V_keep (Kd.V_mono (ok := fun k_ => (((((k_ ≠ al ∧ k_ ≠ g) ∧ k_ ≠ ao) ∧ k_ ≠ ap) ∧ some k_ ≠ (.slice bb a9.length ak : Value).ownBlock) ∧ k_ ≠ au)) (rV_ aF) (fun k_ hk_ => (⟨hk_, hk_.1.1.1.1.2⟩ : _ ∧ k_ ≠ g))) hk (fun _ h => h.2)) (fun _ h => h.1)); replace ah := kh ah hk; replace ai := kh ai hk; replace aY := am (Kd.S_mono (Kd.S_keep (IsS118.apartS (show IsS118 w0 _ g aq bP bQ from ri118 ac) (sf3 aY ag) (by decide)) hk (fun _ h => h.2)) (fun _ h => h.1)); replace ag := kh ag hk; replace HK := kt HK hk; replace HB := am (hb); replace ac := am (hi); (try clear hb); (try clear bl); (try clear hk); (try clear hi)))
go_meet
case rel => exact ⟨_, (false), (dc), (dd), sd, H', ⟨by first | omega | exact Nat.le_refl _⟩, ⟨qV_ aE⟩, ⟨qV_ aF⟩, ⟨rs aY⟩, ⟨rk aa⟩, ⟨rk ah⟩, ⟨rk ai⟩, ⟨rk ag⟩, ⟨ri118 ac⟩, ⟨rkk HK⟩, ⟨rbi HB⟩⟩
)
)
case rest => (
clear eK
try clear fF
try clear fG
try clear fH
try clear fF
try clear fG
try clear fH
obtain ⟨kq, cv, ay, az, rfl, HA, kC, ae, af, a8, aa, ah, ai, ag, ac, HK, HB⟩ := hcut
cases kq with
| zero => exact absurd HA.out (by simp [spec_l10Draw.j0])
| succ kD => (
have H := HA.out
clear HA
simp only [spec_l10Draw.j0] at H
refine em_ (p := cv = true) (fun dn => ?gR) (fun dn => ?gQ)
case' gR => (
subst dn
rw [if_pos rfl] at H
refine em_ (p := 0 < (a9.length : Int)) (fun dp => ?gP) (fun dp => ?gO)
case' gP => (
rw [if_pos dp] at H
have iR : decide (0 < (a9.length : Int)) = true := decide_eq_true dp
have iS : decide (0 < a9.length) = true := decide_eq_true (by omega)
clear dp
obtain ⟨⟨aA, aC, aD⟩, cL, H⟩ := bd H
(try dsimp only at H)
refine em_ (p := aA = 0) (fun bT => ?gN) (fun bT => ?gM)
case' gN => (
rw [if_pos bT] at H
have fP : (aA == 0) = true := beq_iff_eq.mpr bT
have fQ : (aA != 0) = false := bne_eq_false_iff_eq.mpr bT
clear bT
obtain ⟨aW, ck⟩ : ∃ y_ : List Int, y_ = (([(-1), 0, 9999999, 10000000, 4611686018427387904] : List Int)) := ⟨_, rfl⟩
replace H : ((spec_l1Below.f aq aC aD 5).bind fun bC => (if 0 ≤ bC.1 then (if bC.1 < (aW.length : Int) then (some (aN, aG, (a9.set (0 : Int).toNat (⟨rd aW bC.1, (rd_T101 a9 0).f1, (rd_T101 a9 0).f2⟩ : S101)), bC.2.1, bC.2.2)) else (none)) else (none))) = some (r1, r2, r3, r4, r5) := by first | (rw [ck]; with_reducible exact H) | (rw [ck]; exact H) | exact H
have ej := am ck
clear ck
obtain ⟨⟨aS, fp, fq⟩, hU, H⟩ := bd H
(try dsimp only at H)
refine em_ (p := 0 ≤ aS) (fun dq => ?ia) (fun dq => ?i9)
case' ia => (
rw [if_pos dq] at H
have iT : decide (0 ≤ aS) = true := decide_eq_true dq
clear dq
refine em_ (p := aS < (aW.length : Int)) (fun dr => ?i8) (fun dr => ?i7)
case' i8 => (
rw [if_pos dr] at H
have iU : decide (aS < (aW.length : Int)) = true := decide_eq_true dr
clear dr
obtain ⟨fB, cl⟩ : ∃ y_ : List (S101), y_ = (a9.set (0 : Int).toNat (⟨rd aW aS, (rd_T101 a9 0).f1, (rd_T101 a9 0).f2⟩ : S101)) := ⟨_, rfl⟩
replace H : (some (aN, aG, fB, fp, fq)) = some (r1, r2, r3, r4, r5) := by first | (rw [cl]; with_reducible exact H) | (rw [cl]; exact H) | exact H
have fJ := am cl
clear cl
simp only [Option.some.injEq, Prod.mk.injEq] at H
obtain ⟨rfl, rfl, rfl, rfl, rfl⟩ := H
have fe := trivial
)
case i7 => (
rw [if_neg dr] at H
exact absurd H (by simp)
)
)
case i9 => (
rw [if_neg dq] at H
exact absurd H (by simp)
)
)
case' gM => (
rw [if_neg bT] at H
have fP : (aA == 0) = false := beq_eq_false_iff_ne.mpr bT
have fQ : (aA != 0) = true := bne_iff_ne.mpr bT
refine em_ (p := aA = 1) (fun bU => ?gL) (fun bU => ?gK)
case' gL => (
rw [if_pos bU] at H
have fR : (aA == 1) = true := beq_iff_eq.mpr bU
have fS : (aA != 1) = false := bne_eq_false_iff_eq.mpr bU
clear bU
obtain ⟨aX, cm⟩ : ∃ y_ : List Int, y_ = (([(-1), 5, 60, (-9223372036854775808)] : List Int)) := ⟨_, rfl⟩
replace H : ((spec_l1Below.f aq aC aD 4).bind fun bD => (if 0 ≤ bD.1 then (if bD.1 < (aX.length : Int) then (some (aN, aG, (a9.set (0 : Int).toNat (⟨(rd_T101 a9 0).f0, rd aX bD.1, (rd_T101 a9 0).f2⟩ : S101)), bD.2.1, bD.2.2)) else (none)) else (none))) = some (r1, r2, r3, r4, r5) := by first | (rw [cm]; with_reducible exact H) | (rw [cm]; exact H) | exact H
have ek := am cm
clear cm
obtain ⟨⟨aT, ft, fu⟩, hV, H⟩ := bd H
(try dsimp only at H)
refine em_ (p := 0 ≤ aT) (fun dt => ?ig) (fun dt => ?ie)
case' ig => (
rw [if_pos dt] at H
have iV : decide (0 ≤ aT) = true := decide_eq_true dt
clear dt
refine em_ (p := aT < (aX.length : Int)) (fun du => ?ic) (fun du => ?ib)
case' ic => (
rw [if_pos du] at H
have iW : decide (aT < (aX.length : Int)) = true := decide_eq_true du
clear du
obtain ⟨fC, cn⟩ : ∃ y_ : List (S101), y_ = (a9.set (0 : Int).toNat (⟨(rd_T101 a9 0).f0, rd aX aT, (rd_T101 a9 0).f2⟩ : S101)) := ⟨_, rfl⟩
replace H : (some (aN, aG, fC, ft, fu)) = some (r1, r2, r3, r4, r5) := by first | (rw [cn]; with_reducible exact H) | (rw [cn]; exact H) | exact H
have fK := am cn
clear cn
simp only [Option.some.injEq, Prod.mk.injEq] at H
obtain ⟨rfl, rfl, rfl, rfl, rfl⟩ := H
have ff := trivial
)
case ib => (
rw [if_neg du] at H
exact absurd H (by simp)
)
)
case ie => (
rw [if_neg dt] at H
exact absurd H (by simp)
)
)
case' gK => (
rw [if_neg bU] at H
have fR : (aA == 1) = false := beq_eq_false_iff_ne.mpr bU
have fS : (aA != 1) = true := bne_iff_ne.mpr bU
refine em_ (p := aA = 2) (fun bV => ?iw) (fun bV => ?iv)
case' iw => (
rw [if_pos bV] at H
have fT : (aA == 2) = true := beq_iff_eq.mpr bV
have fU : (aA != 2) = false := bne_eq_false_iff_eq.mpr bV
clear bV
obtain ⟨b5, co⟩ : ∃ y_ : List (S98), y_ = (([] : List (S98))) := ⟨_, rfl⟩
replace H : (some (aN, aG, (a9.set (0 : Int).toNat (⟨(rd_T101 a9 0).f0, (rd_T101 a9 0).f1, b5⟩ : S101)), aC, aD)) = some (r1, r2, r3, r4, r5) := by first | (rw [co]; with_reducible exact H) | (rw [co]; exact H) | exact H
have el := am co
clear co
obtain ⟨fD, cp⟩ : ∃ y_ : List (S101), y_ = (a9.set (0 : Int).toNat (⟨(rd_T101 a9 0).f0, (rd_T101 a9 0).f1, b5⟩ : S101)) := ⟨_, rfl⟩
replace H : (some (aN, aG, fD, aC, aD)) = some (r1, r2, r3, r4, r5) := by first | (rw [cp]; with_reducible exact H) | (rw [cp]; exact H) | exact H
have fL := am cp
clear cp
simp only [Option.some.injEq, Prod.mk.injEq] at H
obtain ⟨rfl, rfl, rfl, rfl, rfl⟩ := H
have fg := trivial
)
case' iv => (
rw [if_neg bV] at H
have fT : (aA == 2) = false := beq_eq_false_iff_ne.mpr bV
have fU : (aA != 2) = true := bne_iff_ne.mpr bV
refine em_ (p := aA = 3) (fun bW => ?iu) (fun bW => ?ir)
case' iu => (
rw [if_pos bW] at H
have fV : (aA == 3) = true := beq_iff_eq.mpr bW
have fW : (aA != 3) = false := bne_eq_false_iff_eq.mpr bW
clear bW
obtain ⟨⟨aP, de, df⟩, gl, H⟩ := bd H
(try dsimp only at H)
refine em_ (p := 0 < (((rd_T101 a9 0).f2).length : Int)) (fun cz => ?ij) (fun cz => ?ii)
case' ij => (
rw [if_pos cz] at H
have i2 : decide (0 < (((rd_T101 a9 0).f2).length : Int)) = true := decide_eq_true cz
have i3 : decide (0 < ((rd_T101 a9 0).f2).length) = true := decide_eq_true (by omega)
clear cz
obtain ⟨dg, cq⟩ : ∃ y_ : List (S98), y_ = (((rd_T101 a9 0).f2).set (0 : Int).toNat (⟨(rd_T98 ((rd_T101 a9 0).f2) 0).f0, (⟨(rd_T98 ((rd_T101 a9 0).f2) 0).f1.f0, (rd_T98 ((rd_T101 a9 0).f2) 0).f1.f1, (rd_T98 ((rd_T101 a9 0).f2) 0).f1.f2, (rd_T98 ((rd_T101 a9 0).f2) 0).f1.f3, (rd_T98 ((rd_T101 a9 0).f2) 0).f1.f4⟩ : S96), aP⟩ : S98)) := ⟨_, rfl⟩
replace H : (some (aN, aG, (a9.set (0 : Int).toNat (⟨(rd_T101 a9 0).f0, (rd_T101 a9 0).f1, dg⟩ : S101)), de, df)) = some (r1, r2, r3, r4, r5) := by first | (rw [cq]; with_reducible exact H) | (rw [cq]; exact H) | exact H
have fM := am cq
clear cq
obtain ⟨fE, ct⟩ : ∃ y_ : List (S101), y_ = (a9.set (0 : Int).toNat (⟨(rd_T101 a9 0).f0, (rd_T101 a9 0).f1, dg⟩ : S101)) := ⟨_, rfl⟩
replace H : (some (aN, aG, fE, de, df)) = some (r1, r2, r3, r4, r5) := by first | (rw [ct]; with_reducible exact H) | (rw [ct]; exact H) | exact H
have fN := am ct
clear ct
simp only [Option.some.injEq, Prod.mk.injEq] at H
obtain ⟨rfl, rfl, rfl, rfl, rfl⟩ := H
have fh := trivial
)
case ii => (
rw [if_neg cz] at H
exact absurd H (by simp)
)
)
case' ir => (
rw [if_neg bW] at H
have fV : (aA == 3) = false := beq_eq_false_iff_ne.mpr bW
have fW : (aA != 3) = true := bne_iff_ne.mpr bW
refine em_ (p := aA = 4) (fun bq => ?iq) (fun bq => ?ip)
case' iq => (
rw [if_pos bq] at H
have eO : (aA == 4) = true := beq_iff_eq.mpr bq
have eP : (aA != 4) = false := bne_eq_false_iff_eq.mpr bq
clear bq
obtain ⟨bR, cu⟩ : ∃ y_ : List Int, y_ = (([0, 60, 61, (-1)] : List Int)) := ⟨_, rfl⟩
replace H : ((spec_l1Below.f aq aC aD 4).bind fun bE => (if 0 ≤ bE.1 then (if bE.1 < (bR.length : Int) then (some (rd bR bE.1, aG, a9, bE.2.1, bE.2.2)) else (none)) else (none))) = some (r1, r2, r3, r4, r5) := by first | (rw [cu]; with_reducible exact H) | (rw [cu]; exact H) | exact H
have eo := am cu
clear cu
obtain ⟨⟨bi, gV, gW⟩, gm, H⟩ := bd H
(try dsimp only at H)
refine em_ (p := 0 ≤ bi) (fun cA => ?io) (fun cA => ?im)
case' io => (
rw [if_pos cA] at H
have i4 : decide (0 ≤ bi) = true := decide_eq_true cA
clear cA
refine em_ (p := bi < (bR.length : Int)) (fun cB => ?il) (fun cB => ?ik)
case' il => (
rw [if_pos cB] at H
have i5 : decide (bi < (bR.length : Int)) = true := decide_eq_true cB
clear cB
simp only [Option.some.injEq, Prod.mk.injEq] at H
obtain ⟨rfl, rfl, rfl, rfl, rfl⟩ := H
have dV := trivial
)
case ik => (
rw [if_neg cB] at H
exact absurd H (by simp)
)
)
case im => (
rw [if_neg cA] at H
exact absurd H (by simp)
)
)
case' ip => (
rw [if_neg bq] at H
have eO : (aA == 4) = false := beq_eq_false_iff_ne.mpr bq
have eP : (aA != 4) = true := bne_iff_ne.mpr bq
simp only [Option.some.injEq, Prod.mk.injEq] at H
obtain ⟨rfl, rfl, rfl, rfl, rfl⟩ := H
have dW := trivial
)
)
)
)
)
)
case gO => (
rw [if_neg dp] at H
exact absurd H (by simp)
)
)
case' gQ => (
replace dn := Bool.eq_false_iff.mpr dn
subst dn
rw [if_neg (show ¬ (false = true) by decide)] at H
simp only [Option.some.injEq, Prod.mk.injEq] at H
obtain ⟨rfl, rfl, rfl, rfl, rfl⟩ := H
have gS := trivial
)
all_goals (
have jU := nN bn
have jV := nN bo
have jW := nN bp
have jX := nN bK
have kv := z3 ag
first
| (
first | have q_ := fe | have q_ := ff | have q_ := fg | have q_ := fh | have q_ := dV | have q_ := dW
have d8 : 0 ≤ (0 : Int) := (by omega)
have da : 0 < (a9.length : Int) := dt_
obtain ⟨ax, i1, i6, gA, aZ, b4, aO, cV, cT⟩ := at_T101 (Kd.S_reads' a8.out).2.2 0 d8 da
cases gA
obtain ⟨iZ, f6, hMe794, dx⟩ := Kd.S_get a8.out z101 0 d8 (by first | exact da | exact dt_ | (have e_ := (Kd.S_reads' a8.out).1; omega))
obtain ⟨ve794_2, rfl, bL⟩ := k101_openM hMe794
have b7 := dx 2 _ rfl
rw [add_field _ _ 2 (by omega)] at b7
replace b7 := Option.some.inj (b7.symm.trans aO)
rw [b7] at bL
have aj := am (show Kd.R k98 98 _ _ _ _ ((rd_T101 a9 0).f2) from bL)
clear b7 bL
have av := am aO
clear dx f6
have jj : (0 < a9.length) = True := eq_true (by omega)
(try rw [show ((0 : Int)).toNat = 0 from rfl] at aZ)
(try rw [show 0 * 3 = 0 from rfl] at aZ)
(try rw [Addr.add_zero'] at aZ)
(try rw [show ((0 : Int)).toNat = 0 from rfl] at b4)
(try rw [show 0 * 3 = 0 from rfl] at b4)
(try rw [Addr.add_zero'] at b4)
(try rw [show ((0 : Int)).toNat = 0 from rfl] at aO)
(try rw [show 0 * 3 = 0 from rfl] at aO)
(try rw [Addr.add_zero'] at aO)
have hD := am cT
have gY := am cV
clear cT cV
replace d8 := eq_true d8
replace da := eq_true da
first
| (
have q_ := fh
try go_wp2_with (first | ((with_reducible refine cg 52 rfl ?_); refine gl_ (some 31) Try.func52 #[.pointer (some ⟨g, 0, none⟩), .int .i64 5] ?_; (with_reducible refine (spec_l1Below.calls g aq ay az 5 aA aC aD w0 _ ?side1 ?side2 cL.out).mono ?_); (case side1 => exact ri118 ac); (case side2 => exact rbi HB); rintro e gX ⟨rfl, hi, hb, hk⟩; refine ⟨_, rfl, ?_⟩; replace ae := am (Kd.V_mono (Kd.V_keep (Kd.V_mono (ok := fun k_ => (some k_ ≠ (.slice (some ax) a9.length ak : Value).ownBlock ∧ (k_ ≠ al ∧ (k_ ≠ ao ∧ (k_ ≠ ap ∧ (k_ ≠ au ∧ k_ ≠ g)))))) (qV_ ae) (fun k_ hk_ => (⟨hk_, hk_.2.2.2.2.2⟩ : _ ∧ k_ ≠ g))) hk (fun _ h => h.2)) (fun _ h => h.1)); replace af := am (Kd.V_mono (Kd.V_keep (Kd.V_mono (ok := fun k_ => (some k_ ≠ (.slice (some ax) a9.length ak : Value).ownBlock ∧ (k_ ≠ al ∧ (k_ ≠ ao ∧ (k_ ≠ ap ∧ (k_ ≠ au ∧ k_ ≠ g)))))) (qV_ af) (fun k_ hk_ => (⟨hk_, hk_.2.2.2.2.2⟩ : _ ∧ k_ ≠ g))) hk (fun _ h => h.2)) (fun _ h => h.1)); replace aa := kh aa hk; replace ah := kh ah hk; replace ai := kh ai hk; replace ag := kh ag hk; replace aj := am (Kd.R_mono (Kd.R_keep (IsS118.apart (show IsS118 w0 _ g aq ay az from ri118 ac) (rr aj) (by decide)) hk (fun _ h => h.2)) (fun _ h => h.1)); replace av := am (keep_cell hk av.out (ab (Kd.own_blk (IsS118.own_neS ac.out a8.out (by decide))))); replace a8 := am (Kd.S_mono (Kd.S_keep (IsS118.apartS (show IsS118 w0 _ g aq ay az from ri118 ac) (rs a8) (by decide)) hk (fun _ h => h.2)) (fun _ h => h.1)); replace HK := kt HK hk; replace HB := am (hb); replace ac := am (hi); (try clear hb); (try clear bl); (try clear hk); (try clear hi)))
replace ae := am (Kd.V_drew ae.out)
replace af := am (Kd.V_drew af.out)
replace a8 := am (Kd.S_drew a8.out)
replace aj := am (Kd.R_drew aj.out)
replace aa := am (blk_drew aa.out)
replace ah := am (blk_drew ah.out)
replace ai := am (blk_drew ai.out)
replace ag := am (blk_drew ag.out)
replace ac := am (IsS118.drew ac.out)
replace HK := am (keep_drew HK.out)
replace HB := am (below_drew1 HB.out)
have d9 : 0 ≤ (0 : Int) := (by omega)
have db : 0 < (a9.length : Int) := dt_
obtain ⟨fO, eJ, eQ, gD, b9, ba, aR, cW, cU⟩ := at_T101 (Kd.S_reads' a8.out).2.2 0 d9 db
obtain rfl : ax = fO := (by injection gD)
obtain ⟨j3, f7, hMe818, dy⟩ := Kd.S_get a8.out z101 0 d9 (by first | exact db | exact dt_ | (have e_ := (Kd.S_reads' a8.out).1; omega))
obtain ⟨ve818_2, rfl, bM⟩ := k101_openM hMe818
have b8 := dy 2 _ rfl
rw [add_field _ _ 2 (by omega)] at b8
replace b8 := Option.some.inj (b8.symm.trans aR)
rw [b8] at bM
have aK := am (show Kd.R k98 98 _ _ _ _ ((rd_T101 a9 0).f2) from bM)
clear b8 bM
have bz := am aR
clear dy f7
have jk : (0 < a9.length) = True := eq_true (by omega)
(try rw [show ((0 : Int)).toNat = 0 from rfl] at b9)
(try rw [show 0 * 3 = 0 from rfl] at b9)
(try rw [Addr.add_zero'] at b9)
(try rw [show ((0 : Int)).toNat = 0 from rfl] at ba)
(try rw [show 0 * 3 = 0 from rfl] at ba)
(try rw [Addr.add_zero'] at ba)
(try rw [show ((0 : Int)).toNat = 0 from rfl] at aR)
(try rw [show 0 * 3 = 0 from rfl] at aR)
(try rw [Addr.add_zero'] at aR)
have bJ := am cU
have gZ := am cW
clear cU cW
replace d9 := eq_true d9
replace db := eq_true db
refine start_ (n := 9) (S := fun w' => w'.cell? ax = some (.int .i64 ((rd_T101 a9 0).f0)) ∧ w'.cell? ⟨ax.block, ax.off + 1, none⟩ = some (.int .i64 ((rd_T101 a9 0).f1)) ∧ w'.cell? ⟨ax.block, ax.off + 2, none⟩ = some (.slice eJ ((rd_T101 a9 0).f2).length eQ)) (ds := [8]) (bm 9 0) (by kernel_rfl) rfl rfl ⟨b9, ba, aR⟩ (fun hHeld => ?_); refine with_tabW spec_l10Draw.tab13 spec_l10Draw.bits13 (fun HT_ HW_ => ?_)
generalize gX.drew = kj at ae af a8 aj aa ah ai ag ac HK HB aK bJ bz b9 ba aR hHeld ⊢
refine pu_ 0 60 (bm 9 1) HT_.out ?_
refine pu_ 1 61 (bm 9 3) HT_.out ?_
refine pu_ 2 62 (bm 9 7) HT_.out ?_
refine pu_ 4 64 (bm 9 23) HT_.out ?_
refine tk 3 63 (bm 9 31) HT_ HW_ hHeld ?_
refine o1 5 65 (bm 9 63) HT_ (fun K hK => ?_)
refine gs Try.func54 #[.pointer (some ⟨g, 0, none⟩), .int .i64 (-1), .int .i64 4] ?_
with_reducible refine (spec_l1From.calls g aq aC aD (-1) 4 aP de df w0 _ ?side1 ?side2 gl.out).mono ?_
(case side1 => exact ri118 ac)
(case side2 => exact rbi HB)
rintro e bj ⟨rfl, hi, hb, hk⟩
have gr := keep_cell hk (hHeld.1) (ab (Kd.own_blk (IsS118.own_neS ac.out a8.out (by decide))))
have gu := keep_cell hk (hHeld.2.1) (ab (Kd.own_blk (IsS118.own_neS ac.out a8.out (by decide))))
have gv := keep_cell hk (hHeld.2.2) (ab (Kd.own_blk (IsS118.own_neS ac.out a8.out (by decide))))
refine ⟨_, rfl, ?_⟩
replace ae := am (Kd.V_mono (Kd.V_keep (Kd.V_mono (ok := fun k_ => (some k_ ≠ (.slice (some ax) a9.length ak : Value).ownBlock ∧ (k_ ≠ al ∧ (k_ ≠ ao ∧ (k_ ≠ ap ∧ (k_ ≠ au ∧ k_ ≠ g)))))) (qV_ ae) (fun k_ hk_ => (⟨hk_, hk_.2.2.2.2.2⟩ : _ ∧ k_ ≠ g))) hk (fun _ h => h.2)) (fun _ h => h.1))
replace af := am (Kd.V_mono (Kd.V_keep (Kd.V_mono (ok := fun k_ => (some k_ ≠ (.slice (some ax) a9.length ak : Value).ownBlock ∧ (k_ ≠ al ∧ (k_ ≠ ao ∧ (k_ ≠ ap ∧ (k_ ≠ au ∧ k_ ≠ g)))))) (qV_ af) (fun k_ hk_ => (⟨hk_, hk_.2.2.2.2.2⟩ : _ ∧ k_ ≠ g))) hk (fun _ h => h.2)) (fun _ h => h.1))
replace aa := kh aa hk
replace ah := kh ah hk
replace ai := kh ai hk
replace ag := kh ag hk
replace aj := am (Kd.R_mono (Kd.R_keep (IsS118.apart (show IsS118 w0 _ g aq aC aD from ri118 ac) (rr aj) (by decide)) hk (fun _ h => h.2)) (fun _ h => h.1))
replace aK := am (Kd.R_mono (Kd.R_keep (IsS118.apart (show IsS118 w0 _ g aq aC aD from ri118 ac) (rr aK) (by decide)) hk (fun _ h => h.2)) (fun _ h => h.1))
replace bz := am (keep_cell hk bz.out (ab (Kd.own_blk (IsS118.own_neS ac.out a8.out (by decide)))))
replace a8 := am (Kd.S_mono (Kd.S_keep (IsS118.apartS (show IsS118 w0 _ g aq aC aD from ri118 ac) (rs a8) (by decide)) hk (fun _ h => h.2)) (fun _ h => h.1))
replace HK := kt HK hk
replace HB := am (hb)
replace ac := am (hi)
(try clear hb)
(try clear hk)
(try clear hi)
have dX : 0 ≤ (0 : Int) := (by omega)
have e9 : (0 : Int) < ((((rd_T101 a9 0).f2).length : Int) : Int) := dt_
have ji : (0 < ((rd_T101 a9 0).f2).length) = True := eq_true (by omega)
obtain ⟨aB, j4, eu, ev, gl102, cl102, eh⟩ := Kd.R_form aK.out (by omega)
(first | cases eu | (injection eu with ea_ en_ ec_; (first | subst ea_ | (injection ea_ with ea_; subst ea_)); subst ec_; clear en_))
have iG := am ev
have iL := am eh
clear ev gl102 eh
obtain ⟨iX, f8, hM102, aU, aV⟩ := Kd.R_elem aK.out z98 (0 : Int) dX e9
obtain rfl := k98_openM hM102
have cX : World.cell? _ ⟨aB, (0 : Int).toNat * 7, none⟩ = some (.int .i64 ((rd_T98 ((rd_T101 a9 0).f2) 0).f0)) := aU 0 _ rfl
have cY : World.cell? _ ⟨aB, (0 : Int).toNat * 7 + 1, none⟩ = some (.int .i64 ((rd_T98 ((rd_T101 a9 0).f2) 0).f1.f0)) := aU 1 _ rfl
have cZ : World.cell? _ ⟨aB, (0 : Int).toNat * 7 + 2, none⟩ = some (.int .i64 ((rd_T98 ((rd_T101 a9 0).f2) 0).f1.f1)) := aU 2 _ rfl
have d3 : World.cell? _ ⟨aB, (0 : Int).toNat * 7 + 3, none⟩ = some (.bool ((rd_T98 ((rd_T101 a9 0).f2) 0).f1.f2)) := aU 3 _ rfl
have d4 : World.cell? _ ⟨aB, (0 : Int).toNat * 7 + 4, none⟩ = some (.bool ((rd_T98 ((rd_T101 a9 0).f2) 0).f1.f3)) := aU 4 _ rfl
have d5 : World.cell? _ ⟨aB, (0 : Int).toNat * 7 + 5, none⟩ = some (.bool ((rd_T98 ((rd_T101 a9 0).f2) 0).f1.f4)) := aU 5 _ rfl
have d6 : World.cell? _ ⟨aB, (0 : Int).toNat * 7 + 6, none⟩ = some (.int .i64 ((rd_T98 ((rd_T101 a9 0).f2) 0).f2)) := aU 6 _ rfl
have cM : World.frozen? _ ⟨aB, (0 : Int).toNat * 7, none⟩ = false := aV 0
have cN : World.frozen? _ ⟨aB, (0 : Int).toNat * 7 + 1, none⟩ = false := aV 1
have cO : World.frozen? _ ⟨aB, (0 : Int).toNat * 7 + 2, none⟩ = false := aV 2
have cP : World.frozen? _ ⟨aB, (0 : Int).toNat * 7 + 3, none⟩ = false := aV 3
have cQ : World.frozen? _ ⟨aB, (0 : Int).toNat * 7 + 4, none⟩ = false := aV 4
have cR : World.frozen? _ ⟨aB, (0 : Int).toNat * 7 + 5, none⟩ = false := aV 5
have cS : World.frozen? _ ⟨aB, (0 : Int).toNat * 7 + 6, none⟩ = false := aV 6
clear f8 aU aV hM102
(try rw [show ((0 : Int)).toNat = 0 from rfl] at cX)
(try simp only [Nat.reduceMul, Nat.zero_mul, Nat.zero_add, Nat.reduceAdd] at cX)
(try rw [show ((0 : Int)).toNat = 0 from rfl] at cM)
(try simp only [Nat.reduceMul, Nat.zero_mul, Nat.zero_add, Nat.reduceAdd] at cM)
(try rw [show ((0 : Int)).toNat = 0 from rfl] at cY)
(try simp only [Nat.reduceMul, Nat.zero_mul, Nat.zero_add, Nat.reduceAdd] at cY)
(try rw [show ((0 : Int)).toNat = 0 from rfl] at cN)
(try simp only [Nat.reduceMul, Nat.zero_mul, Nat.zero_add, Nat.reduceAdd] at cN)
(try rw [show ((0 : Int)).toNat = 0 from rfl] at cZ)
(try simp only [Nat.reduceMul, Nat.zero_mul, Nat.zero_add, Nat.reduceAdd] at cZ)
(try rw [show ((0 : Int)).toNat = 0 from rfl] at cO)
(try simp only [Nat.reduceMul, Nat.zero_mul, Nat.zero_add, Nat.reduceAdd] at cO)
(try rw [show ((0 : Int)).toNat = 0 from rfl] at d3)
(try simp only [Nat.reduceMul, Nat.zero_mul, Nat.zero_add, Nat.reduceAdd] at d3)
(try rw [show ((0 : Int)).toNat = 0 from rfl] at cP)
(try simp only [Nat.reduceMul, Nat.zero_mul, Nat.zero_add, Nat.reduceAdd] at cP)
(try rw [show ((0 : Int)).toNat = 0 from rfl] at d4)
(try simp only [Nat.reduceMul, Nat.zero_mul, Nat.zero_add, Nat.reduceAdd] at d4)
(try rw [show ((0 : Int)).toNat = 0 from rfl] at cQ)
(try simp only [Nat.reduceMul, Nat.zero_mul, Nat.zero_add, Nat.reduceAdd] at cQ)
(try rw [show ((0 : Int)).toNat = 0 from rfl] at d5)
(try simp only [Nat.reduceMul, Nat.zero_mul, Nat.zero_add, Nat.reduceAdd] at d5)
(try rw [show ((0 : Int)).toNat = 0 from rfl] at cR)
(try simp only [Nat.reduceMul, Nat.zero_mul, Nat.zero_add, Nat.reduceAdd] at cR)
(try rw [show ((0 : Int)).toNat = 0 from rfl] at d6)
(try simp only [Nat.reduceMul, Nat.zero_mul, Nat.zero_add, Nat.reduceAdd] at d6)
(try rw [show ((0 : Int)).toNat = 0 from rfl] at cS)
(try simp only [Nat.reduceMul, Nat.zero_mul, Nat.zero_add, Nat.reduceAdd] at cS)
replace dX := eq_true dX
replace e9 := eq_true e9
have gf : (0 : Int) < (a9.length : Int) := (by have h_ : (0 : Int) < ((a9.length : Int) : Int) := dt_; first | exact h_ | (have e_ := (Kd.S_reads' a8.out).1; omega) | simpa only [List.length_set, List.length_set] using h_)
obtain ⟨oki111, iY, bF, hM111, br, fa, dv⟩ := Kd.S_borrow a8.out z101 (0 : Int) (by omega) gf
obtain ⟨ve111_2, rfl, b6⟩ := k101_openM hM111
have cj := br 2 _ rfl
rw [add_field _ _ 2 (by omega)] at cj
replace cj := Option.some.inj (cj.symm.trans bz.out)
subst cj
clear br bF
replace b6 := (show Kd.R k98 98 _ _ _ _ ((rd_T101 a9 0).f2) from b6)
obtain ⟨cf111, bF, hN111, br, f9⟩ := Kd.R_elem b6 z98 (0 : Int) (by omega) (by have h_ : (0 : Int) < ((((rd_T101 a9 0).f2).length : Int) : Int) := dt_; first | exact h_ | (have e_ := (Kd.R_reads' bJ.out).1; omega) | simpa using h_)
obtain rfl := k98_openM hN111
have bZ := Kd.R_seg b6 (0 : Int) (by omega) (by have h_ : (0 : Int) < ((((rd_T101 a9 0).f2).length : Int) : Int) := dt_; first | exact h_ | (have e_ := (Kd.R_reads' bJ.out).1; omega) | simpa using h_) (seg := [.int .i64 aP]) (j := 6) bF br (show 7 ≤ 7 from by decide) (x' := (⟨(rd_T98 ((rd_T101 a9 0).f2) 0).f0, (⟨(rd_T98 ((rd_T101 a9 0).f2) 0).f1.f0, (rd_T98 ((rd_T101 a9 0).f2) 0).f1.f1, (rd_T98 ((rd_T101 a9 0).f2) 0).f1.f2, (rd_T98 ((rd_T101 a9 0).f2) 0).f1.f3, (rd_T98 ((rd_T101 a9 0).f2) 0).f1.f4⟩ : S96), aP⟩ : S98)) (k98_mkM _ _ _ (⟨(rd_T98 ((rd_T101 a9 0).f2) 0).f0, (⟨(rd_T98 ((rd_T101 a9 0).f2) 0).f1.f0, (rd_T98 ((rd_T101 a9 0).f2) 0).f1.f1, (rd_T98 ((rd_T101 a9 0).f2) 0).f1.f2, (rd_T98 ((rd_T101 a9 0).f2) 0).f1.f3, (rd_T98 ((rd_T101 a9 0).f2) 0).f1.f4⟩ : S96), aP⟩ : S98)) (fun _ hk => hk)
clear bF br f9 hN111
have gh := am (show g ≠ aB from by have h_ := IsS118.own_ne ac.out aK.out (by decide); intro e_; exact h_ (by rw [e_]; rfl))
rw [← fM.out] at bZ
have d7 := dv bZ.2 (fun k_ e_ => by injection e_ with e_; subst e_; exact b6.1 _ rfl) (x' := (⟨(rd_T101 a9 0).f0, (rd_T101 a9 0).f1, dg⟩ : S101)) (k101_mkM _ _ _ (⟨(rd_T101 a9 0).f0, (rd_T101 a9 0).f1, dg⟩ : S101) bZ.1)
rw [← fN.out] at d7
have fI := am d7
clear bZ d7 dv fa
refine hK.out _ _ ⟨gr, gu, gv⟩ (fun hHeld => ?_)
clear hK K
refine norm_ (a' := _) (show Act.put _ (some 65) _ = _ from na) ?_
refine pu_ 6 66 (bm 9 127) HT_.out ?_
refine pu_ 7 67 (bm 9 255) HT_.out ?_
refine last_ (i := 8) (N := none) (bm 9 511) rfl rfl (one_of HT_.out (by kernel_rfl)) (by decide) (fun K hK => ?_)
refine skip_ (w1 := ?_) (by rfl) rfl ?_ ?_
rotate_left
·(
go_simp
rfl
)
refine hK.out _ _ ?_
clear hK K
refine done_ (done_of HT_.out (by kernel_rfl)) ?_
have n0_ : Aside0 (Kd.S k101 101 (bj.setCell ⟨aB, 6, none⟩ (.int .i64 aP)) w.heap.size (fun _ => True) (.slice (some ax) a9.length ak) fE) := ⟨rs fI⟩
have n1_ : Aside0 ((bj.setCell ⟨aB, 6, none⟩ (.int .i64 aP)).heap[al]? = some (.cells #[.int .i64 0, .int .i64 0, .slice none 0 0] 53 (0, 0))) := ⟨rkw (neR aK aa) aa⟩
have n2_ : Aside0 ((bj.setCell ⟨aB, 6, none⟩ (.int .i64 aP)).heap[ao]? = some (.cells #[.int .i64 bN, .slice cw bt.length cC] 58 (0, 0))) := ⟨rkw (neR aK ah) ah⟩
have n3_ : Aside0 ((bj.setCell ⟨aB, 6, none⟩ (.int .i64 aP)).heap[ap]? = some (.cells #[.int .i64 bO, .slice cy bu.length cD] 58 (0, 0))) := ⟨rkw (neR aK ai) ai⟩
have n4_ : Aside0 ((bj.setCell ⟨aB, 6, none⟩ (.int .i64 aP)).heap[au]? = some (.cells #[.int .i64 aN, .int .i64 aG, .slice (some ax) a9.length ak] 53 (0, 0))) := ⟨rkw (neR aK ag) ag⟩
have n5_ : Aside0 (IsS118 w0 (bj.setCell ⟨aB, 6, none⟩ (.int .i64 aP)) g aq de df) := ⟨ri118 ac⟩
have n6_ : Aside0 (KeepBut w (bj.setCell ⟨aB, 6, none⟩ (.int .i64 aP)) g none) := ⟨rkk HK⟩
have n7_ : Aside0 (Below w0.heap.size w0 (bj.setCell ⟨aB, 6, none⟩ (.int .i64 aP))) := ⟨rbi HB⟩
(try clear a8)
(try clear aa)
(try clear ah)
(try clear ai)
(try clear ag)
(try clear ac)
(try clear HK)
(try clear HB)
generalize (bj.setCell ⟨aB, 6, none⟩ (.int .i64 aP)) = km at n0_ n1_ n2_ n3_ n4_ n5_ n6_ n7_ ⊢
have a8 := n0_
have aa := n1_
have ah := n2_
have ai := n3_
have ag := n4_
have ac := n5_
have HK := n6_
have HB := n7_
clear n0_ n1_ n2_ n3_ n4_ n5_ n6_ n7_
have jl := z3 ag
have j6 := nN aH
have j7 := nN aI
have j8 := nN aQ
have jm := z3 aa
try go_wp2
refine bodyPost_ret (results_cell_row rfl _ _ al 53 #[.int .i64 aN, .int .i64 aG, .slice (some ax) a9.length ak] (0, 0) _ rfl (rk aa) Try.underlying53 rfl (by kernel_rfl)) rfl ?_
exact ⟨_, ew, tS1 a8 aa, ri118 ac, rbi HB, rkk HK⟩
)
| (
have q_ := fe
go_wp2_with (first | ((with_reducible refine cg 52 rfl ?_); refine gl_ (some 31) Try.func52 #[.pointer (some ⟨g, 0, none⟩), .int .i64 5] ?_; (with_reducible refine (spec_l1Below.calls g aq ay az 5 aA aC aD w0 _ ?side1 ?side2 cL.out).mono ?_); (case side1 => exact ri118 ac); (case side2 => exact rbi HB); rintro e kJ ⟨rfl, hi, hb, hk⟩; refine ⟨_, rfl, ?_⟩; replace ae := am (Kd.V_mono (Kd.V_keep (Kd.V_mono (ok := fun k_ => (some k_ ≠ (.slice (some ax) a9.length ak : Value).ownBlock ∧ (k_ ≠ al ∧ (k_ ≠ ao ∧ (k_ ≠ ap ∧ (k_ ≠ au ∧ k_ ≠ g)))))) (qV_ ae) (fun k_ hk_ => (⟨hk_, hk_.2.2.2.2.2⟩ : _ ∧ k_ ≠ g))) hk (fun _ h => h.2)) (fun _ h => h.1)); replace af := am (Kd.V_mono (Kd.V_keep (Kd.V_mono (ok := fun k_ => (some k_ ≠ (.slice (some ax) a9.length ak : Value).ownBlock ∧ (k_ ≠ al ∧ (k_ ≠ ao ∧ (k_ ≠ ap ∧ (k_ ≠ au ∧ k_ ≠ g)))))) (qV_ af) (fun k_ hk_ => (⟨hk_, hk_.2.2.2.2.2⟩ : _ ∧ k_ ≠ g))) hk (fun _ h => h.2)) (fun _ h => h.1)); replace aa := kh aa hk; replace ah := kh ah hk; replace ai := kh ai hk; replace ag := kh ag hk; replace aj := am (Kd.R_mono (Kd.R_keep (IsS118.apart (show IsS118 w0 _ g aq ay az from ri118 ac) (rr aj) (by decide)) hk (fun _ h => h.2)) (fun _ h => h.1)); replace av := am (keep_cell hk av.out (ab (Kd.own_blk (IsS118.own_neS ac.out a8.out (by decide))))); replace a8 := am (Kd.S_mono (Kd.S_keep (IsS118.apartS (show IsS118 w0 _ g aq ay az from ri118 ac) (rs a8) (by decide)) hk (fun _ h => h.2)) (fun _ h => h.1)); replace HK := kt HK hk; replace HB := am (hb); replace ac := am (hi); (try clear hb); (try clear bl); (try clear hk); (try clear hi)) | ((with_reducible refine gate_dst (N := 35) rfl ?_); (try (refine gate_guard (by rfl) ?_; dsimp only)); refine Kd.R_lit (Kd.int .i64) _ 2 ?hg (N := 35) ?hd (xs := ([(-1), 0, 9999999, 10000000, 4611686018427387904] : List Int)) (inner := [.int .i64 (-1), .int .i64 0, .int .i64 9999999, .int .i64 10000000, .int .i64 4611686018427387904]) (ok := fun _ => True) (okp := fun _ => True) ?hr ?hp (fun _ hk => hk) trivial (Below.refl _ _) (Nat.le_refl _) (by simp) ?_; (case hd => rfl); (case hg => rfl); (case hr => first | (go_simp; done) | (go_simp; rfl)); (case hp => exact (Reps.one (show Kd.M (Kd.int .i64) _ _ _ (-1) [.int .i64 (-1)] from rfl) (Reps.one (show Kd.M (Kd.int .i64) _ _ _ 0 [.int .i64 0] from rfl) (Reps.one (show Kd.M (Kd.int .i64) _ _ _ 9999999 [.int .i64 9999999] from rfl) (Reps.one (show Kd.M (Kd.int .i64) _ _ _ 10000000 [.int .i64 10000000] from rfl) (Reps.one (show Kd.M (Kd.int .i64) _ _ _ 4611686018427387904 [.int .i64 4611686018427387904] from rfl) (Reps.none _ _))))))); intro fv kK bA hb hg_ hnew_; clear hg_ hnew_; (first | rw [← ej.out] at bA | (simp only [Int.reduceToNat] at bA; rw [← ej.out] at bA)); replace ae := am (Kd.V_elder' (qV_ ae) (Kd.R_base bA) hb); replace af := am (Kd.V_elder' (qV_ af) (Kd.R_base bA) hb); replace a8 := am (Kd.S_below (rs a8) hb); replace aj := am (Kd.R_below (rr aj) hb); have bv := am (Kd.R_lower bA (ks HK)); replace aa := kk aa hb; replace ah := kk ah hb; replace ai := kk ai hb; replace ag := kk ag hb; replace av := am (pw_cell_below hb av.out); replace HK := kb HK hb; replace HB := bsi HB hb; replace ac := am (IsS118.below (ri118 ac) hb); clear hb bA) | ((with_reducible refine cg 52 rfl ?_); refine gl_ (some 37) Try.func52 #[.pointer (some ⟨g, 0, none⟩), .int .i64 5] ?_; (with_reducible refine (spec_l1Below.calls g aq aC aD 5 aS fp fq w0 _ ?side1 ?side2 hU.out).mono ?_); (case side1 => exact ri118 ac); (case side2 => exact rbi HB); rintro e bG ⟨rfl, hi, hb, hk⟩; refine ⟨_, rfl, ?_⟩; replace ae := am (Kd.V_mono (Kd.V_keep (Kd.V_mono (ok := fun k_ => ((some k_ ≠ (.slice (some ax) a9.length ak : Value).ownBlock ∧ (k_ ≠ al ∧ (k_ ≠ ao ∧ (k_ ≠ ap ∧ (k_ ≠ au ∧ k_ ≠ g))))) ∧ some k_ ≠ (fv : Value).ownBlock)) (qV_ ae) (fun k_ hk_ => (⟨hk_, hk_.1.2.2.2.2.2⟩ : _ ∧ k_ ≠ g))) hk (fun _ h => h.2)) (fun _ h => h.1)); replace af := am (Kd.V_mono (Kd.V_keep (Kd.V_mono (ok := fun k_ => ((some k_ ≠ (.slice (some ax) a9.length ak : Value).ownBlock ∧ (k_ ≠ al ∧ (k_ ≠ ao ∧ (k_ ≠ ap ∧ (k_ ≠ au ∧ k_ ≠ g))))) ∧ some k_ ≠ (fv : Value).ownBlock)) (qV_ af) (fun k_ hk_ => (⟨hk_, hk_.1.2.2.2.2.2⟩ : _ ∧ k_ ≠ g))) hk (fun _ h => h.2)) (fun _ h => h.1)); replace aa := kh aa hk; replace ah := kh ah hk; replace ai := kh ai hk; replace ag := kh ag hk; replace aj := am (Kd.R_mono (Kd.R_keep (IsS118.apart (show IsS118 w0 _ g aq aC aD from ri118 ac) (rr aj) (by decide)) hk (fun _ h => h.2)) (fun _ h => h.1)); replace av := am (keep_cell hk av.out (ab (Kd.own_blk (IsS118.own_neS ac.out a8.out (by decide))))); replace a8 := am (Kd.S_mono (Kd.S_keep (IsS118.apartS (show IsS118 w0 _ g aq aC aD from ri118 ac) (rs a8) (by decide)) hk (fun _ h => h.2)) (fun _ h => h.1)); replace bv := am (Kd.R_mono (Kd.R_keep (IsS118.apart (show IsS118 w0 _ g aq aC aD from ri118 ac) (rr bv) (by decide)) hk (fun _ h => h.2)) (fun _ h => h.1)); replace HK := kt HK hk; replace HB := am (hb); replace ac := am (hi); (try clear hb); (try clear bl); (try clear hk); (try clear hi); obtain ⟨js, eR, gI⟩ := Kd.R_slice bv.out; subst gI; have dY : 0 ≤ (aS : Int) := dt_; have eb : aS < (aW.length : Int) := dt_; obtain ⟨ep, gB, hJ⟩ := Kd.at_int (Kd.R_reads' bv.out).2.2 aS dY eb; cases gB; replace dY := eq_true dY; replace eb := eq_true eb; have fi : 0 ≤ (0 : Int) := (by omega); have fl : (0 : Int) < ((a9.length : Int) : Int) := dt_; have ka : (0 < a9.length) = True := eq_true (by omega); obtain ⟨aL, jD, eT, eW, gl42, cl42, eL⟩ := Kd.S_form a8.out (by omega); (first | cases eT | (injection eT with ea_ en_ ec_; (first | subst ea_ | (injection ea_ with ea_; subst ea_)); subst ec_; clear en_)); have gn := am eW; have ju := am eL; clear eW gl42 eL; (try simp only [add_plain] at aZ b4 aO); obtain ⟨_, jx, fZ, hM42, ca, ce, _, _⟩ := Kd.S_elem a8.out z101 (0 : Int) fi fl; obtain ⟨ve42_2, rfl, ix⟩ := k101_openM hM42; have dI : bG.cell? ⟨aL, (0 : Int).toNat * 3, none⟩ = some (.int .i64 ((rd_T101 a9 0).f0)) := ca 0 _ rfl; have dJ : bG.cell? ⟨aL, (0 : Int).toNat * 3 + 1, none⟩ = some (.int .i64 ((rd_T101 a9 0).f1)) := ca 1 _ rfl; have dK : bG.cell? ⟨aL, (0 : Int).toNat * 3 + 2, none⟩ = some (ve42_2) := ca 2 _ rfl; have dz : bG.frozen? ⟨aL, (0 : Int).toNat * 3, none⟩ = false := ce 0; have dA : bG.frozen? ⟨aL, (0 : Int).toNat * 3 + 1, none⟩ = false := ce 1; have dB : bG.frozen? ⟨aL, (0 : Int).toNat * 3 + 2, none⟩ = false := ce 2; clear fZ ca ce hM42; (try rw [show ((0 : Int)).toNat = 0 from rfl] at dI); (try simp only [Nat.reduceMul, Nat.zero_mul, Nat.zero_add, Nat.reduceAdd] at dI); (try rw [show ((0 : Int)).toNat = 0 from rfl] at dz); (try simp only [Nat.reduceMul, Nat.zero_mul, Nat.zero_add, Nat.reduceAdd] at dz); (try rw [show ((0 : Int)).toNat = 0 from rfl] at dJ); (try simp only [Nat.reduceMul, Nat.zero_mul, Nat.zero_add, Nat.reduceAdd] at dJ); (try rw [show ((0 : Int)).toNat = 0 from rfl] at dA); (try simp only [Nat.reduceMul, Nat.zero_mul, Nat.zero_add, Nat.reduceAdd] at dA); (try rw [show ((0 : Int)).toNat = 0 from rfl] at dK); (try simp only [Nat.reduceMul, Nat.zero_mul, Nat.zero_add, Nat.reduceAdd] at dK); (try rw [show ((0 : Int)).toNat = 0 from rfl] at dB); (try simp only [Nat.reduceMul, Nat.zero_mul, Nat.zero_add, Nat.reduceAdd] at dB); replace fi := eq_true fi; replace fl := eq_true fl; have gx := am (show Kd.S k101 101 bG w.heap.size (fun k_ => ((fun _ => True)) k_ ∧ ¬ ((fun _ => False)) k_) (.slice (some ⟨aL, 0, none⟩) a9.length ak) a9 from (by (with_reducible repeat (first | apply Kd.S_alloc | apply Kd.S_drewN | apply Kd.S_drew)); exact Kd.S_mono a8.out (fun k_ hk => ⟨trivial, fun e_ => e_⟩))); obtain ⟨oki53, jy, g8, hM53, ex, eA, fb, hH53⟩ := Kd.S_elem gx.out z101 (0 : Int) (by omega) (by have h_ : (0 : Int) < ((a9.length : Int) : Int) := dt_; first | exact h_ | (have e_ := (Kd.S_reads' a8.out).1; omega) | simpa using h_); obtain ⟨ve53_2, rfl, eZ⟩ := k101_openM hM53; have dR := Kd.S_seg hH53 (by omega) (by have h_ : (0 : Int) < ((a9.length : Int) : Int) := dt_; first | exact h_ | (have e_ := (Kd.S_reads' a8.out).1; omega) | simpa using h_) (seg := [.int .i64 (rd aW aS)]) (j := 0) (show 1 ≤ 3 from by decide) (x' := (⟨rd aW aS, (rd_T101 a9 0).f1, (rd_T101 a9 0).f2⟩ : S101)) (k101_mkM _ _ _ (⟨rd aW aS, (rd_T101 a9 0).f1, (rd_T101 a9 0).f2⟩ : S101) (Kd.R_mono eZ (fun _ h_ => Or.inl h_))) (fun _ hk => hk) (fun k_ hk_ => hk_.elim); have cI := ex 0 _ rfl; (try simp only [show (k101).sz = 3 from rfl, Nat.mul_one, Nat.add_zero] at cI); (try rw [show ((0 : Int)).toNat = 0 from rfl] at cI); (try simp only [Nat.reduceMul, Nat.zero_mul, Nat.zero_add, Nat.reduceAdd] at cI); have cE := eA 0; (try simp only [show (k101).sz = 3 from rfl, Nat.mul_one, Nat.add_zero] at cE); (try rw [show ((0 : Int)).toNat = 0 from rfl] at cE); (try simp only [Nat.reduceMul, Nat.zero_mul, Nat.zero_add, Nat.reduceAdd] at cE); clear g8 ex eA hM53 fb hH53) | ((with_reducible refine gate_store (t := 2) (p := 41) rfl ?_); refine store_event (t := 2) (p := 41) (v := ?iC) (w1 := (bG.setCell ⟨aL, 0, none⟩ (.int .i64 (rd aW aS)))) ?hg ?ho ?hn ?hr ?_; (case ho => rfl); (case hg => rfl); (case hn => rfl); (case hr => first | (go_simp; done) | (go_simp; rfl)); intro fy hw; have hg : bG.grownBy fy (some aL) := (by rw [hw]; exact dR.2); have hp_ : Kd.S k101 101 fy w.heap.size (fun _ => True) (.slice (some ⟨aL, 0, none⟩) a9.length ak) fB := (by rw [hw, fJ.out]; exact dR.1); clear dR; replace ae := am (Kd.V_afterv (v := (.slice (some ⟨aL, 0, none⟩) a9.length ak)) (v1 := (.slice (some ⟨aL, 0, none⟩) a9.length ak)) (ok := (fun k_ => some k_ ≠ (.slice (some ep) aW.length eR : Value).ownBlock ∧ k_ ≠ al ∧ k_ ≠ ao ∧ k_ ≠ ap ∧ k_ ≠ au ∧ k_ ≠ g)) (qV_ ae) hg (.inl rfl)); replace af := am (Kd.V_afterv (v := (.slice (some ⟨aL, 0, none⟩) a9.length ak)) (v1 := (.slice (some ⟨aL, 0, none⟩) a9.length ak)) (ok := (fun k_ => some k_ ≠ (.slice (some ep) aW.length eR : Value).ownBlock ∧ k_ ≠ al ∧ k_ ≠ ao ∧ k_ ≠ ap ∧ k_ ≠ au ∧ k_ ≠ g)) (qV_ af) hg (.inl rfl)); replace aa := am (blk_grown (rk aa) hg (Kd.S_ne a8.out aa.out (by decide))); replace ah := am (blk_grown (rk ah) hg (Kd.S_ne a8.out ah.out (by decide))); replace ai := am (blk_grown (rk ai) hg (Kd.S_ne a8.out ai.out (by decide))); replace ag := am (blk_grown (rk ag) hg (Kd.S_ne a8.out ag.out (by decide))); replace ac := am (IsS118.grown (ri118 ac) hg (IsS118.own_neS ac.out a8.out (by decide))); replace aj := am (Kd.R_after (v := (.slice (some ⟨aL, 0, none⟩) a9.length ak)) (v1 := (.slice (some ⟨aL, 0, none⟩) a9.length ak)) (ok := (fun _ => True)) (rr aj) hg (.inl rfl)); replace bv := am (Kd.R_over' (v := (.slice (some ⟨aL, 0, none⟩) a9.length ak)) (rr bv) (Kd.S_typed a8.out) (by decide) hg); replace HB := am ((by rw [hw]; exact below_set (HB.out) (Nat.le_trans HL.out gn.out) : Below w0.heap.size w0 fy)); replace HK := am (KeepBut.trans (rkk HK) (KeepBut.of_grown hg g) (Kd.S_base2 a8.out)); replace a8 := am (hp_); clear hg hw hp_; have kw := z3 ag; have jY := nN aH; have jZ := nN aI; have k0 := nN aQ; have kx := z3 aa))
refine bodyPost_ret (results_cell_row rfl _ _ al 53 #[.int .i64 aN, .int .i64 aG, .slice (some ⟨aL, 0, none⟩) a9.length ak] (0, 0) _ rfl (rk aa) Try.underlying53 rfl (by kernel_rfl)) rfl ?_
exact ⟨_, ew, tS1 a8 aa, ri118 ac, rbi HB, rkk HK⟩
)
| (
first | have q_ := dV | have q_ := dW
go_wp2_with (first | ((with_reducible refine cg 52 rfl ?_); refine gl_ (some 72) Try.func52 #[.pointer (some ⟨g, 0, none⟩), .int .i64 4] ?_; (with_reducible refine (spec_l1Below.calls g aq aC aD 4 bi gV gW w0 _ ?side1 ?side2 gm.out).mono ?_); (case side1 => exact ri118 ac); (case side2 => exact rbi HB); rintro e kp ⟨rfl, hi, hb, hk⟩; refine ⟨_, rfl, ?_⟩; replace ae := am (Kd.V_mono (Kd.V_keep (Kd.V_mono (ok := fun k_ => ((some k_ ≠ (.slice (some ax) a9.length ak : Value).ownBlock ∧ (k_ ≠ al ∧ (k_ ≠ ao ∧ (k_ ≠ ap ∧ (k_ ≠ au ∧ k_ ≠ g))))) ∧ some k_ ≠ (fx : Value).ownBlock)) (qV_ ae) (fun k_ hk_ => (⟨hk_, hk_.1.2.2.2.2.2⟩ : _ ∧ k_ ≠ g))) hk (fun _ h => h.2)) (fun _ h => h.1)); replace af := am (Kd.V_mono (Kd.V_keep (Kd.V_mono (ok := fun k_ => ((some k_ ≠ (.slice (some ax) a9.length ak : Value).ownBlock ∧ (k_ ≠ al ∧ (k_ ≠ ao ∧ (k_ ≠ ap ∧ (k_ ≠ au ∧ k_ ≠ g))))) ∧ some k_ ≠ (fx : Value).ownBlock)) (qV_ af) (fun k_ hk_ => (⟨hk_, hk_.1.2.2.2.2.2⟩ : _ ∧ k_ ≠ g))) hk (fun _ h => h.2)) (fun _ h => h.1)); replace aa := kh aa hk; replace ah := kh ah hk; replace ai := kh ai hk; replace ag := kh ag hk; replace aj := am (Kd.R_mono (Kd.R_keep (IsS118.apart (show IsS118 w0 _ g aq aC aD from ri118 ac) (rr aj) (by decide)) hk (fun _ h => h.2)) (fun _ h => h.1)); replace av := am (keep_cell hk av.out (ab (Kd.own_blk (IsS118.own_neS ac.out a8.out (by decide))))); replace a8 := am (Kd.S_mono (Kd.S_keep (IsS118.apartS (show IsS118 w0 _ g aq aC aD from ri118 ac) (rs a8) (by decide)) hk (fun _ h => h.2)) (fun _ h => h.1)); replace bY := am (Kd.R_mono (Kd.R_keep (IsS118.apart (show IsS118 w0 _ g aq aC aD from ri118 ac) (rr bY) (by decide)) hk (fun _ h => h.2)) (fun _ h => h.1)); replace HK := kt HK hk; replace HB := am (hb); replace ac := am (hi); (try clear hb); (try clear bl); (try clear hk); (try clear hi); obtain ⟨iF, j5, fX⟩ := Kd.R_slice bY.out; subst fX; have e8 : 0 ≤ (bi : Int) := dt_; have ee : bi < (bR.length : Int) := dt_; obtain ⟨iQ, gE, hP⟩ := Kd.at_int (Kd.R_reads' bY.out).2.2 bi e8 ee; cases gE; replace e8 := eq_true e8; replace ee := eq_true ee; have jn := z3 ag; have j9 := nN aH; have ja := nN aI; have jb := nN aQ; have jo := z3 aa) | ((with_reducible refine cg 52 rfl ?_); refine gl_ (some 31) Try.func52 #[.pointer (some ⟨g, 0, none⟩), .int .i64 5] ?_; (with_reducible refine (spec_l1Below.calls g aq ay az 5 aA aC aD w0 _ ?side1 ?side2 cL.out).mono ?_); (case side1 => exact ri118 ac); (case side2 => exact rbi HB); rintro e kr ⟨rfl, hi, hb, hk⟩; refine ⟨_, rfl, ?_⟩; replace ae := am (Kd.V_mono (Kd.V_keep (Kd.V_mono (ok := fun k_ => (some k_ ≠ (.slice (some ax) a9.length ak : Value).ownBlock ∧ (k_ ≠ al ∧ (k_ ≠ ao ∧ (k_ ≠ ap ∧ (k_ ≠ au ∧ k_ ≠ g)))))) (qV_ ae) (fun k_ hk_ => (⟨hk_, hk_.2.2.2.2.2⟩ : _ ∧ k_ ≠ g))) hk (fun _ h => h.2)) (fun _ h => h.1)); replace af := am (Kd.V_mono (Kd.V_keep (Kd.V_mono (ok := fun k_ => (some k_ ≠ (.slice (some ax) a9.length ak : Value).ownBlock ∧ (k_ ≠ al ∧ (k_ ≠ ao ∧ (k_ ≠ ap ∧ (k_ ≠ au ∧ k_ ≠ g)))))) (qV_ af) (fun k_ hk_ => (⟨hk_, hk_.2.2.2.2.2⟩ : _ ∧ k_ ≠ g))) hk (fun _ h => h.2)) (fun _ h => h.1)); replace aa := kh aa hk; replace ah := kh ah hk; replace ai := kh ai hk; replace ag := kh ag hk; replace aj := am (Kd.R_mono (Kd.R_keep (IsS118.apart (show IsS118 w0 _ g aq ay az from ri118 ac) (rr aj) (by decide)) hk (fun _ h => h.2)) (fun _ h => h.1)); replace av := am (keep_cell hk av.out (ab (Kd.own_blk (IsS118.own_neS ac.out a8.out (by decide))))); replace a8 := am (Kd.S_mono (Kd.S_keep (IsS118.apartS (show IsS118 w0 _ g aq ay az from ri118 ac) (rs a8) (by decide)) hk (fun _ h => h.2)) (fun _ h => h.1)); replace HK := kt HK hk; replace HB := am (hb); replace ac := am (hi); (try clear hb); (try clear bl); (try clear hk); (try clear hi); have jp := z3 ag; have jc := nN aH; have jd := nN aI; have je := nN aQ; have jq := z3 aa) | ((with_reducible refine cg 52 rfl ?_); refine gl_ (some 31) Try.func52 #[.pointer (some ⟨g, 0, none⟩), .int .i64 5] ?_; (with_reducible refine (spec_l1Below.calls g aq ay az 5 aA aC aD w0 _ ?side1 ?side2 cL.out).mono ?_); (case side1 => exact ri118 ac); (case side2 => exact rbi HB); rintro e kn ⟨rfl, hi, hb, hk⟩; refine ⟨_, rfl, ?_⟩; replace ae := am (Kd.V_mono (Kd.V_keep (Kd.V_mono (ok := fun k_ => (some k_ ≠ (.slice (some ax) a9.length ak : Value).ownBlock ∧ (k_ ≠ al ∧ (k_ ≠ ao ∧ (k_ ≠ ap ∧ (k_ ≠ au ∧ k_ ≠ g)))))) (qV_ ae) (fun k_ hk_ => (⟨hk_, hk_.2.2.2.2.2⟩ : _ ∧ k_ ≠ g))) hk (fun _ h => h.2)) (fun _ h => h.1)); replace af := am (Kd.V_mono (Kd.V_keep (Kd.V_mono (ok := fun k_ => (some k_ ≠ (.slice (some ax) a9.length ak : Value).ownBlock ∧ (k_ ≠ al ∧ (k_ ≠ ao ∧ (k_ ≠ ap ∧ (k_ ≠ au ∧ k_ ≠ g)))))) (qV_ af) (fun k_ hk_ => (⟨hk_, hk_.2.2.2.2.2⟩ : _ ∧ k_ ≠ g))) hk (fun _ h => h.2)) (fun _ h => h.1)); replace aa := kh aa hk; replace ah := kh ah hk; replace ai := kh ai hk; replace ag := kh ag hk; replace aj := am (Kd.R_mono (Kd.R_keep (IsS118.apart (show IsS118 w0 _ g aq ay az from ri118 ac) (rr aj) (by decide)) hk (fun _ h => h.2)) (fun _ h => h.1)); replace av := am (keep_cell hk av.out (ab (Kd.own_blk (IsS118.own_neS ac.out a8.out (by decide))))); replace a8 := am (Kd.S_mono (Kd.S_keep (IsS118.apartS (show IsS118 w0 _ g aq ay az from ri118 ac) (rs a8) (by decide)) hk (fun _ h => h.2)) (fun _ h => h.1)); replace HK := kt HK hk; replace HB := am (hb); replace ac := am (hi); (try clear hb); (try clear bl); (try clear hk); (try clear hi)) | ((with_reducible refine gate_dst (N := 70) rfl ?_); (try (refine gate_guard (by rfl) ?_; dsimp only)); refine Kd.R_lit (Kd.int .i64) _ 2 ?hg (N := 70) ?hd (xs := ([0, 60, 61, (-1)] : List Int)) (inner := [.int .i64 0, .int .i64 60, .int .i64 61, .int .i64 (-1)]) (ok := fun _ => True) (okp := fun _ => True) ?hr ?hp (fun _ hk => hk) trivial (Below.refl _ _) (Nat.le_refl _) (by simp) ?_; (case hd => rfl); (case hg => rfl); (case hr => first | (go_simp; done) | (go_simp; rfl)); (case hp => exact (Reps.one (show Kd.M (Kd.int .i64) _ _ _ 0 [.int .i64 0] from rfl) (Reps.one (show Kd.M (Kd.int .i64) _ _ _ 60 [.int .i64 60] from rfl) (Reps.one (show Kd.M (Kd.int .i64) _ _ _ 61 [.int .i64 61] from rfl) (Reps.one (show Kd.M (Kd.int .i64) _ _ _ (-1) [.int .i64 (-1)] from rfl) (Reps.none _ _)))))); intro fx ko bg hb hg_ hnew_; clear hg_ hnew_; (first | rw [← eo.out] at bg | (simp only [Int.reduceToNat] at bg; rw [← eo.out] at bg)); replace ae := am (Kd.V_elder' (qV_ ae) (Kd.R_base bg) hb); replace af := am (Kd.V_elder' (qV_ af) (Kd.R_base bg) hb); replace a8 := am (Kd.S_below (rs a8) hb); replace aj := am (Kd.R_below (rr aj) hb); have bY := am (Kd.R_lower bg (ks HK)); replace aa := kk aa hb; replace ah := kk ah hb; replace ai := kk ai hb; replace ag := kk ag hb; replace av := am (pw_cell_below hb av.out); replace HK := kb HK hb; replace HB := bsi HB hb; replace ac := am (IsS118.below (ri118 ac) hb); clear hb bg))
first
| (
have q_ := dV
refine bodyPost_ret (results_cell_row rfl _ _ al 53 #[.int .i64 (rd bR bi), .int .i64 aG, .slice (some ax) a9.length ak] (0, 0) _ rfl (rk aa) Try.underlying53 rfl (by kernel_rfl)) rfl ?_
exact ⟨_, ew, tS2 a8 ag aa, ri118 ac, rbi HB, rkk HK⟩
)
| (
have q_ := dW
refine bodyPost_ret (results_cell_row rfl _ _ al 53 #[.int .i64 aN, .int .i64 aG, .slice (some ax) a9.length ak] (0, 0) _ rfl (rk aa) Try.underlying53 rfl (by kernel_rfl)) rfl ?_
exact ⟨_, ew, tS1 a8 aa, ri118 ac, rbi HB, rkk HK⟩
)
)
| (
have q_ := ff
go_wp2_with (first | ((with_reducible refine cg 52 rfl ?_); refine gl_ (some 31) Try.func52 #[.pointer (some ⟨g, 0, none⟩), .int .i64 5] ?_; (with_reducible refine (spec_l1Below.calls g aq ay az 5 aA aC aD w0 _ ?side1 ?side2 cL.out).mono ?_); (case side1 => exact ri118 ac); (case side2 => exact rbi HB); rintro e kL ⟨rfl, hi, hb, hk⟩; refine ⟨_, rfl, ?_⟩; replace ae := am (Kd.V_mono (Kd.V_keep (Kd.V_mono (ok := fun k_ => (some k_ ≠ (.slice (some ax) a9.length ak : Value).ownBlock ∧ (k_ ≠ al ∧ (k_ ≠ ao ∧ (k_ ≠ ap ∧ (k_ ≠ au ∧ k_ ≠ g)))))) (qV_ ae) (fun k_ hk_ => (⟨hk_, hk_.2.2.2.2.2⟩ : _ ∧ k_ ≠ g))) hk (fun _ h => h.2)) (fun _ h => h.1)); replace af := am (Kd.V_mono (Kd.V_keep (Kd.V_mono (ok := fun k_ => (some k_ ≠ (.slice (some ax) a9.length ak : Value).ownBlock ∧ (k_ ≠ al ∧ (k_ ≠ ao ∧ (k_ ≠ ap ∧ (k_ ≠ au ∧ k_ ≠ g)))))) (qV_ af) (fun k_ hk_ => (⟨hk_, hk_.2.2.2.2.2⟩ : _ ∧ k_ ≠ g))) hk (fun _ h => h.2)) (fun _ h => h.1)); replace aa := kh aa hk; replace ah := kh ah hk; replace ai := kh ai hk; replace ag := kh ag hk; replace aj := am (Kd.R_mono (Kd.R_keep (IsS118.apart (show IsS118 w0 _ g aq ay az from ri118 ac) (rr aj) (by decide)) hk (fun _ h => h.2)) (fun _ h => h.1)); replace av := am (keep_cell hk av.out (ab (Kd.own_blk (IsS118.own_neS ac.out a8.out (by decide))))); replace a8 := am (Kd.S_mono (Kd.S_keep (IsS118.apartS (show IsS118 w0 _ g aq ay az from ri118 ac) (rs a8) (by decide)) hk (fun _ h => h.2)) (fun _ h => h.1)); replace HK := kt HK hk; replace HB := am (hb); replace ac := am (hi); (try clear hb); (try clear bl); (try clear hk); (try clear hi)) | ((with_reducible refine gate_dst (N := 45) rfl ?_); (try (refine gate_guard (by rfl) ?_; dsimp only)); refine Kd.R_lit (Kd.int .i64) _ 2 ?hg (N := 45) ?hd (xs := ([(-1), 5, 60, (-9223372036854775808)] : List Int)) (inner := [.int .i64 (-1), .int .i64 5, .int .i64 60, .int .i64 (-9223372036854775808)]) (ok := fun _ => True) (okp := fun _ => True) ?hr ?hp (fun _ hk => hk) trivial (Below.refl _ _) (Nat.le_refl _) (by simp) ?_; (case hd => rfl); (case hg => rfl); (case hr => first | (go_simp; done) | (go_simp; rfl)); (case hp => exact (Reps.one (show Kd.M (Kd.int .i64) _ _ _ (-1) [.int .i64 (-1)] from rfl) (Reps.one (show Kd.M (Kd.int .i64) _ _ _ 5 [.int .i64 5] from rfl) (Reps.one (show Kd.M (Kd.int .i64) _ _ _ 60 [.int .i64 60] from rfl) (Reps.one (show Kd.M (Kd.int .i64) _ _ _ (-9223372036854775808) [.int .i64 (-9223372036854775808)] from rfl) (Reps.none _ _)))))); intro fw kM bB hb hg_ hnew_; clear hg_ hnew_; (first | rw [← ek.out] at bB | (simp only [Int.reduceToNat] at bB; rw [← ek.out] at bB)); replace ae := am (Kd.V_elder' (qV_ ae) (Kd.R_base bB) hb); replace af := am (Kd.V_elder' (qV_ af) (Kd.R_base bB) hb); replace a8 := am (Kd.S_below (rs a8) hb); replace aj := am (Kd.R_below (rr aj) hb); have bw := am (Kd.R_lower bB (ks HK)); replace aa := kk aa hb; replace ah := kk ah hb; replace ai := kk ai hb; replace ag := kk ag hb; replace av := am (pw_cell_below hb av.out); replace HK := kb HK hb; replace HB := bsi HB hb; replace ac := am (IsS118.below (ri118 ac) hb); clear hb bB) | ((with_reducible refine cg 52 rfl ?_); refine gl_ (some 47) Try.func52 #[.pointer (some ⟨g, 0, none⟩), .int .i64 4] ?_; (with_reducible refine (spec_l1Below.calls g aq aC aD 4 aT ft fu w0 _ ?side1 ?side2 hV.out).mono ?_); (case side1 => exact ri118 ac); (case side2 => exact rbi HB); rintro e bH ⟨rfl, hi, hb, hk⟩; refine ⟨_, rfl, ?_⟩; replace ae := am (Kd.V_mono (Kd.V_keep (Kd.V_mono (ok := fun k_ => ((some k_ ≠ (.slice (some ax) a9.length ak : Value).ownBlock ∧ (k_ ≠ al ∧ (k_ ≠ ao ∧ (k_ ≠ ap ∧ (k_ ≠ au ∧ k_ ≠ g))))) ∧ some k_ ≠ (fw : Value).ownBlock)) (qV_ ae) (fun k_ hk_ => (⟨hk_, hk_.1.2.2.2.2.2⟩ : _ ∧ k_ ≠ g))) hk (fun _ h => h.2)) (fun _ h => h.1)); replace af := am (Kd.V_mono (Kd.V_keep (Kd.V_mono (ok := fun k_ => ((some k_ ≠ (.slice (some ax) a9.length ak : Value).ownBlock ∧ (k_ ≠ al ∧ (k_ ≠ ao ∧ (k_ ≠ ap ∧ (k_ ≠ au ∧ k_ ≠ g))))) ∧ some k_ ≠ (fw : Value).ownBlock)) (qV_ af) (fun k_ hk_ => (⟨hk_, hk_.1.2.2.2.2.2⟩ : _ ∧ k_ ≠ g))) hk (fun _ h => h.2)) (fun _ h => h.1)); replace aa := kh aa hk; replace ah := kh ah hk; replace ai := kh ai hk; replace ag := kh ag hk; replace aj := am (Kd.R_mono (Kd.R_keep (IsS118.apart (show IsS118 w0 _ g aq aC aD from ri118 ac) (rr aj) (by decide)) hk (fun _ h => h.2)) (fun _ h => h.1)); replace av := am (keep_cell hk av.out (ab (Kd.own_blk (IsS118.own_neS ac.out a8.out (by decide))))); replace a8 := am (Kd.S_mono (Kd.S_keep (IsS118.apartS (show IsS118 w0 _ g aq aC aD from ri118 ac) (rs a8) (by decide)) hk (fun _ h => h.2)) (fun _ h => h.1)); replace bw := am (Kd.R_mono (Kd.R_keep (IsS118.apart (show IsS118 w0 _ g aq aC aD from ri118 ac) (rr bw) (by decide)) hk (fun _ h => h.2)) (fun _ h => h.1)); replace HK := kt HK hk; replace HB := am (hb); replace ac := am (hi); (try clear hb); (try clear bl); (try clear hk); (try clear hi); obtain ⟨jt, eS, gJ⟩ := Kd.R_slice bw.out; subst gJ; have dZ : 0 ≤ (aT : Int) := dt_; have ed : aT < (aX.length : Int) := dt_; obtain ⟨er, gC, hL⟩ := Kd.at_int (Kd.R_reads' bw.out).2.2 aT dZ ed; cases gC; replace dZ := eq_true dZ; replace ed := eq_true ed; have fj : 0 ≤ (0 : Int) := (by omega); have fm : (0 : Int) < ((a9.length : Int) : Int) := dt_; have kc : (0 < a9.length) = True := eq_true (by omega); obtain ⟨aM, jE, eU, eX, gl64, cl64, eM⟩ := Kd.S_form a8.out (by omega); (first | cases eU | (injection eU with ea_ en_ ec_; (first | subst ea_ | (injection ea_ with ea_; subst ea_)); subst ec_; clear en_)); have gp := am eX; have jv := am eM; clear eX gl64 eM; (try simp only [add_plain] at aZ b4 aO); obtain ⟨_, jz, g9, hM64, cb, cf, _, _⟩ := Kd.S_elem a8.out z101 (0 : Int) fj fm; obtain ⟨ve64_2, rfl, iy⟩ := k101_openM hM64; have dL : bH.cell? ⟨aM, (0 : Int).toNat * 3, none⟩ = some (.int .i64 ((rd_T101 a9 0).f0)) := cb 0 _ rfl; have dM : bH.cell? ⟨aM, (0 : Int).toNat * 3 + 1, none⟩ = some (.int .i64 ((rd_T101 a9 0).f1)) := cb 1 _ rfl; have dN : bH.cell? ⟨aM, (0 : Int).toNat * 3 + 2, none⟩ = some (ve64_2) := cb 2 _ rfl; have dC : bH.frozen? ⟨aM, (0 : Int).toNat * 3, none⟩ = false := cf 0; have dD : bH.frozen? ⟨aM, (0 : Int).toNat * 3 + 1, none⟩ = false := cf 1; have dE : bH.frozen? ⟨aM, (0 : Int).toNat * 3 + 2, none⟩ = false := cf 2; clear g9 cb cf hM64; (try rw [show ((0 : Int)).toNat = 0 from rfl] at dL); (try simp only [Nat.reduceMul, Nat.zero_mul, Nat.zero_add, Nat.reduceAdd] at dL); (try rw [show ((0 : Int)).toNat = 0 from rfl] at dC); (try simp only [Nat.reduceMul, Nat.zero_mul, Nat.zero_add, Nat.reduceAdd] at dC); (try rw [show ((0 : Int)).toNat = 0 from rfl] at dM); (try simp only [Nat.reduceMul, Nat.zero_mul, Nat.zero_add, Nat.reduceAdd] at dM); (try rw [show ((0 : Int)).toNat = 0 from rfl] at dD); (try simp only [Nat.reduceMul, Nat.zero_mul, Nat.zero_add, Nat.reduceAdd] at dD); (try rw [show ((0 : Int)).toNat = 0 from rfl] at dN); (try simp only [Nat.reduceMul, Nat.zero_mul, Nat.zero_add, Nat.reduceAdd] at dN); (try rw [show ((0 : Int)).toNat = 0 from rfl] at dE); (try simp only [Nat.reduceMul, Nat.zero_mul, Nat.zero_add, Nat.reduceAdd] at dE); replace fj := eq_true fj; replace fm := eq_true fm; have gy := am (show Kd.S k101 101 bH w.heap.size (fun k_ => ((fun _ => True)) k_ ∧ ¬ ((fun _ => False)) k_) (.slice (some ⟨aM, 0, none⟩) a9.length ak) a9 from (by (with_reducible repeat (first | apply Kd.S_alloc | apply Kd.S_drewN | apply Kd.S_drew)); exact Kd.S_mono a8.out (fun k_ hk => ⟨trivial, fun e_ => e_⟩))); obtain ⟨oki75, jA, ga, hM75, ey, eB, fc, hH75⟩ := Kd.S_elem gy.out z101 (0 : Int) (by omega) (by have h_ : (0 : Int) < ((a9.length : Int) : Int) := dt_; first | exact h_ | (have e_ := (Kd.S_reads' a8.out).1; omega) | simpa using h_); obtain ⟨ve75_2, rfl, f5⟩ := k101_openM hM75; have dS := Kd.S_seg hH75 (by omega) (by have h_ : (0 : Int) < ((a9.length : Int) : Int) := dt_; first | exact h_ | (have e_ := (Kd.S_reads' a8.out).1; omega) | simpa using h_) (seg := [.int .i64 (rd aX aT)]) (j := 1) (show 2 ≤ 3 from by decide) (x' := (⟨(rd_T101 a9 0).f0, rd aX aT, (rd_T101 a9 0).f2⟩ : S101)) (k101_mkM _ _ _ (⟨(rd_T101 a9 0).f0, rd aX aT, (rd_T101 a9 0).f2⟩ : S101) (Kd.R_mono f5 (fun _ h_ => Or.inl h_))) (fun _ hk => hk) (fun k_ hk_ => hk_.elim); have cJ := ey 1 _ rfl; (try simp only [show (k101).sz = 3 from rfl, Nat.mul_one, Nat.add_zero] at cJ); (try rw [show ((0 : Int)).toNat = 0 from rfl] at cJ); (try simp only [Nat.reduceMul, Nat.zero_mul, Nat.zero_add, Nat.reduceAdd] at cJ); have cF := eB 1; (try simp only [show (k101).sz = 3 from rfl, Nat.mul_one, Nat.add_zero] at cF); (try rw [show ((0 : Int)).toNat = 0 from rfl] at cF); (try simp only [Nat.reduceMul, Nat.zero_mul, Nat.zero_add, Nat.reduceAdd] at cF); clear ga ey eB hM75 fc hH75) | ((with_reducible refine gate_store (t := 2) (p := 51) rfl ?_); refine store_event (t := 2) (p := 51) (v := ?iD) (w1 := (bH.setCell ⟨aM, 1, none⟩ (.int .i64 (rd aX aT)))) ?hg ?ho ?hn ?hr ?_; (case ho => rfl); (case hg => rfl); (case hn => rfl); (case hr => first | (go_simp; done) | (go_simp; rfl)); intro fz hw; have hg : bH.grownBy fz (some aM) := (by rw [hw]; exact dS.2); have hp_ : Kd.S k101 101 fz w.heap.size (fun _ => True) (.slice (some ⟨aM, 0, none⟩) a9.length ak) fC := (by rw [hw, fK.out]; exact dS.1); clear dS; replace ae := am (Kd.V_afterv (v := (.slice (some ⟨aM, 0, none⟩) a9.length ak)) (v1 := (.slice (some ⟨aM, 0, none⟩) a9.length ak)) (ok := (fun k_ => some k_ ≠ (.slice (some er) aX.length eS : Value).ownBlock ∧ k_ ≠ al ∧ k_ ≠ ao ∧ k_ ≠ ap ∧ k_ ≠ au ∧ k_ ≠ g)) (qV_ ae) hg (.inl rfl)); replace af := am (Kd.V_afterv (v := (.slice (some ⟨aM, 0, none⟩) a9.length ak)) (v1 := (.slice (some ⟨aM, 0, none⟩) a9.length ak)) (ok := (fun k_ => some k_ ≠ (.slice (some er) aX.length eS : Value).ownBlock ∧ k_ ≠ al ∧ k_ ≠ ao ∧ k_ ≠ ap ∧ k_ ≠ au ∧ k_ ≠ g)) (qV_ af) hg (.inl rfl)); replace aa := am (blk_grown (rk aa) hg (Kd.S_ne a8.out aa.out (by decide))); replace ah := am (blk_grown (rk ah) hg (Kd.S_ne a8.out ah.out (by decide))); replace ai := am (blk_grown (rk ai) hg (Kd.S_ne a8.out ai.out (by decide))); replace ag := am (blk_grown (rk ag) hg (Kd.S_ne a8.out ag.out (by decide))); replace ac := am (IsS118.grown (ri118 ac) hg (IsS118.own_neS ac.out a8.out (by decide))); replace aj := am (Kd.R_after (v := (.slice (some ⟨aM, 0, none⟩) a9.length ak)) (v1 := (.slice (some ⟨aM, 0, none⟩) a9.length ak)) (ok := (fun _ => True)) (rr aj) hg (.inl rfl)); replace bw := am (Kd.R_over' (v := (.slice (some ⟨aM, 0, none⟩) a9.length ak)) (rr bw) (Kd.S_typed a8.out) (by decide) hg); replace HB := am ((by rw [hw]; exact below_set (HB.out) (Nat.le_trans HL.out gp.out) : Below w0.heap.size w0 fz)); replace HK := am (KeepBut.trans (rkk HK) (KeepBut.of_grown hg g) (Kd.S_base2 a8.out)); replace a8 := am (hp_); clear hg hw hp_; have ky := z3 ag; have k4 := nN aH; have k5 := nN aI; have k6 := nN aQ; have kz := z3 aa))
refine bodyPost_ret (results_cell_row rfl _ _ al 53 #[.int .i64 aN, .int .i64 aG, .slice (some ⟨aM, 0, none⟩) a9.length ak] (0, 0) _ rfl (rk aa) Try.underlying53 rfl (by kernel_rfl)) rfl ?_
exact ⟨_, ew, tS1 a8 aa, ri118 ac, rbi HB, rkk HK⟩
)
| (
have q_ := fg
go_wp2_with (first | ((with_reducible refine cg 52 rfl ?_); refine gl_ (some 31) Try.func52 #[.pointer (some ⟨g, 0, none⟩), .int .i64 5] ?_; (with_reducible refine (spec_l1Below.calls g aq ay az 5 aA aC aD w0 _ ?side1 ?side2 cL.out).mono ?_); (case side1 => exact ri118 ac); (case side2 => exact rbi HB); rintro e kN ⟨rfl, hi, hb, hk⟩; refine ⟨_, rfl, ?_⟩; replace ae := am (Kd.V_mono (Kd.V_keep (Kd.V_mono (ok := fun k_ => (some k_ ≠ (.slice (some ax) a9.length ak : Value).ownBlock ∧ (k_ ≠ al ∧ (k_ ≠ ao ∧ (k_ ≠ ap ∧ (k_ ≠ au ∧ k_ ≠ g)))))) (qV_ ae) (fun k_ hk_ => (⟨hk_, hk_.2.2.2.2.2⟩ : _ ∧ k_ ≠ g))) hk (fun _ h => h.2)) (fun _ h => h.1)); replace af := am (Kd.V_mono (Kd.V_keep (Kd.V_mono (ok := fun k_ => (some k_ ≠ (.slice (some ax) a9.length ak : Value).ownBlock ∧ (k_ ≠ al ∧ (k_ ≠ ao ∧ (k_ ≠ ap ∧ (k_ ≠ au ∧ k_ ≠ g)))))) (qV_ af) (fun k_ hk_ => (⟨hk_, hk_.2.2.2.2.2⟩ : _ ∧ k_ ≠ g))) hk (fun _ h => h.2)) (fun _ h => h.1)); replace aa := kh aa hk; replace ah := kh ah hk; replace ai := kh ai hk; replace ag := kh ag hk; replace aj := am (Kd.R_mono (Kd.R_keep (IsS118.apart (show IsS118 w0 _ g aq ay az from ri118 ac) (rr aj) (by decide)) hk (fun _ h => h.2)) (fun _ h => h.1)); replace av := am (keep_cell hk av.out (ab (Kd.own_blk (IsS118.own_neS ac.out a8.out (by decide))))); replace a8 := am (Kd.S_mono (Kd.S_keep (IsS118.apartS (show IsS118 w0 _ g aq ay az from ri118 ac) (rs a8) (by decide)) hk (fun _ h => h.2)) (fun _ h => h.1)); replace HK := kt HK hk; replace HB := am (hb); replace ac := am (hi); (try clear hb); (try clear bl); (try clear hk); (try clear hi)) | ((with_reducible refine gate_dst (N := 55) rfl ?_); (try (refine gate_guard (by rfl) ?_; dsimp only)); refine Kd.R_lit k98 _ 98 ?hg (N := 55) ?hd (xs := ([] : List (S98))) (inner := []) (ok := fun _ => True) (okp := fun _ => True) ?hr ?hp (fun _ hk => hk) trivial (Below.refl _ _) (Nat.le_refl _) (by simp) ?_; (case hd => rfl); (case hg => rfl); (case hr => first | (go_simp; done) | (go_simp; rfl)); (case hp => exact (Reps.none _ _)); intro ki bI bh hb hg_ hnew_; clear hg_ hnew_; (first | rw [← el.out] at bh | (simp only [Int.reduceToNat] at bh; rw [← el.out] at bh)); replace ae := am (Kd.V_elder' (qV_ ae) (Kd.R_base bh) hb); replace af := am (Kd.V_elder' (qV_ af) (Kd.R_base bh) hb); replace a8 := am (Kd.S_elder' (rs a8) (Kd.R_base bh) hb); have bX := am (Kd.R_lower (Kd.R_new' bh (Kd.R_lt (rr aj))) (ks HK)); obtain ⟨bc, bf, fY⟩ := Kd.R_slice bX.out; subst fY; replace aj := am (Kd.R_elder' (rr aj) (Kd.R_base bh) hb); replace aa := kk aa hb; replace ah := kk ah hb; replace ai := kk ai hb; replace ag := kk ag hb; replace av := am (pw_cell_below hb av.out); replace HK := kb HK hb; replace HB := bsi HB hb; replace ac := am (IsS118.below (ri118 ac) hb); clear hb bh; have fk : 0 ≤ (0 : Int) := (by omega); have fo : (0 : Int) < ((a9.length : Int) : Int) := dt_; have kd : (0 < a9.length) = True := eq_true (by omega); obtain ⟨aJ, jF, eV, eY, gl83, cl83, eN⟩ := Kd.S_form a8.out (by omega); (first | cases eV | (injection eV with ea_ en_ ec_; (first | subst ea_ | (injection ea_ with ea_; subst ea_)); subst ec_; clear en_)); have gq := am eY; have jw := am eN; clear eY gl83 eN; (try simp only [add_plain] at aZ b4 aO); obtain ⟨_, jB, gb, hM83, cd, ch, _, _⟩ := Kd.S_elem a8.out z101 (0 : Int) fk fo; obtain ⟨ve83_2, rfl, iz⟩ := k101_openM hM83; have dO : bI.cell? ⟨aJ, (0 : Int).toNat * 3, none⟩ = some (.int .i64 ((rd_T101 a9 0).f0)) := cd 0 _ rfl; have dP : bI.cell? ⟨aJ, (0 : Int).toNat * 3 + 1, none⟩ = some (.int .i64 ((rd_T101 a9 0).f1)) := cd 1 _ rfl; have dQ : bI.cell? ⟨aJ, (0 : Int).toNat * 3 + 2, none⟩ = some (ve83_2) := cd 2 _ rfl; have dF : bI.frozen? ⟨aJ, (0 : Int).toNat * 3, none⟩ = false := ch 0; have dG : bI.frozen? ⟨aJ, (0 : Int).toNat * 3 + 1, none⟩ = false := ch 1; have dH : bI.frozen? ⟨aJ, (0 : Int).toNat * 3 + 2, none⟩ = false := ch 2; clear gb cd ch hM83; (try rw [show ((0 : Int)).toNat = 0 from rfl] at dO); (try simp only [Nat.reduceMul, Nat.zero_mul, Nat.zero_add, Nat.reduceAdd] at dO); (try rw [show ((0 : Int)).toNat = 0 from rfl] at dF); (try simp only [Nat.reduceMul, Nat.zero_mul, Nat.zero_add, Nat.reduceAdd] at dF); (try rw [show ((0 : Int)).toNat = 0 from rfl] at dP); (try simp only [Nat.reduceMul, Nat.zero_mul, Nat.zero_add, Nat.reduceAdd] at dP); (try rw [show ((0 : Int)).toNat = 0 from rfl] at dG); (try simp only [Nat.reduceMul, Nat.zero_mul, Nat.zero_add, Nat.reduceAdd] at dG); (try rw [show ((0 : Int)).toNat = 0 from rfl] at dQ); (try simp only [Nat.reduceMul, Nat.zero_mul, Nat.zero_add, Nat.reduceAdd] at dQ); (try rw [show ((0 : Int)).toNat = 0 from rfl] at dH); (try simp only [Nat.reduceMul, Nat.zero_mul, Nat.zero_add, Nat.reduceAdd] at dH); replace fk := eq_true fk; replace fo := eq_true fo; have n_ := am (Kd.S_mono (ok' := (fun k_ => some k_ ≠ ((.slice bc b5.length bf) : Value).ownBlock)) a8.out (fun k_ hk => hk.2)); clear a8; have a8 := n_; clear n_; have gz := am (show Kd.S k101 101 bI w.heap.size (fun k_ => ((fun _ => True)) k_ ∧ ¬ ((fun k_ => some k_ = ((.slice bc b5.length bf) : Value).ownBlock)) k_) (.slice (some ⟨aJ, 0, none⟩) a9.length ak) a9 from (by (with_reducible repeat (first | apply Kd.S_alloc | apply Kd.S_drewN | apply Kd.S_drew)); exact Kd.S_mono a8.out (fun k_ hk => ⟨trivial, fun e_ => hk e_⟩))); obtain ⟨oki92, jC, gc, hM92, ez, eC, fd, hH92⟩ := Kd.S_elem gz.out z101 (0 : Int) (by omega) (by have h_ : (0 : Int) < ((a9.length : Int) : Int) := dt_; first | exact h_ | (have e_ := (Kd.S_reads' a8.out).1; omega) | simpa using h_); obtain ⟨ve92_2, rfl, iA⟩ := k101_openM hM92; have dU := Kd.S_seg hH92 (by omega) (by have h_ : (0 : Int) < ((a9.length : Int) : Int) := dt_; first | exact h_ | (have e_ := (Kd.S_reads' a8.out).1; omega) | simpa using h_) (seg := [.slice bc b5.length bf]) (j := 2) (show 3 ≤ 3 from by decide) (x' := (⟨(rd_T101 a9 0).f0, (rd_T101 a9 0).f1, b5⟩ : S101)) (k101_mkM _ _ _ (⟨(rd_T101 a9 0).f0, (rd_T101 a9 0).f1, b5⟩ : S101) (Kd.R_mono (Kd.R_tight rfl (Kd.R_mono (ok' := fun k_ => ((fun _ => True)) k_ ∧ k_ ≠ aJ) (Kd.R_apart' (bX.out) (Kd.S_typed a8.out) (by decide)) (fun k_ hk => ⟨trivial, fun e_ => (hk.2) (by rw [e_]; rfl)⟩))) (fun _ h_ => Or.inr (h_)))) (fun _ hk => hk) (fun k_ hk_ => ((Kd.R_mono (ok' := fun k_ => ((fun _ => True)) k_ ∧ k_ ≠ aJ) (Kd.R_apart' (bX.out) (Kd.S_typed a8.out) (by decide)) (fun k_ hk => ⟨trivial, fun e_ => (hk.2) (by rw [e_]; rfl)⟩))).1 k_ hk_.symm); have cK := ez 2 _ rfl; (try simp only [show (k101).sz = 3 from rfl, Nat.mul_one, Nat.add_zero] at cK); (try rw [show ((0 : Int)).toNat = 0 from rfl] at cK); (try simp only [Nat.reduceMul, Nat.zero_mul, Nat.zero_add, Nat.reduceAdd] at cK); have cG := eC 2; (try simp only [show (k101).sz = 3 from rfl, Nat.mul_one, Nat.add_zero] at cG); (try rw [show ((0 : Int)).toNat = 0 from rfl] at cG); (try simp only [Nat.reduceMul, Nat.zero_mul, Nat.zero_add, Nat.reduceAdd] at cG); clear gc ez eC hM92 fd hH92) | ((with_reducible refine gate_store (t := 99) (p := 57) rfl ?_); refine store_event (t := 99) (p := 57) (v := ?iE) (w1 := (bI.setCell ⟨aJ, 2, none⟩ (.slice bc b5.length bf))) ?hg ?ho ?hn ?hr ?_; (case ho => rfl); (case hg => rfl); (case hn => rfl); (case hr => first | (go_simp; done) | (go_simp; rfl)); intro fA hw; have hg : bI.grownBy fA (some aJ) := (by rw [hw]; exact dU.2); have hp_ : Kd.S k101 101 fA w.heap.size (fun _ => True) (.slice (some ⟨aJ, 0, none⟩) a9.length ak) fD := (by rw [hw, fL.out]; exact dU.1); clear dU; replace ae := am (Kd.V_afterv (v := (.slice (some ⟨aJ, 0, none⟩) a9.length ak)) (v1 := (.slice (some ⟨aJ, 0, none⟩) a9.length ak)) (ok := (fun k_ => some k_ ≠ ((.slice bc b5.length bf) : Value).ownBlock ∧ k_ ≠ al ∧ k_ ≠ ao ∧ k_ ≠ ap ∧ k_ ≠ au ∧ k_ ≠ g)) (qV_ ae) hg (.inl rfl)); replace af := am (Kd.V_afterv (v := (.slice (some ⟨aJ, 0, none⟩) a9.length ak)) (v1 := (.slice (some ⟨aJ, 0, none⟩) a9.length ak)) (ok := (fun k_ => some k_ ≠ ((.slice bc b5.length bf) : Value).ownBlock ∧ k_ ≠ al ∧ k_ ≠ ao ∧ k_ ≠ ap ∧ k_ ≠ au ∧ k_ ≠ g)) (qV_ af) hg (.inl rfl)); replace aa := am (blk_grown (rk aa) hg (Kd.S_ne a8.out aa.out (by decide))); replace ah := am (blk_grown (rk ah) hg (Kd.S_ne a8.out ah.out (by decide))); replace ai := am (blk_grown (rk ai) hg (Kd.S_ne a8.out ai.out (by decide))); replace ag := am (blk_grown (rk ag) hg (Kd.S_ne a8.out ag.out (by decide))); replace ac := am (IsS118.grown (ri118 ac) hg (IsS118.own_neS ac.out a8.out (by decide))); replace aj := am (Kd.R_after (v := (.slice (some ⟨aJ, 0, none⟩) a9.length ak)) (v1 := (.slice (some ⟨aJ, 0, none⟩) a9.length ak)) (ok := (fun k_ => some k_ ≠ ((.slice bc b5.length bf) : Value).ownBlock)) (qR_ aj) hg (.inl rfl)); replace HB := am ((by rw [hw]; exact below_set (HB.out) (Nat.le_trans HL.out gq.out) : Below w0.heap.size w0 fA)); replace HK := am (KeepBut.trans (rkk HK) (KeepBut.of_grown hg g) (Kd.S_base2 a8.out)); replace a8 := am (hp_); clear bX; clear hg hw hp_; have kA := z3 ag; have k7 := nN aH; have k8 := nN aI; have k9 := nN aQ; have kB := z3 aa))
refine bodyPost_ret (results_cell_row rfl _ _ al 53 #[.int .i64 aN, .int .i64 aG, .slice (some ⟨aJ, 0, none⟩) a9.length ak] (0, 0) _ rfl (rk aa) Try.underlying53 rfl (by kernel_rfl)) rfl ?_
exact ⟨_, ew, tS1 a8 aa, ri118 ac, rbi HB, rkk HK⟩
)
)
| (
have q_ := gS
have jf := nN aH
have jg := nN aI
have jh := nN aQ
have jr := z3 aa
go_wp2
refine bodyPost_ret (results_cell_row rfl _ _ al 53 #[.int .i64 aN, .int .i64 aG, .slice bb a9.length ak] (0, 0) _ rfl (rk aa) Try.underlying53 rfl (by kernel_rfl)) rfl ?_
exact ⟨_, ew, tS1 a8 aa, ri118 ac, rbi HB, rkk HK⟩
)
)
)
)
)

end Go.Proofs.Ytalopdcephohgaa.RD
