/- Contracts of Go functions that laws of this seat reach: each Lean function answers as its Go function does. No condition. Written by wip/tools/inj.py, over the kit's print. -/
import Derived.Test.YtalopdcephohgaaRDx0
import Derived.Test.YtalopdcephohgaaRDx6
import Derived.Test.YtalopdcephohgaaRDx7
import Derived.Test.YtalopdcephohgaaRDx8
namespace Go.Proofs.Ytalopdcephohgaa.RD
open Go.RowKit Go.Proofs.YtalopdcephohgaaW.PrintWords Go.Proofs.YtalopdcephohgaaW.PrintLast Go.Proofs.YtalopdcephohgaaW.PrintMore
attribute [local go_sem] max2_int min2_int max_two min_two max_three min_three max_four min_four   -- for this text's walks alone
set_option linter.unusedVariables false
set_option linter.unusedSimpArgs false

/-! ### spec_l5Resized: function 70 -/
def spec_l5Resized.l0 : Nat → Int → Int → Int → Int → Int → List (List (S98)) → Int → List (List (S98)) → Option (Int × (List (List (S98))))
 | 0, _, _, _, _, _, _, _, _ => none
 | k + 1, x1, x2, x8, x9, aa, a8, ac, a9 => if x9 < (wrap64 (x8 + x2)) then ((some (([] : List (S98)) : List (S98))).bind fun ag => (if x9 < (a8.length : Int) then (if 0 ≤ x9 then ((spec_l1Min.f x1 aa).bind fun ae => (if 0 ≤ ae then (if ae ≤ ((rd_L5 a8 x9).length : Int) then ((spec_l4Mended.f k ((rd_L5 a8 x9).take (ae : Int).toNat)).bind fun af => ((spec_l4Row.f k (wrap64 (x1 - (af.length : Int))) 0 0 false false false).bind fun ah => (if af.length + ah.length < 3518437208883 then (if a9.length < 5864062014805 then (spec_l5Resized.l0 k x1 x2 x8 (wrap64 (x9 + 1)) aa a8 ac (a9 ++ [(af ++ ah)])) else (none)) else (none)))) else (none)) else (none))) else (none)) else ((spec_l4Row.f k (wrap64 (x1 - (ag.length : Int))) 0 0 false false false).bind fun ai => (if ag.length + ai.length < 3518437208883 then (if a9.length < 5864062014805 then (spec_l5Resized.l0 k x1 x2 x8 (wrap64 (x9 + 1)) aa a8 ac (a9 ++ [(ag ++ ai)])) else (none)) else (none))))) else (some (ac, a9))
def spec_l5Resized.f (k : Nat) (aa : Int) (a8 : List (List (S98))) (a1 : Int) (a2 : Int) : Option (Int × (List (List (S98)))) := (spec_l1Max.f 0 (wrap64 ((a8.length : Int) - a2))).bind fun a9 => (spec_l5Resized.l0 k a1 a2 a9 a9 aa a8 a1 ([] : List (List (S98))))
theorem spec_l5Resized.mono_l : ∀ k, (∀ y0 y1 y2 y3 y4 y5 y6 y7, LeO (spec_l5Resized.l0 k y0 y1 y2 y3 y4 y5 y6 y7) (spec_l5Resized.l0 (k + 1) y0 y1 y2 y3 y4 y5 y6 y7))
 | 0 => fun _ _ _ _ _ _ _ _ r h => by simp [spec_l5Resized.l0] at h
 | k + 1 => by
  have ih0 := spec_l5Resized.mono_l k
  ·intro y0 y1 y2 y3 y4 y5 y6 y7
   unfold spec_l5Resized.l0
   repeat' first
   | (with_reducible exact ih0 _ _ _ _ _ _ _ _)
   | (with_reducible exact spec_l4Mended.mono _ _)
   | (with_reducible exact spec_l4Row.mono _ _ _ _ _ _ _)
   | (with_reducible exact LeO.refl _)
   | (with_reducible exact LeO.none _)
   | (with_reducible refine LeO.ite ?_ ?_)
   | (with_reducible refine LeO.bind ?_ (fun _ => ?_))
theorem spec_l5Resized.mono : ∀ a0 a1 a2 a3 k, LeO (spec_l5Resized.f k a0 a1 a2 a3) (spec_l5Resized.f (k + 1) a0 a1 a2 a3) := by
 intro a0 a1 a2 a3 k
 have ih0 := spec_l5Resized.mono_l k
 unfold spec_l5Resized.f
 repeat' first
   | (with_reducible exact ih0 _ _ _ _ _ _ _ _)
   | (with_reducible exact spec_l4Mended.mono _ _)
   | (with_reducible exact spec_l4Row.mono _ _ _ _ _ _ _)
   | (with_reducible exact LeO.refl _)
   | (with_reducible exact LeO.none _)
   | (with_reducible refine LeO.ite ?_ ?_)
   | (with_reducible refine LeO.bind ?_ (fun _ => ?_))
def spec_l5Resized.T8 : Bool × List (List Nat × List Nat) := (true, [([], []), ([0], [0]), ([], []), ([1, 2], [1, 2]), ([3], [3]), ([], []), ([], []), ([6], [6]), ([5, 7], [5, 7]), ([4, 8], [4, 8]), ([9, 8], [9]), ([10, 10, 0, 1, 2, 3, 4, 5, 6, 7, 8, 9, 10], [10])])
def spec_l5Resized.B8 : List Nat := [0, 1, 0, 7, 15, 0, 0, 64, 224, 511, 1023, 2047]
theorem spec_l5Resized.tab8 : rtab .any (opsOf Try.f70 8) = spec_l5Resized.T8 := by kernel_rfl
theorem spec_l5Resized.bits8 : waitsOk spec_l5Resized.T8.2 spec_l5Resized.B8 = true := by kernel_rfl
def spec_l5Resized.T9 : Bool × List (List Nat × List Nat) := (true, [([], []), ([0], [0]), ([], []), ([], []), ([], []), ([4], [4]), ([3, 5], [3, 5]), ([], []), ([6, 7], [6, 7]), ([2, 8, 8], [2, 8]), ([9], [9]), ([1, 10, 9], [1, 10]), ([0, 1, 2, 3, 4, 5, 6, 7, 8, 9, 10, 11], []), ([12, 11, 11, 0, 1, 2, 3, 4, 5, 6, 7, 8, 9, 10, 11], [11, 12])])
def spec_l5Resized.B9 : List Nat := [0, 1, 0, 0, 0, 16, 56, 0, 248, 508, 1020, 2047, 4095, 8191]
theorem spec_l5Resized.tab9 : rtab .any (opsOf Try.f70 9) = spec_l5Resized.T9 := by kernel_rfl
theorem spec_l5Resized.bits9 : waitsOk spec_l5Resized.T9.2 spec_l5Resized.B9 = true := by kernel_rfl
set_option maxHeartbeats 8000000 in
set_option maxRecDepth 100000 in
theorem spec_l5Resized.calls (k : Nat) (aj : Int) (bp : Option Addr) (b8 : Nat) (ah : List (List (S98))) (a1 : Int) (a2 : Int) (r1 : Int) (r2 : List (List (S98))) (w : World) (bP : Kd.C (Kd.slice 98 k98) w bp ah.length ah) (bN : ah.length ≤ b8) (h : spec_l5Resized.f k aj ah a1 a2 = some (r1, r2)) :
  Calls Try.prog 70 #[.agg #[.int .i64 aj, .slice bp ah.length b8], .int .i64 a1, .int .i64 a2] w fun e w' => ∃ v1_ : Value, e = .returned (.agg #[.int .i64 r1, v1_]) ∧ Kd.S (Kd.slice 98 k98) 99 w' w.heap.size (fun _ => True) v1_ r2 ∧ Below w.heap.size w w' := by
 (
have dE := Try.underlying58
have dF := Try.underlying96
have co := am bP
have dt := am bN
clear bP bN
have HB := am (Below.refl w.heap.size w)
have H := h
unfold spec_l5Resized.f at H
clear h
obtain ⟨aq, A4, H⟩ := bd H
(try dsimp only at H)
have H' := am H
clear H
go_enter Try.func70, Try.ntmps70
go_wp2_with (first | (refine bx 3 #[.int .i64 aj, .slice bp ah.length b8] 58 ?_; intro bq hg w5 hbox hb; have aa := am (hbox); have ck := am (gw hg (rb HB)); have dp := ck; replace HB := bs HB hb; clear hb hbox hg) | (refine bx 6 #[.int .i64 0, .slice none 0 0] 58 ?_; intro bM hg w6 hbox hb; have ac := am (hbox); have cl := am (gw hg (rb HB)); have dq := cl; replace HB := bs HB hb; have aG := am (nl hg (rk aa)); have br := ns aG; replace aa := kk aa hb; clear hb hbox hg) | (refine bx 7 #[.int .i64 0, .slice none 0 0] 58 ?_; intro aD hg w7 hbox hb; have a9 := am (hbox); have cm := am (gw hg (rb HB)); have dr := cm; replace HB := bs HB hb; have az := am (nl hg (rk aa)); have aA := ns az; replace aa := kk aa hb; have aH := am (nl hg (rk ac)); have aC := ns aH; replace ac := kk ac hb; clear hb hbox hg; have dX := nN aA; have dY := nN aC; have ch := z2 a9; have dG := nN aG; have cj := z2 aa) | ((with_reducible refine cg 97 rfl ?_); refine gl_ (some 18) Try.func97 #[.int .i64 0, .int .i64 (wrap64 ((ah.length : Int) - a2))] ?_; (with_reducible refine (spec_l1Max.calls 0 (wrap64 ((ah.length : Int) - a2)) aq _ A4.out).mono ?_); rintro e w' ⟨rfl, ⟨nd, rfl⟩⟩; refine ⟨_, rfl, ?_⟩))
go_loopg [9] k (fun kq v9 w' => ∃ (af : Int) (ae : List (List (S98))) (ai : Value), v9 = .int .i64 af ∧ Aside0 (spec_l5Resized.l0 kq a1 a2 aq af aj ah a1 ae = some (r1, r2)) ∧ Aside0 (kq ≤ k) ∧ Aside0 (Kd.S (Kd.slice 98 k98) 99 w' w.heap.size (fun _ => True) ai ae) ∧ Aside0 (w'.heap[bq]? = some (.cells #[.int .i64 aj, (.slice bp ah.length b8)] 58 (0, 0))) ∧ Aside0 (w'.heap[bM]? = some (.cells #[.int .i64 0, (.slice none 0 0)] 58 (0, 0))) ∧ Aside0 (w'.heap[aD]? = some (.cells #[.int .i64 a1, ai] 58 (0, 0))) ∧ Aside0 (Below w.heap.size w w'))
case atStart => exact ⟨(aq), (([] : List (List (S98)))), (.slice none 0 0), sd, H', ⟨Nat.le_refl _⟩, ⟨xn⟩, ⟨rk aa⟩, ⟨rk ac⟩, ⟨rk a9⟩, ⟨rb HB⟩⟩
case round => (
clear H'
try clear ch
try clear cj
try clear ch
try clear cj
obtain ⟨af, ae, ai, rfl, HA, bG, a8, aa, ac, a9, HB⟩ := hrel
cases gk with
| zero => exact absurd HA.out (by simp [spec_l5Resized.l0])
| succ k1 => (
have H := HA.out
clear HA
simp only [spec_l5Resized.l0] at H
by_cases bh : af < (wrap64 (aq + a2))
·(
rw [if_pos bh] at H
have cw : decide (af < (wrap64 (aq + a2))) = true := decide_eq_true bh
clear bh
obtain ⟨aE, aX⟩ : ∃ y_ : List (S98), y_ = (([] : List (S98))) := ⟨_, rfl⟩
replace H : (if af < (ah.length : Int) then (if 0 ≤ af then ((spec_l1Min.f a1 aj).bind fun ap => (if 0 ≤ ap then (if ap ≤ ((rd_L5 ah af).length : Int) then ((spec_l4Mended.f k1 ((rd_L5 ah af).take (ap : Int).toNat)).bind fun ao => ((spec_l4Row.f k1 (wrap64 (a1 - (ao.length : Int))) 0 0 false false false).bind fun ak => (if ao.length + ak.length < 3518437208883 then (if ae.length < 5864062014805 then (spec_l5Resized.l0 k1 a1 a2 aq (wrap64 (af + 1)) aj ah a1 (ae ++ [(ao ++ ak)])) else (none)) else (none)))) else (none)) else (none))) else (none)) else ((spec_l4Row.f k1 (wrap64 (a1 - (aE.length : Int))) 0 0 false false false).bind fun au => (if aE.length + au.length < 3518437208883 then (if ae.length < 5864062014805 then (spec_l5Resized.l0 k1 a1 a2 aq (wrap64 (af + 1)) aj ah a1 (ae ++ [(aE ++ au)])) else (none)) else (none)))) = some (r1, r2) := by first | (rw [aX]; with_reducible exact H) | (rw [aX]; exact H) | exact H
have bJ := am aX
clear aX
refine em_ (p := af < (ah.length : Int)) (fun b9 => ?dj) (fun b9 => ?di)
case' dj => (
rw [if_pos b9] at H
have cy : decide (af < (ah.length : Int)) = true := decide_eq_true b9
clear b9
refine em_ (p := 0 ≤ af) (fun bt => ?dd) (fun bt => ?dc)
case' dd => (
rw [if_pos bt] at H
have du : decide (0 ≤ af) = true := decide_eq_true bt
clear bt
obtain ⟨ap, cX, H⟩ := bd H
(try dsimp only at H)
refine em_ (p := 0 ≤ ap) (fun bi => ?db) (fun bi => ?da)
case' db => (
rw [if_pos bi] at H
have dv := eq_true bi
have dx : decide (0 ≤ ap) = true := decide_eq_true bi
clear bi
refine em_ (p := ap ≤ ((rd_L5 ah af).length : Int)) (fun bj => ?d9) (fun bj => ?d8)
case' d9 => (
rw [if_pos bj] at H
have dy := eq_true bj
have dz : decide (ap ≤ ((rd_L5 ah af).length : Int)) = true := decide_eq_true bj
clear bj
obtain ⟨bb, aY⟩ : ∃ y_ : List (S98), y_ = ((rd_L5 ah af).take (ap : Int).toNat) := ⟨_, rfl⟩
replace H : ((spec_l4Mended.f k1 bb).bind fun ao => ((spec_l4Row.f k1 (wrap64 (a1 - (ao.length : Int))) 0 0 false false false).bind fun ak => (if ao.length + ak.length < 3518437208883 then (if ae.length < 5864062014805 then (spec_l5Resized.l0 k1 a1 a2 aq (wrap64 (af + 1)) aj ah a1 (ae ++ [(ao ++ ak)])) else (none)) else (none)))) = some (r1, r2) := by first | (rw [aY]; with_reducible exact H) | (rw [aY]; exact H) | exact H
have bK := am aY
clear aY
obtain ⟨ao, cY, H⟩ := bd H
(try dsimp only at H)
obtain ⟨ak, cZ, H⟩ := bd H
(try dsimp only at H)
refine em_ (p := ao.length + ak.length < 3518437208883) (fun bu => ?d7) (fun bu => ?d6)
case' d7 => (
rw [if_pos bu] at H
have LMc21 := am bu
clear bu
obtain ⟨bc, aZ⟩ : ∃ y_ : List (S98), y_ = (ao ++ ak) := ⟨_, rfl⟩
replace H : (if ae.length < 5864062014805 then (spec_l5Resized.l0 k1 a1 a2 aq (wrap64 (af + 1)) aj ah a1 (ae ++ [bc])) else (none)) = some (r1, r2) := by first | (rw [aZ]; with_reducible exact H) | (rw [aZ]; exact H) | exact H
have cq := am aZ
clear aZ
refine em_ (p := ae.length < 5864062014805) (fun bv => ?d5) (fun bv => ?d4)
case' d5 => (
rw [if_pos bv] at H
have LMc22 := am bv
clear bv
obtain ⟨bE, b4⟩ : ∃ y_ : List (List (S98)), y_ = (ae ++ [bc]) := ⟨_, rfl⟩
replace H : (spec_l5Resized.l0 k1 a1 a2 aq (wrap64 (af + 1)) aj ah a1 bE) = some (r1, r2) := by first | (rw [b4]; with_reducible exact H) | (rw [b4]; exact H) | exact H
have ct := am b4
clear b4
have H' := am H
clear H
have cN := trivial
)
case d4 => (
rw [if_neg bv] at H
exact absurd H (by simp)
)
)
case d6 => (
rw [if_neg bu] at H
exact absurd H (by simp)
)
)
case d8 => (
rw [if_neg bj] at H
exact absurd H (by simp)
)
)
case da => (
rw [if_neg bi] at H
exact absurd H (by simp)
)
)
case dc => (
rw [if_neg bt] at H
exact absurd H (by simp)
)
)
case' di => (
rw [if_neg b9] at H
have cy : decide (af < (ah.length : Int)) = false := decide_eq_false b9
clear b9
obtain ⟨au, d3, H⟩ := bd H
(try dsimp only at H)
refine em_ (p := aE.length + au.length < 3518437208883) (fun bw => ?dh) (fun bw => ?dg)
case' dh => (
rw [if_pos bw] at H
have LMc41 := am bw
clear bw
obtain ⟨bf, b5⟩ : ∃ y_ : List (S98), y_ = (aE ++ au) := ⟨_, rfl⟩
replace H : (if ae.length < 5864062014805 then (spec_l5Resized.l0 k1 a1 a2 aq (wrap64 (af + 1)) aj ah a1 (ae ++ [bf])) else (none)) = some (r1, r2) := by first | (rw [b5]; with_reducible exact H) | (rw [b5]; exact H) | exact H
have cu := am b5
clear b5
refine em_ (p := ae.length < 5864062014805) (fun bz => ?df) (fun bz => ?de)
case' df => (
rw [if_pos bz] at H
have LMc42 := am bz
clear bz
obtain ⟨bF, b6⟩ : ∃ y_ : List (List (S98)), y_ = (ae ++ [bf]) := ⟨_, rfl⟩
replace H : (spec_l5Resized.l0 k1 a1 a2 aq (wrap64 (af + 1)) aj ah a1 bF) = some (r1, r2) := by first | (rw [b6]; with_reducible exact H) | (rw [b6]; exact H) | exact H
have cv := am b6
clear b6
have H' := am H
clear H
have cO := trivial
)
case de => (
rw [if_neg bz] at H
exact absurd H (by simp)
)
)
case dg => (
rw [if_neg bw] at H
exact absurd H (by simp)
)
)
all_goals (
try go_wp2_with (first | ((with_reducible refine gate_dst (N := 27) rfl ?_); refine Kd.R_lit k98 _ 98 ?hg (N := 27) ?hd (xs := ([] : List (S98))) (inner := []) (ok := fun _ => True) (okp := fun _ => True) ?hr ?hp (fun _ hk => hk) trivial (Below.refl _ _) (Nat.le_refl _) (by simp) ?_; (case hd => rfl); (case hg => rfl); (case hr => first | (go_simp; done) | (go_simp; rfl)); (case hp => exact (Reps.none _ _)); intro aU cA aQ hb hg_ hnew_; clear hg_ hnew_; (first | rw [← bJ.out] at aQ | (simp only [Int.reduceToNat] at aQ; rw [← bJ.out] at aQ)); replace a8 := am (Kd.S_elder' (rs a8) (Kd.R_base aQ) hb); have ag := am (Kd.R_lower aQ (below_size (rb HB))); replace aa := kk aa hb; replace ac := kk ac hb; replace a9 := kk a9 hb; replace HB := bs HB hb; clear hb aQ; have dH := nN aG; have dI := nN az; have dU := z2 aa))
replace a8 := am (Kd.S_drew a8.out)
replace ag := am (Kd.R_drew ag.out)
replace aa := am (blk_drew aa.out)
replace ac := am (blk_drew ac.out)
replace a9 := am (blk_drew a9.out)
replace HB := am (below_drew1 HB.out)
first
| (
have q_ := cN
have bC : 0 ≤ (af : Int) := dt_
have bD : af < (ah.length : Int) := dt_
obtain ⟨bL, aK, aI, cL, aJ, bn, bl⟩ := at_L5 co.out af bC bD
have aT := aJ
cases cL
replace aJ := mv HB.out aJ
have bg := am bl
have bQ := am bn
clear bl bn
replace bC := eq_true bC
replace bD := eq_true bD
refine start_ (n := 12) (S := fun w' => w'.cell? ⟨bq, 0, none⟩ = some (.int .i64 aj) ∧ w'.cell? ⟨bq, 1, none⟩ = some (.slice (some bL) ah.length b8) ∧ w'.cell? (bL.add (af).toNat) = some (.slice aK (rd_L5 ah af).length aI)) (ds := []) (bm 12 0) (by kernel_rfl) rfl rfl ⟨(blk_cell aa.out 0).trans rfl, (blk_cell aa.out 1).trans rfl, (mv HB.out aT)⟩ (fun hHeld => ?_); refine with_tabW spec_l5Resized.tab8 spec_l5Resized.bits8 (fun HT_ HW_ => ?_)
generalize cA.drew = dZ at a8 ag aa ac a9 HB bg aJ hHeld ⊢
refine pu_ 0 33 (bm 12 1) HT_.out ?_
refine pu_ 2 35 (bm 12 5) HT_.out ?_
refine pu_ 5 38 (bm 12 37) HT_.out ?_
refine pu_ 6 39 (bm 12 101) HT_.out ?_
refine tk 1 34 (bm 12 103) HT_ HW_ hHeld ?_
refine pu_ 3 36 (bm 12 111) HT_.out ?_
refine tk 4 37 (bm 12 127) HT_ HW_ hHeld ?_
refine tk 7 40 (bm 12 255) HT_ HW_ hHeld ?_
refine o1 8 41 (bm 12 511) HT_ (fun K hK => ?_)
refine gs Try.func99 #[.int .i64 a1, .int .i64 aj] ?_
with_reducible refine (spec_l1Min.calls a1 aj ap _ cX.out).mono ?_
rintro e w' ⟨rfl, ⟨nd, rfl⟩⟩
refine ⟨_, rfl, ?_⟩
have cf : (ap : Int) ≤ (((rd_L5 ah af).length : Int) : Int) := dt_
obtain ⟨i029, bO, _, cz, _⟩ := info_parts info98
have bo : (rd_L5 ah af).length ≤ aI := bQ.out
have hC29 : Kd.C k98 _ aK (rd_L5 ah af).length (rd_L5 ah af) := bg.out
have ce := cut_to (P := Try.prog) 99 98 .i64 Try.underlying99 bO aK (rd_L5 ah af).length aI ap dt_ cf bo
have bA := Kd.C_take (m := (ap : Int).toNat) hC29 (by omega)
have bB : bb.length = (ap : Int).toNat := (by rw [bK.out, List.length_take]; omega)
rw [← bK.out] at bA
rw [← bB] at ce
have cp := am bA
have cn := am (show bb.length ≤ aI from by omega)
clear bA hC29 bo bO cz
have KY29 := am bB
clear bB
replace cf := eq_true cf
refine hK.out _ _ ⟨(blk_cell aa.out 0).trans rfl, (blk_cell aa.out 1).trans rfl, (mv HB.out aT)⟩ (fun hHeld => ?_)
clear hK K
refine norm_ (a' := _) (show Act.put _ (some 41) _ = _ from na) ?_
refine pu_ 9 42 (bm 12 1023) HT_.out ?_
refine o1 10 43 (bm 12 2047) HT_ (fun K hK => ?_)
refine gs Try.func98 #[.slice aK bb.length aI] ?_
with_reducible refine (spec_l4Mended.calls k1 _ _ bb ao _ ?side1 ?side2 cY.out).mono ?_
(case side1 => repeat (first | exact (Kd.C_below cp.out (rb HB)) | (with_reducible refine Kd.C_alloc ?_ _) | (with_reducible refine Kd.C_drewN ?_ _) | (with_reducible refine Kd.C_drew ?_)))
(case side2 => exact cn.out)
rintro e dk ⟨dM, rfl, av, hb⟩
refine ⟨_, rfl, ?_⟩
replace a8 := am (Kd.S_elder' (rs a8) (Kd.R_base av) hb)
have al := am (Kd.R_lower (Kd.R_new' av (Kd.R_lt (rr ag))) (below_size (rb HB)))
replace ag := am (Kd.R_elder' (rr ag) (Kd.R_base av) hb)
replace aa := kk aa hb
replace ac := kk ac hb
replace a9 := kk a9 hb
replace HB := bs HB hb
(try clear hb)
(try clear av)
refine hK.out _ _ ⟨(blk_cell aa.out 0).trans rfl, (blk_cell aa.out 1).trans rfl, (mv HB.out aT)⟩ (fun hHeld => ?_)
clear hK K
refine norm_ (a' := _) (show Act.put _ (some 43) _ = _ from na) ?_
refine pu_ 11 10 (bm 12 4095) HT_.out ?_
refine done_ (done_of HT_.out (by kernel_rfl)) ?_
try go_wp2
replace a8 := am (Kd.S_drew a8.out)
replace ag := am (Kd.R_drew ag.out)
replace al := am (Kd.R_drew al.out)
replace aa := am (blk_drew aa.out)
replace ac := am (blk_drew ac.out)
replace a9 := am (blk_drew a9.out)
replace HB := am (below_drew1 HB.out)
obtain ⟨cB, cG, bV⟩ := Kd.R_slice al.out
(first | subst bV | (injection bV with f1_ f2_ f3_; have f4_ := f1_.symm; have f5_ := f3_.symm; clear f1_ f2_ f3_; subst f4_; subst f5_))
refine start_ (n := 14) (S := fun w' => w'.cell? ⟨aD, 0, none⟩ = some (.int .i64 a1) ∧ w'.cell? ⟨aD, 1, none⟩ = some (ai)) (ds := [13]) (bm 14 0) (by kernel_rfl) rfl rfl (bc2 a9) (fun hHeld => ?_); refine with_tabW spec_l5Resized.tab9 spec_l5Resized.bits9 (fun HT_ HW_ => ?_)
generalize dk.drew = e8 at a8 ag al aa ac a9 HB hHeld ⊢
refine pu_ 0 44 (bm 14 1) HT_.out ?_
refine pu_ 2 46 (bm 14 5) HT_.out ?_
refine pu_ 3 47 (bm 14 13) HT_.out ?_
refine pu_ 4 48 (bm 14 29) HT_.out ?_
refine pu_ 5 49 (bm 14 61) HT_.out ?_
refine pu_ 6 50 (bm 14 125) HT_.out ?_
refine pu_ 7 51 (bm 14 253) HT_.out ?_
refine tk 1 45 (bm 14 255) HT_ HW_ hHeld ?_
refine o1 8 52 (bm 14 511) HT_ (fun K hK => ?_)
refine gs Try.func100 #[.int .i64 (wrap64 (a1 - (ao.length : Int))), .agg #[.int .i64 0, .int .i64 0, .bool false, .bool false, .bool false]] ?_
with_reducible refine (spec_l4Row.calls k1 (wrap64 (a1 - (ao.length : Int))) 0 0 false false false ak _ cZ.out).mono ?_
rintro e e9 ⟨dN, rfl, av, hb⟩
refine ⟨_, rfl, ?_⟩
replace a8 := am (Kd.S_elder' (rs a8) (Kd.R_base av) hb)
have ax := am (Kd.R_lower (Kd.R_new' (Kd.R_new' av (Kd.R_lt (rr ag))) (Kd.R_lt (rr al))) (below_size (rb HB)))
replace ag := am (Kd.R_elder' (rr ag) (Kd.R_base av) hb)
replace al := am (Kd.R_elder' (rr al) (Kd.R_base av) hb)
replace aa := kk aa hb
replace ac := kk ac hb
replace a9 := kk a9 hb
replace HB := bs HB hb
(try clear hb)
(try clear av)
obtain ⟨aM, aN, bW⟩ := Kd.R_slice ax.out
(first | subst bW | (injection bW with f1_ f2_ f3_; have f4_ := f1_.symm; have f5_ := f3_.symm; clear f1_ f2_ f3_; subst f4_; subst f5_))
refine hK.out _ _ (bc2 a9) (fun hHeld => ?_)
clear hK K
refine norm_ (a' := _) (show Act.put _ (some 52) _ = _ from na) ?_
refine o1 9 53 (bm 14 1023) HT_ (fun K hK => ?_)
refine Kd.R_append_rows_step k98 (w0 := w) w.heap.size (by rfl) (.tmp 46) (.tmp 52) 99 98 (.agg #[(.int .i64 0), (.int .i64 0), (.int .i64 0), (.bool false), (.bool false), (.bool false), (.int .i64 0)]) 40 rfl Try.underlying99 info98 rfl (by decide) (by omega) (.slice cB ao.length cG) ao ak _ _ _ (fun k_ => some k_ ≠ (aU : Value).ownBlock ∧ some k_ ≠ (.slice aM ak.length aN : Value).ownBlock) (fun _ => False) rfl rfl ?aO ?aR (fun _ _ h => h) (fun _ h => h.elim) ?aF ?aB ?aS ?aL ?_
(case aR => repeat (first | exact (Kd.R_reads' ax.out).2.2 | (with_reducible refine Kd.C_alloc ?_ _) | (with_reducible refine Kd.C_drewN ?_ _) | (with_reducible refine Kd.C_drew ?_)))
(case aB => exact (rb HB))
(case aF => exact (fun k_ hk => ⟨Kd.fresh' (Kd.R_lt (rr ag)) k_ hk, Kd.fresh' (Kd.R_lt (rr ax)) k_ hk⟩))
(case aO => exact (qR_ al))
(case aS => exact (below_size (rb HB)))
(case aL => have := LMc21.out; omega)
intro dO eb ho hb hg hat
rw [← cq.out] at ho
replace a8 := am (Kd.S_after (ok := (fun k_ => some k_ ≠ (aU : Value).ownBlock ∧ some k_ ≠ (.slice aM ak.length aN : Value).ownBlock)) (qS_ a8) hg hat)
replace aa := am (blk_grown (rk aa) hg (Kd.R_ne al.out aa.out (by decide)))
replace ac := am (blk_grown (rk ac) hg (Kd.R_ne al.out ac.out (by decide)))
replace a9 := am (blk_grown (rk a9) hg (Kd.R_ne al.out a9.out (by decide)))
replace ag := am (Kd.R_after (ok := (fun k_ => some k_ ≠ (.slice aM ak.length aN : Value).ownBlock)) (qR_ ag) hg hat)
replace ax := am (Kd.R_after (ok := (fun k_ => some k_ ≠ (aU : Value).ownBlock)) (qR_ ax) hg hat)
replace HB := am (hb)
have aV := am (ho)
clear al
clear ho hb hg hat
obtain ⟨bR, bT, bX⟩ := Kd.R_slice aV.out
(first | subst bX | (injection bX with f1_ f2_ f3_; have f4_ := f1_.symm; have f5_ := f3_.symm; clear f1_ f2_ f3_; subst f4_; subst f5_))
refine hK.out _ _ (bc2 a9) (fun hHeld => ?_)
clear hK K
refine norm_ (a' := _) (show Act.put _ (some 53) _ = _ from na) ?_
refine o1 10 54 (bm 14 2047) HT_ (fun K hK => ?_)
refine value_ (w1 := ?_) (v := ?_) (by rfl) rfl ?_ ?_
rotate_left 2
·(
go_simp
constructor
·rfl
·rfl
)
refine hK.out _ _ ⟨(blk_cell (blk_alloc a9.out _) 0).trans rfl, (blk_cell (blk_alloc a9.out _) 1).trans rfl⟩ (fun hHeld => ?_)
clear hK K
refine norm_ (a' := _) (show Act.put _ (some 54) _ = _ from na) ?_
refine o1 11 55 (bm 14 4095) HT_ (fun K hK => ?_)
refine Kd.S_append_step (Kd.slice 98 k98) (w0 := w) w.heap.size (by rfl) (.tmp 45) (.tmp 54) 56 99 (.slice none 0 0) 24 rfl Try.underlying56 info99 rfl (by decide) (by omega) ai ae bc [.slice bR bc.length bT] (fun k_ => some k_ ≠ (aU : Value).ownBlock ∧ some k_ ≠ (.slice aM ak.length aN : Value).ownBlock) (fun k_ => some k_ = (.slice bR bc.length bT : Value).ownBlock) rfl rfl ?aP (fun k_ hk_ => ((Kd.R_mono (ok' := fun k_ => ((fun k_ => some k_ ≠ (aU : Value).ownBlock ∧ some k_ ≠ (.slice aM ak.length aN : Value).ownBlock)) k_ ∧ some k_ ≠ (ai : Value).ownBlock) (Kd.R_apart' (aV.out) (Kd.S_typed a8.out) (by decide)) (fun k_ hk => ⟨⟨hk.1.1, hk.1.2⟩, hk.2⟩))).1 k_ hk_.symm) ?aF ?aO ?aB ?aS ?aL ?_
(case aP => exact Kd.M_row (Kd.R_mono (Kd.R_tight rfl (Kd.R_mono (ok' := fun k_ => ((fun k_ => some k_ ≠ (aU : Value).ownBlock ∧ some k_ ≠ (.slice aM ak.length aN : Value).ownBlock)) k_ ∧ some k_ ≠ (ai : Value).ownBlock) (Kd.R_apart' (aV.out) (Kd.S_typed a8.out) (by decide)) (fun k_ hk => ⟨⟨hk.1.1, hk.1.2⟩, hk.2⟩))) (fun _ h_ => h_)))
(case aB => exact (rb HB))
(case aF => exact (fun k_ hk => ⟨Kd.fresh' (Kd.R_lt (rr ag)) k_ hk, Kd.fresh' (Kd.R_lt (rr ax)) k_ hk⟩))
(case aO => exact (by (with_reducible repeat (first | apply Kd.S_alloc | apply Kd.S_drewN | apply Kd.S_drew)); exact Kd.S_mono a8.out (fun k_ hk => ⟨⟨hk.1.1, hk.1.2⟩, fun e_ => hk.2 e_⟩)))
(case aS => exact (below_size (rb HB)))
(case aL => have := LMc22.out; omega)
intro dP dm ho hb hg hat
rw [← ct.out] at ho
replace aa := am (blk_grown (rk aa) hg (Kd.S_ne a8.out aa.out (by decide)))
replace ac := am (blk_grown (rk ac) hg (Kd.S_ne a8.out ac.out (by decide)))
replace a9 := am (blk_grown (rk a9) hg (Kd.S_ne a8.out a9.out (by decide)))
replace ag := am (Kd.R_over' (rr ag) (Kd.S_typed (rs a8)) (by decide) hg)
replace ax := am (Kd.R_over' (rr ax) (Kd.S_typed (rs a8)) (by decide) hg)
replace HB := am (hb)
have bH := am (ho)
clear a8 aV
clear ho hb hg hat
obtain ⟨cC, cH, bY⟩ := Kd.S_slice bH.out
(first | subst bY | (injection bY with f1_ f2_ f3_; have f4_ := f1_.symm; have f5_ := f3_.symm; clear f1_ f2_ f3_; subst f4_; subst f5_))
refine hK.out _ _ (bc2 a9) (fun hHeld => ?_)
clear hK K
refine norm_ (a' := _) (show Act.put _ (some 55) _ = _ from na) ?_
refine pu_ 12 56 (bm 14 8191) HT_.out ?_
refine last_ (i := 13) (N := none) (bm 14 16383) rfl rfl (one_of HT_.out (by kernel_rfl)) (by decide) (fun K hK => ?_)
have dC : dm.cell? ⟨aD, 1, none⟩ = some (ai) := (blk_cell a9.out 1).trans rfl
have dA := blk_frozen a9.out 1
have cT := az.out
have cU := aH.out
have cP := aA.out
have cQ := aC.out
refine skip_ (w1 := ?_) (by rfl) rfl ?_ ?_
rotate_left
·(
go_simp
rfl
)
refine hK.out _ _ ?_
clear hK K
refine done_ (done_of HT_.out (by kernel_rfl)) ?_
try go_wp2
go_roundg k1
case measure => have := bG.out; omega
case rel => exact ⟨(wrap64 (af + 1)), (bE), (.slice cC bE.length cH), sd, H', ⟨by have := bG.out; omega⟩, ⟨tS1 bH a9⟩, ⟨rk aa⟩, ⟨rk ac⟩, ⟨rk a9⟩, ⟨rb HB⟩⟩
)
| (
have q_ := cO
obtain ⟨cD, cI, bZ⟩ := Kd.R_slice ag.out
(first | subst bZ | (injection bZ with f1_ f2_ f3_; have f4_ := f1_.symm; have f5_ := f3_.symm; clear f1_ f2_ f3_; subst f4_; subst f5_))
refine start_ (n := 14) (S := fun w' => w'.cell? ⟨aD, 0, none⟩ = some (.int .i64 a1) ∧ w'.cell? ⟨aD, 1, none⟩ = some (ai)) (ds := [13]) (bm 14 0) (by kernel_rfl) rfl rfl (bc2 a9) (fun hHeld => ?_); refine with_tabW spec_l5Resized.tab9 spec_l5Resized.bits9 (fun HT_ HW_ => ?_)
generalize cA.drew = ed at a8 ag aa ac a9 HB hHeld ⊢
refine pu_ 0 44 (bm 14 1) HT_.out ?_
refine pu_ 2 46 (bm 14 5) HT_.out ?_
refine pu_ 3 47 (bm 14 13) HT_.out ?_
refine pu_ 4 48 (bm 14 29) HT_.out ?_
refine pu_ 5 49 (bm 14 61) HT_.out ?_
refine pu_ 6 50 (bm 14 125) HT_.out ?_
refine pu_ 7 51 (bm 14 253) HT_.out ?_
refine tk 1 45 (bm 14 255) HT_ HW_ hHeld ?_
refine o1 8 52 (bm 14 511) HT_ (fun K hK => ?_)
refine gs Try.func100 #[.int .i64 (wrap64 (a1 - (aE.length : Int))), .agg #[.int .i64 0, .int .i64 0, .bool false, .bool false, .bool false]] ?_
with_reducible refine (spec_l4Row.calls k1 (wrap64 (a1 - (aE.length : Int))) 0 0 false false false au _ d3.out).mono ?_
rintro e ee ⟨dQ, rfl, av, hb⟩
refine ⟨_, rfl, ?_⟩
replace a8 := am (Kd.S_elder' (rs a8) (Kd.R_base av) hb)
have ay := am (Kd.R_lower (Kd.R_new' av (Kd.R_lt (rr ag))) (below_size (rb HB)))
replace ag := am (Kd.R_elder' (rr ag) (Kd.R_base av) hb)
replace aa := kk aa hb
replace ac := kk ac hb
replace a9 := kk a9 hb
replace HB := bs HB hb
(try clear hb)
(try clear av)
obtain ⟨b7, ba, ca⟩ := Kd.R_slice ay.out
(first | subst ca | (injection ca with f1_ f2_ f3_; have f4_ := f1_.symm; have f5_ := f3_.symm; clear f1_ f2_ f3_; subst f4_; subst f5_))
refine hK.out _ _ (bc2 a9) (fun hHeld => ?_)
clear hK K
refine norm_ (a' := _) (show Act.put _ (some 52) _ = _ from na) ?_
refine o1 9 53 (bm 14 1023) HT_ (fun K hK => ?_)
refine Kd.R_append_rows_step k98 (w0 := w) w.heap.size (by rfl) (.tmp 46) (.tmp 52) 99 98 (.agg #[(.int .i64 0), (.int .i64 0), (.int .i64 0), (.bool false), (.bool false), (.bool false), (.int .i64 0)]) 40 rfl Try.underlying99 info98 rfl (by decide) (by omega) (.slice cD aE.length cI) aE au _ _ _ (fun k_ => some k_ ≠ (.slice b7 au.length ba : Value).ownBlock) (fun _ => False) rfl rfl ?aO ?aR (fun _ _ h => h) (fun _ h => h.elim) ?aF ?aB ?aS ?aL ?_
(case aR => repeat (first | exact (Kd.R_reads' ay.out).2.2 | (with_reducible refine Kd.C_alloc ?_ _) | (with_reducible refine Kd.C_drewN ?_ _) | (with_reducible refine Kd.C_drew ?_)))
(case aB => exact (rb HB))
(case aF => exact (fun k_ hk => Kd.fresh' (Kd.R_lt (rr ay)) k_ hk))
(case aO => exact (rrm ag))
(case aS => exact (below_size (rb HB)))
(case aL => have := LMc41.out; omega)
intro dR ef ho hb hg hat
rw [← cu.out] at ho
replace a8 := am (Kd.S_after (ok := (fun k_ => some k_ ≠ (.slice b7 au.length ba : Value).ownBlock)) (rm a8) hg hat)
replace aa := am (blk_grown (rk aa) hg (Kd.R_ne ag.out aa.out (by decide)))
replace ac := am (blk_grown (rk ac) hg (Kd.R_ne ag.out ac.out (by decide)))
replace a9 := am (blk_grown (rk a9) hg (Kd.R_ne ag.out a9.out (by decide)))
replace ay := am (Kd.R_after (ok := (fun _ => True)) (rr ay) hg hat)
replace HB := am (hb)
have aW := am (ho)
clear ag
clear ho hb hg hat
obtain ⟨bS, bU, cb⟩ := Kd.R_slice aW.out
(first | subst cb | (injection cb with f1_ f2_ f3_; have f4_ := f1_.symm; have f5_ := f3_.symm; clear f1_ f2_ f3_; subst f4_; subst f5_))
refine hK.out _ _ (bc2 a9) (fun hHeld => ?_)
clear hK K
refine norm_ (a' := _) (show Act.put _ (some 53) _ = _ from na) ?_
refine o1 10 54 (bm 14 2047) HT_ (fun K hK => ?_)
refine value_ (w1 := ?_) (v := ?_) (by rfl) rfl ?_ ?_
rotate_left 2
·(
go_simp
constructor
·rfl
·rfl
)
refine hK.out _ _ ⟨(blk_cell (blk_alloc a9.out _) 0).trans rfl, (blk_cell (blk_alloc a9.out _) 1).trans rfl⟩ (fun hHeld => ?_)
clear hK K
refine norm_ (a' := _) (show Act.put _ (some 54) _ = _ from na) ?_
refine o1 11 55 (bm 14 4095) HT_ (fun K hK => ?_)
refine Kd.S_append_step (Kd.slice 98 k98) (w0 := w) w.heap.size (by rfl) (.tmp 45) (.tmp 54) 56 99 (.slice none 0 0) 24 rfl Try.underlying56 info99 rfl (by decide) (by omega) ai ae bf [.slice bS bf.length bU] (fun k_ => some k_ ≠ (.slice b7 au.length ba : Value).ownBlock) (fun k_ => some k_ = (.slice bS bf.length bU : Value).ownBlock) rfl rfl ?aP (fun k_ hk_ => ((Kd.R_mono (ok' := fun k_ => ((fun k_ => some k_ ≠ (.slice b7 au.length ba : Value).ownBlock)) k_ ∧ some k_ ≠ (ai : Value).ownBlock) (Kd.R_apart' (aW.out) (Kd.S_typed a8.out) (by decide)) (fun k_ hk => ⟨hk.1, hk.2⟩))).1 k_ hk_.symm) ?aF ?aO ?aB ?aS ?aL ?_
(case aP => exact Kd.M_row (Kd.R_mono (Kd.R_tight rfl (Kd.R_mono (ok' := fun k_ => ((fun k_ => some k_ ≠ (.slice b7 au.length ba : Value).ownBlock)) k_ ∧ some k_ ≠ (ai : Value).ownBlock) (Kd.R_apart' (aW.out) (Kd.S_typed a8.out) (by decide)) (fun k_ hk => ⟨hk.1, hk.2⟩))) (fun _ h_ => h_)))
(case aB => exact (rb HB))
(case aF => exact (fun k_ hk => Kd.fresh' (Kd.R_lt (rr ay)) k_ hk))
(case aO => exact (by (with_reducible repeat (first | apply Kd.S_alloc | apply Kd.S_drewN | apply Kd.S_drew)); exact Kd.S_mono a8.out (fun k_ hk => ⟨hk.1, fun e_ => hk.2 e_⟩)))
(case aS => exact (below_size (rb HB)))
(case aL => have := LMc42.out; omega)
intro dS dn ho hb hg hat
rw [← cv.out] at ho
replace aa := am (blk_grown (rk aa) hg (Kd.S_ne a8.out aa.out (by decide)))
replace ac := am (blk_grown (rk ac) hg (Kd.S_ne a8.out ac.out (by decide)))
replace a9 := am (blk_grown (rk a9) hg (Kd.S_ne a8.out a9.out (by decide)))
replace ay := am (Kd.R_over' (rr ay) (Kd.S_typed (rs a8)) (by decide) hg)
replace HB := am (hb)
have bI := am (ho)
clear a8 aW
clear ho hb hg hat
obtain ⟨cE, cJ, cd⟩ := Kd.S_slice bI.out
(first | subst cd | (injection cd with f1_ f2_ f3_; have f4_ := f1_.symm; have f5_ := f3_.symm; clear f1_ f2_ f3_; subst f4_; subst f5_))
refine hK.out _ _ (bc2 a9) (fun hHeld => ?_)
clear hK K
refine norm_ (a' := _) (show Act.put _ (some 55) _ = _ from na) ?_
refine pu_ 12 56 (bm 14 8191) HT_.out ?_
refine last_ (i := 13) (N := none) (bm 14 16383) rfl rfl (one_of HT_.out (by kernel_rfl)) (by decide) (fun K hK => ?_)
have dD : dn.cell? ⟨aD, 1, none⟩ = some (ai) := (blk_cell a9.out 1).trans rfl
have dB := blk_frozen a9.out 1
have cV := az.out
have cW := aH.out
have cR := aA.out
have cS := aC.out
refine skip_ (w1 := ?_) (by rfl) rfl ?_ ?_
rotate_left
·(
go_simp
rfl
)
refine hK.out _ _ ?_
clear hK K
refine done_ (done_of HT_.out (by kernel_rfl)) ?_
try go_wp2
go_roundg k1
case measure => have := bG.out; omega
case rel => exact ⟨(wrap64 (af + 1)), (bF), (.slice cE bF.length cJ), sd, H', ⟨by have := bG.out; omega⟩, ⟨tS1 bI a9⟩, ⟨rk aa⟩, ⟨rk ac⟩, ⟨rk a9⟩, ⟨rb HB⟩⟩
)
)
)
·(
rw [if_neg bh] at H
have cw : decide (af < (wrap64 (aq + a2))) = false := decide_eq_false bh
clear bh
simp only [Option.some.injEq, Prod.mk.injEq] at H
obtain ⟨rfl, rfl⟩ := H
have dJ := nN aA
have dK := nN aC
have dV := z2 a9
have dL := nN br
have dW := z2 ac
obtain ⟨cF, cK, cM⟩ := Kd.S_slice a8.out
subst cM
go_wp2
refine bodyPost_ret (results_cell_row rfl _ _ bM 58 #[.int .i64 a1, .slice cF ae.length cK] (0, 0) _ rfl (rk ac) Try.underlying58 rfl (by kernel_rfl)) rfl ?_
exact ⟨_, ew, tS1 a8 ac, rb HB⟩
)
)
)
)

end Go.Proofs.Ytalopdcephohgaa.RD
