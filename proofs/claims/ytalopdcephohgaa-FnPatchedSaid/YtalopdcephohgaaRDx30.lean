/- Contracts of Go functions that laws of this seat reach: each Lean function answers as its Go function does. No condition. Written by wip/tools/inj.py, over the kit's print. -/
import Derived.Test.YtalopdcephohgaaRDx0
import Derived.Test.YtalopdcephohgaaRDx5
import Derived.Test.YtalopdcephohgaaRDx24
import Derived.Test.YtalopdcephohgaaRDx25
import Derived.Test.YtalopdcephohgaaRDx28
namespace Go.Proofs.Ytalopdcephohgaa.RD
open Go.RowKit Go.Proofs.YtalopdcephohgaaW.PrintWords Go.Proofs.YtalopdcephohgaaW.PrintLast Go.Proofs.YtalopdcephohgaaW.PrintMore
attribute [local go_sem] max2_int min2_int max_two min_two max_three min_three max_four min_four   -- for this text's walks alone
set_option linter.unusedVariables false
set_option linter.unusedSimpArgs false

/-! ### spec_l5Copy: function 112 -/
def spec_l5Copy.l0 : Nat → Int → Int → List (List (S98)) → Int → List (List (S98)) → Option (Int × (List (List (S98))))
 | 0, _, _, _, _, _ => none
 | k + 1, x4, ac, a8, aa, a9 => if x4 < (a8.length : Int) then ((some (([] : List (S98)) : List (S98))).bind fun ae => (if 0 ≤ x4 then (if ae.length + (rd_L5 a8 x4).length < 3518437208883 then (if a9.length < 5864062014805 then (spec_l5Copy.l0 k (wrap64 (x4 + 1)) ac a8 aa (a9 ++ [(ae ++ (rd_L5 a8 x4))])) else (none)) else (none)) else (none))) else (some (aa, a9))
def spec_l5Copy.f (k : Nat) (a8 : Int) (a9 : List (List (S98))) : Option (Int × (List (List (S98)))) := spec_l5Copy.l0 k 0 a8 a9 a8 ([] : List (List (S98)))
theorem spec_l5Copy.mono_l : ∀ k, (∀ y0 y1 y2 y3 y4, LeO (spec_l5Copy.l0 k y0 y1 y2 y3 y4) (spec_l5Copy.l0 (k + 1) y0 y1 y2 y3 y4))
 | 0 => fun _ _ _ _ _ r h => by simp [spec_l5Copy.l0] at h
 | k + 1 => by
  have ih0 := spec_l5Copy.mono_l k
  ·intro y0 y1 y2 y3 y4
   unfold spec_l5Copy.l0
   repeat' first
   | (with_reducible exact ih0 _ _ _ _ _)
   | (with_reducible exact LeO.refl _)
   | (with_reducible exact LeO.none _)
   | (with_reducible refine LeO.ite ?_ ?_)
   | (with_reducible refine LeO.bind ?_ (fun _ => ?_))
theorem spec_l5Copy.mono : ∀ a0 a1 k, LeO (spec_l5Copy.f k a0 a1) (spec_l5Copy.f (k + 1) a0 a1) := by
 intro a0 a1 k
 have ih0 := spec_l5Copy.mono_l k
 unfold spec_l5Copy.f
 repeat' first
   | (with_reducible exact ih0 _ _ _ _ _)
   | (with_reducible exact LeO.refl _)
   | (with_reducible exact LeO.none _)
   | (with_reducible refine LeO.ite ?_ ?_)
   | (with_reducible refine LeO.bind ?_ (fun _ => ?_))
def spec_l5Copy.T5 : Bool × List (List Nat × List Nat) := (true, [([], []), ([0], [0]), ([], []), ([], []), ([3], [3]), ([], []), ([4, 5], [4, 5]), ([6], [6]), ([2, 7], [2, 7]), ([8], [8]), ([1, 9, 8], [1, 9]), ([0, 1, 2, 3, 4, 5, 6, 7, 8, 9, 10], []), ([11, 10, 10, 0, 1, 2, 3, 4, 5, 6, 7, 8, 9, 10], [10, 11])])
def spec_l5Copy.B5 : List Nat := [0, 1, 0, 0, 8, 0, 56, 120, 252, 508, 1023, 2047, 4095]
theorem spec_l5Copy.tab5 : rtab .any (opsOf Try.f112 5) = spec_l5Copy.T5 := by kernel_rfl
theorem spec_l5Copy.bits5 : waitsOk spec_l5Copy.T5.2 spec_l5Copy.B5 = true := by kernel_rfl
set_option maxHeartbeats 8000000 in
set_option maxRecDepth 100000 in
theorem spec_l5Copy.calls (k : Nat) (ah : Int) (aN : Option Addr) (aE : Nat) (af : List (List (S98))) (r1 : Int) (r2 : List (List (S98))) (w : World) (b8 : Kd.C (Kd.slice 98 k98) w aN af.length af) (b7 : af.length ≤ aE) (h : spec_l5Copy.f k ah af = some (r1, r2)) :
  Calls Try.prog 112 #[.agg #[.int .i64 ah, .slice aN af.length aE]] w fun e w' => ∃ v1_ : Value, e = .returned (.agg #[.int .i64 r1, v1_]) ∧ Kd.S (Kd.slice 98 k98) 99 w' w.heap.size (fun _ => True) v1_ r2 ∧ Below w.heap.size w w' := by
 (
have bX := Try.underlying58
have bl := am b8
have bT := am b7
clear b8 b7
have HB := am (Below.refl w.heap.size w)
have H : (spec_l5Copy.l0 k 0 ah af ah ([] : List (List (S98)))) = some (r1, r2) := h
clear h
have H' := am H
clear H
go_enter Try.func112, Try.ntmps112
go_wp2_with (first | (refine bx 1 #[.int .i64 ah, .slice aN af.length aE] 58 ?_; intro aQ hg w2 hbox hb; have a8 := am (hbox); have bh := am (gw hg (rb HB)); have bQ := bh; replace HB := bs HB hb; clear hb hbox hg) | (refine bx 2 #[.int .i64 0, .slice none 0 0] 58 ?_; intro b6 hg w3 hbox hb; have ae := am (hbox); have bi := am (gw hg (rb HB)); have bR := bi; replace HB := bs HB hb; have ak := am (nl hg (rk a8)); have br := ns ak; replace a8 := kk a8 hb; clear hb hbox hg; have cn := nN ak; have bt := z2 a8) | (refine bx 3 #[.int .i64 0, .slice none 0 0] 58 ?_; intro az hg w6 hbox hb; have aa := am (hbox); have bj := am (gw hg (rb HB)); have bS := bj; replace HB := bs HB hb; have al := am (nl hg (rk a8)); have ax := ns al; replace a8 := kk a8 hb; have av := am (nl hg (rk ae)); have ao := ns av; replace ae := kk ae hb; clear hb hbox hg; have co := nN ax; have cp := nN ao; have bu := z2 aa))
go_loopg [4] k (fun kq v4 w' => ∃ (ag : Int) (ac : List (List (S98))) (ai : Value), v4 = .int .i64 ag ∧ Aside0 (spec_l5Copy.l0 kq ag ah af ah ac = some (r1, r2)) ∧ Aside0 (kq ≤ k) ∧ Aside0 (Kd.S (Kd.slice 98 k98) 99 w' w.heap.size (fun _ => True) ai ac) ∧ Aside0 (w'.heap[aQ]? = some (.cells #[.int .i64 ah, (.slice aN af.length aE)] 58 (0, 0))) ∧ Aside0 (w'.heap[b6]? = some (.cells #[.int .i64 0, (.slice none 0 0)] 58 (0, 0))) ∧ Aside0 (w'.heap[az]? = some (.cells #[.int .i64 ah, ai] 58 (0, 0))) ∧ Aside0 (Below w.heap.size w w'))
case atStart => exact ⟨(0), (([] : List (List (S98)))), (.slice none 0 0), sd, H', ⟨Nat.le_refl _⟩, ⟨xn⟩, ⟨rk a8⟩, ⟨rk ae⟩, ⟨rk aa⟩, ⟨rb HB⟩⟩
case round => (
clear H'
try clear bt
try clear bu
try clear bt
try clear bu
obtain ⟨ag, ac, ai, rfl, HA, bq, a9, a8, ae, aa, HB⟩ := hrel
cases gk with
| zero => exact absurd HA.out (by simp [spec_l5Copy.l0])
| succ k1 => (
have H := HA.out
clear HA
simp only [spec_l5Copy.l0] at H
by_cases aJ : ag < (af.length : Int)
·(
rw [if_pos aJ] at H
have bp : decide (ag < (af.length : Int)) = true := decide_eq_true aJ
clear aJ
obtain ⟨aG, aA⟩ : ∃ y_ : List (S98), y_ = (([] : List (S98))) := ⟨_, rfl⟩
replace H : (if 0 ≤ ag then (if aG.length + (rd_L5 af ag).length < 3518437208883 then (if ac.length < 5864062014805 then (spec_l5Copy.l0 k1 (wrap64 (ag + 1)) ah af ah (ac ++ [(aG ++ (rd_L5 af ag))])) else (none)) else (none)) else (none)) = some (r1, r2) := by first | (rw [aA]; with_reducible exact H) | (rw [aA]; exact H) | exact H
have b4 := am aA
clear aA
refine em_ (p := 0 ≤ ag) (fun aT => ?bO) (fun aT => ?bN)
case' bO => (
rw [if_pos aT] at H
have bU : decide (0 ≤ ag) = true := decide_eq_true aT
clear aT
refine em_ (p := aG.length + (rd_L5 af ag).length < 3518437208883) (fun aU => ?bM) (fun aU => ?bL)
case' bM => (
rw [if_pos aU] at H
have LMc12 := am aU
clear aU
obtain ⟨aH, aC⟩ : ∃ y_ : List (S98), y_ = (aG ++ (rd_L5 af ag)) := ⟨_, rfl⟩
replace H : (if ac.length < 5864062014805 then (spec_l5Copy.l0 k1 (wrap64 (ag + 1)) ah af ah (ac ++ [aH])) else (none)) = some (r1, r2) := by first | (rw [aC]; with_reducible exact H) | (rw [aC]; exact H) | exact H
have bn := am aC
clear aC
refine em_ (p := ac.length < 5864062014805) (fun aV => ?bK) (fun aV => ?bJ)
case' bK => (
rw [if_pos aV] at H
have LMc13 := am aV
clear aV
obtain ⟨aY, aD⟩ : ∃ y_ : List (List (S98)), y_ = (ac ++ [aH]) := ⟨_, rfl⟩
replace H : (spec_l5Copy.l0 k1 (wrap64 (ag + 1)) ah af ah aY) = some (r1, r2) := by first | (rw [aD]; with_reducible exact H) | (rw [aD]; exact H) | exact H
have bo := am aD
clear aD
have H' := am H
clear H
have bY := trivial
)
case bJ => (
rw [if_neg aV] at H
exact absurd H (by simp)
)
)
case bL => (
rw [if_neg aU] at H
exact absurd H (by simp)
)
)
case bN => (
rw [if_neg aT] at H
exact absurd H (by simp)
)
all_goals (
have bZ := nN ak
have ca := nN al
have cj := z2 a8
try go_wp2
replace a9 := am (Kd.S_drew a9.out)
replace a8 := am (blk_drew a8.out)
replace ae := am (blk_drew ae.out)
replace aa := am (blk_drew aa.out)
replace HB := am (below_drew1 HB.out)
have aW : 0 ≤ (ag : Int) := dt_
have aX : ag < (af.length : Int) := dt_
obtain ⟨b5, b9, bb, bB, ap, aM, aK⟩ := at_L5 bl.out ag aW aX
have aj := ap
cases bB
replace ap := mv HB.out ap
have aI := am aK
have bE := am aM
clear aK aM
replace aW := eq_true aW
replace aX := eq_true aX
refine start_ (n := 13) (S := fun w' => w'.cell? ⟨az, 0, none⟩ = some (.int .i64 ah) ∧ w'.cell? ⟨az, 1, none⟩ = some (ai) ∧ w'.cell? ⟨aQ, 0, none⟩ = some (.int .i64 ah) ∧ w'.cell? ⟨aQ, 1, none⟩ = some (.slice (some b5) af.length aE) ∧ w'.cell? (b5.add (ag).toNat) = some (.slice b9 (rd_L5 af ag).length bb)) (ds := [12]) (bm 13 0) (by kernel_rfl) rfl rfl ⟨(blk_cell aa.out 0).trans rfl, (blk_cell aa.out 1).trans rfl, (blk_cell a8.out 0).trans rfl, (blk_cell a8.out 1).trans rfl, (mv HB.out aj)⟩ (fun hHeld => ?_); refine with_tabW spec_l5Copy.tab5 spec_l5Copy.bits5 (fun HT_ HW_ => ?_)
generalize wr.drew = cq at a9 a8 ae aa HB aI ap hHeld ⊢
refine pu_ 0 15 (bm 13 1) HT_.out ?_
refine pu_ 3 18 (bm 13 9) HT_.out ?_
refine pu_ 5 20 (bm 13 41) HT_.out ?_
refine tk 1 16 (bm 13 43) HT_ HW_ hHeld ?_
refine tk 4 19 (bm 13 59) HT_ HW_ hHeld ?_
refine pu_ 6 21 (bm 13 123) HT_.out ?_
refine tk 7 22 (bm 13 251) HT_ HW_ hHeld ?_
refine o1 2 17 (bm 13 255) HT_ (fun K hK => ?_)
refine Kd.R_lit_step k98 _ 98 ?hg (N := 17) ?hd (xs := ([] : List (S98))) (inner := []) (ok := fun _ => True) (okp := fun _ => True) ?hr ?hp (fun _ hk => hk) trivial (Below.refl _ _) (Nat.le_refl _) (by simp) ?_; (case hd => rfl); (case hg => rfl); (case hr => first | (go_simp; done) | (go_simp; rfl)); (case hp => exact (Reps.none _ _))
intro bD ct au hb hg_ hnew_
clear hg_ hnew_
(first | rw [← b4.out] at au | (simp only [Int.reduceToNat] at au; rw [← b4.out] at au))
replace a9 := am (Kd.S_elder' (rs a9) (Kd.R_base au) hb)
have aq := am (Kd.R_lower au (below_size (rb HB)))
replace a8 := kk a8 hb
replace ae := kk ae hb
replace aa := kk aa hb
replace HB := bs HB hb
clear hb au
refine hK.out _ _ ⟨(blk_cell aa.out 0).trans rfl, (blk_cell aa.out 1).trans rfl, (blk_cell a8.out 0).trans rfl, (blk_cell a8.out 1).trans rfl, (mv HB.out aj)⟩ (fun hHeld => ?_)
clear hK K
refine norm_ (a' := _) (show Act.put _ (some 17) _ = _ from na) ?_
refine o1 8 23 (bm 13 511) HT_ (fun K hK => ?_)
refine Kd.R_append_rows_step k98 (w0 := w) w.heap.size (by rfl) (.tmp 17) (.tmp 22) 99 98 (.agg #[(.int .i64 0), (.int .i64 0), (.int .i64 0), (.bool false), (.bool false), (.bool false), (.int .i64 0)]) 40 rfl Try.underlying99 info98 rfl (by decide) (by omega) bD aG (rd_L5 af ag) _ _ _ (fun _ => True) (fun _ => False) rfl rfl ?aO ?aR (fun _ _ h => h) (fun _ h => h.elim) ?aF ?aB ?aS ?aL ?_
(case aR => repeat (first | exact (Kd.C_below aI.out HB.out) | (with_reducible refine Kd.C_alloc ?_ _) | (with_reducible refine Kd.C_drewN ?_ _) | (with_reducible refine Kd.C_drew ?_)))
(case aB => exact (rb HB))
(case aF => exact (fun _ _ => trivial))
(case aO => exact (rr aq))
(case aS => exact (below_size (rb HB)))
(case aL => have := LMc12.out; omega)
intro cf cu ho hb hg hat
rw [← bn.out] at ho
replace a9 := am (Kd.S_after (ok := (fun _ => True)) (rs a9) hg hat)
replace a8 := am (blk_grown (rk a8) hg (Kd.R_ne aq.out a8.out (by decide)))
replace ae := am (blk_grown (rk ae) hg (Kd.R_ne aq.out ae.out (by decide)))
replace aa := am (blk_grown (rk aa) hg (Kd.R_ne aq.out aa.out (by decide)))
replace HB := am (hb)
have ay := am (ho)
clear aq
clear ho hb hg hat
obtain ⟨ba, bc, bf⟩ := Kd.R_slice ay.out
(first | subst bf | (injection bf with f1_ f2_ f3_; have f4_ := f1_.symm; have f5_ := f3_.symm; clear f1_ f2_ f3_; subst f4_; subst f5_))
refine hK.out _ _ ⟨(blk_cell aa.out 0).trans rfl, (blk_cell aa.out 1).trans rfl, (blk_cell a8.out 0).trans rfl, (blk_cell a8.out 1).trans rfl, (mv HB.out aj)⟩ (fun hHeld => ?_)
clear hK K
refine norm_ (a' := _) (show Act.put _ (some 23) _ = _ from na) ?_
refine o1 9 24 (bm 13 1023) HT_ (fun K hK => ?_)
refine value_ (w1 := ?_) (v := ?_) (by rfl) rfl ?_ ?_
rotate_left 2
·(
go_simp
constructor
·rfl
·rfl
)
refine hK.out _ _ ⟨(blk_cell (blk_alloc aa.out _) 0).trans rfl, (blk_cell (blk_alloc aa.out _) 1).trans rfl, (blk_cell (blk_alloc a8.out _) 0).trans rfl, (blk_cell (blk_alloc a8.out _) 1).trans rfl, (World.cell?_alloc_lt _ _ _ (World.block_lt_of_cell? _ _ ((mv HB.out aj)))).trans ((mv HB.out aj))⟩ (fun hHeld => ?_)
clear hK K
refine norm_ (a' := _) (show Act.put _ (some 24) _ = _ from na) ?_
refine o1 10 25 (bm 13 2047) HT_ (fun K hK => ?_)
refine Kd.S_append_step (Kd.slice 98 k98) (w0 := w) w.heap.size (by rfl) (.tmp 16) (.tmp 24) 56 99 (.slice none 0 0) 24 rfl Try.underlying56 info99 rfl (by decide) (by omega) ai ac aH [.slice ba aH.length bc] (fun _ => True) (fun k_ => some k_ = (.slice ba aH.length bc : Value).ownBlock) rfl rfl ?aP (fun k_ hk_ => ((Kd.R_mono (ok' := fun k_ => ((fun _ => True)) k_ ∧ some k_ ≠ (ai : Value).ownBlock) (Kd.R_apart' (ay.out) (Kd.S_typed a9.out) (by decide)) (fun k_ hk => ⟨trivial, hk.2⟩))).1 k_ hk_.symm) ?aF ?aO ?aB ?aS ?aL ?_
(case aP => exact Kd.M_row (Kd.R_mono (Kd.R_tight rfl (Kd.R_mono (ok' := fun k_ => ((fun _ => True)) k_ ∧ some k_ ≠ (ai : Value).ownBlock) (Kd.R_apart' (ay.out) (Kd.S_typed a9.out) (by decide)) (fun k_ hk => ⟨trivial, hk.2⟩))) (fun _ h_ => h_)))
(case aB => exact (rb HB))
(case aF => exact (fun _ _ => trivial))
(case aO => exact (by (with_reducible repeat (first | apply Kd.S_alloc | apply Kd.S_drewN | apply Kd.S_drew)); exact Kd.S_mono a9.out (fun k_ hk => ⟨trivial, fun e_ => hk.2 e_⟩)))
(case aS => exact (below_size (rb HB)))
(case aL => have := LMc13.out; omega)
intro ch bP ho hb hg hat
rw [← bo.out] at ho
replace a8 := am (blk_grown (rk a8) hg (Kd.S_ne a9.out a8.out (by decide)))
replace ae := am (blk_grown (rk ae) hg (Kd.S_ne a9.out ae.out (by decide)))
replace aa := am (blk_grown (rk aa) hg (Kd.S_ne a9.out aa.out (by decide)))
replace HB := am (hb)
have aZ := am (ho)
clear a9 ay
clear ho hb hg hat
obtain ⟨bv, bz, bg⟩ := Kd.S_slice aZ.out
(first | subst bg | (injection bg with f1_ f2_ f3_; have f4_ := f1_.symm; have f5_ := f3_.symm; clear f1_ f2_ f3_; subst f4_; subst f5_))
refine hK.out _ _ ⟨(blk_cell aa.out 0).trans rfl, (blk_cell aa.out 1).trans rfl, (blk_cell a8.out 0).trans rfl, (blk_cell a8.out 1).trans rfl, (mv HB.out aj)⟩ (fun hHeld => ?_)
clear hK K
refine norm_ (a' := _) (show Act.put _ (some 25) _ = _ from na) ?_
refine pu_ 11 26 (bm 13 4095) HT_.out ?_
refine last_ (i := 12) (N := none) (bm 13 8191) rfl rfl (one_of HT_.out (by kernel_rfl)) (by decide) (fun K hK => ?_)
have bW : bP.cell? ⟨az, 1, none⟩ = some (ai) := (blk_cell aa.out 1).trans rfl
have bV := blk_frozen aa.out 1
have bH := al.out
have bI := av.out
have bF := ax.out
have bG := ao.out
refine skip_ (w1 := ?_) (by rfl) rfl ?_ ?_
rotate_left
·(
go_simp
rfl
)
refine hK.out _ _ ?_
clear hK K
refine done_ (done_of HT_.out (by kernel_rfl)) ?_
try go_wp2
go_roundg k1
case measure => have := bq.out; omega
case rel => exact ⟨(wrap64 (ag + 1)), (aY), (.slice bv aY.length bz), sd, H', ⟨by have := bq.out; omega⟩, ⟨tS1 aZ aa⟩, ⟨rk a8⟩, ⟨rk ae⟩, ⟨rk aa⟩, ⟨rb HB⟩⟩
)
)
·(
rw [if_neg aJ] at H
have bp : decide (ag < (af.length : Int)) = false := decide_eq_false aJ
clear aJ
simp only [Option.some.injEq, Prod.mk.injEq] at H
obtain ⟨rfl, rfl⟩ := H
have cb := nN ak
have cd := nN al
have ck := z2 a8
have ce := nN ao
have cl := z2 aa
have cm := z2 ae
obtain ⟨bw, bA, bC⟩ := Kd.S_slice a9.out
subst bC
go_wp2
refine bodyPost_ret (results_cell_row rfl _ _ b6 58 #[.int .i64 ah, .slice bw ac.length bA] (0, 0) _ rfl (rk ae) Try.underlying58 rfl (by kernel_rfl)) rfl ?_
exact ⟨_, ew, tS1 a9 ae, rb HB⟩
)
)
)
)

end Go.Proofs.Ytalopdcephohgaa.RD

namespace Go.Proofs.Ytalopdcephohgaa.RD
open Go.RowKit Go.Proofs.YtalopdcephohgaaW.PrintWords Go.Proofs.YtalopdcephohgaaW.PrintLast Go.Proofs.YtalopdcephohgaaW.PrintMore
attribute [local go_sem] max2_int min2_int max_two min_two max_three min_three max_four min_four   -- for this text's walks alone
set_option linter.unusedVariables false
set_option linter.unusedSimpArgs false

/-! ### spec_l10DrawTwo: function 83 -/
def spec_l10DrawTwo.j0 : Nat → Bool → List Int → Int → Int → Int → List (List (S98)) → Int → List (List (S98)) → Option (Int × (List (List (S98))) × Int × (List (List (S98))) × Int × Int)
 | 0, _, _, _, _, _, _, _, _ => none
 | k + 1, ak, af, ag, ah, aa, ac, ai, aj => if ak = true then ((spec_l5Copy.f k aa ac).bind fun a8 => ((spec_l1Below.f af ag ah (a8.2.length : Int)).bind fun a9 => ((spec_l4Draw.f k af a9.2.1 a9.2.2 a8.1).bind fun ae => (if 0 ≤ a9.1 then (if a9.1 < (a8.2.length : Int) then (some (aa, ac, a8.1, (a8.2.set (a9.1 : Int).toNat ae.1), ae.2.1, ae.2.2)) else (none)) else (none))))) else (some (aa, ac, ai, aj, ag, ah))
def spec_l10DrawTwo.f (k : Nat) (ac : List Int) (ae : Int) (af : Int) : Option (Int × (List (List (S98))) × Int × (List (List (S98))) × Int × Int) := (spec_l5DrawAny.f k ac ae af).bind fun a8 => ((spec_l5DrawAny.f k ac a8.2.2.1 a8.2.2.2).bind fun a9 => ((spec_l1Once.f ac a9.2.2.1 a9.2.2.2 2).bind fun aa => (if aa.1 = true then ((spec_GridOk.f k a8.1 a8.2.1).bind fun ag => (spec_l10DrawTwo.j0 k ag ac aa.2.1 aa.2.2 a8.1 a8.2.1 a9.1 a9.2.1)) else (spec_l10DrawTwo.j0 k false ac aa.2.1 aa.2.2 a8.1 a8.2.1 a9.1 a9.2.1))))
theorem spec_l10DrawTwo.mono_l : ∀ k, (∀ y0 y1 y2 y3 y4 y5 y6 y7, LeO (spec_l10DrawTwo.j0 k y0 y1 y2 y3 y4 y5 y6 y7) (spec_l10DrawTwo.j0 (k + 1) y0 y1 y2 y3 y4 y5 y6 y7))
 | 0 => fun _ _ _ _ _ _ _ _ r h => by simp [spec_l10DrawTwo.j0] at h
 | k + 1 => by
  have ih0 := spec_l10DrawTwo.mono_l k
  ·intro y0 y1 y2 y3 y4 y5 y6 y7
   unfold spec_l10DrawTwo.j0
   repeat' first
   | (with_reducible exact ih0 _ _ _ _ _ _ _ _)
   | (with_reducible exact spec_GridOk.mono _ _ _)
   | (with_reducible exact spec_l4Draw.mono _ _ _ _ _)
   | (with_reducible exact spec_l5Copy.mono _ _ _)
   | (with_reducible exact spec_l5DrawAny.mono _ _ _ _)
   | (with_reducible exact LeO.refl _)
   | (with_reducible exact LeO.none _)
   | (with_reducible refine LeO.ite ?_ ?_)
   | (with_reducible refine LeO.bind ?_ (fun _ => ?_))
theorem spec_l10DrawTwo.mono : ∀ a0 a1 a2 k, LeO (spec_l10DrawTwo.f k a0 a1 a2) (spec_l10DrawTwo.f (k + 1) a0 a1 a2) := by
 intro a0 a1 a2 k
 have ih0 := spec_l10DrawTwo.mono_l k
 unfold spec_l10DrawTwo.f
 repeat' first
   | (with_reducible exact ih0 _ _ _ _ _ _ _ _)
   | (with_reducible exact spec_GridOk.mono _ _ _)
   | (with_reducible exact spec_l4Draw.mono _ _ _ _ _)
   | (with_reducible exact spec_l5Copy.mono _ _ _)
   | (with_reducible exact spec_l5DrawAny.mono _ _ _ _)
   | (with_reducible exact LeO.refl _)
   | (with_reducible exact LeO.none _)
   | (with_reducible refine LeO.ite ?_ ?_)
   | (with_reducible refine LeO.bind ?_ (fun _ => ?_))
def spec_l10DrawTwo.T6 : Bool × List (List Nat × List Nat) := (true, [([], []), ([0], [0]), ([], []), ([], []), ([], []), ([4], [4]), ([3, 5], [3, 5]), ([1, 2, 0, 1, 2, 3, 4, 5, 6], [1, 2]), ([7, 6, 6, 0, 1, 2, 3, 4, 5, 6], [6, 7])])
def spec_l10DrawTwo.B6 : List Nat := [0, 1, 0, 0, 0, 16, 56, 127, 255]
theorem spec_l10DrawTwo.tab6 : rtab .any (opsOf Try.f83 6) = spec_l10DrawTwo.T6 := by kernel_rfl
theorem spec_l10DrawTwo.bits6 : waitsOk spec_l10DrawTwo.T6.2 spec_l10DrawTwo.B6 = true := by kernel_rfl
set_option maxHeartbeats 8000000 in
set_option maxRecDepth 100000 in
theorem spec_l10DrawTwo.calls (k : Nat) (g : Nat) (aT : List Int) (bj : Int) (bl : Int) (r1 : Int) (r2 : List (List (S98))) (r3 : Int) (r4 : List (List (S98))) (r5 : Int) (r6 : Int) (w0 w : World) (hI : IsS118 w0 w g aT bj bl) (hB : Below w0.heap.size w0 w) (h : spec_l10DrawTwo.f k aT bj bl = some (r1, r2, r3, r4, r5, r6)) :
  Calls Try.prog 83 #[.pointer (some ⟨g, 0, none⟩)] w fun e w' => ∃ v1_ v3_ : Value, e = .returned (.tuple #[.agg #[.int .i64 r1, v1_], .agg #[.int .i64 r3, v3_]]) ∧ Kd.V (Kd.slice 98 k98) 99 w' w.heap.size (fun k_ => (w.heap.size ≤ k_)) v1_ r2 ∧ Kd.V (Kd.slice 98 k98) 99 w' w.heap.size (fun k_ => (w.heap.size ≤ k_)) v3_ r4 ∧ IsS118 w0 w' g aT r5 r6 ∧ Below w0.heap.size w0 w' ∧ KeepBut w w' g none := by
 (
have ek := Try.underlying58
have ak := am hI
have HK := am (KeepBut.refl w g none)
have HL := am hB.size
clear hI
have bt := am hB.size
have HB := am hB
clear hB
have H := h
unfold spec_l10DrawTwo.f at H
clear h
obtain ⟨⟨aN, av, bQ, bR⟩, A2, H⟩ := bd H
(try dsimp only at H)
obtain ⟨⟨b7, aD, bn, bo⟩, A3, H⟩ := bd H
(try dsimp only at H)
have bI := am H
clear H
go_enter Try.func83, Try.ntmps83
go_upto_region 3 with (first | (refine bx 2 #[.int .i64 0, .slice none 0 0] 58 ?_; intro aa hg w5 hbox hb; replace HB := bsi HB hb; have a8 := am (hbox); have dI := am (gk hg HK); have dE := am ((Nat.le_trans bt.out (gk hg HK) : w0.heap.size ≤ aa)); replace HK := kb HK hb; have bE := am (il118 hg ak); have cn := ns bE; replace ak := am (IsS118.below (ri118 ak) hb); clear hb hbox hg) | (refine bx 3 #[.int .i64 0, .slice none 0 0] 58 ?_; intro ac hg w6 hbox hb; replace HB := bsi HB hb; have a9 := am (hbox); have dJ := am (gk hg HK); have dF := am ((Nat.le_trans bt.out (gk hg HK) : w0.heap.size ≤ ac)); replace HK := kb HK hb; have aE := am (nl hg (rk a8)); have aF := ns aE; replace a8 := kk a8 hb; have bF := am (il118 hg ak); have co := ns bF; replace ak := am (IsS118.below (ri118 ak) hb); clear hb hbox hg) | ((with_reducible refine cg 84 rfl ?_); refine gl_ (some 8) Try.func84 #[.pointer (some ⟨g, 0, none⟩)] ?_; (with_reducible refine (spec_l5DrawAny.calls k g aT bj bl aN av bQ bR w0 _ ?side1 ?side2 A2.out).mono ?_); (case side1 => exact ri118 ak); (case side2 => exact rbi HB); rintro e w7 ⟨eI, rfl, aS, hi, hb, hk⟩; refine ⟨_, rfl, ?_⟩; have aC := am (Kd.N_lower (Kd.N_mono (ok' := fun k_ => (w.heap.size ≤ k_) ∧ k_ ≠ aa ∧ k_ ≠ ac ∧ k_ ≠ g) aS (fun k_ hk_ => ⟨(Nat.le_trans (ks HK) hk_), (Kd.freshB (rk a8) k_ hk_), (Kd.freshB (rk a9) k_ hk_), (IsS118.fresh (ri118 ak) k_ hk_)⟩)) (ks HK)); replace a8 := kh a8 hk; replace a9 := kh a9 hk; replace HK := kt HK hk; replace HB := am (hb); replace ak := am (hi); (try clear hb); (try clear b9); (try clear hk); (try clear hi); (try clear aS)) | (refine bx 4 #[.int .i64 0, .slice none 0 0] 58 ?_; intro ai hg w8 hbox hb; replace aC := am (Kd.N_below (Kd.N_elderB (qN_ aC) ai (Nat.le_of_eq hg.symm)) hb); replace HB := bsi HB hb; have af := am (hbox); have dK := am (gk hg HK); have dG := am ((Nat.le_trans bt.out (gk hg HK) : w0.heap.size ≤ ai)); replace HK := kb HK hb; have aO := am (nl hg (rk a8)); have al := ns aO; replace a8 := kk a8 hb; have aQ := am (nl hg (rk a9)); have ao := ns aQ; replace a9 := kk a9 hb; have bG := am (il118 hg ak); have aZ := ns bG; replace ak := am (IsS118.below (ri118 ak) hb); clear hb hbox hg; have eQ := nN al; have eo := nN ao; have ep := nN aZ; have bW := z2 af; obtain ⟨az, aA, cj⟩ := Kd.N_slice aC.out; subst cj) | ((with_reducible refine cg 84 rfl ?_); refine gl_ (some 10) Try.func84 #[.pointer (some ⟨g, 0, none⟩)] ?_; (with_reducible refine (spec_l5DrawAny.calls k g aT bQ bR b7 aD bn bo w0 _ ?side1 ?side2 A3.out).mono ?_); (case side1 => exact ri118 ak); (case side2 => exact rbi HB); rintro e eR ⟨eJ, rfl, aS, hi, hb, hk⟩; refine ⟨_, rfl, ?_⟩; have aL := am (Kd.N_lower (Kd.N_mono (ok' := fun k_ => (w.heap.size ≤ k_) ∧ some k_ ≠ (.slice az av.length aA : Value).ownBlock ∧ k_ ≠ aa ∧ k_ ≠ ac ∧ k_ ≠ ai ∧ k_ ≠ g) aS (fun k_ hk_ => ⟨(Nat.le_trans (ks HK) hk_), (Kd.fresh' (Kd.N_lt (rN_ aC)) k_ hk_), (Kd.freshB (g := aa) (o := .cells #[.int .i64 0, .slice none 0 0] 58 (0, 0)) (rk a8) k_ hk_), (Kd.freshB (g := ac) (o := .cells #[.int .i64 0, .slice none 0 0] 58 (0, 0)) (rk a9) k_ hk_), (Kd.freshB (g := ai) (o := .cells #[.int .i64 aN, .slice az av.length aA] 58 (0, 0)) (rk af) k_ hk_), (IsS118.fresh (ri118 ak) k_ hk_)⟩)) (ks HK)); replace a8 := kh a8 hk; replace a9 := kh a9 hk; replace aC := am (Kd.N_mono (Kd.N_told (Kd.N_oldK (Kd.N_mono (ok := fun k_ => ((((w.heap.size ≤ k_)) ∧ (k_ ≠ aa ∧ (k_ ≠ ac ∧ k_ ≠ g))) ∧ k_ ≠ ai)) (rN_ aC) (fun k_ hk_ => (⟨hk_, hk_.1.2.2.2⟩ : _ ∧ k_ ≠ g))) hk) (Kd.N_base aS)) (fun _ h_ => h_.1)); replace af := kh af hk; replace HK := kt HK hk; replace HB := am (hb); replace ak := am (hi); (try clear hb); (try clear b9); (try clear hk); (try clear hi); (try clear aS)) | (refine bx 5 #[.int .i64 0, .slice none 0 0] 58 ?_; intro aj hg eS hbox hb; replace aC := am (Kd.N_below (Kd.N_elderB (qN_ aC) aj (Nat.le_of_eq hg.symm)) hb); replace aL := am (Kd.N_below (Kd.N_elderB (qN_ aL) aj (Nat.le_of_eq hg.symm)) hb); replace HB := bsi HB hb; have ah := am (hbox); have dL := am (gk hg HK); have dH := am ((Nat.le_trans bt.out (gk hg HK) : w0.heap.size ≤ aj)); replace HK := kb HK hb; have aP := am (nl hg (rk a8)); have ap := ns aP; replace a8 := kk a8 hb; have aR := am (nl hg (rk a9)); have aq := ns aR; replace a9 := kk a9 hb; have aU := am (nl hg (rk af)); have bg := ns aU; replace af := kk af hb; have bH := am (il118 hg ak); have b8 := ns bH; replace ak := am (IsS118.below (ri118 ak) hb); clear hb hbox hg; have er := nN ap; have es := nN aq; have eu := nN bg; have ev := nN b8; have bX := z2 ah; obtain ⟨aI, aJ, ck⟩ := Kd.N_slice aL.out; subst ck))
(try simp only [Act.put, List.setIfInBounds_toArray, List.set_cons_zero, List.set_cons_succ])
go_cut [16] (fun dB wc => ∃ (kq : Nat) (b5 : Bool) (aX : Int) (aY : Int), dB = .bool b5 ∧ Aside0 (spec_l10DrawTwo.j0 kq b5 aT aX aY aN av b7 aD = some (r1, r2, r3, r4, r5, r6)) ∧ Aside0 (kq ≤ k) ∧ Aside0 (Kd.N (Kd.slice 98 k98) 99 wc w.heap.size (fun k_ => (w.heap.size ≤ k_) ∧ some k_ ≠ ((.slice aI aD.length aJ) : Value).ownBlock ∧ k_ ≠ aa ∧ k_ ≠ ac ∧ k_ ≠ ai ∧ k_ ≠ aj ∧ k_ ≠ g) (.slice az av.length aA) av) ∧ Aside0 (Kd.N (Kd.slice 98 k98) 99 wc w.heap.size (fun k_ => (w.heap.size ≤ k_) ∧ some k_ ≠ ((.slice az av.length aA) : Value).ownBlock ∧ k_ ≠ aa ∧ k_ ≠ ac ∧ k_ ≠ ai ∧ k_ ≠ aj ∧ k_ ≠ g) (.slice aI aD.length aJ) aD) ∧ Aside0 (wc.heap[aa]? = some (.cells #[.int .i64 0, (.slice none 0 0)] 58 (0, 0))) ∧ Aside0 (wc.heap[ac]? = some (.cells #[.int .i64 0, (.slice none 0 0)] 58 (0, 0))) ∧ Aside0 (wc.heap[ai]? = some (.cells #[.int .i64 aN, (.slice az av.length aA)] 58 (0, 0))) ∧ Aside0 (wc.heap[aj]? = some (.cells #[.int .i64 b7, (.slice aI aD.length aJ)] 58 (0, 0))) ∧ Aside0 (IsS118 w0 wc g aT aX aY) ∧ Aside0 (KeepBut w wc g none) ∧ Aside0 (Below w0.heap.size w0 wc))
case first => (
have H := bI.out
clear bI
obtain ⟨⟨cm, bc, bf⟩, cd, H⟩ := bd H
(try dsimp only at H)
by_cases bu : cm = true
·(
subst bu
rw [if_pos rfl] at H
obtain ⟨bS, dh, H⟩ := bd H
(try dsimp only at H)
have H' := am H
clear H
go_wp2_with (first | ((with_reducible refine cg 51 rfl ?_); refine gl_ (some 12) Try.func51 #[.pointer (some ⟨g, 0, none⟩), .int .i64 2] ?_; (with_reducible refine (spec_l1Once.calls g aT bn bo 2 true bc bf w0 _ ?side1 ?side2 cd.out).mono ?_); (case side1 => exact ri118 ak); (case side2 => exact rbi HB); rintro e eT ⟨rfl, hi, hb, hk⟩; refine ⟨_, rfl, ?_⟩; replace a8 := kh a8 hk; replace a9 := kh a9 hk; replace aC := am (Kd.N_mono (Kd.N_keep (Kd.N_mono (ok := fun k_ => ((((((w.heap.size ≤ k_)) ∧ (k_ ≠ aa ∧ (k_ ≠ ac ∧ k_ ≠ g))) ∧ k_ ≠ ai) ∧ some k_ ≠ (.slice aI aD.length aJ : Value).ownBlock) ∧ k_ ≠ aj)) (rN_ aC) (fun k_ hk_ => (⟨hk_, hk_.1.1.1.2.2.2⟩ : _ ∧ k_ ≠ g))) hk (fun _ h => h.2)) (fun _ h => h.1)); replace af := kh af hk; replace aL := am (Kd.N_mono (Kd.N_keep (Kd.N_mono (ok := fun k_ => ((((w.heap.size ≤ k_)) ∧ (some k_ ≠ (.slice az av.length aA : Value).ownBlock ∧ (k_ ≠ aa ∧ (k_ ≠ ac ∧ (k_ ≠ ai ∧ k_ ≠ g))))) ∧ k_ ≠ aj)) (rN_ aL) (fun k_ hk_ => (⟨hk_, hk_.1.2.2.2.2.2⟩ : _ ∧ k_ ≠ g))) hk (fun _ h => h.2)) (fun _ h => h.1)); replace ah := kh ah hk; replace HK := kt HK hk; replace HB := am (hb); replace ak := am (hi); (try clear hb); (try clear b9); (try clear hk); (try clear hi); have ex := nN al; have ey := nN ao; have ez := nN aU; have eA := nN aZ; have eM := z2 af) | (go_at_call 69; (with_reducible refine (spec_GridOk.calls k aN _ _ av bS _ ?side1 ?side2 dh.out).mono ?_); (case side1 => repeat (first | exact (Kd.N_reads' aC.out).2.2 | (with_reducible refine Kd.C_alloc ?_ _) | (with_reducible refine Kd.C_drewN ?_ _) | (with_reducible refine Kd.C_drew ?_))); (case side2 => exact (Kd.N_reads' aC.out).2.1); rintro e eU ⟨rfl, hb⟩; replace aC := am (Kd.N_below (qN_ aC) hb); replace aL := am (Kd.N_below (qN_ aL) hb); replace a8 := kk a8 hb; replace a9 := kk a9 hb; replace af := kk af hb; replace ah := kk ah hb; replace HK := kb HK hb; replace HB := bsi HB hb; replace ak := am (IsS118.below (ri118 ak) hb); (try clear hb); (try clear b9); (try clear hk); (try clear hi)))
go_meet
case rel => exact ⟨_, (bS), (bc), (bf), sd, H', ⟨by first | omega | exact Nat.le_refl _⟩, ⟨qN_ aC⟩, ⟨qN_ aL⟩, ⟨rk a8⟩, ⟨rk a9⟩, ⟨rk af⟩, ⟨rk ah⟩, ⟨ri118 ak⟩, ⟨rkk HK⟩, ⟨rbi HB⟩⟩
)
·(
replace bu := Bool.eq_false_iff.mpr bu
subst bu
rw [if_neg (show ¬ (false = true) by decide)] at H
have H' := am H
clear H
go_wp2_with (first | ((with_reducible refine cg 51 rfl ?_); refine gl_ (some 12) Try.func51 #[.pointer (some ⟨g, 0, none⟩), .int .i64 2] ?_; (with_reducible refine (spec_l1Once.calls g aT bn bo 2 false bc bf w0 _ ?side1 ?side2 cd.out).mono ?_); (case side1 => exact ri118 ak); (case side2 => exact rbi HB); rintro e eV ⟨rfl, hi, hb, hk⟩; refine ⟨_, rfl, ?_⟩; replace a8 := kh a8 hk; replace a9 := kh a9 hk; replace aC := am (Kd.N_mono (Kd.N_keep (Kd.N_mono (ok := fun k_ => ((((((w.heap.size ≤ k_)) ∧ (k_ ≠ aa ∧ (k_ ≠ ac ∧ k_ ≠ g))) ∧ k_ ≠ ai) ∧ some k_ ≠ (.slice aI aD.length aJ : Value).ownBlock) ∧ k_ ≠ aj)) (rN_ aC) (fun k_ hk_ => (⟨hk_, hk_.1.1.1.2.2.2⟩ : _ ∧ k_ ≠ g))) hk (fun _ h => h.2)) (fun _ h => h.1)); replace af := kh af hk; replace aL := am (Kd.N_mono (Kd.N_keep (Kd.N_mono (ok := fun k_ => ((((w.heap.size ≤ k_)) ∧ (some k_ ≠ (.slice az av.length aA : Value).ownBlock ∧ (k_ ≠ aa ∧ (k_ ≠ ac ∧ (k_ ≠ ai ∧ k_ ≠ g))))) ∧ k_ ≠ aj)) (rN_ aL) (fun k_ hk_ => (⟨hk_, hk_.1.2.2.2.2.2⟩ : _ ∧ k_ ≠ g))) hk (fun _ h => h.2)) (fun _ h => h.1)); replace ah := kh ah hk; replace HK := kt HK hk; replace HB := am (hb); replace ak := am (hi); (try clear hb); (try clear b9); (try clear hk); (try clear hi)))
go_meet
case rel => exact ⟨_, (false), (bc), (bf), sd, H', ⟨by first | omega | exact Nat.le_refl _⟩, ⟨qN_ aC⟩, ⟨qN_ aL⟩, ⟨rk a8⟩, ⟨rk a9⟩, ⟨rk af⟩, ⟨rk ah⟩, ⟨ri118 ak⟩, ⟨rkk HK⟩, ⟨rbi HB⟩⟩
)
)
case rest => (
clear bI
try clear bW
try clear bX
try clear bW
try clear bX
obtain ⟨kq, b5, aX, aY, rfl, HA, eP, ae, ag, a8, a9, af, ah, ak, HK, HB⟩ := hcut
cases kq with
| zero => exact absurd HA.out (by simp [spec_l10DrawTwo.j0])
| succ ce => (
have H := HA.out
clear HA
simp only [spec_l10DrawTwo.j0] at H
by_cases bv : b5 = true
·(
subst bv
rw [if_pos rfl] at H
obtain ⟨⟨aV, aB⟩, di, H⟩ := bd H
(try dsimp only at H)
obtain ⟨⟨ax, bT, bU⟩, dj, H⟩ := bd H
(try dsimp only at H)
obtain ⟨⟨aK, bp, bq⟩, dk, H⟩ := bd H
(try dsimp only at H)
refine em_ (p := 0 ≤ ax) (fun bh => ?dq) (fun bh => ?dp)
case' dq => (
rw [if_pos bh] at H
have dM : decide (0 ≤ ax) = true := decide_eq_true bh
clear bh
refine em_ (p := ax < (aB.length : Int)) (fun bi => ?dn) (fun bi => ?dm)
case' dn => (
rw [if_pos bi] at H
have dN : decide (ax < (aB.length : Int)) = true := decide_eq_true bi
clear bi
obtain ⟨bV, b4⟩ : ∃ y_ : List (List (S98)), y_ = (aB.set (ax : Int).toNat aK) := ⟨_, rfl⟩
replace H : (some (aN, av, aV, bV, bp, bq)) = some (r1, r2, r3, r4, r5, r6) := by first | (rw [b4]; with_reducible exact H) | (rw [b4]; exact H) | exact H
have bY := am b4
clear b4
simp only [Option.some.injEq, Prod.mk.injEq] at H
obtain ⟨rfl, rfl, rfl, rfl, rfl, rfl⟩ := H
have el := trivial
)
case dm => (
rw [if_neg bi] at H
exact absurd H (by simp)
)
)
case dp => (
rw [if_neg bh] at H
exact absurd H (by simp)
)
all_goals (
have eB := nN al
have eC := nN ao
have eD := nN aU
have eE := nN aZ
have eN := z2 af
try go_wp2_with (first | ((with_reducible refine cg 112 rfl ?_); refine gl_ (some 18) Try.func112 #[.agg #[.int .i64 aN, .slice az av.length aA]] ?_; (with_reducible refine (spec_l5Copy.calls ce aN _ _ av aV aB _ ?side1 ?side2 di.out).mono ?_); (case side1 => repeat (first | exact (Kd.N_reads' ae.out).2.2 | (with_reducible refine Kd.C_alloc ?_ _) | (with_reducible refine Kd.C_drewN ?_ _) | (with_reducible refine Kd.C_drew ?_))); (case side2 => exact (Kd.N_reads' ae.out).2.1); rintro e eW ⟨eK, rfl, aS, hb⟩; refine ⟨_, rfl, ?_⟩; have au := am (Kd.N_lower (Kd.N_mono (ok' := fun k_ => (w.heap.size ≤ k_) ∧ some k_ ≠ (.slice az av.length aA : Value).ownBlock ∧ some k_ ≠ (.slice aI aD.length aJ : Value).ownBlock ∧ k_ ≠ aa ∧ k_ ≠ ac ∧ k_ ≠ ai ∧ k_ ≠ aj ∧ k_ ≠ g) (Kd.S_N (Kd.S_bound aS)) (fun k_ hk_ => ⟨(Nat.le_trans (ks HK) hk_.2.1), (Kd.fresh' (Kd.N_lt (qN_ ae)) k_ hk_.2.1), (Kd.fresh' (Kd.N_lt (qN_ ag)) k_ hk_.2.1), (Kd.freshB (rk a8) k_ hk_.2.1), (Kd.freshB (rk a9) k_ hk_.2.1), (Kd.freshB (rk af) k_ hk_.2.1), (Kd.freshB (rk ah) k_ hk_.2.1), (IsS118.fresh (ri118 ak) k_ hk_.2.1)⟩)) (ks HK)); replace ae := am (Kd.N_elder' (qN_ ae) (Kd.S_base aS) hb); replace ag := am (Kd.N_elder' (qN_ ag) (Kd.S_base aS) hb); replace a8 := kk a8 hb; replace a9 := kk a9 hb; replace af := kk af hb; replace ah := kk ah hb; replace HK := kb HK hb; replace HB := bsi HB hb; replace ak := am (IsS118.below (ri118 ak) hb); (try clear hb); (try clear b9); (try clear hk); (try clear hi); (try clear aS); have eF := nN ap; have eG := nN aq; have eH := nN b8; have eO := z2 ah; obtain ⟨b6, aM, cl⟩ := Kd.N_slice au.out; subst cl) | ((with_reducible refine cg 52 rfl ?_); refine gl_ (some 23) Try.func52 #[.pointer (some ⟨g, 0, none⟩), .int .i64 (aB.length : Int)] ?_; (with_reducible refine (spec_l1Below.calls g aT aX aY (aB.length : Int) ax bT bU w0 _ ?side1 ?side2 dj.out).mono ?_); (case side1 => exact ri118 ak); (case side2 => exact rbi HB); rintro e dC ⟨rfl, hi, hb, hk⟩; refine ⟨_, rfl, ?_⟩; replace ae := am (Kd.N_mono (Kd.N_keep (Kd.N_mono (ok := fun k_ => ((((w.heap.size ≤ k_)) ∧ (some k_ ≠ (.slice aI aD.length aJ : Value).ownBlock ∧ (k_ ≠ aa ∧ (k_ ≠ ac ∧ (k_ ≠ ai ∧ (k_ ≠ aj ∧ k_ ≠ g)))))) ∧ some k_ ≠ (.slice b6 aB.length aM : Value).ownBlock)) (rN_ ae) (fun k_ hk_ => (⟨hk_, hk_.1.2.2.2.2.2.2⟩ : _ ∧ k_ ≠ g))) hk (fun _ h => h.2)) (fun _ h => h.1)); replace ag := am (Kd.N_mono (Kd.N_keep (Kd.N_mono (ok := fun k_ => ((((w.heap.size ≤ k_)) ∧ (some k_ ≠ (.slice az av.length aA : Value).ownBlock ∧ (k_ ≠ aa ∧ (k_ ≠ ac ∧ (k_ ≠ ai ∧ (k_ ≠ aj ∧ k_ ≠ g)))))) ∧ some k_ ≠ (.slice b6 aB.length aM : Value).ownBlock)) (rN_ ag) (fun k_ hk_ => (⟨hk_, hk_.1.2.2.2.2.2.2⟩ : _ ∧ k_ ≠ g))) hk (fun _ h => h.2)) (fun _ h => h.1)); replace a8 := kh a8 hk; replace a9 := kh a9 hk; replace af := kh af hk; replace ah := kh ah hk; replace au := am (Kd.N_mono (Kd.N_keep (Kd.N_mono (ok := fun k_ => (((w.heap.size ≤ k_)) ∧ (some k_ ≠ (.slice az av.length aA : Value).ownBlock ∧ (some k_ ≠ (.slice aI aD.length aJ : Value).ownBlock ∧ (k_ ≠ aa ∧ (k_ ≠ ac ∧ (k_ ≠ ai ∧ (k_ ≠ aj ∧ k_ ≠ g)))))))) (rN_ au) (fun k_ hk_ => (⟨hk_, hk_.2.2.2.2.2.2.2⟩ : _ ∧ k_ ≠ g))) hk (fun _ h => h.2)) (fun _ h => h.1)); replace HK := kt HK hk; replace HB := am (hb); replace ak := am (hi); (try clear hb); (try clear b9); (try clear hk); (try clear hi)))
replace ae := am (Kd.N_drew ae.out)
replace ag := am (Kd.N_drew ag.out)
replace au := am (Kd.N_drew au.out)
replace a8 := am (blk_drew a8.out)
replace a9 := am (blk_drew a9.out)
replace af := am (blk_drew af.out)
replace ah := am (blk_drew ah.out)
replace ak := am (IsS118.drew ak.out)
replace HK := am (keep_drew HK.out)
replace HB := am (below_drew1 HB.out)
refine start_ (n := 9) (S := fun w' => w'.cell? ⟨aj, 0, none⟩ = some (.int .i64 aV) ∧ w'.cell? ⟨aj, 1, none⟩ = some (.slice b6 aB.length aM)) (ds := [8]) (bm 9 0) (by kernel_rfl) rfl rfl (bc2 ah) (fun hHeld => ?_); refine with_tabW spec_l10DrawTwo.tab6 spec_l10DrawTwo.bits6 (fun HT_ HW_ => ?_)
generalize dC.drew = eX at ae ag au a8 a9 af ah ak HK HB hHeld ⊢
refine pu_ 0 24 (bm 9 1) HT_.out ?_
refine pu_ 2 26 (bm 9 5) HT_.out ?_
refine pu_ 3 27 (bm 9 13) HT_.out ?_
refine pu_ 4 28 (bm 9 29) HT_.out ?_
refine tk 1 25 (bm 9 31) HT_ HW_ hHeld ?_
refine tk 5 29 (bm 9 63) HT_ HW_ hHeld ?_
refine o1 6 30 (bm 9 127) HT_ (fun K hK => ?_)
refine gs Try.func113 #[.pointer (some ⟨g, 0, none⟩), .int .i64 aV] ?_
with_reducible refine (spec_l4Draw.calls ce g aT bT bU aV aK bp bq w0 _ ?side1 ?side2 dk.out).mono ?_
(case side1 => exact ri118 ak)
(case side2 => exact rbi HB)
rintro e aW ⟨eL, rfl, aS, hi, hb, hk⟩
refine ⟨_, rfl, ?_⟩
replace ae := am (Kd.N_mono (Kd.N_told (Kd.N_oldK (Kd.N_mono (ok := fun k_ => ((((w.heap.size ≤ k_)) ∧ (some k_ ≠ (.slice aI aD.length aJ : Value).ownBlock ∧ (k_ ≠ aa ∧ (k_ ≠ ac ∧ (k_ ≠ ai ∧ (k_ ≠ aj ∧ k_ ≠ g)))))) ∧ some k_ ≠ (.slice b6 aB.length aM : Value).ownBlock)) (qN_ ae) (fun k_ hk_ => (⟨hk_, hk_.1.2.2.2.2.2.2⟩ : _ ∧ k_ ≠ g))) hk) (Kd.R_base aS)) (fun _ h_ => h_.1))
replace ag := am (Kd.N_mono (Kd.N_told (Kd.N_oldK (Kd.N_mono (ok := fun k_ => ((((w.heap.size ≤ k_)) ∧ (some k_ ≠ (.slice az av.length aA : Value).ownBlock ∧ (k_ ≠ aa ∧ (k_ ≠ ac ∧ (k_ ≠ ai ∧ (k_ ≠ aj ∧ k_ ≠ g)))))) ∧ some k_ ≠ (.slice b6 aB.length aM : Value).ownBlock)) (qN_ ag) (fun k_ hk_ => (⟨hk_, hk_.1.2.2.2.2.2.2⟩ : _ ∧ k_ ≠ g))) hk) (Kd.R_base aS)) (fun _ h_ => h_.1))
replace a8 := kh a8 hk
replace a9 := kh a9 hk
replace af := kh af hk
replace ah := kh ah hk
replace au := am (Kd.N_mono (Kd.N_told (Kd.N_oldK (Kd.N_mono (ok := fun k_ => (((w.heap.size ≤ k_)) ∧ (some k_ ≠ (.slice az av.length aA : Value).ownBlock ∧ (some k_ ≠ (.slice aI aD.length aJ : Value).ownBlock ∧ (k_ ≠ aa ∧ (k_ ≠ ac ∧ (k_ ≠ ai ∧ (k_ ≠ aj ∧ k_ ≠ g)))))))) (qN_ au) (fun k_ hk_ => (⟨hk_, hk_.2.2.2.2.2.2.2⟩ : _ ∧ k_ ≠ g))) hk) (Kd.R_base aS)) (fun _ h_ => h_.1))
have br := am (Kd.R_lower (Kd.R_newM (M := fun k_ => (w.heap.size ≤ k_)) aS (ks HK) (fun k_ h_ => h_)) (ks HK))
replace HK := kt HK hk
replace HB := am (hb)
replace ak := am (hi)
(try clear hb)
(try clear hk)
(try clear hi)
(try clear aS)
have bO : 0 ≤ (ax : Int) := dt_
have bP : (ax : Int) < ((aB.length : Int) : Int) := dt_
obtain ⟨ay, e9, bK, bL, gl39, cl39, bJ⟩ := Kd.N_form au.out (by omega)
(first | cases bK | (injection bK with ea_ en_ ec_; (first | subst ea_ | (injection ea_ with ea_; subst ea_)); subst ec_; clear en_))
have dX := am bL
have dY := am bJ
clear bL gl39 bJ
obtain ⟨dZ, ca, hM39, bw, bB⟩ := Kd.N_elem au.out [] (ax : Int) bO bP
obtain ⟨du, dx, rfl, dz, dr⟩ := Kd.FK_slice_open hM39
have bN := bw 0 _ rfl
have bM := bB 0
(try simp only [show ((Kd.slice 98 k98)).sz = 1 from rfl, Nat.mul_one, Nat.add_zero] at bN bM)
clear ca bw bB hM39
replace bO := eq_true bO
replace bP := eq_true bP
have cf := am (show g ≠ ay from by have h_ := IsS118.own_neN ak.out au.out (by decide); intro e_; exact h_ (by rw [e_]; rfl))
obtain ⟨aG, aH, bZ⟩ := Kd.R_slice br.out
subst bZ
have bb := am (show Kd.N (Kd.slice 98 k98) 99 _ w.heap.size (fun k_ => (w.heap.size ≤ k_) ∧ some k_ ≠ (.slice az av.length aA : Value).ownBlock ∧ some k_ ≠ (.slice aI aD.length aJ : Value).ownBlock ∧ some k_ ≠ (.slice aG aK.length aH : Value).ownBlock ∧ k_ ≠ aa ∧ k_ ≠ ac ∧ k_ ≠ ai ∧ k_ ≠ aj ∧ k_ ≠ g) (.slice (some ⟨ay, 0, none⟩) aB.length aM) aB from (Kd.N_mono (au.out) (fun k_ hk => ⟨hk.1.1, ⟨hk.1.2.1, ⟨hk.1.2.2.1, ⟨hk.2, ⟨hk.1.2.2.2.1, ⟨hk.1.2.2.2.2.1, ⟨hk.1.2.2.2.2.2.1, ⟨hk.1.2.2.2.2.2.2.1, hk.1.2.2.2.2.2.2.2⟩⟩⟩⟩⟩⟩⟩⟩)))
replace bb := am (show Kd.N (Kd.slice 98 k98) 99 _ w.heap.size (fun k_ => (w.heap.size ≤ k_) ∧ some k_ ≠ (.slice az av.length aA : Value).ownBlock ∧ some k_ ≠ (.slice aI aD.length aJ : Value).ownBlock ∧ k_ ≠ aa ∧ k_ ≠ ac ∧ k_ ≠ ai ∧ k_ ≠ aj ∧ k_ ≠ g) (.slice (some ⟨ay, 0, none⟩) aB.length aM) aB from Kd.N_mono bb.out (fun k_ hk => ⟨hk.1, ⟨hk.2.1, ⟨hk.2.2.1, ⟨hk.2.2.2.2.1, ⟨hk.2.2.2.2.2.1, ⟨hk.2.2.2.2.2.2.1, ⟨hk.2.2.2.2.2.2.2.1, hk.2.2.2.2.2.2.2.2⟩⟩⟩⟩⟩⟩⟩))
obtain ⟨e8, bA, hM54, bz, cb⟩ := Kd.N_elem bb.out [] (ax : Int) dt_ (by have h_ : (ax : Int) < ((aB.length : Int) : Int) := dt_; first | exact h_ | (have e_ := (Kd.N_reads' au.out).1; omega) | simpa using h_)
obtain ⟨dv, dy, rfl, dA, dt⟩ := Kd.FK_slice_open hM54
have ba := (Kd.N_seg bb.out (ax : Int) dt_ (by have h_ : (ax : Int) < ((aB.length : Int) : Int) := dt_; first | exact h_ | (have e_ := (Kd.N_reads' au.out).1; omega) | simpa using h_) (seg := [.slice aG aK.length aH]) (j := 0) bA bz (show 1 ≤ 1 from by decide) (x' := aK) (fkR (Kd.R_mono (ok' := (fun k_ => ((fun k_ => (w.heap.size ≤ k_) ∧ some k_ ≠ (.slice az av.length aA : Value).ownBlock ∧ some k_ ≠ (.slice aI aD.length aJ : Value).ownBlock ∧ k_ ≠ aa ∧ k_ ≠ ac ∧ k_ ≠ ai ∧ k_ ≠ aj ∧ k_ ≠ g)) k_ ∧ k_ ≠ ay)) (IsS118.apart ak.out (Kd.R_types (Kd.R_types (Kd.R_types (Kd.R_types (Kd.R_apart' (Kd.R_apart' (Kd.R_apart' (br.out) (Kd.N_typed ae.out) (by decide)) (Kd.N_typed ag.out) (by decide)) (Kd.N_typed au.out) (by decide)) a8.out (by decide)) a9.out (by decide)) af.out (by decide)) ah.out (by decide)) (by decide)) (fun k_ hk => ⟨⟨hk.1.1.1.1.1.1.1.1.1, ⟨hk.1.1.1.1.1.1.1.2, ⟨hk.1.1.1.1.1.1.2, ⟨hk.1.1.1.1.2, ⟨hk.1.1.1.2, ⟨hk.1.1.2, ⟨hk.1.2, hk.2⟩⟩⟩⟩⟩⟩⟩, fun e_ => (hk.1.1.1.1.1.2) (by rw [e_]; rfl)⟩))) (fun _ hk => hk)).1
(try simp only [show ((Kd.slice 98 k98)).sz = 1 from rfl, Nat.mul_one, Nat.add_zero] at ba)
rw [← bY.out] at ba
have ch := am ba
clear bA bz cb hM54 ba
refine hK.out _ _ (bc2 ah) (fun hHeld => ?_)
clear hK K
refine norm_ (a' := _) (show Act.put _ (some 30) _ = _ from na) ?_
refine pu_ 7 31 (bm 9 255) HT_.out ?_
refine last_ (i := 8) (N := none) (bm 9 511) rfl rfl (one_of HT_.out (by kernel_rfl)) (by decide) (fun K hK => ?_)
refine skip_ (w1 := ?_) (by rfl) rfl ?_ ?_
rotate_left
·(
go_simp
rfl
)
refine hK.out _ _ ?_
clear hK K
refine done_ (done_of HT_.out (by kernel_rfl)) ?_
have n0_ : Aside0 (Kd.N (Kd.slice 98 k98) 99 (aW.setCell ⟨ay, (ax : Int).toNat, none⟩ (.slice aG aK.length aH)) w.heap.size (fun k_ => (w.heap.size ≤ k_) ∧ some k_ ≠ (.slice aI aD.length aJ : Value).ownBlock ∧ some k_ ≠ (.slice (some ⟨ay, 0, none⟩) aB.length aM : Value).ownBlock ∧ k_ ≠ aa ∧ k_ ≠ ac ∧ k_ ≠ ai ∧ k_ ≠ aj ∧ k_ ≠ g) (.slice az av.length aA) av) := ⟨by (with_reducible repeat (first | apply Kd.N_alloc | apply Kd.N_drewN | apply Kd.N_drew)); exact Kd.N_mono (Kd.N_far (p := ⟨ay, (ax : Int).toNat, none⟩) (Kd.N_mono ae.out (fun k_ hk => (⟨hk, fun e_ => hk.1.2 (by rw [e_]; rfl)⟩ : _ ∧ k_ ≠ ay))) (fun _ hk => hk.2) (.slice aG aK.length aH)) (fun _ hk => ⟨hk.1.1.1.1, ⟨hk.1.1.1.2.1, ⟨hk.1.1.2, ⟨hk.1.1.1.2.2.1, ⟨hk.1.1.1.2.2.2.1, ⟨hk.1.1.1.2.2.2.2.1, ⟨hk.1.1.1.2.2.2.2.2.1, hk.1.1.1.2.2.2.2.2.2⟩⟩⟩⟩⟩⟩⟩)⟩
have n1_ : Aside0 (Kd.N (Kd.slice 98 k98) 99 (aW.setCell ⟨ay, (ax : Int).toNat, none⟩ (.slice aG aK.length aH)) w.heap.size (fun k_ => (w.heap.size ≤ k_) ∧ some k_ ≠ (.slice az av.length aA : Value).ownBlock ∧ some k_ ≠ (.slice (some ⟨ay, 0, none⟩) aB.length aM : Value).ownBlock ∧ k_ ≠ aa ∧ k_ ≠ ac ∧ k_ ≠ ai ∧ k_ ≠ aj ∧ k_ ≠ g) (.slice aI aD.length aJ) aD) := ⟨by (with_reducible repeat (first | apply Kd.N_alloc | apply Kd.N_drewN | apply Kd.N_drew)); exact Kd.N_mono (Kd.N_far (p := ⟨ay, (ax : Int).toNat, none⟩) (Kd.N_mono ag.out (fun k_ hk => (⟨hk, fun e_ => hk.1.2 (by rw [e_]; rfl)⟩ : _ ∧ k_ ≠ ay))) (fun _ hk => hk.2) (.slice aG aK.length aH)) (fun _ hk => ⟨hk.1.1.1.1, ⟨hk.1.1.1.2.1, ⟨hk.1.1.2, ⟨hk.1.1.1.2.2.1, ⟨hk.1.1.1.2.2.2.1, ⟨hk.1.1.1.2.2.2.2.1, ⟨hk.1.1.1.2.2.2.2.2.1, hk.1.1.1.2.2.2.2.2.2⟩⟩⟩⟩⟩⟩⟩)⟩
have n2_ : Aside0 (Kd.N (Kd.slice 98 k98) 99 (aW.setCell ⟨ay, (ax : Int).toNat, none⟩ (.slice aG aK.length aH)) w.heap.size (fun k_ => (w.heap.size ≤ k_) ∧ some k_ ≠ (.slice az av.length aA : Value).ownBlock ∧ some k_ ≠ (.slice aI aD.length aJ : Value).ownBlock ∧ k_ ≠ aa ∧ k_ ≠ ac ∧ k_ ≠ ai ∧ k_ ≠ aj ∧ k_ ≠ g) (.slice (some ⟨ay, 0, none⟩) aB.length aM) bV) := ⟨qN_ ch⟩
have n3_ : Aside0 ((aW.setCell ⟨ay, (ax : Int).toNat, none⟩ (.slice aG aK.length aH)).heap[aa]? = some (.cells #[.int .i64 0, .slice none 0 0] 58 (0, 0))) := ⟨rkw (aw au) a8⟩
have n4_ : Aside0 ((aW.setCell ⟨ay, (ax : Int).toNat, none⟩ (.slice aG aK.length aH)).heap[ac]? = some (.cells #[.int .i64 0, .slice none 0 0] 58 (0, 0))) := ⟨rkw (aw au) a9⟩
have n5_ : Aside0 ((aW.setCell ⟨ay, (ax : Int).toNat, none⟩ (.slice aG aK.length aH)).heap[ai]? = some (.cells #[.int .i64 aN, .slice az av.length aA] 58 (0, 0))) := ⟨rkw (aw au) af⟩
have n6_ : Aside0 ((aW.setCell ⟨ay, (ax : Int).toNat, none⟩ (.slice aG aK.length aH)).heap[aj]? = some (.cells #[.int .i64 aV, .slice (some ⟨ay, 0, none⟩) aB.length aM] 58 (0, 0))) := ⟨rkw (aw au) ah⟩
have n7_ : Aside0 (IsS118 w0 (aW.setCell ⟨ay, (ax : Int).toNat, none⟩ (.slice aG aK.length aH)) g aT bp bq) := ⟨ri118 ak⟩
have n8_ : Aside0 (KeepBut w (aW.setCell ⟨ay, (ax : Int).toNat, none⟩ (.slice aG aK.length aH)) g none) := ⟨rkk HK⟩
have n9_ : Aside0 (Below w0.heap.size w0 (aW.setCell ⟨ay, (ax : Int).toNat, none⟩ (.slice aG aK.length aH))) := ⟨rbi HB⟩
(try clear ae)
(try clear ag)
(try clear au)
(try clear a8)
(try clear a9)
(try clear af)
(try clear ah)
(try clear ak)
(try clear HK)
(try clear HB)
generalize (aW.setCell ⟨ay, (ax : Int).toNat, none⟩ (.slice aG aK.length aH)) = dD at n0_ n1_ n2_ n3_ n4_ n5_ n6_ n7_ n8_ n9_ ⊢
have ae := n0_
have ag := n1_
have au := n2_
have a8 := n3_
have a9 := n4_
have af := n5_
have ah := n6_
have ak := n7_
have HK := n8_
have HB := n9_
clear n0_ n1_ n2_ n3_ n4_ n5_ n6_ n7_ n8_ n9_
try go_wp2
replace ae := am (Kd.N_drew ae.out)
replace ag := am (Kd.N_drew ag.out)
replace au := am (Kd.N_drew au.out)
replace a8 := am (blk_drew a8.out)
replace a9 := am (blk_drew a9.out)
replace af := am (blk_drew af.out)
replace ah := am (blk_drew ah.out)
replace ak := am (IsS118.drew ak.out)
replace HK := am (keep_drew HK.out)
replace HB := am (below_drew1 HB.out)
refine start_ (n := 4) (S := fun w' => w'.cell? ⟨ai, 0, none⟩ = some (.int .i64 aN) ∧ w'.cell? ⟨ai, 1, none⟩ = some (.slice az av.length aA) ∧ w'.cell? ⟨aj, 0, none⟩ = some (.int .i64 aV) ∧ w'.cell? ⟨aj, 1, none⟩ = some (.slice (some ⟨ay, 0, none⟩) aB.length aM)) (ds := []) (bm 4 0) (by kernel_rfl) rfl rfl ⟨(blk_cell af.out 0).trans rfl, (blk_cell af.out 1).trans rfl, (blk_cell ah.out 0).trans rfl, (blk_cell ah.out 1).trans rfl⟩ (fun hHeld => ?_)
generalize dD.drew = bC at ae ag au a8 a9 af ah ak HK HB hHeld ⊢
refine take_ (i := 0) (N := some 32) (v := ?_) (a' := ?_) (bm 4 1) rfl rfl (by kernel_rfl) (fun _ _ _ h => h) (Or.inl ⟨by rfl, ?_⟩) hHeld ?_ ?_
rotate_left
·(
rintro w' ⟨s0, s1, s2, s3⟩
go_simp
with_reducible rfl
)
rotate_left
·(
simp only [Act.put, List.setIfInBounds_toArray, List.set_cons_zero, List.set_cons_succ, i64_w, i32_w]
rfl
)
refine take_ (i := 1) (N := some 33) (v := ?_) (a' := ?_) (bm 4 3) rfl rfl (by kernel_rfl) (fun _ _ _ h => h) (Or.inl ⟨by rfl, ?_⟩) hHeld ?_ ?_
rotate_left
·(
rintro w' ⟨s0, s1, s2, s3⟩
go_simp
with_reducible rfl
)
rotate_left
·(
simp only [Act.put, List.setIfInBounds_toArray, List.set_cons_zero, List.set_cons_succ, i64_w, i32_w]
rfl
)
refine one_ (i := 2) (N := none) (bm 4 7) rfl rfl (by kernel_rfl) (by decide) (fun K hK => ?_)
have eb : bC.cell? ⟨aa, 0, none⟩ = some (.int .i64 0) := (blk_cell a8.out 0).trans rfl
have dO := blk_frozen a8.out 0
have cQ := aF.out
have cR := al.out
have cS := ap.out
have cp := aE.out
have cq := aO.out
have ct := aP.out
have ed : bC.cell? ⟨aa, 1, none⟩ = some (.slice none 0 0) := (blk_cell a8.out 1).trans rfl
have dP := blk_frozen a8.out 1
have cT := aF.out
have cU := al.out
have cV := ap.out
have cu := aE.out
have cv := aO.out
have cw := aP.out
refine skip_ (w1 := ?_) (by rfl) rfl ?_ ?_
rotate_left
·(
go_simp
rfl
)
refine hK.out _ _ ⟨((cell_far (p := ⟨aa, _, none⟩) al.out _).trans (((cell_far (p := ⟨aa, _, none⟩) al.out _).trans (hHeld.1)))), ((cell_far (p := ⟨aa, _, none⟩) al.out _).trans (((cell_far (p := ⟨aa, _, none⟩) al.out _).trans (hHeld.2.1)))), ((cell_far (p := ⟨aa, _, none⟩) ap.out _).trans (((cell_far (p := ⟨aa, _, none⟩) ap.out _).trans (hHeld.2.2.1)))), ((cell_far (p := ⟨aa, _, none⟩) ap.out _).trans (((cell_far (p := ⟨aa, _, none⟩) ap.out _).trans (hHeld.2.2.2))))⟩ (fun hHeld => ?_)
clear hK K
refine one_ (i := 3) (N := none) (bm 4 15) rfl rfl (by kernel_rfl) (by decide) (fun K hK => ?_)
have ee : bC.cell? ⟨ac, 0, none⟩ = some (.int .i64 0) := (blk_cell a9.out 0).trans rfl
have dQ := blk_frozen a9.out 0
have cW := aE.out
have cX := ao.out
have cY := aq.out
have cy := aF.out
have cz := aQ.out
have cA := aR.out
have ef : bC.cell? ⟨ac, 1, none⟩ = some (.slice none 0 0) := (blk_cell a9.out 1).trans rfl
have dR := blk_frozen a9.out 1
have cZ := aE.out
have d3 := ao.out
have d4 := aq.out
have cB := aF.out
have cC := aQ.out
have cD := aR.out
refine skip_ (w1 := ?_) (by rfl) rfl ?_ ?_
rotate_left
·(
go_simp
rfl
)
refine hK.out _ _ ⟨((cell_far (p := ⟨ac, _, none⟩) ao.out _).trans (((cell_far (p := ⟨ac, _, none⟩) ao.out _).trans (hHeld.1)))), ((cell_far (p := ⟨ac, _, none⟩) ao.out _).trans (((cell_far (p := ⟨ac, _, none⟩) ao.out _).trans (hHeld.2.1)))), ((cell_far (p := ⟨ac, _, none⟩) aq.out _).trans (((cell_far (p := ⟨ac, _, none⟩) aq.out _).trans (hHeld.2.2.1)))), ((cell_far (p := ⟨ac, _, none⟩) aq.out _).trans (((cell_far (p := ⟨ac, _, none⟩) aq.out _).trans (hHeld.2.2.2))))⟩ (fun hHeld => ?_)
clear hK K
refine done_ (by kernel_rfl) ?_
try go_wp2
refine bodyPost_ret (results_cc rfl _ _ aa ac 58 58 #[.int .i64 aN, .slice az av.length aA] #[.int .i64 aV, .slice (some ⟨ay, 0, none⟩) aB.length aM] (0, 0) (0, 0) _ _ rfl (rk a8) Try.underlying58 rfl (by kernel_rfl) rfl (rk a9) Try.underlying58 rfl (by kernel_rfl)) rfl ?_
exact ⟨_, _, ew, Kd.N_V (rN_ ae), Kd.N_V (rN_ au), ri118 ak, rbi HB, rkk HK⟩
)
)
·(
replace bv := Bool.eq_false_iff.mpr bv
subst bv
rw [if_neg (show ¬ (false = true) by decide)] at H
simp only [Option.some.injEq, Prod.mk.injEq] at H
obtain ⟨rfl, rfl, rfl, rfl, rfl, rfl⟩ := H
try go_wp2
replace ae := am (Kd.N_drew ae.out)
replace ag := am (Kd.N_drew ag.out)
replace a8 := am (blk_drew a8.out)
replace a9 := am (blk_drew a9.out)
replace af := am (blk_drew af.out)
replace ah := am (blk_drew ah.out)
replace ak := am (IsS118.drew ak.out)
replace HK := am (keep_drew HK.out)
replace HB := am (below_drew1 HB.out)
refine start_ (n := 4) (S := fun w' => w'.cell? ⟨ai, 0, none⟩ = some (.int .i64 aN) ∧ w'.cell? ⟨ai, 1, none⟩ = some (.slice az av.length aA) ∧ w'.cell? ⟨aj, 0, none⟩ = some (.int .i64 b7) ∧ w'.cell? ⟨aj, 1, none⟩ = some (.slice aI aD.length aJ)) (ds := []) (bm 4 0) (by kernel_rfl) rfl rfl ⟨(blk_cell af.out 0).trans rfl, (blk_cell af.out 1).trans rfl, (blk_cell ah.out 0).trans rfl, (blk_cell ah.out 1).trans rfl⟩ (fun hHeld => ?_)
generalize wc.drew = bD at ae ag a8 a9 af ah ak HK HB hHeld ⊢
refine take_ (i := 0) (N := some 32) (v := ?_) (a' := ?_) (bm 4 1) rfl rfl (by kernel_rfl) (fun _ _ _ h => h) (Or.inl ⟨by rfl, ?_⟩) hHeld ?_ ?_
rotate_left
·(
rintro w' ⟨s0, s1, s2, s3⟩
go_simp
with_reducible rfl
)
rotate_left
·(
simp only [Act.put, List.setIfInBounds_toArray, List.set_cons_zero, List.set_cons_succ, i64_w, i32_w]
rfl
)
refine take_ (i := 1) (N := some 33) (v := ?_) (a' := ?_) (bm 4 3) rfl rfl (by kernel_rfl) (fun _ _ _ h => h) (Or.inl ⟨by rfl, ?_⟩) hHeld ?_ ?_
rotate_left
·(
rintro w' ⟨s0, s1, s2, s3⟩
go_simp
with_reducible rfl
)
rotate_left
·(
simp only [Act.put, List.setIfInBounds_toArray, List.set_cons_zero, List.set_cons_succ, i64_w, i32_w]
rfl
)
refine one_ (i := 2) (N := none) (bm 4 7) rfl rfl (by kernel_rfl) (by decide) (fun K hK => ?_)
have eg : bD.cell? ⟨aa, 0, none⟩ = some (.int .i64 0) := (blk_cell a8.out 0).trans rfl
have dS := blk_frozen a8.out 0
have d5 := aF.out
have d6 := al.out
have d7 := ap.out
have cE := aE.out
have cF := aO.out
have cG := aP.out
have eh : bD.cell? ⟨aa, 1, none⟩ = some (.slice none 0 0) := (blk_cell a8.out 1).trans rfl
have dU := blk_frozen a8.out 1
have d8 := aF.out
have d9 := al.out
have da := ap.out
have cH := aE.out
have cI := aO.out
have cJ := aP.out
refine skip_ (w1 := ?_) (by rfl) rfl ?_ ?_
rotate_left
·(
go_simp
rfl
)
refine hK.out _ _ ⟨((cell_far (p := ⟨aa, _, none⟩) al.out _).trans (((cell_far (p := ⟨aa, _, none⟩) al.out _).trans (hHeld.1)))), ((cell_far (p := ⟨aa, _, none⟩) al.out _).trans (((cell_far (p := ⟨aa, _, none⟩) al.out _).trans (hHeld.2.1)))), ((cell_far (p := ⟨aa, _, none⟩) ap.out _).trans (((cell_far (p := ⟨aa, _, none⟩) ap.out _).trans (hHeld.2.2.1)))), ((cell_far (p := ⟨aa, _, none⟩) ap.out _).trans (((cell_far (p := ⟨aa, _, none⟩) ap.out _).trans (hHeld.2.2.2))))⟩ (fun hHeld => ?_)
clear hK K
refine one_ (i := 3) (N := none) (bm 4 15) rfl rfl (by kernel_rfl) (by decide) (fun K hK => ?_)
have ei : bD.cell? ⟨ac, 0, none⟩ = some (.int .i64 0) := (blk_cell a9.out 0).trans rfl
have dV := blk_frozen a9.out 0
have db := aE.out
have dc := ao.out
have dd := aq.out
have cK := aF.out
have cL := aQ.out
have cM := aR.out
have ej : bD.cell? ⟨ac, 1, none⟩ = some (.slice none 0 0) := (blk_cell a9.out 1).trans rfl
have dW := blk_frozen a9.out 1
have de := aE.out
have df := ao.out
have dg := aq.out
have cN := aF.out
have cO := aQ.out
have cP := aR.out
refine skip_ (w1 := ?_) (by rfl) rfl ?_ ?_
rotate_left
·(
go_simp
rfl
)
refine hK.out _ _ ⟨((cell_far (p := ⟨ac, _, none⟩) ao.out _).trans (((cell_far (p := ⟨ac, _, none⟩) ao.out _).trans (hHeld.1)))), ((cell_far (p := ⟨ac, _, none⟩) ao.out _).trans (((cell_far (p := ⟨ac, _, none⟩) ao.out _).trans (hHeld.2.1)))), ((cell_far (p := ⟨ac, _, none⟩) aq.out _).trans (((cell_far (p := ⟨ac, _, none⟩) aq.out _).trans (hHeld.2.2.1)))), ((cell_far (p := ⟨ac, _, none⟩) aq.out _).trans (((cell_far (p := ⟨ac, _, none⟩) aq.out _).trans (hHeld.2.2.2))))⟩ (fun hHeld => ?_)
clear hK K
refine done_ (by kernel_rfl) ?_
try go_wp2
refine bodyPost_ret (results_cc rfl _ _ aa ac 58 58 #[.int .i64 aN, .slice az av.length aA] #[.int .i64 b7, .slice aI aD.length aJ] (0, 0) (0, 0) _ _ rfl (rk a8) Try.underlying58 rfl (by kernel_rfl) rfl (rk a9) Try.underlying58 rfl (by kernel_rfl)) rfl ?_
exact ⟨_, _, ew, Kd.N_V (rN_ ae), Kd.N_V (rN_ ag), ri118 ak, rbi HB, rkk HK⟩
)
)
)
)

end Go.Proofs.Ytalopdcephohgaa.RD
