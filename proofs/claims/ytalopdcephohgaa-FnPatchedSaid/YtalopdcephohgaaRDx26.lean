/- Contracts of Go functions that laws of this seat reach: each Lean function answers as its Go function does. No condition. Written by wip/tools/inj.py, over the kit's print. -/
import Derived.Test.YtalopdcephohgaaRDx0
import Derived.Test.YtalopdcephohgaaRDx24
import Derived.Test.YtalopdcephohgaaRDx25
namespace Go.Proofs.Ytalopdcephohgaa.RD
open Go.RowKit Go.Proofs.YtalopdcephohgaaW.PrintWords Go.Proofs.YtalopdcephohgaaW.PrintLast Go.Proofs.YtalopdcephohgaaW.PrintMore
attribute [local go_sem] max2_int min2_int max_two min_two max_three min_three max_four min_four   -- for this text's walks alone
set_option linter.unusedVariables false
set_option linter.unusedSimpArgs false

/-! ### spec_l5Draw: function 114 -/
def spec_l5Draw.l0 : Nat → Int → List Int → Int → Int → Int → List (List (S98)) → Option (Int × (List (List (S98))) × Int × Int)
 | 0, _, _, _, _, _, _ => none
 | k + 1, x4, ac, ae, af, a8, a9 => if x4 > 0 then ((spec_l4Draw.f k ac ae af a8).bind fun aa => (if a9.length < 5864062014805 then (spec_l5Draw.l0 k (wrap64 (x4 - 1)) ac aa.2.1 aa.2.2 a8 (a9 ++ [aa.1])) else (none))) else (some (a8, a9, ae, af))
def spec_l5Draw.f (k : Nat) (aa : List Int) (ac : Int) (ae : Int) : Option (Int × (List (List (S98))) × Int × Int) := (spec_l1Below.f aa ac ae 8).bind fun a8 => ((spec_l1Below.f aa a8.2.1 a8.2.2 4).bind fun a9 => (spec_l5Draw.l0 k (wrap64 (1 + a9.1)) aa a9.2.1 a9.2.2 (wrap64 (1 + a8.1)) ([] : List (List (S98)))))
theorem spec_l5Draw.mono_l : ∀ k, (∀ y0 y1 y2 y3 y4 y5, LeO (spec_l5Draw.l0 k y0 y1 y2 y3 y4 y5) (spec_l5Draw.l0 (k + 1) y0 y1 y2 y3 y4 y5))
 | 0 => fun _ _ _ _ _ _ r h => by simp [spec_l5Draw.l0] at h
 | k + 1 => by
  have ih0 := spec_l5Draw.mono_l k
  ·intro y0 y1 y2 y3 y4 y5
   unfold spec_l5Draw.l0
   repeat' first
   | (with_reducible exact ih0 _ _ _ _ _ _)
   | (with_reducible exact spec_l4Draw.mono _ _ _ _ _)
   | (with_reducible exact LeO.refl _)
   | (with_reducible exact LeO.none _)
   | (with_reducible refine LeO.ite ?_ ?_)
   | (with_reducible refine LeO.bind ?_ (fun _ => ?_))
theorem spec_l5Draw.mono : ∀ a0 a1 a2 k, LeO (spec_l5Draw.f k a0 a1 a2) (spec_l5Draw.f (k + 1) a0 a1 a2) := by
 intro a0 a1 a2 k
 have ih0 := spec_l5Draw.mono_l k
 unfold spec_l5Draw.f
 repeat' first
   | (with_reducible exact ih0 _ _ _ _ _ _)
   | (with_reducible exact spec_l4Draw.mono _ _ _ _ _)
   | (with_reducible exact LeO.refl _)
   | (with_reducible exact LeO.none _)
   | (with_reducible refine LeO.ite ?_ ?_)
   | (with_reducible refine LeO.bind ?_ (fun _ => ?_))
def spec_l5Draw.T5 : Bool × List (List Nat × List Nat) := (true, [([], []), ([0], [0]), ([], []), ([], []), ([3], [3]), ([2, 4], [2, 4]), ([5], [5]), ([1, 6, 5], [1, 6]), ([0, 1, 2, 3, 4, 5, 6, 7], []), ([8, 7, 7, 0, 1, 2, 3, 4, 5, 6, 7], [7, 8])])
def spec_l5Draw.B5 : List Nat := [0, 1, 0, 0, 8, 28, 60, 127, 255, 511]
theorem spec_l5Draw.tab5 : rtab .any (opsOf Try.f114 5) = spec_l5Draw.T5 := by kernel_rfl
theorem spec_l5Draw.bits5 : waitsOk spec_l5Draw.T5.2 spec_l5Draw.B5 = true := by kernel_rfl
set_option maxHeartbeats 8000000 in
set_option maxRecDepth 100000 in
theorem spec_l5Draw.calls (k : Nat) (g : Nat) (ag : List Int) (aB : Int) (aC : Int) (r1 : Int) (r2 : List (List (S98))) (r3 : Int) (r4 : Int) (w0 w : World) (hI : IsS118 w0 w g ag aB aC) (hB : Below w0.heap.size w0 w) (h : spec_l5Draw.f k ag aB aC = some (r1, r2, r3, r4)) :
  Calls Try.prog 114 #[.pointer (some ⟨g, 0, none⟩)] w fun e w' => ∃ v1_ : Value, e = .returned (.agg #[.int .i64 r1, v1_]) ∧ Kd.S (Kd.slice 98 k98) 99 w' w.heap.size (fun _ => True) v1_ r2 ∧ IsS118 w0 w' g ag r3 r4 ∧ Below w0.heap.size w0 w' ∧ KeepBut w w' g none := by
 (
have bv := Try.underlying58
have ac := am hI
have HK := am (KeepBut.refl w g none)
have HL := am hB.size
clear hI
have b6 := am hB.size
have HB := am hB
clear hB
have H := h
unfold spec_l5Draw.f at H
clear h
obtain ⟨⟨ak, aU, aV⟩, A2, H⟩ := bd H
(try dsimp only at H)
obtain ⟨⟨aW, aX, aY⟩, A3, H⟩ := bd H
(try dsimp only at H)
have H' := am H
clear H
go_enter Try.func114, Try.ntmps114
go_wp2_with (first | (refine bx 2 #[.int .i64 0, .slice none 0 0] 58 ?_; intro az hg w4 hbox hb; replace HB := bsi HB hb; have aa := am (hbox); have bq := am (gk hg HK); have bo := am ((Nat.le_trans b6.out (gk hg HK) : w0.heap.size ≤ az)); replace HK := kb HK hb; have aI := am (il118 hg ac); have aK := ns aI; replace ac := am (IsS118.below (ri118 ac) hb); clear hb hbox hg) | ((with_reducible refine cg 52 rfl ?_); refine gl_ (some 6) Try.func52 #[.pointer (some ⟨g, 0, none⟩), .int .i64 8] ?_; (with_reducible refine (spec_l1Below.calls g ag aB aC 8 ak aU aV w0 _ ?side1 ?side2 A2.out).mono ?_); (case side1 => exact ri118 ac); (case side2 => exact rbi HB); rintro e w5 ⟨rfl, hi, hb, hk⟩; refine ⟨_, rfl, ?_⟩; replace aa := kh aa hk; replace HK := kt HK hk; replace HB := am (hb); replace ac := am (hi); (try clear hb); (try clear bj); (try clear hk); (try clear hi)) | (refine bx 3 #[.int .i64 0, .slice none 0 0] 58 ?_; intro ao hg w6 hbox hb; replace HB := bsi HB hb; have a9 := am (hbox); have br := am (gk hg HK); have bp := am ((Nat.le_trans b6.out (gk hg HK) : w0.heap.size ≤ ao)); replace HK := kb HK hb; have ap := am (nl hg (rk aa)); have aj := ns ap; replace aa := kk aa hb; have aJ := am (il118 hg ac); have ax := ns aJ; replace ac := am (IsS118.below (ri118 ac) hb); clear hb hbox hg; have bG := nN aj; have bH := nN ax; have bn := z2 a9) | ((with_reducible refine cg 52 rfl ?_); refine gl_ (some 10) Try.func52 #[.pointer (some ⟨g, 0, none⟩), .int .i64 4] ?_; (with_reducible refine (spec_l1Below.calls g ag aU aV 4 aW aX aY w0 _ ?side1 ?side2 A3.out).mono ?_); (case side1 => exact ri118 ac); (case side2 => exact rbi HB); rintro e bI ⟨rfl, hi, hb, hk⟩; refine ⟨_, rfl, ?_⟩; replace aa := kh aa hk; replace a9 := kh a9 hk; replace HK := kt HK hk; replace HB := am (hb); replace ac := am (hi); (try clear hb); (try clear bj); (try clear hk); (try clear hi)))
go_loopg [4] k (fun kq v4 w' => ∃ (al : Int) (ah : Int) (ai : Int) (ae : List (List (S98))) (af : Value), v4 = .int .i64 al ∧ Aside0 (spec_l5Draw.l0 kq al ag ah ai (wrap64 (1 + ak)) ae = some (r1, r2, r3, r4)) ∧ Aside0 (kq ≤ k) ∧ Aside0 (Kd.S (Kd.slice 98 k98) 99 w' w.heap.size (fun _ => True) af ae) ∧ Aside0 (w'.heap[az]? = some (.cells #[.int .i64 0, (.slice none 0 0)] 58 (0, 0))) ∧ Aside0 (w'.heap[ao]? = some (.cells #[.int .i64 (wrap64 (1 + ak)), af] 58 (0, 0))) ∧ Aside0 (IsS118 w0 w' g ag ah ai) ∧ Aside0 (KeepBut w w' g none) ∧ Aside0 (Below w0.heap.size w0 w'))
case atStart => exact ⟨(wrap64 (1 + aW)), (aX), (aY), (([] : List (List (S98)))), (.slice none 0 0), sd, H', ⟨Nat.le_refl _⟩, ⟨xn⟩, ⟨rk aa⟩, ⟨rk a9⟩, ⟨ri118 ac⟩, ⟨rkk HK⟩, ⟨rbi HB⟩⟩
case round => (
clear H'
try clear bn
obtain ⟨al, ah, ai, ae, af, rfl, HA, b5, a8, aa, a9, ac, HK, HB⟩ := hrel
cases gk with
| zero => exact absurd HA.out (by simp [spec_l5Draw.l0])
| succ k1 => (
have H := HA.out
clear HA
simp only [spec_l5Draw.l0] at H
by_cases ay : al > 0
·(
rw [if_pos ay] at H
have b4 : decide (0 < al) = true := decide_eq_true ay
clear ay
obtain ⟨⟨av, aD, aE⟩, bg, H⟩ := bd H
(try dsimp only at H)
refine em_ (p := ae.length < 5864062014805) (fun aA => ?bi) (fun aA => ?bh)
case' bi => (
rw [if_pos aA] at H
have LMc13 := am aA
clear aA
obtain ⟨aG, au⟩ : ∃ y_ : List (List (S98)), y_ = (ae ++ [av]) := ⟨_, rfl⟩
replace H : (spec_l5Draw.l0 k1 (wrap64 (al - 1)) ag aD aE (wrap64 (1 + ak)) aG) = some (r1, r2, r3, r4) := by first | (rw [au]; with_reducible exact H) | (rw [au]; exact H) | exact H
have aZ := am au
clear au
have H' := am H
clear H
have bw := trivial
)
case bh => (
rw [if_neg aA] at H
exact absurd H (by simp)
)
all_goals (
try go_wp2
replace a8 := am (Kd.S_drew a8.out)
replace aa := am (blk_drew aa.out)
replace a9 := am (blk_drew a9.out)
replace ac := am (IsS118.drew ac.out)
replace HK := am (keep_drew HK.out)
replace HB := am (below_drew1 HB.out)
refine start_ (n := 10) (S := fun w' => w'.cell? ⟨ao, 0, none⟩ = some (.int .i64 (wrap64 (1 + ak))) ∧ w'.cell? ⟨ao, 1, none⟩ = some (af)) (ds := [9]) (bm 10 0) (by kernel_rfl) rfl rfl (bc2 a9) (fun hHeld => ?_); refine with_tabW spec_l5Draw.tab5 spec_l5Draw.bits5 (fun HT_ HW_ => ?_)
generalize wr.drew = bJ at a8 aa a9 ac HK HB hHeld ⊢
refine pu_ 0 16 (bm 10 1) HT_.out ?_
refine pu_ 2 18 (bm 10 5) HT_.out ?_
refine pu_ 3 19 (bm 10 13) HT_.out ?_
refine tk 1 17 (bm 10 15) HT_ HW_ hHeld ?_
refine tk 4 20 (bm 10 31) HT_ HW_ hHeld ?_
refine o1 5 21 (bm 10 63) HT_ (fun K hK => ?_)
refine gs Try.func113 #[.pointer (some ⟨g, 0, none⟩), .int .i64 (wrap64 (1 + ak))] ?_
with_reducible refine (spec_l4Draw.calls k1 g ag ah ai (wrap64 (1 + ak)) av aD aE w0 _ ?side1 ?side2 bg.out).mono ?_
(case side1 => exact ri118 ac)
(case side2 => exact rbi HB)
rintro e bK ⟨bC, rfl, aT, hi, hb, hk⟩
refine ⟨_, rfl, ?_⟩
replace a8 := am (Kd.S_mono (Kd.S_told (Kd.S_oldK (IsS118.apartS (show IsS118 w0 _ g ag ah ai from ri118 ac) (rs a8) (by decide)) hk) (Kd.R_base aT)) (fun _ h_ => h_.1))
replace aa := kh aa hk
replace a9 := kh a9 hk
have aq := am (Kd.R_lower aT (ks HK))
replace HK := kt HK hk
replace HB := am (hb)
replace ac := am (hi)
(try clear hb)
(try clear hk)
(try clear hi)
(try clear aT)
obtain ⟨aM, aN, aQ⟩ := Kd.R_slice aq.out
(first | subst aQ | (injection aQ with f1_ f2_ f3_; have f4_ := f1_.symm; have f5_ := f3_.symm; clear f1_ f2_ f3_; subst f4_; subst f5_))
refine hK.out _ _ (bc2 a9) (fun hHeld => ?_)
clear hK K
refine norm_ (a' := _) (show Act.put _ (some 21) _ = _ from na) ?_
refine o1 6 22 (bm 10 127) HT_ (fun K hK => ?_)
refine value_ (w1 := ?_) (v := ?_) (by rfl) rfl ?_ ?_
rotate_left 2
·(
go_simp
constructor
·rfl
·rfl
)
refine hK.out _ _ ⟨(blk_cell (blk_alloc a9.out _) 0).trans rfl, (blk_cell (blk_alloc a9.out _) 1).trans rfl⟩ (fun hHeld => ?_)
clear hK K
refine norm_ (a' := _) (show Act.put _ (some 22) _ = _ from na) ?_
refine o1 7 23 (bm 10 255) HT_ (fun K hK => ?_)
refine Kd.S_append_step (Kd.slice 98 k98) w.heap.size (by rfl) (.tmp 17) (.tmp 22) 56 99 (.slice none 0 0) 24 rfl Try.underlying56 info99 rfl (by decide) (by omega) af ae av [.slice aM av.length aN] (fun _ => True) (fun k_ => some k_ = (.slice aM av.length aN : Value).ownBlock) rfl rfl ?aP (fun k_ hk_ => ((Kd.R_mono (ok' := fun k_ => ((fun _ => True)) k_ ∧ some k_ ≠ (af : Value).ownBlock) (Kd.R_apart' (aq.out) (Kd.S_typed a8.out) (by decide)) (fun k_ hk => ⟨trivial, hk.2⟩))).1 k_ hk_.symm) ?aF ?aO (Below.refl _ _) ?aS ?aL ?_
(case aP => exact Kd.M_row (Kd.R_mono (Kd.R_tight rfl (Kd.R_mono (ok' := fun k_ => ((fun _ => True)) k_ ∧ some k_ ≠ (af : Value).ownBlock) (Kd.R_apart' (aq.out) (Kd.S_typed a8.out) (by decide)) (fun k_ hk => ⟨trivial, hk.2⟩))) (fun _ h_ => h_)))
(case aF => exact (fun _ _ => trivial))
(case aO => exact (by (with_reducible repeat (first | apply Kd.S_alloc | apply Kd.S_drewN | apply Kd.S_drew)); exact Kd.S_mono a8.out (fun k_ hk => ⟨trivial, fun e_ => hk.2 e_⟩)))
(case aS => exact (ks HK))
(case aL => have := LMc13.out; omega)
intro bD bl ho hb hg hat
rw [← aZ.out] at ho
replace aa := am (blk_grown (rk aa) hg (Kd.S_ne a8.out aa.out (by decide)))
replace a9 := am (blk_grown (rk a9) hg (Kd.S_ne a8.out a9.out (by decide)))
replace HB := am (below_weaken (rbi HB) HL.out hb)
replace ac := am (IsS118.grown (ri118 ac) hg (IsS118.own_neS ac.out a8.out (by decide)))
replace HK := am (KeepBut.trans (rkk HK) (KeepBut.of_grown hg g) (Kd.S_base2 a8.out))
have aH := am (ho)
clear a8 aq
clear ho hb hg hat
obtain ⟨b7, b9, aR⟩ := Kd.S_slice aH.out
(first | subst aR | (injection aR with f1_ f2_ f3_; have f4_ := f1_.symm; have f5_ := f3_.symm; clear f1_ f2_ f3_; subst f4_; subst f5_))
refine hK.out _ _ (bc2 a9) (fun hHeld => ?_)
clear hK K
refine norm_ (a' := _) (show Act.put _ (some 23) _ = _ from na) ?_
refine pu_ 8 24 (bm 10 511) HT_.out ?_
refine last_ (i := 9) (N := none) (bm 10 1023) rfl rfl (one_of HT_.out (by kernel_rfl)) (by decide) (fun K hK => ?_)
have bu : bl.cell? ⟨ao, 1, none⟩ = some (af) := (blk_cell a9.out 1).trans rfl
have bt := blk_frozen a9.out 1
have bf := ap.out
have bc := aj.out
refine skip_ (w1 := ?_) (by rfl) rfl ?_ ?_
rotate_left
·(
go_simp
rfl
)
refine hK.out _ _ ?_
clear hK K
refine done_ (done_of HT_.out (by kernel_rfl)) ?_
try go_wp2
go_roundg k1
case measure => have := b5.out; omega
case rel => exact ⟨(wrap64 (al - 1)), (aD), (aE), (aG), (.slice b7 aG.length b9), sd, H', ⟨by have := b5.out; omega⟩, ⟨tS1 aH a9⟩, ⟨rk aa⟩, ⟨rk a9⟩, ⟨ri118 ac⟩, ⟨rkk HK⟩, ⟨rbi HB⟩⟩
)
)
·(
rw [if_neg ay] at H
have b4 : decide (0 < al) = false := decide_eq_false ay
clear ay
simp only [Option.some.injEq, Prod.mk.injEq] at H
obtain ⟨rfl, rfl, rfl, rfl⟩ := H
have bz := nN aj
have bA := nN ax
have bE := z2 a9
have bB := nN aK
have bF := z2 aa
obtain ⟨b8, ba, bb⟩ := Kd.S_slice a8.out
subst bb
go_wp2
refine bodyPost_ret (results_cell_row rfl _ _ az 58 #[.int .i64 (wrap64 (1 + ak)), .slice b8 ae.length ba] (0, 0) _ rfl (rk aa) Try.underlying58 rfl (by kernel_rfl)) rfl ?_
exact ⟨_, ew, tS1 a8 aa, ri118 ac, rbi HB, rkk HK⟩
)
)
)
)

/-! ### spec_l1From: function 54 -/
def spec_l1From.f (a9 : List Int) (aa : Int) (ac : Int) (a1 : Int) (a2 : Int) : Option (Int × Int × Int) := (spec_l1Below.f a9 aa ac (wrap64 ((wrap64 (a2 - a1)) + 1))).bind fun a8 => (some (wrap64 (a1 + a8.1), a8.2.1, a8.2.2))
set_option maxHeartbeats 8000000 in
set_option maxRecDepth 100000 in
theorem spec_l1From.calls (g : Nat) (a8 : List Int) (a9 : Int) (aa : Int) (a1 : Int) (a2 : Int) (r1 : Int) (r2 : Int) (r3 : Int) (w0 w : World) (hI : IsS118 w0 w g a8 a9 aa) (hB : Below w0.heap.size w0 w) (h : spec_l1From.f a8 a9 aa a1 a2 = some (r1, r2, r3)) :
  Calls Try.prog 54 #[.pointer (some ⟨g, 0, none⟩), .int .i64 a1, .int .i64 a2] w fun e w' => e = .returned (.int .i64 r1) ∧ IsS118 w0 w' g a8 r2 r3 ∧ Below w0.heap.size w0 w' ∧ KeepBut w w' g none := by
 (
have ac := am hI
have HK := am (KeepBut.refl w g none)
have HL := am hB.size
clear hI
have ah := am hB.size
have HB := am hB
clear hB
have H := h
unfold spec_l1From.f at H
clear h
obtain ⟨⟨ae, af, ag⟩, A4, H⟩ := bd H
(try dsimp only at H)
simp only [Option.some.injEq, Prod.mk.injEq] at H
obtain ⟨rfl, rfl, rfl⟩ := H
go_enter Try.func54, Try.ntmps54
go_wp2_with (first | ((with_reducible refine cg 52 rfl ?_); refine gl_ (some 13) Try.func52 #[.pointer (some ⟨g, 0, none⟩), .int .i64 (wrap64 ((wrap64 (a2 - a1)) + 1))] ?_; (with_reducible refine (spec_l1Below.calls g a8 a9 aa (wrap64 ((wrap64 (a2 - a1)) + 1)) ae af ag w0 _ ?side1 ?side2 A4.out).mono ?_); (case side1 => exact ri118 ac); (case side2 => exact rbi HB); rintro e w5 ⟨rfl, hi, hb, hk⟩; refine ⟨_, rfl, ?_⟩; replace HK := kt HK hk; replace HB := am (hb); replace ac := am (hi); (try clear hb); (try clear ai); (try clear hk); (try clear hi)))
go_ret
exact ⟨ew, ri118 ac, rbi HB, rkk HK⟩
)

/-! ### spec_l3DrawAny: function 128 -/
def spec_l3DrawAny.f (ac : List Int) (af : Int) (ag : Int) : Option (Int × Int × Bool × Bool × Bool × Int × Int) := (spec_l3Draw.f ac af ag).bind fun a8 => ((spec_l1Once.f ac a8.2.2.2.2.2.1 a8.2.2.2.2.2.2 14).bind fun a9 => (if a9.1 = true then ((some (([(-1), 8, 9, 4611686018427387904] : List Int) : List Int)).bind fun ae => ((spec_l1Below.f ac a9.2.1 a9.2.2 4).bind fun aa => (if 0 ≤ aa.1 then (if aa.1 < (ae.length : Int) then (some (rd ae aa.1, a8.2.1, a8.2.2.1, a8.2.2.2.1, a8.2.2.2.2.1, aa.2.1, aa.2.2)) else (none)) else (none)))) else (some (a8.1, a8.2.1, a8.2.2.1, a8.2.2.2.1, a8.2.2.2.2.1, a9.2.1, a9.2.2))))
set_option maxHeartbeats 8000000 in
set_option maxRecDepth 100000 in
theorem spec_l3DrawAny.calls (g : Nat) (ac : List Int) (aC : Int) (aD : Int) (r1 : Int) (r2 : Int) (r3 : Bool) (r4 : Bool) (r5 : Bool) (r6 : Int) (r7 : Int) (w0 w : World) (hI : IsS118 w0 w g ac aC aD) (hB : Below w0.heap.size w0 w) (h : spec_l3DrawAny.f ac aC aD = some (r1, r2, r3, r4, r5, r6, r7)) :
  Calls Try.prog 128 #[.pointer (some ⟨g, 0, none⟩)] w fun e w' => e = .returned (.agg #[.int .i64 r1, .int .i64 r2, .bool r3, .bool r4, .bool r5]) ∧ IsS118 w0 w' g ac r6 r7 ∧ Below w0.heap.size w0 w' ∧ KeepBut w w' g none := by
 (
have bh := Try.underlying96
have aa := am hI
have HK := am (KeepBut.refl w g none)
have HL := am hB.size
clear hI
have aN := am hB.size
have HB := am hB
clear hB
have H := h
unfold spec_l3DrawAny.f at H
clear h
obtain ⟨⟨aL, aq, au, av, ax, aE, aF⟩, A2, H⟩ := bd H
(try dsimp only at H)
obtain ⟨⟨aS, ak, al⟩, A3, H⟩ := bd H
(try dsimp only at H)
refine em_ (p := aS = true) (fun c4 => ?b5) (fun c4 => ?b4)
case' b5 => (
subst c4
rw [if_pos rfl] at H
obtain ⟨ag, ai⟩ : ∃ y_ : List Int, y_ = (([(-1), 8, 9, 4611686018427387904] : List Int)) := ⟨_, rfl⟩
replace H : ((spec_l1Below.f ac ak al 4).bind fun af => (if 0 ≤ af.1 then (if af.1 < (ag.length : Int) then (some (rd ag af.1, aq, au, av, ax, af.2.1, af.2.2)) else (none)) else (none))) = some (r1, r2, r3, r4, r5, r6, r7) := by first | (rw [ai]; with_reducible exact H) | (rw [ai]; exact H) | exact H
have aG := am ai
clear ai
obtain ⟨⟨ae, aT, aU⟩, A5, H⟩ := bd H
(try dsimp only at H)
refine em_ (p := 0 ≤ ae) (fun c6 => ?aZ) (fun c6 => ?aY)
case' aZ => (
rw [if_pos c6] at H
have bc : decide (0 ≤ ae) = true := decide_eq_true c6
clear c6
refine em_ (p := ae < (ag.length : Int)) (fun c7 => ?aX) (fun c7 => ?aW)
case' aX => (
rw [if_pos c7] at H
have bf : decide (ae < (ag.length : Int)) = true := decide_eq_true c7
clear c7
simp only [Option.some.injEq, Prod.mk.injEq] at H
obtain ⟨rfl, rfl, rfl, rfl, rfl, rfl, rfl⟩ := H
have aQ := trivial
)
case aW => (
rw [if_neg c7] at H
exact absurd H (by simp)
)
)
case aY => (
rw [if_neg c6] at H
exact absurd H (by simp)
)
)
case' b4 => (
replace c4 := Bool.eq_false_iff.mpr c4
subst c4
rw [if_neg (show ¬ (false = true) by decide)] at H
simp only [Option.some.injEq, Prod.mk.injEq] at H
obtain ⟨rfl, rfl, rfl, rfl, rfl, rfl, rfl⟩ := H
have aR := trivial
)
all_goals (
go_enter Try.func128, Try.ntmps128
go_wp2_with (first | ((with_reducible refine cg 51 rfl ?_); refine gl_ (some 7) Try.func51 #[.pointer (some ⟨g, 0, none⟩), .int .i64 14] ?_; (with_reducible refine (spec_l1Once.calls g ac aE aF 14 false ak al w0 _ ?side1 ?side2 A3.out).mono ?_); (case side1 => exact ri118 aa); (case side2 => exact rbi HB); rintro e bB ⟨rfl, hi, hb, hk⟩; refine ⟨_, rfl, ?_⟩; replace a8 := kh a8 hk; replace a9 := kh a9 hk; replace HK := kt HK hk; replace HB := am (hb); replace aa := am (hi); (try clear hb); (try clear aK); (try clear hk); (try clear hi); have bt := z5 a9; have bn := nN ao; have bu := z5 a8) | (refine bx 3 #[.int .i64 0, .int .i64 0, .bool false, .bool false, .bool false] 96 ?_; intro aM hg bv hbox hb; replace HB := bsi HB hb; have a9 := am (hbox); have b9 := am (gk hg HK); have b7 := am ((Nat.le_trans aN.out (gk hg HK) : w0.heap.size ≤ aM)); replace HK := kb HK hb; have ay := am (nl hg (rk a8)); have az := ns ay; replace a8 := kk a8 hb; have aI := am (il118 hg aa); have aJ := ns aI; replace aa := am (IsS118.below (ri118 aa) hb); clear hb hbox hg; have bi := nN az; have bj := nN aJ; have bp := z5 a9) | ((with_reducible refine cg 52 rfl ?_); refine gl_ (some 10) Try.func52 #[.pointer (some ⟨g, 0, none⟩), .int .i64 4] ?_; (with_reducible refine (spec_l1Below.calls g ac ak al 4 ae aT aU w0 _ ?side1 ?side2 A5.out).mono ?_); (case side1 => exact ri118 aa); (case side2 => exact rbi HB); rintro e bA ⟨rfl, hi, hb, hk⟩; refine ⟨_, rfl, ?_⟩; replace a8 := kh a8 hk; replace a9 := kh a9 hk; replace ah := am (Kd.R_mono (Kd.R_keep (IsS118.apart (show IsS118 w0 _ g ac ak al from ri118 aa) (rr ah) (by decide)) hk (fun _ h => h.2)) (fun _ h => h.1)); replace HK := kt HK hk; replace HB := am (hb); replace aa := am (hi); (try clear hb); (try clear aK); (try clear hk); (try clear hi); obtain ⟨bb, bg, aP⟩ := Kd.R_slice ah.out; subst aP; have aA : 0 ≤ (ae : Int) := dt_; have aB : ae < (ag.length : Int) := dt_; obtain ⟨ba, aO, aV⟩ := Kd.at_int (Kd.R_reads' ah.out).2.2 ae aA aB; cases aO; replace aA := eq_true aA; replace aB := eq_true aB; have bq := z5 a9; have bl := nN ao; have br := z5 a8) | ((with_reducible refine cg 51 rfl ?_); refine gl_ (some 7) Try.func51 #[.pointer (some ⟨g, 0, none⟩), .int .i64 14] ?_; (with_reducible refine (spec_l1Once.calls g ac aE aF 14 true ak al w0 _ ?side1 ?side2 A3.out).mono ?_); (case side1 => exact ri118 aa); (case side2 => exact rbi HB); rintro e bw ⟨rfl, hi, hb, hk⟩; refine ⟨_, rfl, ?_⟩; replace a8 := kh a8 hk; replace a9 := kh a9 hk; replace HK := kt HK hk; replace HB := am (hb); replace aa := am (hi); (try clear hb); (try clear aK); (try clear hk); (try clear hi)) | ((with_reducible refine gate_dst (N := 8) rfl ?_); refine Kd.R_lit (Kd.int .i64) _ 2 ?hg (N := 8) ?hd (xs := ([(-1), 8, 9, 4611686018427387904] : List Int)) (inner := [.int .i64 (-1), .int .i64 8, .int .i64 9, .int .i64 4611686018427387904]) (ok := fun _ => True) (okp := fun _ => True) ?hr ?hp (fun _ hk => hk) trivial (Below.refl _ _) (Nat.le_refl _) (by simp) ?_; (case hd => rfl); (case hg => rfl); (case hr => first | (go_simp; done) | (go_simp; rfl)); (case hp => exact (Reps.one (show Kd.M (Kd.int .i64) _ _ _ (-1) [.int .i64 (-1)] from rfl) (Reps.one (show Kd.M (Kd.int .i64) _ _ _ 8 [.int .i64 8] from rfl) (Reps.one (show Kd.M (Kd.int .i64) _ _ _ 9 [.int .i64 9] from rfl) (Reps.one (show Kd.M (Kd.int .i64) _ _ _ 4611686018427387904 [.int .i64 4611686018427387904] from rfl) (Reps.none _ _)))))); intro bo bz aj hb hg_ hnew_; clear hg_ hnew_; (first | rw [← aG.out] at aj | (simp only [Int.reduceToNat] at aj; rw [← aG.out] at aj)); have ah := am (Kd.R_lower aj (ks HK)); replace a8 := kk a8 hb; replace a9 := kk a9 hb; replace HK := kb HK hb; replace HB := bsi HB hb; replace aa := am (IsS118.below (ri118 aa) hb); clear hb aj) | (refine bx 2 #[.int .i64 0, .int .i64 0, .bool false, .bool false, .bool false] 96 ?_; intro ap hg w8 hbox hb; replace HB := bsi HB hb; have a8 := am (hbox); have b8 := am (gk hg HK); have b6 := am ((Nat.le_trans aN.out (gk hg HK) : w0.heap.size ≤ ap)); replace HK := kb HK hb; have aH := am (il118 hg aa); have ao := ns aH; replace aa := am (IsS118.below (ri118 aa) hb); clear hb hbox hg) | ((with_reducible refine cg 127 rfl ?_); refine gl_ (some 5) Try.func127 #[.pointer (some ⟨g, 0, none⟩)] ?_; (with_reducible refine (spec_l3Draw.calls g ac aC aD aL aq au av ax aE aF w0 _ ?side1 ?side2 A2.out).mono ?_); (case side1 => exact ri118 aa); (case side2 => exact rbi HB); rintro e w9 ⟨rfl, hi, hb, hk⟩; refine ⟨_, rfl, ?_⟩; replace a8 := kh a8 hk; replace HK := kt HK hk; replace HB := am (hb); replace aa := am (hi); (try clear hb); (try clear aK); (try clear hk); (try clear hi)))
first
| (
have q_ := aQ
refine bodyPost_ret (results_cell_row rfl _ _ ap 96 #[.int .i64 (rd ag ae), .int .i64 aq, .bool au, .bool av, .bool ax] (0, 0) _ rfl (rk a8) Try.underlying96 rfl (by kernel_rfl)) rfl ?_
exact ⟨ew, ri118 aa, rbi HB, rkk HK⟩
)
| (
have q_ := aR
refine bodyPost_ret (results_cell_row rfl _ _ ap 96 #[.int .i64 aL, .int .i64 aq, .bool au, .bool av, .bool ax] (0, 0) _ rfl (rk a8) Try.underlying96 rfl (by kernel_rfl)) rfl ?_
exact ⟨ew, ri118 aa, rbi HB, rkk HK⟩
)
)
)

end Go.Proofs.Ytalopdcephohgaa.RD
