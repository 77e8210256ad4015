/- Contracts of Go functions that laws of this seat reach: each Lean function answers as its Go function does. No condition. Written by wip/tools/inj.py, over the kit's print. -/
import Derived.Test.YtalopdcephohgaaRDx0
import Derived.Test.YtalopdcephohgaaRDx2
import Derived.Test.YtalopdcephohgaaRDx24
import Derived.Test.YtalopdcephohgaaRDx28
import Derived.Test.YtalopdcephohgaaRDx32
namespace Go.Proofs.Ytalopdcephohgaa.RD
open Go.RowKit Go.Proofs.YtalopdcephohgaaW.PrintWords Go.Proofs.YtalopdcephohgaaW.PrintLast Go.Proofs.YtalopdcephohgaaW.PrintMore
attribute [local go_sem] max2_int min2_int max_two min_two max_three min_three max_four min_four   -- for this text's walks alone
set_option linter.unusedVariables false
set_option linter.unusedSimpArgs false

attribute [local go_sem high] eqA98
/-! ### spec_DrawPatched: function 45 -/
def spec_DrawPatched.f (k : Nat) (l0 : List Int) : Option (Int × (List (List (S98))) × Int × Int × (List (S101))) := (spec_l1New.f k l0).bind fun a8 => ((spec_l5DrawAny.f k a8.1 a8.2.1 a8.2.2).bind fun a9 => ((spec_l10Draw.f k a8.1 a9.2.2.1 a9.2.2.2).bind fun aa => (some (a9.1, a9.2.1, aa.1, aa.2.1, aa.2.2.1))))
theorem spec_DrawPatched.mono : ∀ a0 k, LeO (spec_DrawPatched.f k a0) (spec_DrawPatched.f (k + 1) a0) := by
 intro a0 k
 unfold spec_DrawPatched.f
 repeat' first
   | (with_reducible exact spec_l10Draw.mono _ _ _ _)
   | (with_reducible exact spec_l1New.mono _ _)
   | (with_reducible exact spec_l5DrawAny.mono _ _ _ _)
   | (with_reducible exact LeO.refl _)
   | (with_reducible exact LeO.none _)
   | (with_reducible refine LeO.ite ?_ ?_)
   | (with_reducible refine LeO.bind ?_ (fun _ => ?_))
set_option maxHeartbeats 8000000 in
set_option maxRecDepth 100000 in
theorem spec_DrawPatched.calls (k : Nat) (A0 : Option Addr) (c0 : Nat) (l0 : List Int) (r1 : Int) (r2 : List (List (S98))) (r3 : Int) (r4 : Int) (r5 : List (S101)) (w : World) (aU : Kd.C (Kd.int .u8) w A0 l0.length l0) (aT : l0.length ≤ c0) (h : spec_DrawPatched.f k l0 = some (r1, r2, r3, r4, r5)) :
  Calls Try.prog 45 #[.slice A0 l0.length c0] w fun e w' => ∃ v1_ v4_ : Value, e = .returned (.tuple #[.agg #[.int .i64 r1, v1_], .agg #[.int .i64 r3, .int .i64 r4, v4_]]) ∧ Kd.V (Kd.slice 98 k98) 99 w' w.heap.size (fun k_ => (w.heap.size ≤ k_)) v1_ r2 ∧ Kd.V k101 101 w' w.heap.size (fun k_ => (w.heap.size ≤ k_)) v4_ r5 ∧ Below w.heap.size w w' := by
 (
have bN := Try.underlying58
have bM := Try.underlying53
have bu := am aU
have bt := am aT
clear aU aT
have HB := am (Below.refl w.heap.size w)
have H := h
unfold spec_DrawPatched.f at H
clear h
obtain ⟨⟨ay, aH, aI⟩, A2, H⟩ := bd H
(try dsimp only at H)
obtain ⟨⟨au, al, aA, aB⟩, A3, H⟩ := bd H
(try dsimp only at H)
obtain ⟨⟨aJ, aK, aL, aY, aZ⟩, A4, H⟩ := bd H
(try dsimp only at H)
simp only [Option.some.injEq, Prod.mk.injEq] at H
obtain ⟨rfl, rfl, rfl, rfl, rfl⟩ := H
go_enter Try.func45, Try.ntmps45
try go_wp2_with (first | (refine bx 2 #[.int .i64 0, .slice none 0 0] 58 ?_; intro aj hg w5 hbox hb; have a8 := am (hbox); have aM := am (gw hg (rb HB)); have bw := aM; replace HB := bs HB hb; clear hb hbox hg) | (refine bx 3 #[.int .i64 0, .int .i64 0, .slice none 0 0] 53 ?_; intro af hg w6 hbox hb; have a9 := am (hbox); have aN := am (gw hg (rb HB)); have bz := aN; replace HB := bs HB hb; have ak := am (nl hg (rk a8)); have ao := ns ak; replace a8 := kk a8 hb; clear hb hbox hg) | ((with_reducible refine cg 49 rfl ?_); refine gl_ (some 7) Try.func49 #[.slice A0 l0.length c0] ?_; (with_reducible refine (spec_l1New.calls k _ _ l0 ay aH aI w _ ?side1 ?side2 ?side3 A2.out).mono ?_); (case side1 => exact rb HB); (case side2 => exact bu.out); (case side3 => exact bt.out); rintro e w7 ⟨g837, rfl, hi, hb, az⟩; refine ⟨_, rfl, ?_⟩; replace HB := am (hb); have ae := am (hi); have aQ := am (IsS118.ne_blk hi (blk_below (rk a8) az) (by decide)); have aO := am (Ne.symm (IsS118.ne_blk hi (blk_below (rk a8) az) (by decide))); replace a8 := am (blk_below (rk a8) az); have aR := am (IsS118.ne_blk hi (blk_below (rk a9) az) (by decide)); have aP := am (Ne.symm (IsS118.ne_blk hi (blk_below (rk a9) az) (by decide))); replace a9 := am (blk_below (rk a9) az); (try clear hb); (try clear az); (try clear hk); (try clear hi)) | ((with_reducible refine cg 84 rfl ?_); refine gl_ (some 9) Try.func84 #[.pointer (some ⟨g837, 0, none⟩)] ?_; (with_reducible refine (spec_l5DrawAny.calls k g837 ay aH aI au al aA aB w _ ?side1 ?side2 A3.out).mono ?_); (case side1 => exact ri118 ae); (case side2 => exact rbi HB); rintro e w8 ⟨bR, rfl, aC, hi, hb, hk⟩; refine ⟨_, rfl, ?_⟩; have ah := am (Kd.N_lower (Kd.N_mono (ok' := fun k_ => (w.heap.size ≤ k_) ∧ k_ ≠ aj ∧ k_ ≠ af ∧ k_ ≠ g837) aC (fun k_ hk_ => ⟨(Nat.le_trans (below_size (rbi HB)) hk_), (Kd.freshB (rk a8) k_ hk_), (Kd.freshB (rk a9) k_ hk_), (IsS118.fresh (ri118 ae) k_ hk_)⟩)) (below_size (rbi HB))); replace a8 := kh a8 hk; replace a9 := kh a9 hk; replace HB := am (hb); replace ae := am (hi); (try clear hb); (try clear az); (try clear hk); (try clear hi); (try clear aC)) | (refine bx 5 #[.int .i64 0, .slice none 0 0] 58 ?_; intro aa hg w9 hbox hb; replace ah := am (Kd.N_below (Kd.N_elderB (qN_ ah) aa (Nat.le_of_eq hg.symm)) hb); have ai := am (hbox); have bB := am ((by rw [hg]; exact (below_size (rbi HB)) : w.heap.size ≤ aa)); have bA := am ((by rw [hg]; exact (below_size (rbi HB)) : w.heap.size ≤ aa)); replace HB := bsi HB hb; have ax := am (nl hg (rk a8)); have ag := ns ax; replace a8 := kk a8 hb; have av := am (nl hg (rk a9)); have ac := ns av; replace a9 := kk a9 hb; have aS := am ((by rw [hg]; exact Nat.ne_of_lt (IsS118.lt (show IsS118 w _ g837 ay aA aB from ri118 ae)) : g837 ≠ aa)); have aD := am ((by rw [hg]; exact Nat.ne_of_gt (IsS118.lt (show IsS118 w _ g837 ay aA aB from ri118 ae)) : aa ≠ g837)); replace ae := am (IsS118.below (ri118 ae) hb); clear hb hbox hg; have bO := nN ag; have bP := nN ac; have bQ := nN aD; have bT := z2 ai; obtain ⟨ap, aq, aX⟩ := Kd.N_slice ah.out; subst aX))
have n0_ : Aside0 (Kd.N (Kd.slice 98 k98) 99 ((w9.setCell ⟨aa, 0, none⟩ (.int .i64 au)).setCell ⟨aa, 1, none⟩ (.slice ap al.length aq)) w.heap.size (fun k_ => (w.heap.size ≤ k_) ∧ k_ ≠ aj ∧ k_ ≠ af ∧ k_ ≠ g837 ∧ k_ ≠ aa) (.slice ap al.length aq) al) := ⟨rN_ ah⟩
have n1_ : Aside0 (((w9.setCell ⟨aa, 0, none⟩ (.int .i64 au)).setCell ⟨aa, 1, none⟩ (.slice ap al.length aq)).heap[aj]? = some (.cells #[.int .i64 0, .slice none 0 0] 58 (0, 0))) := ⟨rk a8⟩
have n2_ : Aside0 (((w9.setCell ⟨aa, 0, none⟩ (.int .i64 au)).setCell ⟨aa, 1, none⟩ (.slice ap al.length aq)).heap[af]? = some (.cells #[.int .i64 0, .int .i64 0, .slice none 0 0] 53 (0, 0))) := ⟨rk a9⟩
have n3_ : Aside0 (((w9.setCell ⟨aa, 0, none⟩ (.int .i64 au)).setCell ⟨aa, 1, none⟩ (.slice ap al.length aq)).heap[aa]? = some (.cells #[.int .i64 au, .slice ap al.length aq] 58 (0, 0))) := ⟨rk ai⟩
have n4_ : Aside0 (IsS118 w ((w9.setCell ⟨aa, 0, none⟩ (.int .i64 au)).setCell ⟨aa, 1, none⟩ (.slice ap al.length aq)) g837 ay aA aB) := ⟨ri118 ae⟩
have n5_ : Aside0 (Below w.heap.size w ((w9.setCell ⟨aa, 0, none⟩ (.int .i64 au)).setCell ⟨aa, 1, none⟩ (.slice ap al.length aq))) := ⟨rbi HB⟩
(try clear ah)
(try clear a8)
(try clear a9)
(try clear ai)
(try clear ae)
(try clear HB)
generalize ((w9.setCell ⟨aa, 0, none⟩ (.int .i64 au)).setCell ⟨aa, 1, none⟩ (.slice ap al.length aq)) = bv at n0_ n1_ n2_ n3_ n4_ n5_ ⊢
have ah := n0_
have a8 := n1_
have a9 := n2_
have ai := n3_
have ae := n4_
have HB := n5_
clear n0_ n1_ n2_ n3_ n4_ n5_
replace ah := am (Kd.N_drew ah.out)
replace a8 := am (blk_drew a8.out)
replace a9 := am (blk_drew a9.out)
replace ai := am (blk_drew ai.out)
replace ae := am (IsS118.drew ae.out)
replace HB := am (below_drew1 HB.out)
refine start_ (n := 5) (S := fun w' => w'.cell? ⟨aa, 0, none⟩ = some (.int .i64 au) ∧ w'.cell? ⟨aa, 1, none⟩ = some (.slice ap al.length aq)) (ds := []) (bm 5 0) (by kernel_rfl) rfl rfl (bc2 ai) (fun hHeld => ?_)
generalize bv.drew = bU at ah a8 a9 ai ae HB hHeld ⊢
refine pure_ (i := 1) (N := some 11) (v := ?_) (a' := ?_) (bm 5 2) rfl rfl (by kernel_rfl) (fun _ _ _ h => h) (Or.inl ⟨by rfl, ?_⟩) ?_ ?_
rotate_left
·(
intro w'
go_simp
with_reducible rfl
)
rotate_left
·(
simp only [Act.put, List.setIfInBounds_toArray, List.set_cons_zero, List.set_cons_succ, i64_w, i32_w]
rfl
)
refine take_ (i := 0) (N := some 10) (v := ?_) (a' := ?_) (bm 5 3) rfl rfl (by kernel_rfl) (fun _ _ _ h => h) (Or.inl ⟨by rfl, ?_⟩) hHeld ?_ ?_
rotate_left
·(
rintro w' ⟨s0, s1⟩
go_simp
with_reducible rfl
)
rotate_left
·(
simp only [Act.put, List.setIfInBounds_toArray, List.set_cons_zero, List.set_cons_succ, i64_w, i32_w]
rfl
)
refine one_ (i := 2) (N := some 12) (bm 5 7) rfl rfl (by kernel_rfl) (by decide) (fun K hK => ?_)
refine gs Try.func85 #[.pointer (some ⟨g837, 0, none⟩)] ?_
with_reducible refine (spec_l10Draw.calls k g837 ay aA aB aJ aK aL aY aZ w _ ?side1 ?side2 A4.out).mono ?_
(case side1 => exact ri118 ae)
(case side2 => exact rbi HB)
rintro e aE ⟨bS, rfl, aC, hi, hb, hk⟩
refine ⟨_, rfl, ?_⟩
have aF := am (Kd.N_lower (Kd.N_mono (ok' := fun k_ => (w.heap.size ≤ k_) ∧ some k_ ≠ (.slice ap al.length aq : Value).ownBlock ∧ k_ ≠ aj ∧ k_ ≠ af ∧ k_ ≠ aa ∧ k_ ≠ g837) (Kd.S_N (Kd.S_bound aC)) (fun k_ hk_ => ⟨(Nat.le_trans (below_size (rbi HB)) hk_.2.1), (Kd.fresh' (Kd.N_lt (qN_ ah)) k_ hk_.2.1), (Kd.freshB (rk a8) k_ hk_.2.1), (Kd.freshB (rk a9) k_ hk_.2.1), (Kd.freshB (rk ai) k_ hk_.2.1), (IsS118.fresh (ri118 ae) k_ hk_.2.1)⟩)) (below_size (rbi HB)))
replace a8 := kh a8 hk
replace a9 := kh a9 hk
replace ah := am (Kd.N_mono (Kd.N_told (Kd.N_oldK (Kd.N_mono (ok := fun k_ => (((w.heap.size ≤ k_)) ∧ (k_ ≠ aj ∧ (k_ ≠ af ∧ (k_ ≠ g837 ∧ k_ ≠ aa))))) (qN_ ah) (fun k_ hk_ => (⟨hk_, hk_.2.2.2.1⟩ : _ ∧ k_ ≠ g837))) hk) (Kd.S_base aC)) (fun _ h_ => h_.1))
replace ai := kh ai hk
replace HB := am (hb)
replace ae := am (hi)
(try clear hb)
(try clear hk)
(try clear hi)
(try clear aC)
obtain ⟨aV, aW, aG⟩ := Kd.N_slice aF.out
(first | subst aG | (injection aG with f1_ f2_ f3_; have f4_ := f1_.symm; have f5_ := f3_.symm; clear f1_ f2_ f3_; subst f4_; subst f5_))
refine hK.out _ _ (bc2 ai) (fun hHeld => ?_)
clear hK K
refine norm_ (a' := _) (show Act.put _ (some 12) _ = _ from na) ?_
refine one_ (i := 3) (N := none) (bm 5 15) rfl rfl (by kernel_rfl) (by decide) (fun K hK => ?_)
have bH : aE.cell? ⟨aj, 0, none⟩ = some (.int .i64 0) := (blk_cell a8.out 0).trans rfl
have bC := blk_frozen a8.out 0
have bg := ao.out
have bh := ag.out
have b4 := ak.out
have b5 := ax.out
have bI : aE.cell? ⟨aj, 1, none⟩ = some (.slice none 0 0) := (blk_cell a8.out 1).trans rfl
have bD := blk_frozen a8.out 1
have bi := ao.out
have bj := ag.out
have b6 := ak.out
have b7 := ax.out
refine skip_ (w1 := ?_) (by rfl) rfl ?_ ?_
rotate_left
·(
go_simp
rfl
)
refine hK.out _ _ ⟨((cell_far (p := ⟨aj, _, none⟩) ag.out _).trans (((cell_far (p := ⟨aj, _, none⟩) ag.out _).trans (hHeld.1)))), ((cell_far (p := ⟨aj, _, none⟩) ag.out _).trans (((cell_far (p := ⟨aj, _, none⟩) ag.out _).trans (hHeld.2))))⟩ (fun hHeld => ?_)
clear hK K
refine one_ (i := 4) (N := none) (bm 5 31) rfl rfl (by kernel_rfl) (by decide) (fun K hK => ?_)
have bJ : aE.cell? ⟨af, 0, none⟩ = some (.int .i64 0) := (blk_cell a9.out 0).trans rfl
have bE := blk_frozen a9.out 0
have bl := ak.out
have bn := ac.out
have b8 := ao.out
have b9 := av.out
have bK : aE.cell? ⟨af, 1, none⟩ = some (.int .i64 0) := (blk_cell a9.out 1).trans rfl
have bF := blk_frozen a9.out 1
have bo := ak.out
have bp := ac.out
have ba := ao.out
have bb := av.out
have bL : aE.cell? ⟨af, 2, none⟩ = some (.slice none 0 0) := (blk_cell a9.out 2).trans rfl
have bG := blk_frozen a9.out 2
have bq := ak.out
have br := ac.out
have bc := ao.out
have bf := av.out
refine skip_ (w1 := ?_) (by rfl) rfl ?_ ?_
rotate_left
·(
go_simp
rfl
)
refine hK.out _ _ ⟨((cell_far (p := ⟨af, _, none⟩) ac.out _).trans (((cell_far (p := ⟨af, _, none⟩) ac.out _).trans (((cell_far (p := ⟨af, _, none⟩) ac.out _).trans (hHeld.1)))))), ((cell_far (p := ⟨af, _, none⟩) ac.out _).trans (((cell_far (p := ⟨af, _, none⟩) ac.out _).trans (((cell_far (p := ⟨af, _, none⟩) ac.out _).trans (hHeld.2))))))⟩ (fun hHeld => ?_)
clear hK K
refine done_ (by kernel_rfl) ?_
try go_wp2
refine bodyPost_ret (results_cc rfl _ _ aj af 58 53 #[.int .i64 au, .slice ap al.length aq] #[.int .i64 aJ, .int .i64 aK, .slice aV aL.length aW] (0, 0) (0, 0) _ _ rfl (rk a8) Try.underlying58 rfl (by kernel_rfl) rfl (rk a9) Try.underlying53 rfl (by kernel_rfl)) rfl ?_
exact ⟨_, _, ew, Kd.N_V (rN_ ah), Kd.N_V (rN_ aF), rbi HB⟩
)

/-! ### laws_likeRow: function 86 -/
def laws_likeRow.l0 : Nat → List (S98) → List (S98) → Int → Option (Bool)
 | 0, _, _, _ => none
 | k + 1, x0, x1, x5 => if x5 < (x0.length : Int) then (if 0 ≤ x5 then (if x5 < (x1.length : Int) then (if (!(((rd_T98 x0 x5).f0) == ((rd_T98 x1 x5).f0)) || ((!(((rd_T98 x0 x5).f1.f0) == ((rd_T98 x1 x5).f1.f0)) || (!(((rd_T98 x0 x5).f1.f1) == ((rd_T98 x1 x5).f1.f1)) || (!(((rd_T98 x0 x5).f1.f2) == ((rd_T98 x1 x5).f1.f2)) || (!(((rd_T98 x0 x5).f1.f3) == ((rd_T98 x1 x5).f1.f3)) || (!(((rd_T98 x0 x5).f1.f4) == ((rd_T98 x1 x5).f1.f4))))))) || (!(((rd_T98 x0 x5).f2) == ((rd_T98 x1 x5).f2))))) = true then (some false) else (laws_likeRow.l0 k x0 x1 (wrap64 (x5 + 1)))) else (none)) else (none)) else (some true)
def laws_likeRow.f (k : Nat) (l0 : List (S98)) (l1 : List (S98)) : Option (Bool) := if (l0.length : Int) = (l1.length : Int) then (laws_likeRow.l0 k l0 l1 0) else (some false)
theorem laws_likeRow.mono_l : ∀ k, (∀ y0 y1 y2, LeO (laws_likeRow.l0 k y0 y1 y2) (laws_likeRow.l0 (k + 1) y0 y1 y2))
 | 0 => fun _ _ _ r h => by simp [laws_likeRow.l0] at h
 | k + 1 => by
  have ih0 := laws_likeRow.mono_l k
  ·intro y0 y1 y2
   unfold laws_likeRow.l0
   repeat' first
   | (with_reducible exact ih0 _ _ _)
   | (with_reducible exact LeO.refl _)
   | (with_reducible exact LeO.none _)
   | (with_reducible refine LeO.ite ?_ ?_)
   | (with_reducible refine LeO.bind ?_ (fun _ => ?_))
theorem laws_likeRow.mono : ∀ a0 a1 k, LeO (laws_likeRow.f k a0 a1) (laws_likeRow.f (k + 1) a0 a1) := by
 intro a0 a1 k
 have ih0 := laws_likeRow.mono_l k
 unfold laws_likeRow.f
 repeat' first
   | (with_reducible exact ih0 _ _ _)
   | (with_reducible exact LeO.refl _)
   | (with_reducible exact LeO.none _)
   | (with_reducible refine LeO.ite ?_ ?_)
   | (with_reducible refine LeO.bind ?_ (fun _ => ?_))
set_option maxHeartbeats 8000000 in
set_option maxRecDepth 100000 in
theorem laws_likeRow.calls (k : Nat) (A0 : Option Addr) (c0 : Nat) (l0 : List (S98)) (A1 : Option Addr) (c1 : Nat) (l1 : List (S98)) (r : Bool) (w : World) (aL : Kd.C k98 w A0 l0.length l0) (aJ : l0.length ≤ c0) (aM : Kd.C k98 w A1 l1.length l1) (aK : l1.length ≤ c1) (h : laws_likeRow.f k l0 l1 = some r) :
  Calls Try.prog 86 #[.slice A0 l0.length c0, .slice A1 l1.length c1] w fun e w' => e = .returned (.bool r) ∧ Drawn0 w w' := by
 (
have aR := Try.underlying98
have aH := am aL
have aS := am aJ
clear aL aJ
have aI := am aM
have aT := am aK
clear aM aK
have H : (if (l0.length : Int) = (l1.length : Int) then (laws_likeRow.l0 k l0 l1 0) else (some false)) = some r := h
clear h
by_cases c3 : (l0.length : Int) = (l1.length : Int)
·(
rw [if_pos c3] at H
have aB : ((l0.length : Int) == (l1.length : Int)) = true := beq_iff_eq.mpr c3
have aC : ((l0.length : Int) != (l1.length : Int)) = false := bne_eq_false_iff_eq.mpr c3
have aD : (l0.length == l1.length) = true := by first | simpa using c3 | (simp at c3 ⊢; omega)
clear c3
have H' := am H
clear H
go_enter Try.func86, Try.ntmps86
go_wp2
repeat (go_quiet (fail); try go_wp2)
go_loopg [5] k (fun kq v5 w' => ∃ (a8 : Int), v5 = .int .i64 a8 ∧ Aside0 (laws_likeRow.l0 kq l0 l1 a8 = some r) ∧ Aside0 (kq ≤ k) ∧ Drawn0 w w')
case atStart => exact ⟨(0), sd, H', ⟨Nat.le_refl _⟩, dw⟩
case round => (
clear H'
try clear c1
try clear c3
try clear aB
try clear aC
try clear aD
obtain ⟨a8, rfl, HA, aG, ⟨m1, rfl⟩⟩ := hrel
cases gk with
| zero => exact absurd HA.out (by simp [laws_likeRow.l0])
| succ k1 => (
have H := HA.out
clear HA
simp only [laws_likeRow.l0] at H
by_cases c4 : a8 < (l0.length : Int)
·(
rw [if_pos c4] at H
have aN : decide (a8 < (l0.length : Int)) = true := decide_eq_true c4
clear c4
by_cases c5 : 0 ≤ a8
·(
rw [if_pos c5] at H
have aP : decide (0 ≤ a8) = true := decide_eq_true c5
clear c5
by_cases c6 : a8 < (l1.length : Int)
·(
rw [if_pos c6] at H
have aQ : decide (a8 < (l1.length : Int)) = true := decide_eq_true c6
clear c6
by_cases c7 : (!(((rd_T98 l0 a8).f0) == ((rd_T98 l1 a8).f0)) || ((!(((rd_T98 l0 a8).f1.f0) == ((rd_T98 l1 a8).f1.f0)) || (!(((rd_T98 l0 a8).f1.f1) == ((rd_T98 l1 a8).f1.f1)) || (!(((rd_T98 l0 a8).f1.f2) == ((rd_T98 l1 a8).f1.f2)) || (!(((rd_T98 l0 a8).f1.f3) == ((rd_T98 l1 a8).f1.f3)) || (!(((rd_T98 l0 a8).f1.f4) == ((rd_T98 l1 a8).f1.f4))))))) || (!(((rd_T98 l0 a8).f2) == ((rd_T98 l1 a8).f2))))) = true
·(
rw [if_pos c7] at H
have aO : (!(((rd_T98 l0 a8).f0) == ((rd_T98 l1 a8).f0)) || ((!(((rd_T98 l0 a8).f1.f0) == ((rd_T98 l1 a8).f1.f0)) || (!(((rd_T98 l0 a8).f1.f1) == ((rd_T98 l1 a8).f1.f1)) || (!(((rd_T98 l0 a8).f1.f2) == ((rd_T98 l1 a8).f1.f2)) || (!(((rd_T98 l0 a8).f1.f3) == ((rd_T98 l1 a8).f1.f3)) || (!(((rd_T98 l0 a8).f1.f4) == ((rd_T98 l1 a8).f1.f4))))))) || (!(((rd_T98 l0 a8).f2) == ((rd_T98 l1 a8).f2))))) = true := c7
clear c7
obtain rfl := Option.some.inj H
have a9 : 0 ≤ (a8 : Int) := dt_
have ac : a8 < (l0.length : Int) := dt_
obtain ⟨aE, af, ah, ai, aj, ak, al, ao, ap⟩ := at_T98 aH.out a8 a9 ac
cases af
replace a9 := eq_true a9
replace ac := eq_true ac
have aa : 0 ≤ (a8 : Int) := dt_
have ae : a8 < (l1.length : Int) := dt_
obtain ⟨aF, ag, aq, au, av, ax, ay, az, aA⟩ := at_T98 aI.out a8 aa ae
cases ag
replace aa := eq_true aa
replace ae := eq_true ae
go_wp2
repeat (go_quiet (fail); try go_wp2)
go_ret
exact ⟨sd, dw⟩
)
·(
rw [if_neg c7] at H
have aO : (!(((rd_T98 l0 a8).f0) == ((rd_T98 l1 a8).f0)) || ((!(((rd_T98 l0 a8).f1.f0) == ((rd_T98 l1 a8).f1.f0)) || (!(((rd_T98 l0 a8).f1.f1) == ((rd_T98 l1 a8).f1.f1)) || (!(((rd_T98 l0 a8).f1.f2) == ((rd_T98 l1 a8).f1.f2)) || (!(((rd_T98 l0 a8).f1.f3) == ((rd_T98 l1 a8).f1.f3)) || (!(((rd_T98 l0 a8).f1.f4) == ((rd_T98 l1 a8).f1.f4))))))) || (!(((rd_T98 l0 a8).f2) == ((rd_T98 l1 a8).f2))))) = false := by simpa using c7
clear c7
have H' := am H
clear H
have a9 : 0 ≤ (a8 : Int) := dt_
have ac : a8 < (l0.length : Int) := dt_
obtain ⟨aE, af, ah, ai, aj, ak, al, ao, ap⟩ := at_T98 aH.out a8 a9 ac
cases af
replace a9 := eq_true a9
replace ac := eq_true ac
have aa : 0 ≤ (a8 : Int) := dt_
have ae : a8 < (l1.length : Int) := dt_
obtain ⟨aF, ag, aq, au, av, ax, ay, az, aA⟩ := at_T98 aI.out a8 aa ae
cases ag
replace aa := eq_true aa
replace ae := eq_true ae
go_wp2
repeat (go_quiet (fail); try go_wp2)
go_roundg k1
case measure => have := aG.out; omega
case rel => exact ⟨(wrap64 (a8 + 1)), sd, H', ⟨by have := aG.out; omega⟩, dw⟩
)
)
·(
rw [if_neg c6] at H
exact absurd H (by simp)
)
)
·(
rw [if_neg c5] at H
exact absurd H (by simp)
)
)
·(
rw [if_neg c4] at H
have aN : decide (a8 < (l0.length : Int)) = false := decide_eq_false c4
clear c4
obtain rfl := Option.some.inj H
go_wp2
repeat (go_quiet (fail); try go_wp2)
go_ret
exact ⟨sd, dw⟩
)
)
)
)
·(
rw [if_neg c3] at H
have aB : ((l0.length : Int) == (l1.length : Int)) = false := beq_eq_false_iff_ne.mpr c3
have aC : ((l0.length : Int) != (l1.length : Int)) = true := bne_iff_ne.mpr c3
have aD : (l0.length == l1.length) = false := by first | simpa using c3 | (simp at c3 ⊢; omega)
obtain rfl := Option.some.inj H
go_enter Try.func86, Try.ntmps86
go_wp2
repeat (go_quiet (fail); try go_wp2)
go_ret
exact ⟨sd, dw⟩
)
)

end Go.Proofs.Ytalopdcephohgaa.RD
