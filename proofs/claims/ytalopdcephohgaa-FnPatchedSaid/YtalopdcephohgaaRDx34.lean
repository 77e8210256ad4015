/- Contracts of Go functions that laws of this seat reach: each Lean function answers as its Go function does. No condition. Written by wip/tools/inj.py, over the kit's print. -/
import Derived.Test.YtalopdcephohgaaRDx0
import Derived.Test.YtalopdcephohgaaRDx33
namespace Go.Proofs.Ytalopdcephohgaa.RD
open Go.RowKit Go.Proofs.YtalopdcephohgaaW.PrintWords Go.Proofs.YtalopdcephohgaaW.PrintLast Go.Proofs.YtalopdcephohgaaW.PrintMore
attribute [local go_sem] max2_int min2_int max_two min_two max_three min_three max_four min_four   -- for this text's walks alone
set_option linter.unusedVariables false
set_option linter.unusedSimpArgs false

/-! ### laws_likePatch: function 46 -/
mutual
def laws_likePatch.j0 : Nat → Bool → Int → Int → List (S101) → Int → Int → List (S101) → Option (Bool)
 | 0, _, _, _, _, _, _, _ => none
 | k + 1, ag, a8, a9, aa, ac, ae, af => if ag = true then (some false) else (laws_likePatch.l0 k 0 a8 a9 aa ac ae af)
def laws_likePatch.l0 : Nat → Int → Int → Int → List (S101) → Int → Int → List (S101) → Option (Bool)
 | 0, _, _, _, _, _, _, _ => none
 | k + 1, x5, aa, ac, a8, ae, af, a9 => if x5 < (a8.length : Int) then (if 0 ≤ x5 then (if x5 < (a9.length : Int) then (if ((rd_T101 a8 x5).f0) = ((rd_T101 a9 x5).f0) then (if ((rd_T101 a8 x5).f1) = ((rd_T101 a9 x5).f1) then ((laws_likeRow.f k ((rd_T101 a8 x5).f2) ((rd_T101 a9 x5).f2)).bind fun ag => (if ag = true then (laws_likePatch.l0 k (wrap64 (x5 + 1)) aa ac a8 ae af a9) else (some false))) else (some false)) else (some false)) else (none)) else (none)) else (some true)
end
def laws_likePatch.f (k : Nat) (a8 : Int) (a9 : Int) (ae : List (S101)) (aa : Int) (ac : Int) (af : List (S101)) : Option (Bool) := if a8 = aa then (if a9 = ac then (laws_likePatch.j0 k ((ae.length : Int) != (af.length : Int)) a8 a9 ae aa ac af) else (laws_likePatch.j0 k true a8 a9 ae aa ac af)) else (laws_likePatch.j0 k true a8 a9 ae aa ac af)
theorem laws_likePatch.mono_l : ∀ k, (∀ y0 y1 y2 y3 y4 y5 y6, LeO (laws_likePatch.j0 k y0 y1 y2 y3 y4 y5 y6) (laws_likePatch.j0 (k + 1) y0 y1 y2 y3 y4 y5 y6)) ∧ (∀ y0 y1 y2 y3 y4 y5 y6, LeO (laws_likePatch.l0 k y0 y1 y2 y3 y4 y5 y6) (laws_likePatch.l0 (k + 1) y0 y1 y2 y3 y4 y5 y6))
 | 0 => ⟨fun _ _ _ _ _ _ _ r h => by simp [laws_likePatch.j0] at h, fun _ _ _ _ _ _ _ r h => by simp [laws_likePatch.l0] at h⟩
 | k + 1 => by
  obtain ⟨ih0, ih1⟩ := laws_likePatch.mono_l k
  refine ⟨?_, ?_⟩
  ·intro y0 y1 y2 y3 y4 y5 y6
   unfold laws_likePatch.j0
   repeat' first
   | (with_reducible exact ih0 _ _ _ _ _ _ _)
   | (with_reducible exact ih1 _ _ _ _ _ _ _)
   | (with_reducible exact laws_likeRow.mono _ _ _)
   | (with_reducible exact LeO.refl _)
   | (with_reducible exact LeO.none _)
   | (with_reducible refine LeO.ite ?_ ?_)
   | (with_reducible refine LeO.bind ?_ (fun _ => ?_))
  ·intro y0 y1 y2 y3 y4 y5 y6
   unfold laws_likePatch.l0
   repeat' first
   | (with_reducible exact ih0 _ _ _ _ _ _ _)
   | (with_reducible exact ih1 _ _ _ _ _ _ _)
   | (with_reducible exact laws_likeRow.mono _ _ _)
   | (with_reducible exact LeO.refl _)
   | (with_reducible exact LeO.none _)
   | (with_reducible refine LeO.ite ?_ ?_)
   | (with_reducible refine LeO.bind ?_ (fun _ => ?_))
theorem laws_likePatch.mono : ∀ a0 a1 a2 a3 a4 a5 k, LeO (laws_likePatch.f k a0 a1 a2 a3 a4 a5) (laws_likePatch.f (k + 1) a0 a1 a2 a3 a4 a5) := by
 intro a0 a1 a2 a3 a4 a5 k
 obtain ⟨ih0, ih1⟩ := laws_likePatch.mono_l k
 unfold laws_likePatch.f
 repeat' first
   | (with_reducible exact ih0 _ _ _ _ _ _ _)
   | (with_reducible exact ih1 _ _ _ _ _ _ _)
   | (with_reducible exact laws_likeRow.mono _ _ _)
   | (with_reducible exact LeO.refl _)
   | (with_reducible exact LeO.none _)
   | (with_reducible refine LeO.ite ?_ ?_)
   | (with_reducible refine LeO.bind ?_ (fun _ => ?_))
set_option maxHeartbeats 8000000 in
set_option maxRecDepth 100000 in
theorem laws_likePatch.calls (k : Nat) (aj : Int) (ak : Int) (aK : Option Addr) (aD : Nat) (a9 : List (S101)) (al : Int) (ao : Int) (aL : Option Addr) (aE : Nat) (aa : List (S101)) (r : Bool) (w : World) (bq : Kd.C k101 w aK a9.length a9) (bo : a9.length ≤ aD) (br : Kd.C k101 w aL aa.length aa) (bp : aa.length ≤ aE) (h : laws_likePatch.f k aj ak a9 al ao aa = some r) :
  Calls Try.prog 46 #[.agg #[.int .i64 aj, .int .i64 ak, .slice aK a9.length aD], .agg #[.int .i64 al, .int .i64 ao, .slice aL aa.length aE]] w fun e w' => e = .returned (.bool r) ∧ Below w.heap.size w w' := by
 (
have cH := Try.underlying53
have cG := Try.underlying101
have bA := am bq
have cC := am bo
clear bq bo
have bB := am br
have cD := am bp
clear br bp
have HB := am (Below.refl w.heap.size w)
have H := h
unfold laws_likePatch.f at H
clear h
have bt := am H
clear H
go_enter Try.func46, Try.ntmps46
go_upto_region 1 with (first | ((with_reducible refine gate_dst (N := 2) rfl ?_); (try (refine gate_guard (by rfl) ?_; dsimp only)); refine bx 2 #[.int .i64 aj, .int .i64 ak, .slice aK a9.length aD] 53 ?_; intro ax hg w4 hbox hb; have ac := am (hbox); have bv := am (gw hg (rb HB)); have cy := bv; replace HB := bs HB hb; clear hb hbox hg) | ((with_reducible refine gate_dst (N := 3) rfl ?_); (try (refine gate_guard (by rfl) ?_; dsimp only)); refine bx 3 #[.int .i64 al, .int .i64 ao, .slice aL aa.length aE] 53 ?_; intro ay hg w5 hbox hb; have ag := am (hbox); have bw := am (gw hg (rb HB)); have cz := bw; replace HB := bs HB hb; have ap := am (nl hg (rk ac)); have bL := ns ap; replace ac := kk ac hb; clear hb hbox hg))
(try simp only [Act.put, List.setIfInBounds_toArray, List.set_cons_zero, List.set_cons_succ])
go_cut [28] (fun cw wc => ∃ (kq : Nat) (aJ : Bool), cw = .bool aJ ∧ Aside0 (laws_likePatch.j0 kq aJ aj ak a9 al ao aa = some r) ∧ Aside0 (kq ≤ k) ∧ Aside0 (wc.heap[ax]? = some (.cells #[.int .i64 aj, .int .i64 ak, (.slice aK a9.length aD)] 53 (0, 0))) ∧ Aside0 (wc.heap[ay]? = some (.cells #[.int .i64 al, .int .i64 ao, (.slice aL aa.length aE)] 53 (0, 0))) ∧ Aside0 (Below w.heap.size w wc))
case first => (
have H := bt.out
clear bt
refine em_ (p := aj = al) (fun c6 => ?cj) (fun c6 => ?ch)
case' cj => (
rw [if_pos c6] at H
have aM : (aj == al) = true := beq_iff_eq.mpr c6
have bg : (aj != al) = false := bne_eq_false_iff_eq.mpr c6
clear c6
(first | rw [aM] | rw [bg] | (simp only [i64_w, i32_w]; rw [aM]) | skip)
refine em_ (p := ak = ao) (fun c7 => ?cf) (fun c7 => ?ce)
case' cf => (
rw [if_pos c7] at H
have bP : (ak == ao) = true := beq_iff_eq.mpr c7
have bQ : (ak != ao) = false := bne_eq_false_iff_eq.mpr c7
clear c7
have H' := am H
clear H
have bT := trivial
)
case' ce => (
rw [if_neg c7] at H
have bP : (ak == ao) = false := beq_eq_false_iff_ne.mpr c7
have bQ : (ak != ao) = true := bne_iff_ne.mpr c7
have H' := am H
clear H
have bU := trivial
)
)
case' ch => (
rw [if_neg c6] at H
have aM : (aj == al) = false := beq_eq_false_iff_ne.mpr c6
have bg : (aj != al) = true := bne_iff_ne.mpr c6
(first | rw [aM] | rw [bg] | (simp only [i64_w, i32_w]; rw [aM]) | skip)
have H' := am H
clear H
have bV := trivial
)
all_goals (
have cW := nN ap
have cZ := z3 ac
have cP := z3 ag
go_wp2
go_meet
first
| (
have q_ := bT
case rel => exact ⟨_, (((a9.length : Int) != (aa.length : Int))), sd, H', ⟨by first | omega | exact Nat.le_refl _⟩, ⟨rk ac⟩, ⟨rk ag⟩, ⟨rb HB⟩⟩
)
| (
first | have q_ := bU | have q_ := bV
case rel => exact ⟨_, (true), sd, H', ⟨by first | omega | exact Nat.le_refl _⟩, ⟨rk ac⟩, ⟨rk ag⟩, ⟨rb HB⟩⟩
)
)
)
case rest => (
clear bt
obtain ⟨kq, aJ, rfl, HA, bI, ac, ag, HB⟩ := hcut
cases kq with
| zero => exact absurd HA.out (by simp [laws_likePatch.j0])
| succ bO => (
have H := HA.out
clear HA
simp only [laws_likePatch.j0] at H
by_cases ba : aJ = true
·(
subst ba
have H1 : (some false) = some r := by rw [if_pos rfl] at H; exact H
clear H
have H := H1
clear H1
obtain rfl := Option.some.inj H
go_wp2
go_ret
exact ⟨ew, rb HB⟩
)
·(
replace ba := Bool.eq_false_iff.mpr ba
subst ba
rw [if_neg (show ¬ (false = true) by decide)] at H
have H' := am H
clear H
go_wp2
go_loopg [5] bO (fun kq v5 w' => ∃ (a8 : Int), v5 = .int .i64 a8 ∧ Aside0 (laws_likePatch.l0 kq a8 aj ak a9 al ao aa = some r) ∧ Aside0 (kq ≤ bO) ∧ Aside0 (w'.heap[ax]? = some (.cells #[.int .i64 aj, .int .i64 ak, (.slice aK a9.length aD)] 53 (0, 0))) ∧ Aside0 (w'.heap[ay]? = some (.cells #[.int .i64 al, .int .i64 ao, (.slice aL aa.length aE)] 53 (0, 0))) ∧ Aside0 (Below w.heap.size w w'))
case atStart => exact ⟨(0), sd, H', ⟨Nat.le_refl _⟩, ⟨rk ac⟩, ⟨rk ag⟩, ⟨rb HB⟩⟩
case round => (
clear H'
try clear ba
obtain ⟨a8, rfl, HA, bJ, ac, ag, HB⟩ := hrel
cases gk with
| zero => exact absurd HA.out (by simp [laws_likePatch.l0])
| succ k2 => (
have H := HA.out
clear HA
simp only [laws_likePatch.l0] at H
by_cases aR : a8 < (a9.length : Int)
·(
rw [if_pos aR] at H
have bC : decide (a8 < (a9.length : Int)) = true := decide_eq_true aR
clear aR
refine em_ (p := 0 ≤ a8) (fun bb => ?cv) (fun bb => ?cu)
case' cv => (
rw [if_pos bb] at H
have cE : decide (0 ≤ a8) = true := decide_eq_true bb
clear bb
refine em_ (p := a8 < (aa.length : Int)) (fun bc => ?ct) (fun bc => ?cq)
case' ct => (
rw [if_pos bc] at H
have cF : decide (a8 < (aa.length : Int)) = true := decide_eq_true bc
clear bc
refine em_ (p := ((rd_T101 a9 a8).f0) = ((rd_T101 aa a8).f0)) (fun aG => ?cp) (fun aG => ?co)
case' cp => (
rw [if_pos aG] at H
have bD : (((rd_T101 a9 a8).f0) == ((rd_T101 aa a8).f0)) = true := beq_iff_eq.mpr aG
have bE : (((rd_T101 a9 a8).f0) != ((rd_T101 aa a8).f0)) = false := bne_eq_false_iff_eq.mpr aG
clear aG
refine em_ (p := ((rd_T101 a9 a8).f1) = ((rd_T101 aa a8).f1)) (fun aH => ?cn) (fun aH => ?cm)
case' cn => (
rw [if_pos aH] at H
have bF : (((rd_T101 a9 a8).f1) == ((rd_T101 aa a8).f1)) = true := beq_iff_eq.mpr aH
have bG : (((rd_T101 a9 a8).f1) != ((rd_T101 aa a8).f1)) = false := bne_eq_false_iff_eq.mpr aH
clear aH
obtain ⟨ca, bH, H⟩ := bd H
(try dsimp only at H)
refine em_ (p := ca = true) (fun bf => ?cl) (fun bf => ?ck)
case' cl => (
subst bf
rw [if_pos rfl] at H
have H' := am H
clear H
have bW := trivial
)
case' ck => (
replace bf := Bool.eq_false_iff.mpr bf
subst bf
have H1 : (some false) = some r := by rw [if_neg (show ¬ (false = true) by decide)] at H; exact H
clear H
have H := H1
clear H1
obtain rfl := Option.some.inj H
have bX := trivial
)
)
case' cm => (
rw [if_neg aH] at H
have bF : (((rd_T101 a9 a8).f1) == ((rd_T101 aa a8).f1)) = false := beq_eq_false_iff_ne.mpr aH
have bG : (((rd_T101 a9 a8).f1) != ((rd_T101 aa a8).f1)) = true := bne_iff_ne.mpr aH
obtain rfl := Option.some.inj H
have bY := trivial
)
)
case' co => (
rw [if_neg aG] at H
have bD : (((rd_T101 a9 a8).f0) == ((rd_T101 aa a8).f0)) = false := beq_eq_false_iff_ne.mpr aG
have bE : (((rd_T101 a9 a8).f0) != ((rd_T101 aa a8).f0)) = true := bne_iff_ne.mpr aG
obtain rfl := Option.some.inj H
have bZ := trivial
)
)
case cq => (
rw [if_neg bc] at H
exact absurd H (by simp)
)
)
case cu => (
rw [if_neg bb] at H
exact absurd H (by simp)
)
all_goals (
have cI := nN ap
have cQ := z3 ac
have bh : 0 ≤ (a8 : Int) := dt_
have bj : a8 < (a9.length : Int) := dt_
obtain ⟨bn, aq, au, bR, aW, aX, aY, aU, aS⟩ := at_T101 bA.out a8 bh bj
cases bR
replace aW := mv HB.out aW
replace aX := mv HB.out aX
replace aY := mv HB.out aY
have aP := am aS
have aN := am aU
clear aS aU
replace bh := eq_true bh
replace bj := eq_true bj
go_wp2_with (first | ((with_reducible refine gate_dst (N := 7) rfl ?_); (try (refine gate_guard (by rfl) ?_; dsimp only)); refine bx 7 #[.int .i64 0, .int .i64 0, .slice none 0 0] 101 ?_; intro az hg cY hbox hb; have bu := am (hbox); have bz := am (gw hg (rb HB)); have cB := bz; replace HB := bs HB hb; have bK := am ((by rw [hg]; exact Nat.ne_of_lt (blk_lt (g := ax) (o := .cells #[.int .i64 aj, .int .i64 ak, .slice (some bn) a9.length aD] 53 (0, 0)) (rk ac)) : ax ≠ az)); have b7 := am ((by rw [hg]; exact Nat.ne_of_gt (blk_lt (g := ax) (o := .cells #[.int .i64 aj, .int .i64 ak, .slice (some bn) a9.length aD] 53 (0, 0)) (rk ac)) : az ≠ ax)); replace ac := kk ac hb; have bM := am ((by rw [hg]; exact Nat.ne_of_lt (blk_lt (g := ay) (o := .cells #[.int .i64 al, .int .i64 ao, .slice (some aF) aa.length aE] 53 (0, 0)) (rk ag)) : ay ≠ az)); have b8 := am ((by rw [hg]; exact Nat.ne_of_gt (blk_lt (g := ay) (o := .cells #[.int .i64 al, .int .i64 ao, .slice (some aF) aa.length aE] 53 (0, 0)) (rk ag)) : az ≠ ay)); replace ag := kk ag hb; have bN := am ((by rw [hg]; exact Nat.ne_of_lt (blk_lt (g := ae) (o := .cells #[.int .i64 ((rd_T101 a9 a8).f0), .int .i64 ((rd_T101 a9 a8).f1), .slice aq ((rd_T101 a9 a8).f2).length au] 101 (0, 0)) (rk av)) : ae ≠ az)); have b9 := am ((by rw [hg]; exact Nat.ne_of_gt (blk_lt (g := ae) (o := .cells #[.int .i64 ((rd_T101 a9 a8).f0), .int .i64 ((rd_T101 a9 a8).f1), .slice aq ((rd_T101 a9 a8).f2).length au] 101 (0, 0)) (rk av)) : az ≠ ae)); replace av := kk av hb; clear hb hbox hg; have cL := nN b7; have cM := nN b8; have cN := nN b9; have cT := z3 bu; have cU := z3 av) | ((with_reducible refine gate_dst (N := 6) rfl ?_); (try (refine gate_guard (by rfl) ?_; dsimp only)); refine bx 6 #[.int .i64 0, .int .i64 0, .slice none 0 0] 101 ?_; intro ae hg cX hbox hb; have av := am (hbox); have aI := am (gw hg (rb HB)); have cA := aI; replace HB := bs HB hb; have aZ := am (nl hg (rk ac)); have b5 := ns aZ; replace ac := kk ac hb; have b4 := am (nl hg (rk ag)); have b6 := ns b4; replace ag := kk ag hb; clear hb hbox hg; have cJ := nN b5; have cK := nN b6; have cR := z3 av; have cS := z3 ag; have bi : 0 ≤ (a8 : Int) := dt_; have bl : a8 < (aa.length : Int) := dt_; obtain ⟨aF, cb, cd, bS, af, ah, ai, aV, aT⟩ := at_T101 bB.out a8 bi bl; cases bS; have aA : aF.block ≠ ae := Nat.ne_of_lt (Nat.lt_of_lt_of_le (by have := World.block_lt_of_cell? _ _ af; first | rwa [add_block] at this | exact this) aI.out); have aB : aF.block ≠ ae := Nat.ne_of_lt (Nat.lt_of_lt_of_le (by have := World.block_lt_of_cell? _ _ af; first | rwa [add_block] at this | exact this) aI.out); have aC : aF.block ≠ ae := Nat.ne_of_lt (Nat.lt_of_lt_of_le (by have := World.block_lt_of_cell? _ _ af; first | rwa [add_block] at this | exact this) aI.out); replace af := (mv HB.out af); replace ah := (mv HB.out ah); replace ai := (mv HB.out ai); have aQ := am aT; have aO := am aV; clear aT aV; replace af := (cell_far (p := ⟨ae, 0, none⟩) (ab aA) (.int .i64 ((rd_T101 a9 a8).f0))).trans af; replace ah := (cell_far (p := ⟨ae, 0, none⟩) (ab aA) (.int .i64 ((rd_T101 a9 a8).f0))).trans ah; replace ai := (cell_far (p := ⟨ae, 0, none⟩) (ab aA) (.int .i64 ((rd_T101 a9 a8).f0))).trans ai; replace af := (cell_far (p := ⟨ae, 1, none⟩) (ab aB) (.int .i64 ((rd_T101 a9 a8).f1))).trans af; replace ah := (cell_far (p := ⟨ae, 1, none⟩) (ab aB) (.int .i64 ((rd_T101 a9 a8).f1))).trans ah; replace ai := (cell_far (p := ⟨ae, 1, none⟩) (ab aB) (.int .i64 ((rd_T101 a9 a8).f1))).trans ai; replace af := (cell_far (p := ⟨ae, 2, none⟩) (ab aC) (.slice aq ((rd_T101 a9 a8).f2).length au)).trans af; replace ah := (cell_far (p := ⟨ae, 2, none⟩) (ab aC) (.slice aq ((rd_T101 a9 a8).f2).length au)).trans ah; replace ai := (cell_far (p := ⟨ae, 2, none⟩) (ab aC) (.slice aq ((rd_T101 a9 a8).f2).length au)).trans ai; clear aA; clear aB; clear aC; replace bi := eq_true bi; replace bl := eq_true bl) | (go_at_call 86; (with_reducible refine (laws_likeRow.calls k2 _ _ ((rd_T101 a9 a8).f2) _ _ ((rd_T101 aa a8).f2) false _ ?side1 ?side2 ?side3 ?side4 bH.out).mono ?_); (case side1 => exact Kd.C_below aP.out (rb HB)); (case side2 => exact aN.out); (case side3 => exact Kd.C_below aQ.out (rb HB)); (case side4 => exact aO.out); rintro e w' ⟨rfl, ⟨nd, rfl⟩⟩) | (go_at_call 86; (with_reducible refine (laws_likeRow.calls k2 _ _ ((rd_T101 a9 a8).f2) _ _ ((rd_T101 aa a8).f2) true _ ?side1 ?side2 ?side3 ?side4 bH.out).mono ?_); (case side1 => exact Kd.C_below aP.out (rb HB)); (case side2 => exact aN.out); (case side3 => exact Kd.C_below aQ.out (rb HB)); (case side4 => exact aO.out); rintro e w' ⟨rfl, ⟨nd, rfl⟩⟩))
first
| (
have q_ := bW
go_roundg k2
case measure => have := bI.out; have := bJ.out; omega
case rel => exact ⟨(wrap64 (a8 + 1)), sd, H', ⟨by have := bI.out; have := bJ.out; omega⟩, ⟨rk ac⟩, ⟨rk ag⟩, ⟨rb HB⟩⟩
)
| (
first | have q_ := bX | have q_ := bY | have q_ := bZ
go_ret
exact ⟨ew, rb HB⟩
)
)
)
·(
rw [if_neg aR] at H
have bC : decide (a8 < (a9.length : Int)) = false := decide_eq_false aR
clear aR
obtain rfl := Option.some.inj H
have cO := nN ap
have cV := z3 ac
go_wp2
go_ret
exact ⟨ew, rb HB⟩
)
)
)
)
)
)
)

end Go.Proofs.Ytalopdcephohgaa.RD
