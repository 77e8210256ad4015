/- Contracts of Go functions that laws of this seat reach: each Lean function answers as its Go function does. No condition. Written by wip/tools/inj.py, over the kit's print. -/
import Derived.Test.YtalopdcephohgaaRCx0
import Derived.Test.YtalopdcephohgaaRCx4
namespace Go.Proofs.Ytalopdcephohgaa.RC
open Go.RowKit Go.Proofs.YtalopdcephohgaaW.PrintWords Go.Proofs.YtalopdcephohgaaW.PrintLast Go.Proofs.YtalopdcephohgaaW.PrintMore
attribute [local go_sem] max2_int min2_int max_two min_two max_three min_three max_four min_four   -- for this text's walks alone
set_option linter.unusedVariables false
set_option linter.unusedSimpArgs false

/-! ### laws_eqChange: function 106 -/
def laws_eqChange.f (k : Nat) (a0_0 : Int) (a0_1 : Int) (l0_2 : List (S98)) (a1_0 : Int) (a1_1 : Int) (l1_2 : List (S98)) : Option (Bool) := if a0_0 = a1_0 then (if a0_1 = a1_1 then ((laws_eqCellS.f k l0_2 l1_2).bind fun t152 => (if t152 = true then (some true) else (some false))) else (some false)) else (some false)
theorem laws_eqChange.mono : ∀ a0 a1 a2 a3 a4 a5 k, LeO (laws_eqChange.f k a0 a1 a2 a3 a4 a5) (laws_eqChange.f (k + 1) a0 a1 a2 a3 a4 a5) := by
 intro a0 a1 a2 a3 a4 a5 k
 unfold laws_eqChange.f
 repeat' first
   | (with_reducible exact laws_eqCellS.mono _ _ _)
   | (with_reducible exact LeO.refl _)
   | (with_reducible exact LeO.none _)
   | (with_reducible refine LeO.ite ?_ ?_)
   | (with_reducible refine LeO.bind ?_ (fun _ => ?_))
set_option maxHeartbeats 8000000 in
set_option maxRecDepth 100000 in
theorem laws_eqChange.calls (k : Nat) (a0_0 : Int) (a0_1 : Int) (A0_2 : Option Addr) (c0_2 : Nat) (l0_2 : List (S98)) (a1_0 : Int) (a1_1 : Int) (A1_2 : Option Addr) (c1_2 : Nat) (l1_2 : List (S98)) (r : Bool) (w : World) (hr0_2 : Kd.C k98 w A0_2 l0_2.length l0_2) (hc0_2 : l0_2.length ≤ c0_2) (hr1_2 : Kd.C k98 w A1_2 l1_2.length l1_2) (hc1_2 : l1_2.length ≤ c1_2) (h : laws_eqChange.f k a0_0 a0_1 l0_2 a1_0 a1_1 l1_2 = some r) :
  Calls Try.prog 106 #[.agg #[.int .i64 a0_0, .int .i64 a0_1, .slice A0_2 l0_2.length c0_2], .agg #[.int .i64 a1_0, .int .i64 a1_1, .slice A1_2 l1_2.length c1_2]] w fun e w' => e = .returned (.bool r) ∧ Below w.heap.size w w' := by
 (
have hu101 := Try.underlying101
have HR0_2 := am hr0_2
have HC0_2 := am hc0_2
clear hr0_2 hc0_2
have HR1_2 := am hr1_2
have HC1_2 := am hc1_2
clear hr1_2 hc1_2
have HB := am (Below.refl w.heap.size w)
have H := h
unfold laws_eqChange.f at H
clear h
refine em_ (p := a0_0 = a1_0) (fun c3 => ?g2p) (fun c3 => ?g2n)
case' g2p => (
rw [if_pos c3] at H
have c3b0 : (a0_0 == a1_0) = true := beq_iff_eq.mpr c3
have c3b1 : (a0_0 != a1_0) = false := bne_eq_false_iff_eq.mpr c3
clear c3
refine em_ (p := a0_1 = a1_1) (fun c4 => ?g1p) (fun c4 => ?g1n)
case' g1p => (
rw [if_pos c4] at H
have c4b0 : (a0_1 == a1_1) = true := beq_iff_eq.mpr c4
have c4b1 : (a0_1 != a1_1) = false := bne_eq_false_iff_eq.mpr c4
clear c4
replace H := Option.bind_eq_some_iff.mp H
obtain ⟨t152, A50, H⟩ := H
(try dsimp only at H)
have A5 := am A50
clear A50
refine em_ (p := t152 = true) (fun c6 => ?g0p) (fun c6 => ?g0n)
case' g0p => (
subst c6
have H1 : (some true) = some r := by rw [if_pos rfl] at H; exact H
clear H
have H := H1
clear H1
obtain rfl := Option.some.inj H
have lf1_ := trivial
)
case' g0n => (
replace c6 := Bool.eq_false_iff.mpr c6
subst c6
have H1 : (some false) = some r := by rw [if_neg (show ¬ (false = true) by decide)] at H; exact H
clear H
have H := H1
clear H1
obtain rfl := Option.some.inj H
have lf2_ := trivial
)
)
case' g1n => (
rw [if_neg c4] at H
have c4b0 : (a0_1 == a1_1) = false := beq_eq_false_iff_ne.mpr c4
have c4b1 : (a0_1 != a1_1) = true := bne_iff_ne.mpr c4
obtain rfl := Option.some.inj H
have lf3_ := trivial
)
)
case' g2n => (
rw [if_neg c3] at H
have c3b0 : (a0_0 == a1_0) = false := beq_eq_false_iff_ne.mpr c3
have c3b1 : (a0_0 != a1_0) = true := bne_iff_ne.mpr c3
obtain rfl := Option.some.inj H
have lf4_ := trivial
)
all_goals (
go_enter Try.func106, Try.ntmps106
go_wp2_with (first | ((with_reducible refine gate_dst (N := 3) rfl ?_); refine box_event ?hg (N := 3) ?hd (cs := #[.int .i64 a1_0, .int .i64 a1_1, .slice A1_2 l1_2.length c1_2]) (t := 101) ?hr ?_; (case hd => rfl); (case hg => rfl); (case hr => first | (go_simp; done) | (go_simp; rfl)); intro gb151 hg w8 hbox hb; have BK151 := am (hbox); have GW151 := am (gw hg (rb1 HB GE150)); have GE151 := GW151; replace HB := am (below_step (rb1 HB GE150) hb); have NB150_151 := am (nl hg (rk BK150)); have NB151_150 := am (ng hg (rk BK150)); replace BK150 := am (blk_below (rk BK150) hb); clear hb hbox hg; have hnb9 := NB150_151.out; have hnc9 := NB151_150.out; have hcz10_0 : w8.cell? ⟨gb150, 0, none⟩ = some (.int .i64 a0_0) := (blk_cell BK150.out 0).trans rfl; have hcz10_1 : w8.cell? ⟨gb150, 1, none⟩ = some (.int .i64 a0_1) := (blk_cell BK150.out 1).trans rfl; have hcz10_2 : w8.cell? ⟨gb150, 2, none⟩ = some (.slice A0_2 l0_2.length c0_2) := (blk_cell BK150.out 2).trans rfl; have hfz10_0 := blk_frozen BK150.out 0; have hfz10_1 := blk_frozen BK150.out 1; have hfz10_2 := blk_frozen BK150.out 2; have hcz11_0 : w8.cell? ⟨gb151, 0, none⟩ = some (.int .i64 a1_0) := (blk_cell BK151.out 0).trans rfl; have hcz11_1 : w8.cell? ⟨gb151, 1, none⟩ = some (.int .i64 a1_1) := (blk_cell BK151.out 1).trans rfl; have hcz11_2 : w8.cell? ⟨gb151, 2, none⟩ = some (.slice A1_2 l1_2.length c1_2) := (blk_cell BK151.out 2).trans rfl; have hfz11_0 := blk_frozen BK151.out 0; have hfz11_1 := blk_frozen BK151.out 1; have hfz11_2 := blk_frozen BK151.out 2) | ((with_reducible refine gate_callee (f := 107) rfl ?_); refine gl_ (some 19) Try.func107 #[.slice A0_2 l0_2.length c0_2, .slice A1_2 l1_2.length c1_2] ?_; (with_reducible refine (laws_eqCellS.calls k _ _ l0_2 _ _ l1_2 false _ ?side1 ?side2 ?side3 ?side4 A5.out).mono ?_); (case side1 => exact rc ((Kd.C_below HR0_2.out HB.out))); (case side2 => exact HC0_2.out); (case side3 => exact rc ((Kd.C_below HR1_2.out HB.out))); (case side4 => exact HC1_2.out); rintro e w18 ⟨rfl, hb⟩; refine ⟨_, rfl, ?_⟩; replace BK150 := am (blk_below (rk BK150) hb); replace BK151 := am (blk_below (rk BK151) hb); replace HB := am (below_step (rb2 HB GE150 GE151) hb); (try clear hb); (try clear hb2); (try clear hk); (try clear hi)) | ((with_reducible refine gate_callee (f := 107) rfl ?_); refine gl_ (some 19) Try.func107 #[.slice A0_2 l0_2.length c0_2, .slice A1_2 l1_2.length c1_2] ?_; (with_reducible refine (laws_eqCellS.calls k _ _ l0_2 _ _ l1_2 true _ ?side1 ?side2 ?side3 ?side4 A5.out).mono ?_); (case side1 => exact rc ((Kd.C_below HR0_2.out HB.out))); (case side2 => exact HC0_2.out); (case side3 => exact rc ((Kd.C_below HR1_2.out HB.out))); (case side4 => exact HC1_2.out); rintro e w12 ⟨rfl, hb⟩; refine ⟨_, rfl, ?_⟩; replace BK150 := am (blk_below (rk BK150) hb); replace BK151 := am (blk_below (rk BK151) hb); replace HB := am (below_step (rb2 HB GE150 GE151) hb); (try clear hb); (try clear hb2); (try clear hk); (try clear hi)) | ((with_reducible refine gate_dst (N := 2) rfl ?_); refine box_event ?hg (N := 2) ?hd (cs := #[.int .i64 a0_0, .int .i64 a0_1, .slice A0_2 l0_2.length c0_2]) (t := 101) ?hr ?_; (case hd => rfl); (case hg => rfl); (case hr => first | (go_simp; done) | (go_simp; rfl)); intro gb150 hg w7 hbox hb; have BK150 := am (hbox); have GW150 := am (gw hg (rb HB)); have GE150 := GW150; replace HB := am (below_step (rb HB) hb); clear hb hbox hg))
go_ret
exact ⟨by first | rfl | (simp [errW_none, errW_some] <;> rfl) | (simp [*, errW_none, errW_some] <;> rfl), rb2 HB GE150 GE151⟩
)
)

end Go.Proofs.Ytalopdcephohgaa.RC

namespace Go.Proofs.Ytalopdcephohgaa.RC
open Go.RowKit Go.Proofs.YtalopdcephohgaaW.PrintWords Go.Proofs.YtalopdcephohgaaW.PrintLast Go.Proofs.YtalopdcephohgaaW.PrintMore
attribute [local go_sem] max2_int min2_int max_two min_two max_three min_three max_four min_four   -- for this text's walks alone
set_option linter.unusedVariables false
set_option linter.unusedSimpArgs false

/-! ### laws_eqChangeS: function 74 -/
def laws_eqChangeS.l0 : Nat → List (S101) → List (S101) → Int → Option (Bool)
 | 0, _, _, _ => none
 | k + 1, x0, x1, x5 => if x5 < (x0.length : Int) then (if 0 ≤ x5 then (if x5 < (x1.length : Int) then ((laws_eqChange.f k ((rd_T101 x0 x5).f0) ((rd_T101 x0 x5).f1) ((rd_T101 x0 x5).f2) ((rd_T101 x1 x5).f0) ((rd_T101 x1 x5).f1) ((rd_T101 x1 x5).f2)).bind fun t155 => (if t155 = true then (laws_eqChangeS.l0 k x0 x1 (wrap64 (x5 + 1))) else (some false))) else (none)) else (none)) else (some true)
def laws_eqChangeS.f (k : Nat) (l0 : List (S101)) (l1 : List (S101)) : Option (Bool) := if (l0.length : Int) = (l1.length : Int) then (laws_eqChangeS.l0 k l0 l1 0) else (some false)
theorem laws_eqChangeS.mono_l : ∀ k, (∀ y0 y1 y2, LeO (laws_eqChangeS.l0 k y0 y1 y2) (laws_eqChangeS.l0 (k + 1) y0 y1 y2))
 | 0 => fun _ _ _ r h => by simp [laws_eqChangeS.l0] at h
 | k + 1 => by
  have ih0 := laws_eqChangeS.mono_l k
  ·intro y0 y1 y2
   unfold laws_eqChangeS.l0
   repeat' first
   | (with_reducible exact ih0 _ _ _)
   | (with_reducible exact laws_eqChange.mono _ _ _ _ _ _ _)
   | (with_reducible exact LeO.refl _)
   | (with_reducible exact LeO.none _)
   | (with_reducible refine LeO.ite ?_ ?_)
   | (with_reducible refine LeO.bind ?_ (fun _ => ?_))
theorem laws_eqChangeS.mono : ∀ a0 a1 k, LeO (laws_eqChangeS.f k a0 a1) (laws_eqChangeS.f (k + 1) a0 a1) := by
 intro a0 a1 k
 have ih0 := laws_eqChangeS.mono_l k
 unfold laws_eqChangeS.f
 repeat' first
   | (with_reducible exact ih0 _ _ _)
   | (with_reducible exact laws_eqChange.mono _ _ _ _ _ _ _)
   | (with_reducible exact LeO.refl _)
   | (with_reducible exact LeO.none _)
   | (with_reducible refine LeO.ite ?_ ?_)
   | (with_reducible refine LeO.bind ?_ (fun _ => ?_))
def laws_eqChangeS.T6 : Bool × List (List Nat × List Nat) := (true, [([], []), ([], []), ([0, 1], [0, 1]), ([2], [2]), ([], []), ([], []), ([4, 5], [4, 5]), ([6], [6]), ([3, 7], [3, 7]), ([8], [8])])
def laws_eqChangeS.B6 : List Nat := [0, 0, 3, 7, 0, 0, 48, 112, 255, 511]
theorem laws_eqChangeS.tab6 : rtab .any (opsOf Try.f74 6) = laws_eqChangeS.T6 := by kernel_rfl
theorem laws_eqChangeS.bits6 : waitsOk laws_eqChangeS.T6.2 laws_eqChangeS.B6 = true := by kernel_rfl
set_option maxHeartbeats 8000000 in
set_option maxRecDepth 100000 in
theorem laws_eqChangeS.calls (k : Nat) (A0 : Option Addr) (c0 : Nat) (l0 : List (S101)) (A1 : Option Addr) (c1 : Nat) (l1 : List (S101)) (r : Bool) (w : World) (hr0 : Kd.C k101 w A0 l0.length l0) (hc0 : l0.length ≤ c0) (hr1 : Kd.C k101 w A1 l1.length l1) (hc1 : l1.length ≤ c1) (h : laws_eqChangeS.f k l0 l1 = some r) :
  Calls Try.prog 74 #[.slice A0 l0.length c0, .slice A1 l1.length c1] w fun e w' => e = .returned (.bool r) ∧ Below w.heap.size w w' := by
 (
have hu101 := Try.underlying101
have HR0 := am hr0
have HC0 := am hc0
clear hr0 hc0
have HR1 := am hr1
have HC1 := am hc1
clear hr1 hc1
have HB := am (Below.refl w.heap.size w)
have H : (if (l0.length : Int) = (l1.length : Int) then (laws_eqChangeS.l0 k l0 l1 0) else (some false)) = some r := h
clear h
by_cases c3 : (l0.length : Int) = (l1.length : Int)
·(
rw [if_pos c3] at H
have c3b0 : ((l0.length : Int) == (l1.length : Int)) = true := beq_iff_eq.mpr c3
have c3b1 : ((l0.length : Int) != (l1.length : Int)) = false := bne_eq_false_iff_eq.mpr c3
have c3b2 : (l0.length == l1.length) = true := by first | simpa using c3 | (simp at c3 ⊢; omega)
clear c3
have H' := am H
clear H
go_enter Try.func74, Try.ntmps74
go_wp2
go_loopg [5] k (fun kq v5 w' => ∃ (x5_1 : Int), v5 = .int .i64 x5_1 ∧ Aside0 (laws_eqChangeS.l0 kq l0 l1 x5_1 = some r) ∧ Aside0 (kq ≤ k) ∧ Aside0 (Below w.heap.size w w'))
case atStart => exact ⟨(0), (by first | rfl | (simp; done) | (simp [*]; done)), H', ⟨Nat.le_refl _⟩, ⟨rb HB⟩⟩
case round => (
clear H'
try clear c1
try clear p2
try clear c3
try clear c3b0
try clear c3b1
try clear c3b2
obtain ⟨x5_1, rfl, HA, HK1, HB⟩ := hrel
cases gk with
| zero => exact absurd HA.out (by simp [laws_eqChangeS.l0])
| succ k1 => (
have H := HA.out
clear HA
simp only [laws_eqChangeS.l0] at H
by_cases c4 : x5_1 < (l0.length : Int)
·(
rw [if_pos c4] at H
have c4b0 : decide (x5_1 < (l0.length : Int)) = true := decide_eq_true c4
clear c4
refine em_ (p := 0 ≤ x5_1) (fun c5 => ?g2p) (fun c5 => ?g2n)
case' g2p => (
rw [if_pos c5] at H
have c5b0 : decide (0 ≤ x5_1) = true := decide_eq_true c5
clear c5
refine em_ (p := x5_1 < (l1.length : Int)) (fun c6 => ?g1p) (fun c6 => ?g1n)
case' g1p => (
rw [if_pos c6] at H
have c6b0 : decide (x5_1 < (l1.length : Int)) = true := decide_eq_true c6
clear c6
replace H := Option.bind_eq_some_iff.mp H
obtain ⟨t155, A70, H⟩ := H
(try dsimp only at H)
have A7 := am A70
clear A70
refine em_ (p := t155 = true) (fun c8 => ?g0p) (fun c8 => ?g0n)
case' g0p => (
subst c8
have H1 : (laws_eqChangeS.l0 k1 l0 l1 (wrap64 (x5_1 + 1))) = some r := by rw [if_pos rfl] at H; exact H
clear H
have H := H1
clear H1
have H' := am H
clear H
have lf3_ := trivial
)
case' g0n => (
replace c8 := Bool.eq_false_iff.mpr c8
subst c8
have H1 : (some false) = some r := by rw [if_neg (show ¬ (false = true) by decide)] at H; exact H
clear H
have H := H1
clear H1
obtain rfl := Option.some.inj H
have lf4_ := trivial
)
)
case g1n => (
rw [if_neg c6] at H
exact absurd H (by simp)
)
)
case g2n => (
rw [if_neg c5] at H
exact absurd H (by simp)
)
all_goals (
try go_wp2
replace HB := am (below_drew1 HB.out)
have p153 : 0 ≤ (x5_1 : Int) := dt_
have q153 : x5_1 < (l0.length : Int) := dt_
obtain ⟨ad153, A153_2, c153_2, e153, hx153_0, hx153_1, hx153_2, hl153_2, hi153_2⟩ := at_T101 HR0.out x5_1 p153 q153
have hw153_2 := hx153_2
have hw153_1 := hx153_1
have hw153_0 := hx153_0
cases e153
replace hx153_0 := mv HB.out hx153_0
replace hx153_1 := mv HB.out hx153_1
replace hx153_2 := mv HB.out hx153_2
have HR153_2 := am hi153_2
have HC153_2 := am hl153_2
clear hi153_2 hl153_2
replace p153 := eq_true p153
replace q153 := eq_true q153
have p154 : 0 ≤ (x5_1 : Int) := dt_
have q154 : x5_1 < (l1.length : Int) := dt_
obtain ⟨ad154, A154_2, c154_2, e154, hx154_0, hx154_1, hx154_2, hl154_2, hi154_2⟩ := at_T101 HR1.out x5_1 p154 q154
have hw154_2 := hx154_2
have hw154_1 := hx154_1
have hw154_0 := hx154_0
cases e154
replace hx154_0 := mv HB.out hx154_0
replace hx154_1 := mv HB.out hx154_1
replace hx154_2 := mv HB.out hx154_2
have HR154_2 := am hi154_2
have HC154_2 := am hl154_2
clear hi154_2 hl154_2
replace p154 := eq_true p154
replace q154 := eq_true q154
refine start_ (n := 10) (S := fun w' => w'.cell? (ad153.add ((x5_1).toNat * 3)) = some (.int .i64 ((rd_T101 l0 x5_1).f0)) ∧ w'.cell? ⟨(ad153.add ((x5_1).toNat * 3)).block, (ad153.add ((x5_1).toNat * 3)).off + 1, none⟩ = some (.int .i64 ((rd_T101 l0 x5_1).f1)) ∧ w'.cell? ⟨(ad153.add ((x5_1).toNat * 3)).block, (ad153.add ((x5_1).toNat * 3)).off + 2, none⟩ = some (.slice A153_2 ((rd_T101 l0 x5_1).f2).length c153_2) ∧ w'.cell? (ad154.add ((x5_1).toNat * 3)) = some (.int .i64 ((rd_T101 l1 x5_1).f0)) ∧ w'.cell? ⟨(ad154.add ((x5_1).toNat * 3)).block, (ad154.add ((x5_1).toNat * 3)).off + 1, none⟩ = some (.int .i64 ((rd_T101 l1 x5_1).f1)) ∧ w'.cell? ⟨(ad154.add ((x5_1).toNat * 3)).block, (ad154.add ((x5_1).toNat * 3)).off + 2, none⟩ = some (.slice A154_2 ((rd_T101 l1 x5_1).f2).length c154_2)) (ds := []) (bm 10 0) (by kernel_rfl) rfl rfl ⟨((HB.out.cell (World.block_lt_of_cell? w _ hw153_0)).trans hw153_0), ((HB.out.cell (World.block_lt_of_cell? w _ hw153_1)).trans hw153_1), ((HB.out.cell (World.block_lt_of_cell? w _ hw153_2)).trans hw153_2), ((HB.out.cell (World.block_lt_of_cell? w _ hw154_0)).trans hw154_0), ((HB.out.cell (World.block_lt_of_cell? w _ hw154_1)).trans hw154_1), ((HB.out.cell (World.block_lt_of_cell? w _ hw154_2)).trans hw154_2)⟩ (fun hHeld => ?_); refine with_tabW laws_eqChangeS.tab6 laws_eqChangeS.bits6 (fun HT_ HW_ => ?_)
generalize wr.drew = w9 at HB HR153_2 HR154_2 hx153_0 hx153_1 hx153_2 hx154_0 hx154_1 hx154_2 hHeld ⊢
refine pu_ 0 17 (bm 10 1) HT_.out ?_
refine pu_ 1 18 (bm 10 3) HT_.out ?_
refine pu_ 2 19 (bm 10 7) HT_.out ?_
refine pu_ 4 21 (bm 10 23) HT_.out ?_
refine pu_ 5 22 (bm 10 55) HT_.out ?_
refine pu_ 6 23 (bm 10 119) HT_.out ?_
refine take_ (i := 3) (N := some 20) (v := ?_) (a' := ?_) (bm 10 127) rfl rfl (take_ofW HT_.out HW_.out (by kernel_rfl)) (fun _ _ _ h => h) (Or.inl ⟨by rfl, ?_⟩) hHeld ?_ ?_
rotate_left
·(
rintro w' ⟨s0, s1, s2, s3, s4, s5⟩
go_simp
with_reducible rfl
)
rotate_left
·(
simp only [Act.put, List.setIfInBounds_toArray, List.set_cons_zero, List.set_cons_succ, i64_w, i32_w]
rfl
)
refine take_ (i := 7) (N := some 24) (v := ?_) (a' := ?_) (bm 10 255) rfl rfl (take_ofW HT_.out HW_.out (by kernel_rfl)) (fun _ _ _ h => h) (Or.inl ⟨by rfl, ?_⟩) hHeld ?_ ?_
rotate_left
·(
rintro w' ⟨s0, s1, s2, s3, s4, s5⟩
go_simp
with_reducible rfl
)
rotate_left
·(
simp only [Act.put, List.setIfInBounds_toArray, List.set_cons_zero, List.set_cons_succ, i64_w, i32_w]
rfl
)
refine one_ (i := 8) (N := some 25) (bm 10 511) rfl rfl (one_of HT_.out (by kernel_rfl)) (by decide) (fun K hK => ?_)
refine goes_ Try.func106 (by kernel_rfl) rfl #[.agg #[.int .i64 ((rd_T101 l0 x5_1).f0), .int .i64 ((rd_T101 l0 x5_1).f1), .slice A153_2 ((rd_T101 l0 x5_1).f2).length c153_2], .agg #[.int .i64 ((rd_T101 l1 x5_1).f0), .int .i64 ((rd_T101 l1 x5_1).f1), .slice A154_2 ((rd_T101 l1 x5_1).f2).length c154_2]] (by rfl) rfl rfl mt ?_
first
| with_reducible refine (laws_eqChange.calls k1 ((rd_T101 l0 x5_1).f0) ((rd_T101 l0 x5_1).f1) _ _ ((rd_T101 l0 x5_1).f2) ((rd_T101 l1 x5_1).f0) ((rd_T101 l1 x5_1).f1) _ _ ((rd_T101 l1 x5_1).f2) false _ ?side1 ?side2 ?side3 ?side4 A7.out).mono ?_
| with_reducible refine (laws_eqChange.calls k1 ((rd_T101 l0 x5_1).f0) ((rd_T101 l0 x5_1).f1) _ _ ((rd_T101 l0 x5_1).f2) ((rd_T101 l1 x5_1).f0) ((rd_T101 l1 x5_1).f1) _ _ ((rd_T101 l1 x5_1).f2) true _ ?side1 ?side2 ?side3 ?side4 A7.out).mono ?_
(case side1 => exact rc ((Kd.C_below HR153_2.out HB.out)))
(case side2 => exact HC153_2.out)
(case side3 => exact rc ((Kd.C_below HR154_2.out HB.out)))
(case side4 => exact HC154_2.out)
rintro e w10 ⟨rfl, hb⟩
refine ⟨_, rfl, ?_⟩
replace HB := am (below_step (rb HB) hb)
(try clear hb)
refine hK.out _ _ ⟨((HB.out.cell (World.block_lt_of_cell? w _ hw153_0)).trans hw153_0), ((HB.out.cell (World.block_lt_of_cell? w _ hw153_1)).trans hw153_1), ((HB.out.cell (World.block_lt_of_cell? w _ hw153_2)).trans hw153_2), ((HB.out.cell (World.block_lt_of_cell? w _ hw154_0)).trans hw154_0), ((HB.out.cell (World.block_lt_of_cell? w _ hw154_1)).trans hw154_1), ((HB.out.cell (World.block_lt_of_cell? w _ hw154_2)).trans hw154_2)⟩ (fun hHeld => ?_)
clear hK K
refine norm_ (a' := _) (show Act.put _ (some 25) _ = _ from na) ?_
refine pu_ 9 26 (bm 10 1023) HT_.out ?_
refine done_ (done_of HT_.out (by kernel_rfl)) ?_
try go_wp2
first
| (
have q_ := lf4_
go_ret
exact ⟨by first | rfl | (simp [errW_none, errW_some] <;> rfl) | (simp [*, errW_none, errW_some] <;> rfl), by repeat (first | (with_reducible first | exact HB.out | apply b1 | apply b2 | apply b3) | exact HB.out)⟩
)
| (
have q_ := lf3_
go_roundg k1
case measure => have := HK1.out; omega
case rel => exact ⟨(wrap64 (x5_1 + 1)), (by first | rfl | (simp; done) | (simp [*]; done)), H', ⟨by have := HK1.out; omega⟩, ⟨rb HB⟩⟩
)
)
)
·(
rw [if_neg c4] at H
have c4b0 : decide (x5_1 < (l0.length : Int)) = false := decide_eq_false c4
clear c4
obtain rfl := Option.some.inj H
go_wp2
go_ret
exact ⟨by first | rfl | (simp [errW_none, errW_some] <;> rfl) | (simp [*, errW_none, errW_some] <;> rfl), by repeat (first | (with_reducible first | exact HB.out | apply b1 | apply b2 | apply b3) | exact HB.out)⟩
)
)
)
)
·(
rw [if_neg c3] at H
have c3b0 : ((l0.length : Int) == (l1.length : Int)) = false := beq_eq_false_iff_ne.mpr c3
have c3b1 : ((l0.length : Int) != (l1.length : Int)) = true := bne_iff_ne.mpr c3
have c3b2 : (l0.length == l1.length) = false := by first | simpa using c3 | (simp at c3 ⊢; omega)
obtain rfl := Option.some.inj H
go_enter Try.func74, Try.ntmps74
go_wp2
go_ret
exact ⟨by first | rfl | (simp [errW_none, errW_some] <;> rfl) | (simp [*, errW_none, errW_some] <;> rfl), by repeat (first | (with_reducible first | exact HB.out | apply b1 | apply b2 | apply b3) | exact HB.out)⟩
)
)

end Go.Proofs.Ytalopdcephohgaa.RC
