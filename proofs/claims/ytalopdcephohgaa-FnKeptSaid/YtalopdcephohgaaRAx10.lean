/- Contracts of Go functions that laws of this seat reach: each Lean function answers as its Go function does. No condition. Written by wip/tools/inj.py, over the kit's print. -/
import Derived.Test.YtalopdcephohgaaRAx0
import Derived.Test.YtalopdcephohgaaRAx1
import Derived.Test.YtalopdcephohgaaRAx4
import Derived.Test.YtalopdcephohgaaRAx5
namespace Go.Proofs.Ytalopdcephohgaa.RA
open Go.RowKit Go.Proofs.YtalopdcephohgaaW.PrintWords Go.Proofs.YtalopdcephohgaaW.PrintLast Go.Proofs.YtalopdcephohgaaW.PrintMore
attribute [local go_sem] max2_int min2_int max_two min_two max_three min_three max_four min_four   -- for this text's walks alone
set_option linter.unusedVariables false
set_option linter.unusedSimpArgs false

/-! ### spec_DrawLooked: function 13 -/
def spec_DrawLooked.f (k : Nat) (l0 : List Int) : Option (Int × List ByteArray × Int × ByteArray) := (spec_l1New.f k l0).bind fun bt298 => ((spec_l12Draw.f k bt298.1 bt298.2.1 bt298.2.2).bind fun bt302 => ((some (([(⟨#[97, 98]⟩ : ByteArray), (⟨#[97]⟩ : ByteArray), (⟨#[98, 97]⟩ : ByteArray), (⟨#[122, 122]⟩ : ByteArray), (⟨#[]⟩ : ByteArray)] : List ByteArray) : List ByteArray)).bind fun y310 => ((spec_l1Below.f bt298.1 bt302.2.2.2.1 bt302.2.2.2.2 5).bind fun bt313 => (if 0 ≤ bt313.1 then (if bt313.1 < (y310.length : Int) then (some (bt302.1, bt302.2.1, bt302.2.2.1, rdOf ByteArray.empty y310 bt313.1)) else (none)) else (none)))))
theorem spec_DrawLooked.mono : ∀ a0 k, LeO (spec_DrawLooked.f k a0) (spec_DrawLooked.f (k + 1) a0) := by
 intro a0 k
 unfold spec_DrawLooked.f
 repeat' first
   | (with_reducible exact spec_l12Draw.mono _ _ _ _)
   | (with_reducible exact spec_l1New.mono _ _)
   | (with_reducible exact LeO.refl _)
   | (with_reducible exact LeO.none _)
   | (with_reducible refine LeO.ite ?_ ?_)
   | (with_reducible refine LeO.bind ?_ (fun _ => ?_))
def spec_DrawLooked.T3 : Bool × List (List Nat × List Nat) := (true, [([], []), ([], []), ([], []), ([2], [2]), ([1, 3], [1, 3]), ([4], [4]), ([0, 3, 0], [0]), ([5, 6, 0, 1, 2, 3, 4, 5, 6], [5])])
def spec_DrawLooked.B3 : List Nat := [0, 0, 0, 4, 14, 30, 13, 127]
theorem spec_DrawLooked.tab3 : rtab .any (opsOf Try.f13 3) = spec_DrawLooked.T3 := by kernel_rfl
theorem spec_DrawLooked.bits3 : waitsOk spec_DrawLooked.T3.2 spec_DrawLooked.B3 = true := by kernel_rfl
set_option maxHeartbeats 8000000 in
set_option maxRecDepth 100000 in
theorem spec_DrawLooked.calls (k : Nat) (A0 : Option Addr) (c0 : Nat) (l0 : List Int) (r1 : Int) (r2 : List ByteArray) (r3 : Int) (r4 : ByteArray) (w : World) (hr0 : Kd.C (Kd.int .u8) w A0 l0.length l0) (hc0 : l0.length ≤ c0) (h : spec_DrawLooked.f k l0 = some (r1, r2, r3, r4)) :
  Calls Try.prog 13 #[.slice A0 l0.length c0] w fun e w' => ∃ v1_ : Value, e = .returned (.tuple #[.agg #[.int .i64 r1, v1_, .int .i64 r3], .string r4]) ∧ Kd.Q Kd.string 9 w' w.heap.size (fun _ => True) v1_ r2 ∧ Below w.heap.size w w' := by
 (
have hu26 := Try.underlying26
have HR0 := am hr0
have HC0 := am hc0
clear hr0 hc0
have HB := am (Below.refl w.heap.size w)
have H := h
unfold spec_DrawLooked.f at H
clear h
replace H := Option.bind_eq_some_iff.mp H
obtain ⟨⟨t298, t299, t300⟩, A20, H⟩ := H
(try dsimp only at H)
have A2 := am A20
clear A20
replace H := Option.bind_eq_some_iff.mp H
obtain ⟨⟨t302, t303, t306, t307, t308⟩, A30, H⟩ := H
(try dsimp only at H)
have A3 := am A30
clear A30
obtain ⟨y310, hy310⟩ : ∃ y_ : List ByteArray, y_ = (([(⟨#[97, 98]⟩ : ByteArray), (⟨#[97]⟩ : ByteArray), (⟨#[98, 97]⟩ : ByteArray), (⟨#[122, 122]⟩ : ByteArray), (⟨#[]⟩ : ByteArray)] : List ByteArray)) := ⟨_, rfl⟩
replace H : ((spec_l1Below.f t298 t307 t308 5).bind fun bt313 => (if 0 ≤ bt313.1 then (if bt313.1 < (y310.length : Int) then (some (t302, t303, t306, rdOf ByteArray.empty y310 bt313.1)) else (none)) else (none))) = some (r1, r2, r3, r4) := by first | (rw [hy310]; with_reducible exact H) | (rw [hy310]; exact H) | exact H
have Ny310 := am hy310
clear hy310
replace H := Option.bind_eq_some_iff.mp H
obtain ⟨⟨t313, t314, t315⟩, A40, H⟩ := H
(try dsimp only at H)
have A4 := am A40
clear A40
refine em_ (p := 0 ≤ t313) (fun c5 => ?g1p) (fun c5 => ?g1n)
case' g1p => (
rw [if_pos c5] at H
have c5b0 : decide (0 ≤ t313) = true := decide_eq_true c5
clear c5
refine em_ (p := t313 < (y310.length : Int)) (fun c6 => ?g0p) (fun c6 => ?g0n)
case' g0p => (
rw [if_pos c6] at H
have c6b0 : decide (t313 < (y310.length : Int)) = true := decide_eq_true c6
clear c6
simp only [Option.some.injEq, Prod.mk.injEq] at H
obtain ⟨rfl, rfl, rfl, rfl⟩ := H
have lf1_ := trivial
)
case g0n => (
rw [if_neg c6] at H
exact absurd H (by simp)
)
)
case g1n => (
rw [if_neg c5] at H
exact absurd H (by simp)
)
all_goals (
go_enter Try.func13, Try.ntmps13
try go_wp2_with (first | ((with_reducible refine gate_dst (N := 2) rfl ?_); refine box_event ?hg (N := 2) ?hd (cs := #[.int .i64 0, .slice none 0 0, .int .i64 0]) (t := 26) ?hr ?_; (case hd => rfl); (case hg => rfl); (case hr => first | (go_simp; done) | (go_simp; rfl)); intro gb297 hg w7 hbox hb; have BK297 := am (hbox); have GW297 := am (gw hg (rb HB)); have GE297 := GW297; replace HB := am (below_step (rb HB) hb); clear hb hbox hg) | ((with_reducible refine gate_callee (f := 49) rfl ?_); refine gl_ (some 7) Try.func49 #[.slice A0 l0.length c0] ?_; (with_reducible refine (spec_l1New.calls k _ _ l0 t298 t299 t300 w _ ?side1 ?side2 ?side3 A2.out).mono ?_); (case side1 => repeat (first | (with_reducible first | exact HB.out | apply b1 | apply b2 | apply b3 | refine below_set ?_ GE297.out) | exact HB.out)); (case side2 => exact HR0.out); (case side3 => exact HC0.out); rintro e w8 ⟨g301, rfl, hi, hb, hb2⟩; refine ⟨_, rfl, ?_⟩; replace HB := am (hb); have HI301 := am (hi); have NB301_297 := am (IsS118.ne_blk hi (blk_below (rk BK297) hb2) (by decide)); have NB297_301 := am (Ne.symm (IsS118.ne_blk hi (blk_below (rk BK297) hb2) (by decide))); replace BK297 := am (blk_below (rk BK297) hb2); (try clear hb); (try clear hb2); (try clear hk); (try clear hi)) | ((with_reducible refine gate_callee (f := 50) rfl ?_); refine gl_ (some 9) Try.func50 #[.pointer (some ⟨g301, 0, none⟩)] ?_; (with_reducible refine (spec_l12Draw.calls k g301 t298 t299 t300 t302 t303 t306 t307 t308 w _ ?side1 ?side2 A3.out).mono ?_); (case side1 => repeat (first | (with_reducible first | exact HI301.out | apply IsS118.alloc | apply IsS118.drewN | apply IsS118.drew | apply IsS118.set_1 | apply IsS118.set_2 | refine IsS118.far ?_ NB301_297.out _) | exact HI301.out)); (case side2 => repeat (first | (with_reducible first | exact HB.out | apply b1 | apply b2 | apply b3 | refine below_set ?_ (IsS118.ge HI301.out) | refine below_set ?_ GE297.out) | exact HB.out)); rintro e w9 ⟨v304, rfl, ho0, hi, hb, hk⟩; refine ⟨_, rfl, ?_⟩; replace BK297 := am (KeepBut.blk hk (g' := gb297) (o := .cells #[.int .i64 0, .slice none 0 0, .int .i64 0] 26 (0, 0)) (rk BK297) NB297_301.out (by simp)); have HO305 := am (Kd.Q_lower ho0 (below_size (by repeat (first | (with_reducible first | exact HB.out | apply b1 | apply b2 | apply b3 | refine below_set ?_ (IsS118.ge HI301.out) | refine below_set ?_ GE297.out) | exact HB.out)))); replace HB := am (hb); replace HI301 := am (hi); (try clear hb); (try clear hb2); (try clear hk); (try clear hi); (try clear ho0)) | ((with_reducible refine gate_dst (N := 5) rfl ?_); refine box_event ?hg (N := 5) ?hd (cs := #[.int .i64 0, .slice none 0 0, .int .i64 0]) (t := 26) ?hr ?_; (case hd => rfl); (case hg => rfl); (case hr => first | (go_simp; done) | (go_simp; rfl)); intro gb309 hg w10 hbox hb; replace HO305 := am (Kd.Q_below (rq HO305) hb); have BK309 := am (hbox); have GW309 := am ((by rw [hg]; exact (below_size (by repeat (first | (with_reducible first | exact HB.out | apply b1 | apply b2 | apply b3 | refine below_set ?_ (IsS118.ge HI301.out) | refine below_set ?_ GE297.out) | exact HB.out))) : w.heap.size ≤ gb309)); have GE309 := am ((by rw [hg]; exact (below_size (by repeat (first | (with_reducible first | exact HB.out | apply b1 | apply b2 | apply b3 | refine below_set ?_ (IsS118.ge HI301.out) | refine below_set ?_ GE297.out) | exact HB.out))) : w.heap.size ≤ gb309)); replace HB := am (below_step (by repeat (first | (with_reducible first | exact HB.out | apply b1 | apply b2 | apply b3 | refine below_set ?_ (IsS118.ge HI301.out) | refine below_set ?_ GE297.out) | exact HB.out)) hb); have NB297_309 := am (nl hg (rk BK297)); have NB309_297 := am (ng hg (rk BK297)); replace BK297 := am (blk_below (rk BK297) hb); have NB301_309 := am ((by rw [hg]; exact Nat.ne_of_lt (IsS118.lt (show IsS118 w _ g301 t298 t307 t308 from by repeat (first | (with_reducible first | exact HI301.out | apply IsS118.alloc | apply IsS118.drewN | apply IsS118.drew | apply IsS118.set_1 | apply IsS118.set_2 | refine IsS118.far ?_ NB301_297.out _) | exact HI301.out))) : g301 ≠ gb309)); have NB309_301 := am ((by rw [hg]; exact Nat.ne_of_gt (IsS118.lt (show IsS118 w _ g301 t298 t307 t308 from by repeat (first | (with_reducible first | exact HI301.out | apply IsS118.alloc | apply IsS118.drewN | apply IsS118.drew | apply IsS118.set_1 | apply IsS118.set_2 | refine IsS118.far ?_ NB301_297.out _) | exact HI301.out))) : gb309 ≠ g301)); replace HI301 := am (IsS118.below (by repeat (first | (with_reducible first | exact HI301.out | apply IsS118.alloc | apply IsS118.drewN | apply IsS118.drew | apply IsS118.set_1 | apply IsS118.set_2 | refine IsS118.far ?_ NB301_297.out _) | exact HI301.out)) hb); clear hb hbox hg; have hnb11 := NB309_297.out; have hnc11 := NB297_309.out; have hnb12 := NB309_301.out; have hnc12 := NB301_309.out; have hcz13_0 : w10.cell? ⟨gb309, 0, none⟩ = some (.int .i64 0) := (blk_cell BK309.out 0).trans rfl; have hcz13_1 : w10.cell? ⟨gb309, 1, none⟩ = some (.slice none 0 0) := (blk_cell BK309.out 1).trans rfl; have hcz13_2 : w10.cell? ⟨gb309, 2, none⟩ = some (.int .i64 0) := (blk_cell BK309.out 2).trans rfl; have hfz13_0 := blk_frozen BK309.out 0; have hfz13_1 := blk_frozen BK309.out 1; have hfz13_2 := blk_frozen BK309.out 2; obtain ⟨Ao14, co14, eo14, _⟩ := Kd.Q_slice HO305.out; subst eo14))
have pi316 : (0 ≤ (t313 : Int)) = True := eq_true dt_
have qi316 : (t313 < (y310.length : Int)) = True := eq_true dt_
have n0_ : Aside0 (Kd.Q Kd.string 9 (((w10.setCell ⟨gb309, 0, none⟩ (.int .i64 t302)).setCell ⟨gb309, 1, none⟩ (.slice Ao14 t303.length co14)).setCell ⟨gb309, 2, none⟩ (.int .i64 t306)) w.heap.size (fun _ => True) (.slice Ao14 t303.length co14) t303) := ⟨Qm3 HO305 BK309⟩
have n1_ : Aside0 ((((w10.setCell ⟨gb309, 0, none⟩ (.int .i64 t302)).setCell ⟨gb309, 1, none⟩ (.slice Ao14 t303.length co14)).setCell ⟨gb309, 2, none⟩ (.int .i64 t306)).heap[gb297]? = some (.cells #[.int .i64 0, .slice none 0 0, .int .i64 0] 26 (0, 0))) := ⟨rf3 NB297_309 BK297⟩
have n2_ : Aside0 ((((w10.setCell ⟨gb309, 0, none⟩ (.int .i64 t302)).setCell ⟨gb309, 1, none⟩ (.slice Ao14 t303.length co14)).setCell ⟨gb309, 2, none⟩ (.int .i64 t306)).heap[gb309]? = some (.cells #[.int .i64 t302, .slice Ao14 t303.length co14, .int .i64 t306] 26 (0, 0))) := ⟨by (with_reducible repeat (first | apply k1 | apply k2 | apply k3)); refine blk_put (cs := #[.int .i64 t302, .slice Ao14 t303.length co14, .int .i64 0]) ?_ 2 _ rfl; (with_reducible repeat (first | apply k1 | apply k2 | apply k3)); refine blk_put (cs := #[.int .i64 t302, .slice none 0 0, .int .i64 0]) ?_ 1 _ rfl; (with_reducible repeat (first | apply k1 | apply k2 | apply k3)); refine blk_put (cs := #[.int .i64 0, .slice none 0 0, .int .i64 0]) ?_ 0 _ rfl; (with_reducible repeat (first | apply k1 | apply k2 | apply k3)); exact BK309.out⟩
have n3_ : Aside0 (IsS118 w (((w10.setCell ⟨gb309, 0, none⟩ (.int .i64 t302)).setCell ⟨gb309, 1, none⟩ (.slice Ao14 t303.length co14)).setCell ⟨gb309, 2, none⟩ (.int .i64 t306)) g301 t298 t307 t308) := ⟨by repeat (first | (with_reducible first | exact HI301.out | apply IsS118.alloc | apply IsS118.drewN | apply IsS118.drew | apply IsS118.set_1 | apply IsS118.set_2 | refine IsS118.far ?_ NB301_297.out _ | refine IsS118.far ?_ NB301_309.out _) | exact HI301.out)⟩
have n4_ : Aside0 (Below w.heap.size w (((w10.setCell ⟨gb309, 0, none⟩ (.int .i64 t302)).setCell ⟨gb309, 1, none⟩ (.slice Ao14 t303.length co14)).setCell ⟨gb309, 2, none⟩ (.int .i64 t306))) := ⟨by repeat (first | (with_reducible first | exact HB.out | apply b1 | apply b2 | apply b3 | refine below_set ?_ (IsS118.ge HI301.out) | refine below_set ?_ GE297.out | refine below_set ?_ GE309.out) | exact HB.out)⟩
(try clear HO305)
(try clear BK297)
(try clear BK309)
(try clear HI301)
(try clear HB)
generalize (((w10.setCell ⟨gb309, 0, none⟩ (.int .i64 t302)).setCell ⟨gb309, 1, none⟩ (.slice Ao14 t303.length co14)).setCell ⟨gb309, 2, none⟩ (.int .i64 t306)) = w15 at n0_ n1_ n2_ n3_ n4_ ⊢
have HO305 := n0_
have BK297 := n1_
have BK309 := n2_
have HI301 := n3_
have HB := n4_
clear n0_ n1_ n2_ n3_ n4_
replace HO305 := am (Kd.Q_drew HO305.out)
replace BK297 := am (blk_drew BK297.out)
replace BK309 := am (blk_drew BK309.out)
replace HI301 := am (IsS118.drew HI301.out)
replace HB := am (below_drew1 HB.out)
refine start_ (n := 8) (S := fun w' => True) (ds := []) (bm 8 0) (by kernel_rfl) rfl rfl trivial (fun hHeld => ?_); refine with_tabW spec_DrawLooked.tab3 spec_DrawLooked.bits3 (fun HT_ HW_ => ?_)
generalize w15.drew = w16 at HO305 BK297 BK309 HI301 HB hHeld ⊢
refine pu_ 2 12 (bm 8 4) HT_.out ?_
refine inv_at [0, 1, 3, 4, 5, 6, 7] (fun a0_ b a w' => ∃ (v311 : Value) (adz_v311 : Addr) (m4_ : Value), a = putSel a0_ b [(0, 10, .agg #[.int .i64 t302, .slice Ao14 t303.length co14, .int .i64 t306]), (1, 11, v311), (3, 13, .int .i64 t313), (4, 14, m4_), (5, 15, .string (rdOf ByteArray.empty y310 t313)), (7, 3, .string (rdOf ByteArray.empty y310 t313))] ∧ (Kd.Q Kd.string 9 w' w.heap.size (fun _ => True) (.slice Ao14 t303.length co14) t303) ∧ (b 6 = false → w'.heap[gb297]? = some (.cells #[.int .i64 0, .slice none 0 0, .int .i64 0] 26 (0, 0))) ∧ (w'.heap[gb309]? = some (.cells #[.int .i64 t302, .slice Ao14 t303.length co14, .int .i64 t306] 26 (0, 0))) ∧ (b 3 = false → IsS118 w w' g301 t298 t307 t308) ∧ (Below w.heap.size w w') ∧ (b 1 = true → Kd.R Kd.string 9 w' w.heap.size (fun k_ => some k_ ≠ (.slice Ao14 t303.length co14 : Value).ownBlock) v311 y310) ∧ (b 1 = true → ∃ c_, (v311 : Value) = .slice (some adz_v311) y310.length c_) ∧ (b 3 = true → IsS118 w w' g301 t298 t314 t315) ∧ (b 6 = true → w'.heap[gb297]? = some (.cells #[.int .i64 t302, .slice Ao14 t303.length co14, .int .i64 t306] 26 (0, 0))) ∧ (b 4 = true → (m4_ : Value) = .pointer (some (adz_v311.add (t313).toNat)))) HT_.out HW_.out (by kernel_rfl) (by kernel_rfl) ?_ ?_ ?_
·exact ⟨.bool false, ⟨0, 0, none⟩, .bool false, by simp only [putSel, Bool.false_eq_true, if_false], HO305.out, fun _ => BK297.out, BK309.out, fun _ => HI301.out, HB.out, fun h_ => absurd h_ (by decide), fun h_ => absurd h_ (by decide), fun h_ => absurd h_ (by decide), fun h_ => absurd h_ (by decide), fun h_ => absurd h_ (by decide)⟩
·(
skip
clear BK297 BK309 HB HI301 HO305
refine steps_cons ?_ ?_
·(
rintro b a w' ⟨v311, adz_v311, m4_, ha, Q_HO305, Q_BK297, Q_BK309, Q_HI301, Q_HB, Q_HO312, Q_HA_HO312, Q_HI301_e3, Q_BK297_e6, Q_X4_⟩ hb_ hon hoff
refine ⟨_, rfl, fun K hK => ?_⟩
have e5 : a.tmps[5]? = some (.pointer (some ⟨gb309, 0, none⟩)) := by rw [ha]; exact (putSel_off rfl).trans rfl
replace ha := am ha
have HO305 := am Q_HO305
have BK297 := am (Q_BK297 (hoff 6 (by kernel_rfl)))
have BK309 := am Q_BK309
have HB := am Q_HB
have hc0_ : w'.cell? ⟨gb309, 0, none⟩ = some (.int .i64 t302) := (blk_cell BK309.out 0).trans rfl
have hc1_ : w'.cell? ⟨gb309, 1, none⟩ = some (.slice Ao14 t303.length co14) := (blk_cell BK309.out 1).trans rfl
have hc2_ : w'.cell? ⟨gb309, 2, none⟩ = some (.int .i64 t306) := (blk_cell BK309.out 2).trans rfl
refine value_ (w1 := w') (v := .agg #[.int .i64 t302, .slice Ao14 t303.length co14, .int .i64 t306]) (by rfl) rfl ?_ ?_
·(
go_simp
(try simp only [i64_w])
try rfl
)
refine hK.out _ _ ⟨v311, adz_v311, m4_, (by rw [ha.out]; exact putSel_upk 0 hb_ rfl rfl rfl), Q_HO305, Q_BK297, Q_BK309, Q_HI301, Q_HB, Q_HO312, Q_HA_HO312, Q_HI301_e3, fun h0_ => absurd ((hoff 6 (by kernel_rfl)).symm.trans h0_) (by decide), Q_X4_⟩
)
refine steps_cons ?_ ?_
·(
rintro b a w' ⟨v311, adz_v311, m4_, ha, Q_HO305, Q_BK297, Q_BK309, Q_HI301, Q_HB, Q_HO312, Q_HA_HO312, Q_HI301_e3, Q_BK297_e6, Q_X4_⟩ hb_ hon hoff
refine ⟨_, rfl, fun K hK => ?_⟩
replace ha := am ha
have HO305 := am Q_HO305
have BK309 := am Q_BK309
have HB := am Q_HB
refine Kd.R_lit_step Kd.string _ 9 ?hg (N := 11) ?hd (xs := ([(⟨#[97, 98]⟩ : ByteArray), (⟨#[97]⟩ : ByteArray), (⟨#[98, 97]⟩ : ByteArray), (⟨#[122, 122]⟩ : ByteArray), (⟨#[]⟩ : ByteArray)] : List ByteArray)) (inner := [.string (⟨#[97, 98]⟩ : ByteArray), .string (⟨#[97]⟩ : ByteArray), .string (⟨#[98, 97]⟩ : ByteArray), .string (⟨#[122, 122]⟩ : ByteArray), .string (⟨#[]⟩ : ByteArray)]) (ok := fun _ => True) (okp := fun _ => True) ?hr ?hp (fun _ hk => hk) trivial (Below.refl _ _) (Nat.le_refl _) (by simp) ?_; (case hd => rfl); (case hg => rfl); (case hr => first | (go_simp; done) | (go_simp; rfl)); (case hp => exact (Reps.one (show Kd.M Kd.string _ _ _ (⟨#[97, 98]⟩ : ByteArray) [.string (⟨#[97, 98]⟩ : ByteArray)] from rfl) (Reps.one (show Kd.M Kd.string _ _ _ (⟨#[97]⟩ : ByteArray) [.string (⟨#[97]⟩ : ByteArray)] from rfl) (Reps.one (show Kd.M Kd.string _ _ _ (⟨#[98, 97]⟩ : ByteArray) [.string (⟨#[98, 97]⟩ : ByteArray)] from rfl) (Reps.one (show Kd.M Kd.string _ _ _ (⟨#[122, 122]⟩ : ByteArray) [.string (⟨#[122, 122]⟩ : ByteArray)] from rfl) (Reps.one (show Kd.M Kd.string _ _ _ (⟨#[]⟩ : ByteArray) [.string (⟨#[]⟩ : ByteArray)] from rfl) (Reps.none _ _)))))))
intro v311 w17 ho18 hb hg_ hnew_
clear hg_ hnew_
(first | rw [← Ny310.out] at ho18 | (simp only [Int.reduceToNat] at ho18; rw [← Ny310.out] at ho18))
have n0_ := am (Kd.Q_elder' (rq HO305) (Kd.R_base ho18) hb)
have n1_ := am (Kd.R_lower (Kd.R_new' ho18 (Kd.Q_lt (rq HO305))) (below_size (rb2 HB GE297 GE309)))
have n4_ := am (blk_below (rk BK309) hb)
have n5_ := am (below_step (rb2 HB GE297 GE309) hb)
have z_BK297 := fun (h0_ : b 6 = false) => (show w17.heap[gb297]? = some (.cells #[.int .i64 0, .slice none 0 0, .int .i64 0] 26 (0, 0)) from by first | exact (blk_below (g := gb297) (o := .cells #[.int .i64 0, .slice none 0 0, .int .i64 0] 26 (0, 0)) (by (with_reducible repeat (first | apply k1 | apply k2 | apply k3)); exact (Q_BK297 h0_)) hb))
have z_HI301 := fun (h0_ : b 3 = false) => (show IsS118 w w17 g301 t298 t307 t308 from by first | exact (IsS118.below (by repeat (first | (with_reducible first | exact (Q_HI301 h0_) | apply IsS118.alloc | apply IsS118.drewN | apply IsS118.drew | apply IsS118.set_1 | apply IsS118.set_2 | refine IsS118.far ?_ NB301_297.out _ | refine IsS118.far ?_ NB301_309.out _) | exact (Q_HI301 h0_))) hb))
have z_HI301_e3 := fun (h0_ : b 3 = true) => (show IsS118 w w17 g301 t298 t314 t315 from by first | exact (IsS118.below (by repeat (first | (with_reducible first | exact (Q_HI301_e3 h0_) | apply IsS118.alloc | apply IsS118.drewN | apply IsS118.drew | apply IsS118.set_1 | apply IsS118.set_2 | refine IsS118.far ?_ NB301_297.out _ | refine IsS118.far ?_ NB301_309.out _) | exact (Q_HI301_e3 h0_))) hb))
have z_BK297_e6 := fun (h0_ : b 6 = true) => (show w17.heap[gb297]? = some (.cells #[.int .i64 t302, .slice Ao14 t303.length co14, .int .i64 t306] 26 (0, 0)) from by first | exact (blk_below (g := gb297) (o := .cells #[.int .i64 t302, .slice Ao14 t303.length co14, .int .i64 t306] 26 (0, 0)) (by (with_reducible repeat (first | apply k1 | apply k2 | apply k3)); exact (Q_BK297_e6 h0_)) hb))
clear HO305
clear BK309
clear HB
have HO305 := n0_
have HO312 := n1_
have BK309 := n4_
have HB := n5_
clear n0_ n1_ n4_ n5_
clear hb ho18
obtain ⟨Ao19, co19, eo19⟩ := Kd.R_slice HO312.out
subst eo19
obtain ⟨ado19, fo19, _⟩ := Kd.at_string (Kd.R_reads' HO312.out).2.2 0 (by decide) (by rw [Ny310.out]; simp)
cases fo19
refine hK.out _ _ ⟨.slice (some ado19) y310.length co19, ado19, m4_, (by rw [ha.out]; exact putSel_upk 1 hb_ rfl rfl rfl), (by (with_reducible repeat (first | apply Kd.Q_alloc | apply Kd.Q_drewN | apply Kd.Q_drew)); exact Kd.Q_mono HO305.out (fun _ hk => by first | exact hk.2 | trivial)), z_BK297, (rk BK309), z_HI301, (rb2 HB GE297 GE309), fun _ => (rrm HO312), fun _ => ⟨_, rfl⟩, z_HI301_e3, z_BK297_e6, fun h0_ => absurd ((hoff 4 (by kernel_rfl)).symm.trans h0_) (by decide)⟩
)
refine steps_cons ?_ ?_
·(
rintro b a w' ⟨v311, adz_v311, m4_, ha, Q_HO305, Q_BK297, Q_BK309, Q_HI301, Q_HB, Q_HO312, Q_HA_HO312, Q_HI301_e3, Q_BK297_e6, Q_X4_⟩ hb_ hon hoff
refine ⟨_, rfl, fun K hK => ?_⟩
have e12 : a.tmps[12]? = some (.pointer (some ⟨g301, 0, none⟩)) := by rw [ha]; exact (putSel_off rfl).trans rfl
replace ha := am ha
have HO305 := am Q_HO305
have BK297 := am (Q_BK297 (hoff 6 (by kernel_rfl)))
have BK309 := am Q_BK309
have HI301 := am (Q_HI301 hb_)
have HB := am Q_HB
refine goes_ Try.func52 (by kernel_rfl) rfl #[.pointer (some ⟨g301, 0, none⟩), .int .i64 5] (by rfl) rfl rfl (by first | (simp only [List.map_toArray, List.map_cons, List.map_nil, Act.eval, Array.getD_eq_getD_getElem?, Option.getD_some, e12]; done) | (simp only [List.map_toArray, List.map_cons, List.map_nil, Act.eval, Array.getD_eq_getD_getElem?, Option.getD_some, e12]; rfl)) ?_
with_reducible refine (spec_l1Below.calls g301 t298 t307 t308 5 t313 t314 t315 w _ ?side1 ?side2 A4.out).mono ?_
(case side1 => repeat (first | (with_reducible first | exact HI301.out | apply IsS118.alloc | apply IsS118.drewN | apply IsS118.drew | apply IsS118.set_1 | apply IsS118.set_2 | refine IsS118.far ?_ NB301_297.out _ | refine IsS118.far ?_ NB301_309.out _) | exact HI301.out))
(case side2 => repeat (first | (with_reducible first | exact HB.out | apply b1 | apply b2 | apply b3 | refine below_set ?_ (IsS118.ge HI301.out) | refine below_set ?_ GE297.out | refine below_set ?_ GE309.out) | exact HB.out))
rintro e w17 ⟨rfl, hi, hb, hk⟩
refine ⟨_, rfl, ?_⟩
have n0_ := am (KeepBut.blk hk (g' := gb297) (o := .cells #[.int .i64 0, .slice none 0 0, .int .i64 0] 26 (0, 0)) (rk BK297) NB297_301.out (by simp))
have n1_ := am (Kd.Q_mono (Kd.Q_keep (IsS118.apartQ (show IsS118 w _ g301 t298 t307 t308 from by repeat (first | (with_reducible first | exact HI301.out | apply IsS118.alloc | apply IsS118.drewN | apply IsS118.drew | apply IsS118.set_1 | apply IsS118.set_2 | refine IsS118.far ?_ NB301_297.out _ | refine IsS118.far ?_ NB301_309.out _) | exact HI301.out)) (rq HO305) (by decide)) hk (fun _ h => h.2)) (fun _ h => h.1))
have n2_ := am (KeepBut.blk hk (g' := gb309) (o := .cells #[.int .i64 t302, .slice Ao14 t303.length co14, .int .i64 t306] 26 (0, 0)) (rk BK309) NB309_301.out (by simp))
have n3_ := am (hb)
have n4_ := am (hi)
have z_HO312 := fun (h0_ : b 1 = true) => (show Kd.R Kd.string 9 w17 w.heap.size (fun k_ => some k_ ≠ (.slice Ao14 t303.length co14 : Value).ownBlock) v311 y310 from by first | exact (Kd.R_mono (Kd.R_keep (IsS118.apart (show IsS118 w _ g301 t298 t307 t308 from by repeat (first | (with_reducible first | exact HI301.out | apply IsS118.alloc | apply IsS118.drewN | apply IsS118.drew | apply IsS118.set_1 | apply IsS118.set_2 | refine IsS118.far ?_ NB301_297.out _ | refine IsS118.far ?_ NB301_309.out _) | exact HI301.out)) (by (with_reducible repeat (first | apply r1 | apply r2 | apply r3)); exact (Q_HO312 h0_)) (by decide)) hk (fun _ h => h.2)) (fun _ h => h.1)) | exact Kd.R_mono (Kd.R_mono (Kd.R_keep (IsS118.apart (show IsS118 w _ g301 t298 t307 t308 from by repeat (first | (with_reducible first | exact HI301.out | apply IsS118.alloc | apply IsS118.drewN | apply IsS118.drew | apply IsS118.set_1 | apply IsS118.set_2 | refine IsS118.far ?_ NB301_297.out _ | refine IsS118.far ?_ NB301_309.out _) | exact HI301.out)) (by (with_reducible repeat (first | apply r1 | apply r2 | apply r3)); exact (Q_HO312 h0_)) (by decide)) hk (fun _ h => h.2)) (fun _ h => h.1)) (fun _ h_ => by first | trivial | exact h_ | exact h_.1))
clear BK297
clear HO305
clear BK309
clear HB
clear HI301
have BK297 := n0_
have HO305 := n1_
have BK309 := n2_
have HB := n3_
have HI301 := n4_
clear n0_ n1_ n2_ n3_ n4_
(try clear hb)
(try clear hk)
(try clear hi)
refine hK.out _ _ ⟨v311, adz_v311, m4_, (by rw [ha.out]; exact putSel_upk 2 hb_ rfl rfl rfl), (rq HO305), fun _ => (rk BK297), (rk BK309), fun h0_ => absurd ((up_self b 3).symm.trans h0_) (by decide), (by repeat (first | (with_reducible first | exact HB.out | apply b1 | apply b2 | apply b3 | refine below_set ?_ (IsS118.ge HI301.out) | refine below_set ?_ GE297.out | refine below_set ?_ GE309.out) | exact HB.out)), z_HO312, Q_HA_HO312, fun _ => (by repeat (first | (with_reducible first | exact HI301.out | apply IsS118.alloc | apply IsS118.drewN | apply IsS118.drew | apply IsS118.set_1 | apply IsS118.set_2 | refine IsS118.far ?_ NB301_297.out _ | refine IsS118.far ?_ NB301_309.out _) | exact HI301.out)), fun h0_ => absurd ((hoff 6 (by kernel_rfl)).symm.trans h0_) (by decide), fun h0_ => absurd ((hoff 4 (by kernel_rfl)).symm.trans h0_) (by decide)⟩
)
refine steps_cons ?_ ?_
·(
rintro b a w' ⟨v311, adz_v311, m4_, ha, Q_HO305, Q_BK297, Q_BK309, Q_HI301, Q_HB, Q_HO312, Q_HA_HO312, Q_HI301_e3, Q_BK297_e6, Q_X4_⟩ hb_ hon hoff
refine ⟨_, rfl, fun K hK => ?_⟩
have e11 : a.tmps[11]? = some (v311) := by rw [ha]; exact putSel_on (e := (1, 11, v311)) 1 rfl rfl (hon 1 (by kernel_rfl)) rfl
have e13 : a.tmps[13]? = some (.int .i64 t313) := by rw [ha]; exact putSel_on (e := (3, 13, .int .i64 t313)) 2 rfl rfl (hon 3 (by kernel_rfl)) rfl
replace ha := am ha
have HO305 := am Q_HO305
have BK309 := am Q_BK309
have HB := am Q_HB
have HO312 := am (Q_HO312 (hon 1 (by kernel_rfl)))
have HA_HO312 := am (Q_HA_HO312 (hon 1 (by kernel_rfl)))
have HI301 := am (Q_HI301_e3 (hon 3 (by kernel_rfl)))
obtain ⟨c_, hv_⟩ := HA_HO312.out
rw [hv_] at e11
refine value_ (w1 := w') (v := .pointer (some (adz_v311.add (t313).toNat))) (by rfl) rfl ?_ ?_
·(
go_simp
(try simp only [i64_w])
try rfl
)
refine hK.out _ _ ⟨v311, adz_v311, (.pointer (some (adz_v311.add (t313).toNat))), (by rw [ha.out]; exact putSel_upk 3 hb_ rfl rfl rfl), Q_HO305, Q_BK297, Q_BK309, fun h0_ => absurd ((hon 3 (by kernel_rfl)).symm.trans h0_) (by decide), Q_HB, Q_HO312, Q_HA_HO312, Q_HI301_e3, Q_BK297_e6, fun _ => rfl⟩
)
refine steps_cons ?_ ?_
·(
rintro b a w' ⟨v311, adz_v311, m4_, ha, Q_HO305, Q_BK297, Q_BK309, Q_HI301, Q_HB, Q_HO312, Q_HA_HO312, Q_HI301_e3, Q_BK297_e6, Q_X4_⟩ hb_ hon hoff
refine ⟨_, rfl, fun K hK => ?_⟩
have e14 : a.tmps[14]? = some (m4_) := by rw [ha]; exact putSel_on (e := (4, 14, m4_)) 3 rfl rfl (hon 4 (by kernel_rfl)) rfl
rw [Q_X4_ (hon 4 (by kernel_rfl))] at e14
replace ha := am ha
have HO305 := am Q_HO305
have BK309 := am Q_BK309
have HB := am Q_HB
have HO312 := am (Q_HO312 (hon 1 (by kernel_rfl)))
have HA_HO312 := am (Q_HA_HO312 (hon 1 (by kernel_rfl)))
have HI301 := am (Q_HI301_e3 (hon 3 (by kernel_rfl)))
obtain ⟨c_, hv_⟩ := HA_HO312.out
have hF_ := HO312.out
rw [hv_] at hF_
obtain ⟨ad_, ea_, hx_⟩ := Kd.at_string (Kd.R_reads' hF_).2.2 t313 (of_eq_true pi316) (of_eq_true qi316)
cases ea_
refine value_ (w1 := w') (v := .string (rdOf ByteArray.empty y310 t313)) (by rfl) rfl ?_ ?_
·(
go_simp
(try simp only [i64_w])
try rfl
)
refine hK.out _ _ ⟨v311, adz_v311, m4_, (by rw [ha.out]; exact putSel_upk 4 hb_ rfl rfl rfl), Q_HO305, Q_BK297, Q_BK309, fun h0_ => absurd ((hon 3 (by kernel_rfl)).symm.trans h0_) (by decide), Q_HB, Q_HO312, Q_HA_HO312, Q_HI301_e3, Q_BK297_e6, Q_X4_⟩
)
refine steps_cons ?_ ?_
·(
rintro b a w' ⟨v311, adz_v311, m4_, ha, Q_HO305, Q_BK297, Q_BK309, Q_HI301, Q_HB, Q_HO312, Q_HA_HO312, Q_HI301_e3, Q_BK297_e6, Q_X4_⟩ hb_ hon hoff
refine ⟨_, rfl, fun K hK => ?_⟩
have e2 : a.tmps[2]? = some (.pointer (some ⟨gb297, 0, none⟩)) := by rw [ha]; exact (putSel_off rfl).trans rfl
have e10 : a.tmps[10]? = some (.agg #[.int .i64 t302, .slice Ao14 t303.length co14, .int .i64 t306]) := by rw [ha]; exact putSel_on (e := (0, 10, .agg #[.int .i64 t302, .slice Ao14 t303.length co14, .int .i64 t306])) 0 rfl rfl (hon 0 (by kernel_rfl)) rfl
replace ha := am ha
have HO305 := am Q_HO305
have BK297 := am (Q_BK297 hb_)
have BK309 := am Q_BK309
have HB := am Q_HB
have HI301 := am (Q_HI301_e3 (hon 3 (by kernel_rfl)))
have hs19 : w'.cell? ⟨gb297, 0, none⟩ = some (.int .i64 0) := (blk_cell BK297.out 0).trans rfl
have hfs19 := blk_frozen BK297.out 0
have hns19_1 := NB309_297.out
have hms19_1 := NB297_309.out
have hs20 : w'.cell? ⟨gb297, 1, none⟩ = some (.slice none 0 0) := (blk_cell BK297.out 1).trans rfl
have hfs20 := blk_frozen BK297.out 1
have hns20_1 := NB309_297.out
have hms20_1 := NB297_309.out
have hs21 : w'.cell? ⟨gb297, 2, none⟩ = some (.int .i64 0) := (blk_cell BK297.out 2).trans rfl
have hfs21 := blk_frozen BK297.out 2
have hns21_1 := NB309_297.out
have hms21_1 := NB297_309.out
refine skip_ (w1 := ?_) (by rfl) rfl ?_ ?_
rotate_left
·(
go_simp
rfl
)
refine hK.out _ _ ⟨v311, adz_v311, m4_, (by rw [ha.out]; exact putSel_none (v := undef) rfl), (by (with_reducible repeat (first | apply Kd.Q_alloc | apply Kd.Q_drewN | apply Kd.Q_drew)); exact Kd.Q_mono (Kd.Q_far (p := ⟨gb297, 2, none⟩) (Kd.Q_far (p := ⟨gb297, 1, none⟩) (Kd.Q_far (p := ⟨gb297, 0, none⟩) (Kd.Q_types HO305.out BK297.out (by decide)) (fun _ hk => hk.2) (.int .i64 t302)) (fun _ hk => hk.2) (.slice Ao14 t303.length co14)) (fun _ hk => hk.2) (.int .i64 t306)) (fun _ hk => trivial)), fun h0_ => absurd ((up_self b 6).symm.trans h0_) (by decide), (rf3 NB309_297 BK309), fun h0_ => absurd ((hon 3 (by kernel_rfl)).symm.trans h0_) (by decide), (by repeat (first | (with_reducible first | exact HB.out | apply b1 | apply b2 | apply b3 | refine below_set ?_ (IsS118.ge HI301.out) | refine below_set ?_ GE297.out | refine below_set ?_ GE309.out) | exact HB.out)), fun h0_ => (by (with_reducible repeat (first | apply r1 | apply r2 | apply r3)); exact Kd.R_mono (Kd.R_far (p := ⟨gb297, 2, none⟩) (Kd.R_far (p := ⟨gb297, 1, none⟩) (Kd.R_far (p := ⟨gb297, 0, none⟩) (Kd.R_types (Q_HO312 h0_) BK297.out (by decide)) (fun _ hk => hk.2) (.int .i64 t302)) (fun _ hk => hk.2) (.slice Ao14 t303.length co14)) (fun _ hk => hk.2) (.int .i64 t306)) (fun _ hk => hk.1)), Q_HA_HO312, fun _ => (by repeat (first | (with_reducible first | exact HI301.out | apply IsS118.alloc | apply IsS118.drewN | apply IsS118.drew | apply IsS118.set_1 | apply IsS118.set_2 | refine IsS118.far ?_ NB301_297.out _ | refine IsS118.far ?_ NB301_309.out _) | exact HI301.out)), fun _ => (rp_0_1_2 BK297), Q_X4_⟩
)
refine steps_cons ?_ ?_
·(
rintro b a w' ⟨v311, adz_v311, m4_, ha, Q_HO305, Q_BK297, Q_BK309, Q_HI301, Q_HB, Q_HO312, Q_HA_HO312, Q_HI301_e3, Q_BK297_e6, Q_X4_⟩ hb_ hon hoff
refine ⟨_, rfl, fun K hK => ?_⟩
have e15 : a.tmps[15]? = some (.string (rdOf ByteArray.empty y310 t313)) := by rw [ha]; exact putSel_on (e := (5, 15, .string (rdOf ByteArray.empty y310 t313))) 4 rfl rfl (hon 5 (by kernel_rfl)) rfl
replace ha := am ha
have HO305 := am Q_HO305
have BK309 := am Q_BK309
have HB := am Q_HB
have HO312 := am (Q_HO312 (hon 1 (by kernel_rfl)))
have HA_HO312 := am (Q_HA_HO312 (hon 1 (by kernel_rfl)))
have HI301 := am (Q_HI301_e3 (hon 3 (by kernel_rfl)))
have BK297 := am (Q_BK297_e6 (hon 6 (by kernel_rfl)))
refine value_ (w1 := w') (v := .string (rdOf ByteArray.empty y310 t313)) (by rfl) rfl ?_ ?_
·(
go_simp
(try simp only [i64_w])
try rfl
)
refine hK.out _ _ ⟨v311, adz_v311, m4_, (by rw [ha.out]; exact putSel_upk 5 hb_ rfl rfl rfl), Q_HO305, fun h0_ => absurd ((hon 6 (by kernel_rfl)).symm.trans h0_) (by decide), Q_BK309, fun h0_ => absurd ((hon 3 (by kernel_rfl)).symm.trans h0_) (by decide), Q_HB, Q_HO312, Q_HA_HO312, Q_HI301_e3, Q_BK297_e6, Q_X4_⟩
)
exact steps_nil
)
rintro b a w24 hall ⟨v311, adz_v311, m4_, ha, Q_HO305, Q_BK297, Q_BK309, Q_HI301, Q_HB, Q_HO312, Q_HA_HO312, Q_HI301_e3, Q_BK297_e6, Q_X4_⟩
clear BK297 BK309 HB HI301 HO305
have hb0_ := hall 0 (by kernel_rfl)
have hb1_ := hall 1 (by kernel_rfl)
have hb3_ := hall 3 (by kernel_rfl)
have hb4_ := hall 4 (by kernel_rfl)
have hb5_ := hall 5 (by kernel_rfl)
have hb6_ := hall 6 (by kernel_rfl)
have hb7_ := hall 7 (by kernel_rfl)
subst ha
obtain rfl := Q_X4_ hb4_
simp only [putSel, hb0_, hb1_, hb3_, hb4_, hb5_, hb6_, hb7_, if_true, Act.put, List.setIfInBounds_toArray, List.set_cons_zero, List.set_cons_succ]
have HO305 := am Q_HO305
clear Q_HO305
clear Q_BK297
have BK309 := am Q_BK309
clear Q_BK309
clear Q_HI301
have HB := am Q_HB
clear Q_HB
have HO312 := am (Q_HO312 hb1_)
clear Q_HO312
have HA_HO312 := am (Q_HA_HO312 hb1_)
clear Q_HA_HO312
have HI301 := am (Q_HI301_e3 hb3_)
clear Q_HI301_e3
have BK297 := am (Q_BK297_e6 hb6_)
clear Q_BK297_e6
clear hall hb0_ hb1_ hb3_ hb4_ hb5_ hb6_ hb7_
obtain ⟨co25, eo25⟩ := HA_HO312.out
clear HA_HO312
subst eo25
try go_wp2
refine bodyPost_ret (results_ct rfl _ _ gb297 26 #[.int .i64 t302, .slice Ao14 t303.length co14, .int .i64 t306] (0, 0) _ rfl (rk BK297) Try.underlying26 rfl (by kernel_rfl)) rfl ?_
exact ⟨_, by first | rfl | (simp [errW_none, errW_some] <;> rfl) | (simp [*, errW_none, errW_some] <;> rfl), by (with_reducible repeat (first | apply Kd.Q_alloc | apply Kd.Q_drewN | apply Kd.Q_drew)); exact Kd.Q_mono HO305.out (fun _ hk => trivial), by repeat (first | (with_reducible first | exact HB.out | apply b1 | apply b2 | apply b3 | refine below_set ?_ (IsS118.ge HI301.out) | refine below_set ?_ GE297.out | refine below_set ?_ GE309.out) | exact HB.out)⟩
)
)

-- NOT PRINTED: function 141 (bytealg_IndexByteString)

-- NOT PRINTED: function 131 (stringslite_IndexByte)

-- NOT PRINTED: function 132 (bytealg_IndexString)

end Go.Proofs.Ytalopdcephohgaa.RA
