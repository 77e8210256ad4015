/- Contracts of Go functions that laws of this seat reach: each Lean function answers as its Go function does. No condition. Written by wip/tools/inj.py, over the kit's print. -/
import Derived.Test.YtalopdcephohgaaRAx0
import Derived.Test.YtalopdcephohgaaRAx1
import Derived.Test.YtalopdcephohgaaRAx4
import Derived.Test.YtalopdcephohgaaRAx5
import Derived.Test.YtalopdcephohgaaRAx7
namespace Go.Proofs.Ytalopdcephohgaa.RA
open Go.RowKit Go.Proofs.YtalopdcephohgaaW.PrintWords Go.Proofs.YtalopdcephohgaaW.PrintLast Go.Proofs.YtalopdcephohgaaW.PrintMore
attribute [local go_sem] max2_int min2_int max_two min_two max_three min_three max_four min_four   -- for this text's walks alone
set_option linter.unusedVariables false
set_option linter.unusedSimpArgs false

/-! ### spec_l1From: function 54 -/
def spec_l1From.f (s0_0 : List Int) (s0_1 : Int) (s0_2 : Int) (a1 : Int) (a2 : Int) : Option (Int × Int × Int) := (spec_l1Below.f s0_0 s0_1 s0_2 (wrap64 ((wrap64 (a2 - a1)) + 1))).bind fun bt265 => (some (wrap64 (a1 + bt265.1), bt265.2.1, bt265.2.2))
set_option maxHeartbeats 8000000 in
set_option maxRecDepth 100000 in
theorem spec_l1From.calls (g : Nat) (s0_0 : List Int) (s0_1 : Int) (s0_2 : Int) (a1 : Int) (a2 : Int) (r1 : Int) (r2 : Int) (r3 : Int) (w0 w : World) (hI : IsS118 w0 w g s0_0 s0_1 s0_2) (hB : Below w0.heap.size w0 w) (h : spec_l1From.f s0_0 s0_1 s0_2 a1 a2 = some (r1, r2, r3)) :
  Calls Try.prog 54 #[.pointer (some ⟨g, 0, none⟩), .int .i64 a1, .int .i64 a2] w fun e w' => e = .returned (.int .i64 r1) ∧ IsS118 w0 w' g s0_0 r2 r3 ∧ Below w0.heap.size w0 w' ∧ KeepBut w w' g none := by
 (
have HI0 := am hI
have HK := am (KeepBut.refl w g none)
have HL := am hB.size
clear hI
have HW0 := am hB.size
have HB := am hB
clear hB
have H := h
unfold spec_l1From.f at H
clear h
replace H := Option.bind_eq_some_iff.mp H
obtain ⟨⟨t265, t266, t267⟩, A40, H⟩ := H
(try dsimp only at H)
have A4 := am A40
clear A40
simp only [Option.some.injEq, Prod.mk.injEq] at H
obtain ⟨rfl, rfl, rfl⟩ := H
go_enter Try.func54, Try.ntmps54
go_wp2_with (first | ((with_reducible refine gate_callee (f := 52) rfl ?_); refine gl_ (some 13) Try.func52 #[.pointer (some ⟨g, 0, none⟩), .int .i64 (wrap64 ((wrap64 (a2 - a1)) + 1))] ?_; (with_reducible refine (spec_l1Below.calls g s0_0 s0_1 s0_2 (wrap64 ((wrap64 (a2 - a1)) + 1)) t265 t266 t267 w0 _ ?side1 ?side2 A4.out).mono ?_); (case side1 => exact ri118 HI0); (case side2 => exact rbi118 HB HI0 IsS118.ge); rintro e w5 ⟨rfl, hi, hb, hk⟩; refine ⟨_, rfl, ?_⟩; replace HK := am (KeepBut.trans (rkk HK) hk (.inl rfl)); replace HB := am (hb); replace HI0 := am (hi); (try clear hb); (try clear hb2); (try clear hk); (try clear hi)))
go_ret
exact ⟨by first | rfl | (simp [errW_none, errW_some] <;> rfl) | (simp [*, errW_none, errW_some] <;> rfl), ri118 HI0, rbi118 HB HI0 IsS118.ge, rkk HK⟩
)

/-! ### spec_DrawLineAt: function 11 -/
def spec_DrawLineAt.f (k : Nat) (l0 : List Int) : Option (Int × List ByteArray × Int × Int) := (spec_l1New.f k l0).bind fun bt269 => ((spec_l12Draw.f k bt269.1 bt269.2.1 bt269.2.2).bind fun bt273 => ((spec_l1From.f bt269.1 bt273.2.2.2.1 bt273.2.2.2.2 (-2) 7).bind fun bt281 => ((spec_l1Once.f bt269.1 bt281.2.1 bt281.2.2 12).bind fun bt284 => (if bt284.1 = true then ((some (([(-1), 4611686018427387904, (-9223372036854775808)] : List Int) : List Int)).bind fun y287 => ((spec_l1Below.f bt269.1 bt284.2.1 bt284.2.2 3).bind fun bt290 => (if 0 ≤ bt290.1 then (if bt290.1 < (y287.length : Int) then (some (bt273.1, bt273.2.1, bt273.2.2.1, rd y287 bt290.1)) else (none)) else (none)))) else (some (bt273.1, bt273.2.1, bt273.2.2.1, wrap64 (bt273.2.2.1 + bt281.1)))))))
theorem spec_DrawLineAt.mono : ∀ a0 k, LeO (spec_DrawLineAt.f k a0) (spec_DrawLineAt.f (k + 1) a0) := by
 intro a0 k
 unfold spec_DrawLineAt.f
 repeat' first
   | (with_reducible exact spec_l12Draw.mono _ _ _ _)
   | (with_reducible exact spec_l1New.mono _ _)
   | (with_reducible exact LeO.refl _)
   | (with_reducible exact LeO.none _)
   | (with_reducible refine LeO.ite ?_ ?_)
   | (with_reducible refine LeO.bind ?_ (fun _ => ?_))
set_option maxHeartbeats 8000000 in
set_option maxRecDepth 100000 in
theorem spec_DrawLineAt.calls (k : Nat) (A0 : Option Addr) (c0 : Nat) (l0 : List Int) (r1 : Int) (r2 : List ByteArray) (r3 : Int) (r4 : Int) (w : World) (hr0 : Kd.C (Kd.int .u8) w A0 l0.length l0) (hc0 : l0.length ≤ c0) (h : spec_DrawLineAt.f k l0 = some (r1, r2, r3, r4)) :
  Calls Try.prog 11 #[.slice A0 l0.length c0] w fun e w' => ∃ v1_ : Value, e = .returned (.tuple #[.agg #[.int .i64 r1, v1_, .int .i64 r3], .int .i64 r4]) ∧ Kd.Q Kd.string 9 w' w.heap.size (fun _ => True) v1_ r2 ∧ Below w.heap.size w w' := by
 (
have hu26 := Try.underlying26
have HR0 := am hr0
have HC0 := am hc0
clear hr0 hc0
have HB := am (Below.refl w.heap.size w)
have H := h
unfold spec_DrawLineAt.f at H
clear h
replace H := Option.bind_eq_some_iff.mp H
obtain ⟨⟨t269, t270, t271⟩, A20, H⟩ := H
(try dsimp only at H)
have A2 := am A20
clear A20
replace H := Option.bind_eq_some_iff.mp H
obtain ⟨⟨t273, t274, t277, t278, t279⟩, A30, H⟩ := H
(try dsimp only at H)
have A3 := am A30
clear A30
replace H := Option.bind_eq_some_iff.mp H
obtain ⟨⟨t281, t282, t283⟩, A40, H⟩ := H
(try dsimp only at H)
have A4 := am A40
clear A40
replace H := Option.bind_eq_some_iff.mp H
obtain ⟨⟨t284, t285, t286⟩, A50, H⟩ := H
(try dsimp only at H)
have A5 := am A50
clear A50
refine em_ (p := t284 = true) (fun c6 => ?g2p) (fun c6 => ?g2n)
case' g2p => (
subst c6
rw [if_pos rfl] at H
obtain ⟨y287, hy287⟩ : ∃ y_ : List Int, y_ = (([(-1), 4611686018427387904, (-9223372036854775808)] : List Int)) := ⟨_, rfl⟩
replace H : ((spec_l1Below.f t269 t285 t286 3).bind fun bt290 => (if 0 ≤ bt290.1 then (if bt290.1 < (y287.length : Int) then (some (t273, t274, t277, rd y287 bt290.1)) else (none)) else (none))) = some (r1, r2, r3, r4) := by first | (rw [hy287]; with_reducible exact H) | (rw [hy287]; exact H) | exact H
have Ny287 := am hy287
clear hy287
replace H := Option.bind_eq_some_iff.mp H
obtain ⟨⟨t290, t291, t292⟩, A70, H⟩ := H
(try dsimp only at H)
have A7 := am A70
clear A70
refine em_ (p := 0 ≤ t290) (fun c8 => ?g1p) (fun c8 => ?g1n)
case' g1p => (
rw [if_pos c8] at H
have c8b0 : decide (0 ≤ t290) = true := decide_eq_true c8
clear c8
refine em_ (p := t290 < (y287.length : Int)) (fun c9 => ?g0p) (fun c9 => ?g0n)
case' g0p => (
rw [if_pos c9] at H
have c9b0 : decide (t290 < (y287.length : Int)) = true := decide_eq_true c9
clear c9
simp only [Option.some.injEq, Prod.mk.injEq] at H
obtain ⟨rfl, rfl, rfl, rfl⟩ := H
have lf1_ := trivial
)
case g0n => (
rw [if_neg c9] at H
exact absurd H (by simp)
)
)
case g1n => (
rw [if_neg c8] at H
exact absurd H (by simp)
)
)
case' g2n => (
replace c6 := Bool.eq_false_iff.mpr c6
subst c6
rw [if_neg (show ¬ (false = true) by decide)] at H
simp only [Option.some.injEq, Prod.mk.injEq] at H
obtain ⟨rfl, rfl, rfl, rfl⟩ := H
have lf2_ := trivial
)
all_goals (
go_enter Try.func11, Try.ntmps11
try go_wp2_with (first | ((with_reducible refine gate_dst (N := 2) rfl ?_); refine box_event ?hg (N := 2) ?hd (cs := #[.int .i64 0, .slice none 0 0, .int .i64 0]) (t := 26) ?hr ?_; (case hd => rfl); (case hg => rfl); (case hr => first | (go_simp; done) | (go_simp; rfl)); intro gb268 hg w10 hbox hb; have BK268 := am (hbox); have GW268 := am (gw hg (rb HB)); have GE268 := GW268; replace HB := am (below_step (rb HB) hb); clear hb hbox hg) | ((with_reducible refine gate_callee (f := 49) rfl ?_); refine gl_ (some 8) Try.func49 #[.slice A0 l0.length c0] ?_; (with_reducible refine (spec_l1New.calls k _ _ l0 t269 t270 t271 w _ ?side1 ?side2 ?side3 A2.out).mono ?_); (case side1 => repeat (first | (with_reducible first | exact HB.out | apply b1 | apply b2 | apply b3 | refine below_set ?_ GE268.out) | exact HB.out)); (case side2 => exact HR0.out); (case side3 => exact HC0.out); rintro e w11 ⟨g272, rfl, hi, hb, hb2⟩; refine ⟨_, rfl, ?_⟩; replace HB := am (hb); have HI272 := am (hi); have NB272_268 := am (IsS118.ne_blk hi (blk_below (rk BK268) hb2) (by decide)); have NB268_272 := am (Ne.symm (IsS118.ne_blk hi (blk_below (rk BK268) hb2) (by decide))); replace BK268 := am (blk_below (rk BK268) hb2); (try clear hb); (try clear hb2); (try clear hk); (try clear hi)) | ((with_reducible refine gate_callee (f := 50) rfl ?_); refine gl_ (some 10) Try.func50 #[.pointer (some ⟨g272, 0, none⟩)] ?_; (with_reducible refine (spec_l12Draw.calls k g272 t269 t270 t271 t273 t274 t277 t278 t279 w _ ?side1 ?side2 A3.out).mono ?_); (case side1 => repeat (first | (with_reducible first | exact HI272.out | apply IsS118.alloc | apply IsS118.drewN | apply IsS118.drew | apply IsS118.set_1 | apply IsS118.set_2 | refine IsS118.far ?_ NB272_268.out _) | exact HI272.out)); (case side2 => repeat (first | (with_reducible first | exact HB.out | apply b1 | apply b2 | apply b3 | refine below_set ?_ (IsS118.ge HI272.out) | refine below_set ?_ GE268.out) | exact HB.out)); rintro e w12 ⟨v275, rfl, ho0, hi, hb, hk⟩; refine ⟨_, rfl, ?_⟩; replace BK268 := am (KeepBut.blk hk (g' := gb268) (o := .cells #[.int .i64 0, .slice none 0 0, .int .i64 0] 26 (0, 0)) (rk BK268) NB268_272.out (by simp)); have HO276 := am (Kd.Q_lower ho0 (below_size (by repeat (first | (with_reducible first | exact HB.out | apply b1 | apply b2 | apply b3 | refine below_set ?_ (IsS118.ge HI272.out) | refine below_set ?_ GE268.out) | exact HB.out)))); replace HB := am (hb); replace HI272 := am (hi); (try clear hb); (try clear hb2); (try clear hk); (try clear hi); (try clear ho0)) | ((with_reducible refine gate_dst (N := 5) rfl ?_); refine box_event ?hg (N := 5) ?hd (cs := #[.int .i64 0, .slice none 0 0, .int .i64 0]) (t := 26) ?hr ?_; (case hd => rfl); (case hg => rfl); (case hr => first | (go_simp; done) | (go_simp; rfl)); intro gb280 hg w13 hbox hb; replace HO276 := am (Kd.Q_below (rq HO276) hb); have BK280 := am (hbox); have GW280 := am ((by rw [hg]; exact (below_size (by repeat (first | (with_reducible first | exact HB.out | apply b1 | apply b2 | apply b3 | refine below_set ?_ (IsS118.ge HI272.out) | refine below_set ?_ GE268.out) | exact HB.out))) : w.heap.size ≤ gb280)); have GE280 := am ((by rw [hg]; exact (below_size (by repeat (first | (with_reducible first | exact HB.out | apply b1 | apply b2 | apply b3 | refine below_set ?_ (IsS118.ge HI272.out) | refine below_set ?_ GE268.out) | exact HB.out))) : w.heap.size ≤ gb280)); replace HB := am (below_step (by repeat (first | (with_reducible first | exact HB.out | apply b1 | apply b2 | apply b3 | refine below_set ?_ (IsS118.ge HI272.out) | refine below_set ?_ GE268.out) | exact HB.out)) hb); have NB268_280 := am (nl hg (rk BK268)); have NB280_268 := am (ng hg (rk BK268)); replace BK268 := am (blk_below (rk BK268) hb); have NB272_280 := am ((by rw [hg]; exact Nat.ne_of_lt (IsS118.lt (show IsS118 w _ g272 t269 t278 t279 from by repeat (first | (with_reducible first | exact HI272.out | apply IsS118.alloc | apply IsS118.drewN | apply IsS118.drew | apply IsS118.set_1 | apply IsS118.set_2 | refine IsS118.far ?_ NB272_268.out _) | exact HI272.out))) : g272 ≠ gb280)); have NB280_272 := am ((by rw [hg]; exact Nat.ne_of_gt (IsS118.lt (show IsS118 w _ g272 t269 t278 t279 from by repeat (first | (with_reducible first | exact HI272.out | apply IsS118.alloc | apply IsS118.drewN | apply IsS118.drew | apply IsS118.set_1 | apply IsS118.set_2 | refine IsS118.far ?_ NB272_268.out _) | exact HI272.out))) : gb280 ≠ g272)); replace HI272 := am (IsS118.below (by repeat (first | (with_reducible first | exact HI272.out | apply IsS118.alloc | apply IsS118.drewN | apply IsS118.drew | apply IsS118.set_1 | apply IsS118.set_2 | refine IsS118.far ?_ NB272_268.out _) | exact HI272.out)) hb); clear hb hbox hg; have hnb14 := NB280_268.out; have hnc14 := NB268_280.out; have hnb15 := NB280_272.out; have hnc15 := NB272_280.out; have hcz16_0 : w13.cell? ⟨gb280, 0, none⟩ = some (.int .i64 0) := (blk_cell BK280.out 0).trans rfl; have hcz16_1 : w13.cell? ⟨gb280, 1, none⟩ = some (.slice none 0 0) := (blk_cell BK280.out 1).trans rfl; have hcz16_2 : w13.cell? ⟨gb280, 2, none⟩ = some (.int .i64 0) := (blk_cell BK280.out 2).trans rfl; have hfz16_0 := blk_frozen BK280.out 0; have hfz16_1 := blk_frozen BK280.out 1; have hfz16_2 := blk_frozen BK280.out 2; obtain ⟨Ao17, co17, eo17, _⟩ := Kd.Q_slice HO276.out; subst eo17))
have n0_ : Aside0 (Kd.Q Kd.string 9 (((w13.setCell ⟨gb280, 0, none⟩ (.int .i64 t273)).setCell ⟨gb280, 1, none⟩ (.slice Ao17 t274.length co17)).setCell ⟨gb280, 2, none⟩ (.int .i64 t277)) w.heap.size (fun _ => True) (.slice Ao17 t274.length co17) t274) := ⟨Qm3 HO276 BK280⟩
have n1_ : Aside0 ((((w13.setCell ⟨gb280, 0, none⟩ (.int .i64 t273)).setCell ⟨gb280, 1, none⟩ (.slice Ao17 t274.length co17)).setCell ⟨gb280, 2, none⟩ (.int .i64 t277)).heap[gb268]? = some (.cells #[.int .i64 0, .slice none 0 0, .int .i64 0] 26 (0, 0))) := ⟨rf3 NB268_280 BK268⟩
have n2_ : Aside0 ((((w13.setCell ⟨gb280, 0, none⟩ (.int .i64 t273)).setCell ⟨gb280, 1, none⟩ (.slice Ao17 t274.length co17)).setCell ⟨gb280, 2, none⟩ (.int .i64 t277)).heap[gb280]? = some (.cells #[.int .i64 t273, .slice Ao17 t274.length co17, .int .i64 t277] 26 (0, 0))) := ⟨by (with_reducible repeat (first | apply k1 | apply k2 | apply k3)); refine blk_put (cs := #[.int .i64 t273, .slice Ao17 t274.length co17, .int .i64 0]) ?_ 2 _ rfl; (with_reducible repeat (first | apply k1 | apply k2 | apply k3)); refine blk_put (cs := #[.int .i64 t273, .slice none 0 0, .int .i64 0]) ?_ 1 _ rfl; (with_reducible repeat (first | apply k1 | apply k2 | apply k3)); refine blk_put (cs := #[.int .i64 0, .slice none 0 0, .int .i64 0]) ?_ 0 _ rfl; (with_reducible repeat (first | apply k1 | apply k2 | apply k3)); exact BK280.out⟩
have n3_ : Aside0 (IsS118 w (((w13.setCell ⟨gb280, 0, none⟩ (.int .i64 t273)).setCell ⟨gb280, 1, none⟩ (.slice Ao17 t274.length co17)).setCell ⟨gb280, 2, none⟩ (.int .i64 t277)) g272 t269 t278 t279) := ⟨by repeat (first | (with_reducible first | exact HI272.out | apply IsS118.alloc | apply IsS118.drewN | apply IsS118.drew | apply IsS118.set_1 | apply IsS118.set_2 | refine IsS118.far ?_ NB272_268.out _ | refine IsS118.far ?_ NB272_280.out _) | exact HI272.out)⟩
have n4_ : Aside0 (Below w.heap.size w (((w13.setCell ⟨gb280, 0, none⟩ (.int .i64 t273)).setCell ⟨gb280, 1, none⟩ (.slice Ao17 t274.length co17)).setCell ⟨gb280, 2, none⟩ (.int .i64 t277))) := ⟨by repeat (first | (with_reducible first | exact HB.out | apply b1 | apply b2 | apply b3 | refine below_set ?_ (IsS118.ge HI272.out) | refine below_set ?_ GE268.out | refine below_set ?_ GE280.out) | exact HB.out)⟩
(try clear HO276)
(try clear BK268)
(try clear BK280)
(try clear HI272)
(try clear HB)
generalize (((w13.setCell ⟨gb280, 0, none⟩ (.int .i64 t273)).setCell ⟨gb280, 1, none⟩ (.slice Ao17 t274.length co17)).setCell ⟨gb280, 2, none⟩ (.int .i64 t277)) = w18 at n0_ n1_ n2_ n3_ n4_ ⊢
have HO276 := n0_
have BK268 := n1_
have BK280 := n2_
have HI272 := n3_
have HB := n4_
clear n0_ n1_ n2_ n3_ n4_
replace HO276 := am (Kd.Q_drew HO276.out)
replace BK268 := am (blk_drew BK268.out)
replace BK280 := am (blk_drew BK280.out)
replace HI272 := am (IsS118.drew HI272.out)
replace HB := am (below_drew1 HB.out)
refine start_ (n := 6) (S := fun w' => w'.cell? ⟨gb280, 0, none⟩ = some (.int .i64 t273) ∧ w'.cell? ⟨gb280, 1, none⟩ = some (.slice Ao17 t274.length co17) ∧ w'.cell? ⟨gb280, 2, none⟩ = some (.int .i64 t277)) (ds := []) (bm 6 0) (by kernel_rfl) rfl rfl (bc3 BK280) (fun hHeld => ?_)
generalize w18.drew = w19 at HO276 BK268 BK280 HI272 HB hHeld ⊢
refine pure_ (i := 0) (N := some 11) (v := ?_) (a' := ?_) (bm 6 1) rfl rfl (by kernel_rfl) (fun _ _ _ h => h) (Or.inl ⟨by rfl, ?_⟩) ?_ ?_
rotate_left
·(
intro w'
go_simp
with_reducible rfl
)
rotate_left
·(
simp only [Act.put, List.setIfInBounds_toArray, List.set_cons_zero, List.set_cons_succ, i64_w, i32_w]
rfl
)
refine pure_ (i := 2) (N := some 13) (v := ?_) (a' := ?_) (bm 6 5) rfl rfl (by kernel_rfl) (fun _ _ _ h => h) (Or.inl ⟨by rfl, ?_⟩) ?_ ?_
rotate_left
·(
intro w'
go_simp
with_reducible rfl
)
rotate_left
·(
simp only [Act.put, List.setIfInBounds_toArray, List.set_cons_zero, List.set_cons_succ, i64_w, i32_w]
rfl
)
refine take_ (i := 1) (N := some 12) (v := ?_) (a' := ?_) (bm 6 7) rfl rfl (by kernel_rfl) (fun _ _ _ h => h) (Or.inl ⟨by rfl, ?_⟩) hHeld ?_ ?_
rotate_left
·(
rintro w' ⟨s0, s1, s2⟩
go_simp
with_reducible rfl
)
rotate_left
·(
simp only [Act.put, List.setIfInBounds_toArray, List.set_cons_zero, List.set_cons_succ, i64_w, i32_w]
rfl
)
refine one_ (i := 3) (N := some 14) (bm 6 15) rfl rfl (by kernel_rfl) (by decide) (fun K hK => ?_)
refine goes_ Try.func54 (by kernel_rfl) rfl #[.pointer (some ⟨g272, 0, none⟩), .int .i64 (-2), .int .i64 7] (by rfl) rfl rfl mt ?_
with_reducible refine (spec_l1From.calls g272 t269 t278 t279 (-2) 7 t281 t282 t283 w _ ?side1 ?side2 A4.out).mono ?_
(case side1 => repeat (first | (with_reducible first | exact HI272.out | apply IsS118.alloc | apply IsS118.drewN | apply IsS118.drew | apply IsS118.set_1 | apply IsS118.set_2 | refine IsS118.far ?_ NB272_268.out _ | refine IsS118.far ?_ NB272_280.out _) | exact HI272.out))
(case side2 => repeat (first | (with_reducible first | exact HB.out | apply b1 | apply b2 | apply b3 | refine below_set ?_ (IsS118.ge HI272.out) | refine below_set ?_ GE268.out | refine below_set ?_ GE280.out) | exact HB.out))
rintro e w20 ⟨rfl, hi, hb, hk⟩
refine ⟨_, rfl, ?_⟩
replace BK268 := am (KeepBut.blk hk (g' := gb268) (o := .cells #[.int .i64 0, .slice none 0 0, .int .i64 0] 26 (0, 0)) (rk BK268) NB268_272.out (by simp))
replace HO276 := am (Kd.Q_mono (Kd.Q_keep (IsS118.apartQ (show IsS118 w _ g272 t269 t278 t279 from by repeat (first | (with_reducible first | exact HI272.out | apply IsS118.alloc | apply IsS118.drewN | apply IsS118.drew | apply IsS118.set_1 | apply IsS118.set_2 | refine IsS118.far ?_ NB272_268.out _ | refine IsS118.far ?_ NB272_280.out _) | exact HI272.out)) (rq HO276) (by decide)) hk (fun _ h => h.2)) (fun _ h => h.1))
replace BK280 := am (KeepBut.blk hk (g' := gb280) (o := .cells #[.int .i64 t273, .slice Ao17 t274.length co17, .int .i64 t277] 26 (0, 0)) (rk BK280) NB280_272.out (by simp))
replace HB := am (hb)
replace HI272 := am (hi)
(try clear hb)
(try clear hk)
(try clear hi)
refine hK.out _ _ (bc3 BK280) (fun hHeld => ?_)
clear hK K
refine norm_ (a' := _) (show Act.put _ (some 14) _ = _ from na) ?_
refine pure_ (i := 4) (N := some 15) (v := ?_) (a' := ?_) (bm 6 31) rfl rfl (by kernel_rfl) (fun _ _ _ h => h) (Or.inl ⟨by rfl, ?_⟩) ?_ ?_
rotate_left
·(
intro w'
go_simp
with_reducible rfl
)
rotate_left
·(
simp only [Act.put, List.setIfInBounds_toArray, List.set_cons_zero, List.set_cons_succ, i64_w, i32_w]
rfl
)
refine pure_ (i := 5) (N := some 6) (v := ?_) (a' := ?_) (bm 6 63) rfl rfl (by kernel_rfl) (fun _ _ _ h => h) (Or.inl ⟨by rfl, ?_⟩) ?_ ?_
rotate_left
·(
intro w'
go_simp
with_reducible rfl
)
rotate_left
·(
simp only [Act.put, List.setIfInBounds_toArray, List.set_cons_zero, List.set_cons_succ, i64_w, i32_w]
rfl
)
refine done_ (by kernel_rfl) ?_
try go_wp2_with (first | ((with_reducible refine gate_callee (f := 52) rfl ?_); refine gl_ (some 20) Try.func52 #[.pointer (some ⟨g272, 0, none⟩), .int .i64 3] ?_; (with_reducible refine (spec_l1Below.calls g272 t269 t285 t286 3 t290 t291 t292 w _ ?side1 ?side2 A7.out).mono ?_); (case side1 => repeat (first | (with_reducible first | exact HI272.out | apply IsS118.alloc | apply IsS118.drewN | apply IsS118.drew | apply IsS118.set_1 | apply IsS118.set_2 | refine IsS118.far ?_ NB272_268.out _ | refine IsS118.far ?_ NB272_280.out _) | exact HI272.out)); (case side2 => repeat (first | (with_reducible first | exact HB.out | apply b1 | apply b2 | apply b3 | refine below_set ?_ (IsS118.ge HI272.out) | refine below_set ?_ GE268.out | refine below_set ?_ GE280.out) | exact HB.out)); rintro e w24 ⟨rfl, hi, hb, hk⟩; refine ⟨_, rfl, ?_⟩; replace BK268 := am (KeepBut.blk hk (g' := gb268) (o := .cells #[.int .i64 0, .slice none 0 0, .int .i64 0] 26 (0, 0)) (rk BK268) NB268_272.out (by simp)); replace HO276 := am (Kd.Q_mono (Kd.Q_keep (IsS118.apartQ (show IsS118 w _ g272 t269 t285 t286 from by repeat (first | (with_reducible first | exact HI272.out | apply IsS118.alloc | apply IsS118.drewN | apply IsS118.drew | apply IsS118.set_1 | apply IsS118.set_2 | refine IsS118.far ?_ NB272_268.out _ | refine IsS118.far ?_ NB272_280.out _) | exact HI272.out)) (rq HO276) (by decide)) hk (fun _ h => h.2)) (fun _ h => h.1)); replace BK280 := am (KeepBut.blk hk (g' := gb280) (o := .cells #[.int .i64 t273, .slice Ao17 t274.length co17, .int .i64 t277] 26 (0, 0)) (rk BK280) NB280_272.out (by simp)); replace HO289 := am (Kd.R_mono (Kd.R_keep (IsS118.apart (show IsS118 w _ g272 t269 t285 t286 from by repeat (first | (with_reducible first | exact HI272.out | apply IsS118.alloc | apply IsS118.drewN | apply IsS118.drew | apply IsS118.set_1 | apply IsS118.set_2 | refine IsS118.far ?_ NB272_268.out _ | refine IsS118.far ?_ NB272_280.out _) | exact HI272.out)) (rr HO289) (by decide)) hk (fun _ h => h.2)) (fun _ h => h.1)); replace HB := am (hb); replace HI272 := am (hi); (try clear hb); (try clear hb2); (try clear hk); (try clear hi); obtain ⟨Ao25, co25, eo25⟩ := Kd.R_slice HO289.out; subst eo25; have p293 : 0 ≤ (t290 : Int) := dt_; have q293 : t290 < (y287.length : Int) := dt_; obtain ⟨ad293, e293, hx293_0⟩ := Kd.at_int (Kd.R_reads' HO289.out).2.2 t290 p293 q293; cases e293; replace p293 := eq_true p293; replace q293 := eq_true q293; have hcz26_0 : w24.cell? ⟨gb280, 0, none⟩ = some (.int .i64 t273) := (blk_cell BK280.out 0).trans rfl; have hcz26_1 : w24.cell? ⟨gb280, 1, none⟩ = some (.slice Ao17 t274.length co17) := (blk_cell BK280.out 1).trans rfl; have hcz26_2 : w24.cell? ⟨gb280, 2, none⟩ = some (.int .i64 t277) := (blk_cell BK280.out 2).trans rfl; have hfz26_0 := blk_frozen BK280.out 0; have hfz26_1 := blk_frozen BK280.out 1; have hfz26_2 := blk_frozen BK280.out 2; have hnb27 := NB268_272.out; have hnc27 := NB272_268.out; have hcz28_0 : w24.cell? ⟨gb268, 0, none⟩ = some (.int .i64 0) := (blk_cell BK268.out 0).trans rfl; have hcz28_1 : w24.cell? ⟨gb268, 1, none⟩ = some (.slice none 0 0) := (blk_cell BK268.out 1).trans rfl; have hcz28_2 : w24.cell? ⟨gb268, 2, none⟩ = some (.int .i64 0) := (blk_cell BK268.out 2).trans rfl; have hfz28_0 := blk_frozen BK268.out 0; have hfz28_1 := blk_frozen BK268.out 1; have hfz28_2 := blk_frozen BK268.out 2) | ((with_reducible refine gate_callee (f := 51) rfl ?_); refine gl_ (some 17) Try.func51 #[.pointer (some ⟨g272, 0, none⟩), .int .i64 12] ?_; (with_reducible refine (spec_l1Once.calls g272 t269 t282 t283 12 false t285 t286 w _ ?side1 ?side2 A5.out).mono ?_); (case side1 => repeat (first | (with_reducible first | exact HI272.out | apply IsS118.alloc | apply IsS118.drewN | apply IsS118.drew | apply IsS118.set_1 | apply IsS118.set_2 | refine IsS118.far ?_ NB272_268.out _ | refine IsS118.far ?_ NB272_280.out _) | exact HI272.out)); (case side2 => repeat (first | (with_reducible first | exact HB.out | apply b1 | apply b2 | apply b3 | refine below_set ?_ (IsS118.ge HI272.out) | refine below_set ?_ GE268.out | refine below_set ?_ GE280.out) | exact HB.out)); rintro e w40 ⟨rfl, hi, hb, hk⟩; refine ⟨_, rfl, ?_⟩; replace BK268 := am (KeepBut.blk hk (g' := gb268) (o := .cells #[.int .i64 0, .slice none 0 0, .int .i64 0] 26 (0, 0)) (rk BK268) NB268_272.out (by simp)); replace HO276 := am (Kd.Q_mono (Kd.Q_keep (IsS118.apartQ (show IsS118 w _ g272 t269 t282 t283 from by repeat (first | (with_reducible first | exact HI272.out | apply IsS118.alloc | apply IsS118.drewN | apply IsS118.drew | apply IsS118.set_1 | apply IsS118.set_2 | refine IsS118.far ?_ NB272_268.out _ | refine IsS118.far ?_ NB272_280.out _) | exact HI272.out)) (rq HO276) (by decide)) hk (fun _ h => h.2)) (fun _ h => h.1)); replace BK280 := am (KeepBut.blk hk (g' := gb280) (o := .cells #[.int .i64 t273, .slice Ao17 t274.length co17, .int .i64 t277] 26 (0, 0)) (rk BK280) NB280_272.out (by simp)); replace HB := am (hb); replace HI272 := am (hi); (try clear hb); (try clear hb2); (try clear hk); (try clear hi); have hcz41_0 : w40.cell? ⟨gb280, 0, none⟩ = some (.int .i64 t273) := (blk_cell BK280.out 0).trans rfl; have hcz41_1 : w40.cell? ⟨gb280, 1, none⟩ = some (.slice Ao17 t274.length co17) := (blk_cell BK280.out 1).trans rfl; have hcz41_2 : w40.cell? ⟨gb280, 2, none⟩ = some (.int .i64 t277) := (blk_cell BK280.out 2).trans rfl; have hfz41_0 := blk_frozen BK280.out 0; have hfz41_1 := blk_frozen BK280.out 1; have hfz41_2 := blk_frozen BK280.out 2; have hnb42 := NB268_272.out; have hnc42 := NB272_268.out; have hcz43_0 : w40.cell? ⟨gb268, 0, none⟩ = some (.int .i64 0) := (blk_cell BK268.out 0).trans rfl; have hcz43_1 : w40.cell? ⟨gb268, 1, none⟩ = some (.slice none 0 0) := (blk_cell BK268.out 1).trans rfl; have hcz43_2 : w40.cell? ⟨gb268, 2, none⟩ = some (.int .i64 0) := (blk_cell BK268.out 2).trans rfl; have hfz43_0 := blk_frozen BK268.out 0; have hfz43_1 := blk_frozen BK268.out 1; have hfz43_2 := blk_frozen BK268.out 2) | ((with_reducible refine gate_dst (N := 18) rfl ?_); refine Kd.R_lit (Kd.int .i64) _ 2 ?hg (N := 18) ?hd (xs := ([(-1), 4611686018427387904, (-9223372036854775808)] : List Int)) (inner := [.int .i64 (-1), .int .i64 4611686018427387904, .int .i64 (-9223372036854775808)]) (ok := fun _ => True) (okp := fun _ => True) ?hr ?hp (fun _ hk => hk) trivial (Below.refl _ _) (Nat.le_refl _) (by simp) ?_; (case hd => rfl); (case hg => rfl); (case hr => first | (go_simp; done) | (go_simp; rfl)); (case hp => exact (Reps.one (show Kd.M (Kd.int .i64) _ _ _ (-1) [.int .i64 (-1)] from rfl) (Reps.one (show Kd.M (Kd.int .i64) _ _ _ 4611686018427387904 [.int .i64 4611686018427387904] from rfl) (Reps.one (show Kd.M (Kd.int .i64) _ _ _ (-9223372036854775808) [.int .i64 (-9223372036854775808)] from rfl) (Reps.none _ _))))); intro v288 w22 ho23 hb hg_ hnew_; clear hg_ hnew_; (first | rw [← Ny287.out] at ho23 | (simp only [Int.reduceToNat] at ho23; rw [← Ny287.out] at ho23)); replace HO276 := am (Kd.Q_below (rq HO276) hb); have HO289 := am (Kd.R_lower ho23 (below_size (by repeat (first | (with_reducible first | exact HB.out | apply b1 | apply b2 | apply b3 | refine below_set ?_ (IsS118.ge HI272.out) | refine below_set ?_ GE268.out | refine below_set ?_ GE280.out) | exact HB.out)))); replace BK268 := am (blk_below (rk BK268) hb); replace BK280 := am (blk_below (rk BK280) hb); replace HB := am (below_step (by repeat (first | (with_reducible first | exact HB.out | apply b1 | apply b2 | apply b3 | refine below_set ?_ (IsS118.ge HI272.out) | refine below_set ?_ GE268.out | refine below_set ?_ GE280.out) | exact HB.out)) hb); replace HI272 := am (IsS118.below (by repeat (first | (with_reducible first | exact HI272.out | apply IsS118.alloc | apply IsS118.drewN | apply IsS118.drew | apply IsS118.set_1 | apply IsS118.set_2 | refine IsS118.far ?_ NB272_268.out _ | refine IsS118.far ?_ NB272_280.out _) | exact HI272.out)) hb); clear hb ho23) | ((with_reducible refine gate_callee (f := 51) rfl ?_); refine gl_ (some 17) Try.func51 #[.pointer (some ⟨g272, 0, none⟩), .int .i64 12] ?_; (with_reducible refine (spec_l1Once.calls g272 t269 t282 t283 12 true t285 t286 w _ ?side1 ?side2 A5.out).mono ?_); (case side1 => repeat (first | (with_reducible first | exact HI272.out | apply IsS118.alloc | apply IsS118.drewN | apply IsS118.drew | apply IsS118.set_1 | apply IsS118.set_2 | refine IsS118.far ?_ NB272_268.out _ | refine IsS118.far ?_ NB272_280.out _) | exact HI272.out)); (case side2 => repeat (first | (with_reducible first | exact HB.out | apply b1 | apply b2 | apply b3 | refine below_set ?_ (IsS118.ge HI272.out) | refine below_set ?_ GE268.out | refine below_set ?_ GE280.out) | exact HB.out)); rintro e w21 ⟨rfl, hi, hb, hk⟩; refine ⟨_, rfl, ?_⟩; replace BK268 := am (KeepBut.blk hk (g' := gb268) (o := .cells #[.int .i64 0, .slice none 0 0, .int .i64 0] 26 (0, 0)) (rk BK268) NB268_272.out (by simp)); replace HO276 := am (Kd.Q_mono (Kd.Q_keep (IsS118.apartQ (show IsS118 w _ g272 t269 t282 t283 from by repeat (first | (with_reducible first | exact HI272.out | apply IsS118.alloc | apply IsS118.drewN | apply IsS118.drew | apply IsS118.set_1 | apply IsS118.set_2 | refine IsS118.far ?_ NB272_268.out _ | refine IsS118.far ?_ NB272_280.out _) | exact HI272.out)) (rq HO276) (by decide)) hk (fun _ h => h.2)) (fun _ h => h.1)); replace BK280 := am (KeepBut.blk hk (g' := gb280) (o := .cells #[.int .i64 t273, .slice Ao17 t274.length co17, .int .i64 t277] 26 (0, 0)) (rk BK280) NB280_272.out (by simp)); replace HB := am (hb); replace HI272 := am (hi); (try clear hb); (try clear hb2); (try clear hk); (try clear hi)))
refine bodyPost_ret (results_ct rfl _ _ gb268 26 #[.int .i64 t273, .slice Ao17 t274.length co17, .int .i64 t277] (0, 0) _ rfl (rp_0_1_2 BK268) Try.underlying26 rfl (by kernel_rfl)) rfl ?_
exact ⟨_, by first | rfl | (simp [errW_none, errW_some] <;> rfl) | (simp [*, errW_none, errW_some] <;> rfl), by (with_reducible repeat (first | apply Kd.Q_alloc | apply Kd.Q_drewN | apply Kd.Q_drew)); exact Kd.Q_mono (Kd.Q_far (p := ⟨gb268, 2, none⟩) (Kd.Q_far (p := ⟨gb268, 1, none⟩) (Kd.Q_far (p := ⟨gb268, 0, none⟩) (Kd.Q_types HO276.out BK268.out (by decide)) (fun _ hk => hk.2) (.int .i64 t273)) (fun _ hk => hk.2) (.slice Ao17 t274.length co17)) (fun _ hk => hk.2) (.int .i64 t277)) (fun _ hk => trivial), by repeat (first | (with_reducible first | exact HB.out | apply b1 | apply b2 | apply b3 | refine below_set ?_ (IsS118.ge HI272.out) | refine below_set ?_ GE268.out | refine below_set ?_ GE280.out) | exact HB.out)⟩
)
)

/-! ### impl_LineAt: function 12 -/
def impl_LineAt.f (k : Nat) (a0_0 : Int) (l0_1 : List ByteArray) (a0_2 : Int) (a1 : Int) : Option (ByteArray × Bool) := (impl_HistoryOk.f k a0_0 l0_1 a0_2).bind fun t295 => (if t295 = true then (if a1 < a0_2 then (some ((⟨#[]⟩ : ByteArray), false)) else (if a1 ≥ (wrap64 (a0_2 + (l0_1.length : Int))) then (some ((⟨#[]⟩ : ByteArray), false)) else (if 0 ≤ (wrap64 (a1 - a0_2)) then (if (wrap64 (a1 - a0_2)) < (l0_1.length : Int) then (some (rdOf ByteArray.empty l0_1 (wrap64 (a1 - a0_2)), true)) else (none)) else (none)))) else (some ((⟨#[]⟩ : ByteArray), false)))
theorem impl_LineAt.mono : ∀ a0 a1 a2 a3 k, LeO (impl_LineAt.f k a0 a1 a2 a3) (impl_LineAt.f (k + 1) a0 a1 a2 a3) := by
 intro a0 a1 a2 a3 k
 unfold impl_LineAt.f
 repeat' first
   | (with_reducible exact impl_HistoryOk.mono _ _ _ _)
   | (with_reducible exact LeO.refl _)
   | (with_reducible exact LeO.none _)
   | (with_reducible refine LeO.ite ?_ ?_)
   | (with_reducible refine LeO.bind ?_ (fun _ => ?_))
set_option maxHeartbeats 8000000 in
set_option maxRecDepth 100000 in
theorem impl_LineAt.calls (k : Nat) (a0_0 : Int) (A0_1 : Option Addr) (c0_1 : Nat) (l0_1 : List ByteArray) (a0_2 : Int) (a1 : Int) (r1 : ByteArray) (r2 : Bool) (w : World) (hr0_1 : Kd.C Kd.string w A0_1 l0_1.length l0_1) (hc0_1 : l0_1.length ≤ c0_1) (h : impl_LineAt.f k a0_0 l0_1 a0_2 a1 = some (r1, r2)) :
  Calls Try.prog 12 #[.agg #[.int .i64 a0_0, .slice A0_1 l0_1.length c0_1, .int .i64 a0_2], .int .i64 a1] w fun e w' => e = .returned (.tuple #[.string r1, .bool r2]) ∧ Below w.heap.size w w' := by
 (
have hu26 := Try.underlying26
have HR0_1 := am hr0_1
have HC0_1 := am hc0_1
clear hr0_1 hc0_1
have HB := am (Below.refl w.heap.size w)
have H := h
unfold impl_LineAt.f at H
clear h
replace H := Option.bind_eq_some_iff.mp H
obtain ⟨t295, A30, H⟩ := H
(try dsimp only at H)
have A3 := am A30
clear A30
refine em_ (p := t295 = true) (fun c4 => ?g7p) (fun c4 => ?g7n)
case' g7p => (
subst c4
rw [if_pos rfl] at H
refine em_ (p := a1 < a0_2) (fun c5 => ?g6p) (fun c5 => ?g6n)
case' g6p => (
rw [if_pos c5] at H
have c5b0 : decide (a1 < a0_2) = true := decide_eq_true c5
clear c5
simp only [Option.some.injEq, Prod.mk.injEq] at H
obtain ⟨rfl, rfl⟩ := H
have lf3_ := trivial
)
case' g6n => (
rw [if_neg c5] at H
have c5b0 : decide (a1 < a0_2) = false := decide_eq_false c5
clear c5
refine em_ (p := a1 ≥ (wrap64 (a0_2 + (l0_1.length : Int)))) (fun c10 => ?g5p) (fun c10 => ?g5n)
case' g5p => (
rw [if_pos c10] at H
have c10b0 : decide ((wrap64 (a0_2 + (l0_1.length : Int))) ≤ a1) = true := decide_eq_true c10
clear c10
simp only [Option.some.injEq, Prod.mk.injEq] at H
obtain ⟨rfl, rfl⟩ := H
have lf4_ := trivial
)
case' g5n => (
rw [if_neg c10] at H
have c10b0 : decide ((wrap64 (a0_2 + (l0_1.length : Int))) ≤ a1) = false := decide_eq_false c10
clear c10
obtain ⟨ji15, hji15⟩ : ∃ j_ : Int, (wrap64 (a1 - a0_2)) = j_ := ⟨_, rfl⟩
replace H : (if 0 ≤ (ji15) then (if (ji15) < (l0_1.length : Int) then (some (rdOf ByteArray.empty l0_1 (ji15), true)) else (none)) else (none)) = some (r1, r2) := by first | (rw [hji15] at H; exact H) | (simp only [hji15] at H ⊢; exact H)
(try rw [hji15] at A3)
have hji15w : (IntKind.i64.wrap (a1 - a0_2)) = ji15 := (i64_w _).trans hji15
refine em_ (p := 0 ≤ (ji15)) (fun c16 => ?g4p) (fun c16 => ?g4n)
case' g4p => (
rw [if_pos c16] at H
have c16b0 : decide (0 ≤ (ji15)) = true := decide_eq_true c16
clear c16
refine em_ (p := (ji15) < (l0_1.length : Int)) (fun c17 => ?g3p) (fun c17 => ?g3n)
case' g3p => (
rw [if_pos c17] at H
have c17b0 : decide ((ji15) < (l0_1.length : Int)) = true := decide_eq_true c17
clear c17
simp only [Option.some.injEq, Prod.mk.injEq] at H
obtain ⟨rfl, rfl⟩ := H
have lf5_ := trivial
)
case g3n => (
rw [if_neg c17] at H
exact absurd H (by simp)
)
)
case g4n => (
rw [if_neg c16] at H
exact absurd H (by simp)
)
)
)
)
case' g7n => (
replace c4 := Bool.eq_false_iff.mpr c4
subst c4
rw [if_neg (show ¬ (false = true) by decide)] at H
simp only [Option.some.injEq, Prod.mk.injEq] at H
obtain ⟨rfl, rfl⟩ := H
have lf6_ := trivial
)
all_goals (
go_enter Try.func12, Try.ntmps12
go_wp2_with (first | ((with_reducible refine gate_callee (f := 19) rfl ?_); refine gl_ (some 7) Try.func19 #[.agg #[.int .i64 a0_0, .slice A0_1 l0_1.length c0_1, .int .i64 a0_2]] ?_; (with_reducible refine (impl_HistoryOk.calls k a0_0 _ _ l0_1 a0_2 true _ ?side1 ?side2 A3.out).mono ?_); (case side1 => exact rc ((Kd.C_below HR0_1.out HB.out))); (case side2 => exact HC0_1.out); rintro e w20 ⟨rfl, hb⟩; refine ⟨_, rfl, ?_⟩; replace BK294 := am (blk_below (rk BK294) hb); replace HB := am (below_step (rb1 HB GE294) hb); (try clear hb); (try clear hb2); (try clear hk); (try clear hi); have hcz21_0 : w20.cell? ⟨gb294, 0, none⟩ = some (.int .i64 a0_0) := (blk_cell BK294.out 0).trans rfl; have hcz21_1 : w20.cell? ⟨gb294, 1, none⟩ = some (.slice A0_1 l0_1.length c0_1) := (blk_cell BK294.out 1).trans rfl; have hcz21_2 : w20.cell? ⟨gb294, 2, none⟩ = some (.int .i64 a0_2) := (blk_cell BK294.out 2).trans rfl; have hfz21_0 := blk_frozen BK294.out 0; have hfz21_1 := blk_frozen BK294.out 1; have hfz21_2 := blk_frozen BK294.out 2; have p296 : 0 ≤ ((ji15) : Int) := dt_; have q296 : (ji15) < (l0_1.length : Int) := dt_; obtain ⟨ad296, e296, hx296_0⟩ := Kd.at_string HR0_1.out (ji15) p296 q296; cases e296; replace hx296_0 := (HB.out.cell (World.block_lt_of_cell? w _ hx296_0)).trans hx296_0; replace p296 := eq_true p296; replace q296 := eq_true q296) | ((with_reducible refine gate_callee (f := 19) rfl ?_); refine gl_ (some 7) Try.func19 #[.agg #[.int .i64 a0_0, .slice A0_1 l0_1.length c0_1, .int .i64 a0_2]] ?_; (with_reducible refine (impl_HistoryOk.calls k a0_0 _ _ l0_1 a0_2 true _ ?side1 ?side2 A3.out).mono ?_); (case side1 => exact rc ((Kd.C_below HR0_1.out HB.out))); (case side2 => exact HC0_1.out); rintro e w8 ⟨rfl, hb⟩; refine ⟨_, rfl, ?_⟩; replace BK294 := am (blk_below (rk BK294) hb); replace HB := am (below_step (rb1 HB GE294) hb); (try clear hb); (try clear hb2); (try clear hk); (try clear hi); have hcz9_0 : w8.cell? ⟨gb294, 0, none⟩ = some (.int .i64 a0_0) := (blk_cell BK294.out 0).trans rfl; have hcz9_1 : w8.cell? ⟨gb294, 1, none⟩ = some (.slice A0_1 l0_1.length c0_1) := (blk_cell BK294.out 1).trans rfl; have hcz9_2 : w8.cell? ⟨gb294, 2, none⟩ = some (.int .i64 a0_2) := (blk_cell BK294.out 2).trans rfl; have hfz9_0 := blk_frozen BK294.out 0; have hfz9_1 := blk_frozen BK294.out 1; have hfz9_2 := blk_frozen BK294.out 2) | ((with_reducible refine gate_dst (N := 2) rfl ?_); (try (refine gate_guard (by rfl) ?_; dsimp only)); refine box_event ?hg (N := 2) ?hd (cs := #[.int .i64 a0_0, .slice A0_1 l0_1.length c0_1, .int .i64 a0_2]) (t := 26) ?hr ?_; (case hd => rfl); (case hg => rfl); (case hr => first | (go_simp; done) | (go_simp; rfl)); intro gb294 hg w6 hbox hb; have BK294 := am (hbox); have GW294 := am (gw hg (rb HB)); have GE294 := GW294; replace HB := am (below_step (rb HB) hb); clear hb hbox hg; have hcz7_0 : w6.cell? ⟨gb294, 0, none⟩ = some (.int .i64 a0_0) := (blk_cell BK294.out 0).trans rfl; have hcz7_1 : w6.cell? ⟨gb294, 1, none⟩ = some (.slice A0_1 l0_1.length c0_1) := (blk_cell BK294.out 1).trans rfl; have hcz7_2 : w6.cell? ⟨gb294, 2, none⟩ = some (.int .i64 a0_2) := (blk_cell BK294.out 2).trans rfl; have hfz7_0 := blk_frozen BK294.out 0; have hfz7_1 := blk_frozen BK294.out 1; have hfz7_2 := blk_frozen BK294.out 2) | ((with_reducible refine gate_callee (f := 19) rfl ?_); refine gl_ (some 7) Try.func19 #[.agg #[.int .i64 a0_0, .slice A0_1 l0_1.length c0_1, .int .i64 a0_2]] ?_; (with_reducible refine (impl_HistoryOk.calls k a0_0 _ _ l0_1 a0_2 false _ ?side1 ?side2 A3.out).mono ?_); (case side1 => exact rc ((Kd.C_below HR0_1.out HB.out))); (case side2 => exact HC0_1.out); rintro e w24 ⟨rfl, hb⟩; refine ⟨_, rfl, ?_⟩; replace BK294 := am (blk_below (rk BK294) hb); replace HB := am (below_step (rb1 HB GE294) hb); (try clear hb); (try clear hb2); (try clear hk); (try clear hi)))
go_ret2
first
| (
have q_ := lf5_
exact ⟨by first | rfl | (simp [errW_none, errW_some] <;> rfl) | (simp only [← hji15]; first | rfl | (simp [errW_none, errW_some] <;> rfl)) | (simp [*, errW_none, errW_some] <;> rfl), by repeat (first | (with_reducible first | exact HB.out | apply b1 | apply b2 | apply b3 | refine below_set ?_ GE294.out) | exact HB.out)⟩
)
| (
first | have q_ := lf3_ | have q_ := lf4_ | have q_ := lf6_
exact ⟨by first | rfl | (simp [errW_none, errW_some] <;> rfl) | (simp [*, errW_none, errW_some] <;> rfl), by repeat (first | (with_reducible first | exact HB.out | apply b1 | apply b2 | apply b3 | refine below_set ?_ GE294.out) | exact HB.out)⟩
)
)
)

end Go.Proofs.Ytalopdcephohgaa.RA
