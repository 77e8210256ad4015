/- Contracts of Go functions that laws of this seat reach: each Lean function answers as its Go function does. No condition. Written by wip/tools/inj.py, over the kit's print. -/
import Derived.Test.YtalopdcephohgaaRCx0
import Derived.Test.YtalopdcephohgaaRCx10
import Derived.Test.YtalopdcephohgaaRCx13
import Derived.Test.YtalopdcephohgaaRCx18
namespace Go.Proofs.Ytalopdcephohgaa.RC
open Go.RowKit Go.Proofs.YtalopdcephohgaaW.PrintWords Go.Proofs.YtalopdcephohgaaW.PrintLast Go.Proofs.YtalopdcephohgaaW.PrintMore
attribute [local go_sem] max2_int min2_int max_two min_two max_three min_three max_four min_four   -- for this text's walks alone
set_option linter.unusedVariables false
set_option linter.unusedSimpArgs false

/-! ### spec_Patched: function 40 -/
mutual
def spec_Patched.j0 : Nat → Bool → Int → Int → List (S101) → Int → List (List (S98)) → Option (Int × (List (List (S98))) × Bool)
 | 0, _, _, _, _, _, _ => none
 | k + 1, x26, x329000, x329001, x329002, x335000, x335001 => if x26 = true then (some (0, ([] : List (List (S98))), false)) else (spec_Patched.l0 k 0 x329000 x329001 x329002 x335000 x335001)
def spec_Patched.l0 : Nat → Int → Int → Int → List (S101) → Int → List (List (S98)) → Option (Int × (List (List (S98))) × Bool)
 | 0, _, _, _, _, _, _ => none
 | k + 1, x7, x329000, x329001, x329002, x335000, x335001 => if x7 < (x329002.length : Int) then (if 0 ≤ x7 then (if (((rd_T101 x329002 x7).f2).length : Int) < 1 then (spec_Patched.j2 k x7 (((rd_T101 x329002 x7).f2).length : Int) true x329000 x329001 x329002 x335000 x335001 ((rd_T101 x329002 x7).f0) ((rd_T101 x329002 x7).f1) ((rd_T101 x329002 x7).f2)) else ((spec_l1In.f ((rd_T101 x329002 x7).f0) 0 (wrap64 (x329001 - 1))).bind fun t338 => (if t338 = true then ((spec_l1In.f ((rd_T101 x329002 x7).f1) 0 (wrap64 (x329000 - (((rd_T101 x329002 x7).f2).length : Int)))).bind fun t339 => (spec_Patched.j2 k x7 (((rd_T101 x329002 x7).f2).length : Int) (!t339) x329000 x329001 x329002 x335000 x335001 ((rd_T101 x329002 x7).f0) ((rd_T101 x329002 x7).f1) ((rd_T101 x329002 x7).f2))) else (spec_Patched.j2 k x7 (((rd_T101 x329002 x7).f2).length : Int) true x329000 x329001 x329002 x335000 x335001 ((rd_T101 x329002 x7).f0) ((rd_T101 x329002 x7).f1) ((rd_T101 x329002 x7).f2))))) else (none)) else ((spec_GridOk.f k x335000 x335001).bind fun t335 => (if t335 = true then (some (x335000, x335001, true)) else (some (0, ([] : List (List (S98))), false))))
def spec_Patched.j2 : Nat → Int → Int → Bool → Int → Int → List (S101) → Int → List (List (S98)) → Int → Int → List (S98) → Option (Int × (List (List (S98))) × Bool)
 | 0, _, _, _, _, _, _, _, _, _, _, _ => none
 | k + 1, x7, x9, x63, x329000, x329001, x329002, x335000, x335001, x338000, x338001, x338002 => if x63 = true then (some (0, ([] : List (List (S98))), false)) else (spec_Patched.l1 k x7 x9 0 x329000 x329001 x329002 x335000 x335001 x338000 x338001 x338002)
def spec_Patched.l1 : Nat → Int → Int → Int → Int → Int → List (S101) → Int → List (List (S98)) → Int → Int → List (S98) → Option (Int × (List (List (S98))) × Bool)
 | 0, _, _, _, _, _, _, _, _, _, _, _ => none
 | k + 1, x7, x9, x10, x329000, x329001, x329002, x335000, x335001, x338000, x338001, x338002 => if x10 < x9 then (if 0 ≤ x338000 then (if x338000 < (x335001.length : Int) then (if 0 ≤ x10 then (if x10 < (x338002.length : Int) then (if 0 ≤ (wrap64 (x338001 + x10)) then (if (wrap64 (x338001 + x10)) < ((rd_L7 x335001 x338000).length : Int) then (spec_Patched.l1 k x7 x9 (wrap64 (x10 + 1)) x329000 x329001 x329002 x335000 (x335001.set (x338000 : Int).toNat ((rd_L7 x335001 x338000).set ((wrap64 (x338001 + x10)) : Int).toNat (⟨(rd_T98 x338002 x10).f0, (⟨(rd_T98 x338002 x10).f1.f0, (rd_T98 x338002 x10).f1.f1, (rd_T98 x338002 x10).f1.f2, (rd_T98 x338002 x10).f1.f3, (rd_T98 x338002 x10).f1.f4⟩ : S96), (rd_T98 x338002 x10).f2⟩ : S98))) x338000 x338001 x338002) else (none)) else (none)) else (none)) else (none)) else (none)) else (none)) else (spec_Patched.l0 k (wrap64 (x7 + 1)) x329000 x329001 x329002 x335000 x335001)
end
def spec_Patched.f (k : Nat) (a0_0 : Int) (l0_1 : List (List (S98))) (a1_0 : Int) (a1_1 : Int) (l1_2 : List (S101)) : Option (Int × (List (List (S98))) × Bool) := (spec_Resized.f k a0_0 l0_1 a1_0 a1_1).bind fun bt330 => (if (bt330.2.length : Int) = 0 then (spec_Patched.j0 k true a1_0 a1_1 l1_2 bt330.1 bt330.2) else (spec_Patched.j0 k (decide ((l1_2.length : Int) > 400)) a1_0 a1_1 l1_2 bt330.1 bt330.2))
theorem spec_Patched.mono_l : ∀ k, (∀ y0 y1 y2 y3 y4 y5, LeO (spec_Patched.j0 k y0 y1 y2 y3 y4 y5) (spec_Patched.j0 (k + 1) y0 y1 y2 y3 y4 y5)) ∧ (∀ y0 y1 y2 y3 y4 y5, LeO (spec_Patched.l0 k y0 y1 y2 y3 y4 y5) (spec_Patched.l0 (k + 1) y0 y1 y2 y3 y4 y5)) ∧ (∀ y0 y1 y2 y3 y4 y5 y6 y7 y8 y9 y10, LeO (spec_Patched.j2 k y0 y1 y2 y3 y4 y5 y6 y7 y8 y9 y10) (spec_Patched.j2 (k + 1) y0 y1 y2 y3 y4 y5 y6 y7 y8 y9 y10)) ∧ (∀ y0 y1 y2 y3 y4 y5 y6 y7 y8 y9 y10, LeO (spec_Patched.l1 k y0 y1 y2 y3 y4 y5 y6 y7 y8 y9 y10) (spec_Patched.l1 (k + 1) y0 y1 y2 y3 y4 y5 y6 y7 y8 y9 y10))
 | 0 => ⟨fun _ _ _ _ _ _ r h => by simp [spec_Patched.j0] at h, fun _ _ _ _ _ _ r h => by simp [spec_Patched.l0] at h, fun _ _ _ _ _ _ _ _ _ _ _ r h => by simp [spec_Patched.j2] at h, fun _ _ _ _ _ _ _ _ _ _ _ r h => by simp [spec_Patched.l1] at h⟩
 | k + 1 => by
  obtain ⟨ih0, ih1, ih2, ih3⟩ := spec_Patched.mono_l k
  refine ⟨?_, ?_, ?_, ?_⟩
  ·intro y0 y1 y2 y3 y4 y5
   unfold spec_Patched.j0
   repeat' first
   | (with_reducible exact ih0 _ _ _ _ _ _)
   | (with_reducible exact ih1 _ _ _ _ _ _)
   | (with_reducible exact ih2 _ _ _ _ _ _ _ _ _ _ _)
   | (with_reducible exact ih3 _ _ _ _ _ _ _ _ _ _ _)
   | (with_reducible exact spec_GridOk.mono _ _ _)
   | (with_reducible exact spec_Resized.mono _ _ _ _ _)
   | (with_reducible exact LeO.refl _)
   | (with_reducible exact LeO.none _)
   | (with_reducible refine LeO.ite ?_ ?_)
   | (with_reducible refine LeO.bind ?_ (fun _ => ?_))
  ·intro y0 y1 y2 y3 y4 y5
   unfold spec_Patched.l0
   repeat' first
   | (with_reducible exact ih0 _ _ _ _ _ _)
   | (with_reducible exact ih1 _ _ _ _ _ _)
   | (with_reducible exact ih2 _ _ _ _ _ _ _ _ _ _ _)
   | (with_reducible exact ih3 _ _ _ _ _ _ _ _ _ _ _)
   | (with_reducible exact spec_GridOk.mono _ _ _)
   | (with_reducible exact spec_Resized.mono _ _ _ _ _)
   | (with_reducible exact LeO.refl _)
   | (with_reducible exact LeO.none _)
   | (with_reducible refine LeO.ite ?_ ?_)
   | (with_reducible refine LeO.bind ?_ (fun _ => ?_))
  ·intro y0 y1 y2 y3 y4 y5 y6 y7 y8 y9 y10
   unfold spec_Patched.j2
   repeat' first
   | (with_reducible exact ih0 _ _ _ _ _ _)
   | (with_reducible exact ih1 _ _ _ _ _ _)
   | (with_reducible exact ih2 _ _ _ _ _ _ _ _ _ _ _)
   | (with_reducible exact ih3 _ _ _ _ _ _ _ _ _ _ _)
   | (with_reducible exact spec_GridOk.mono _ _ _)
   | (with_reducible exact spec_Resized.mono _ _ _ _ _)
   | (with_reducible exact LeO.refl _)
   | (with_reducible exact LeO.none _)
   | (with_reducible refine LeO.ite ?_ ?_)
   | (with_reducible refine LeO.bind ?_ (fun _ => ?_))
  ·intro y0 y1 y2 y3 y4 y5 y6 y7 y8 y9 y10
   unfold spec_Patched.l1
   repeat' first
   | (with_reducible exact ih0 _ _ _ _ _ _)
   | (with_reducible exact ih1 _ _ _ _ _ _)
   | (with_reducible exact ih2 _ _ _ _ _ _ _ _ _ _ _)
   | (with_reducible exact ih3 _ _ _ _ _ _ _ _ _ _ _)
   | (with_reducible exact spec_GridOk.mono _ _ _)
   | (with_reducible exact spec_Resized.mono _ _ _ _ _)
   | (with_reducible exact LeO.refl _)
   | (with_reducible exact LeO.none _)
   | (with_reducible refine LeO.ite ?_ ?_)
   | (with_reducible refine LeO.bind ?_ (fun _ => ?_))
theorem spec_Patched.mono : ∀ a0 a1 a2 a3 a4 k, LeO (spec_Patched.f k a0 a1 a2 a3 a4) (spec_Patched.f (k + 1) a0 a1 a2 a3 a4) := by
 intro a0 a1 a2 a3 a4 k
 obtain ⟨ih0, ih1, ih2, ih3⟩ := spec_Patched.mono_l k
 unfold spec_Patched.f
 repeat' first
   | (with_reducible exact ih0 _ _ _ _ _ _)
   | (with_reducible exact ih1 _ _ _ _ _ _)
   | (with_reducible exact ih2 _ _ _ _ _ _ _ _ _ _ _)
   | (with_reducible exact ih3 _ _ _ _ _ _ _ _ _ _ _)
   | (with_reducible exact spec_GridOk.mono _ _ _)
   | (with_reducible exact spec_Resized.mono _ _ _ _ _)
   | (with_reducible exact LeO.refl _)
   | (with_reducible exact LeO.none _)
   | (with_reducible refine LeO.ite ?_ ?_)
   | (with_reducible refine LeO.bind ?_ (fun _ => ?_))
def spec_Patched.T14 : Bool × List (List Nat × List Nat) := (true, [([], []), ([0], [0]), ([], []), ([2], [2]), ([1, 3], [1, 3]), ([4], [4]), ([], []), ([6], [6]), ([], []), ([7, 8], [7, 8]), ([], []), ([10], [10]), ([], []), ([11, 12], [11, 12]), ([13], [13]), ([5, 9, 0, 1, 2, 3, 4, 5, 6, 7, 8, 9, 10, 11, 12, 13, 14], [5, 9]), ([15, 14, 0, 1, 2, 3, 4, 5, 6, 7, 8, 9, 10, 11, 12, 13, 14], [14, 15])])
def spec_Patched.B14 : List Nat := [0, 1, 0, 4, 15, 31, 0, 64, 0, 448, 0, 1024, 0, 7168, 15360, 32767, 65535]
theorem spec_Patched.tab14 : rtab .any (opsOf Try.f40 14) = spec_Patched.T14 := by kernel_rfl
theorem spec_Patched.bits14 : waitsOk spec_Patched.T14.2 spec_Patched.B14 = true := by kernel_rfl
set_option maxHeartbeats 8000000 in
set_option maxRecDepth 100000 in
theorem spec_Patched.calls (k : Nat) (a0_0 : Int) (A0_1 : Option Addr) (c0_1 : Nat) (l0_1 : List (List (S98))) (a1_0 : Int) (a1_1 : Int) (A1_2 : Option Addr) (c1_2 : Nat) (l1_2 : List (S101)) (r1 : Int) (r2 : List (List (S98))) (r3 : Bool) (w : World) (hr0_1 : Kd.C (Kd.slice 98 k98) w A0_1 l0_1.length l0_1) (hc0_1 : l0_1.length ≤ c0_1) (hr1_2 : Kd.C k101 w A1_2 l1_2.length l1_2) (hc1_2 : l1_2.length ≤ c1_2) (h : spec_Patched.f k a0_0 l0_1 a1_0 a1_1 l1_2 = some (r1, r2, r3)) :
  Calls Try.prog 40 #[.agg #[.int .i64 a0_0, .slice A0_1 l0_1.length c0_1], .agg #[.int .i64 a1_0, .int .i64 a1_1, .slice A1_2 l1_2.length c1_2]] w fun e w' => ∃ v1_ : Value, e = .returned (.tuple #[.agg #[.int .i64 r1, v1_], .bool r3]) ∧ Kd.S (Kd.slice 98 k98) 99 w' w.heap.size (fun _ => True) v1_ r2 ∧ Below w.heap.size w w' := by
 (
have hu58 := Try.underlying58
have hu53 := Try.underlying53
have hu101 := Try.underlying101
have hu98 := Try.underlying98
have HR0_1 := am hr0_1
have HC0_1 := am hc0_1
clear hr0_1 hc0_1
have HR1_2 := am hr1_2
have HC1_2 := am hc1_2
clear hr1_2 hc1_2
have HB := am (Below.refl w.heap.size w)
have H := h
unfold spec_Patched.f at H
clear h
replace H := Option.bind_eq_some_iff.mp H
obtain ⟨⟨t330, t331⟩, A30, H⟩ := H
(try dsimp only at H)
have A3 := am A30
clear A30
have HC4 := am H
clear H
go_enter Try.func40, Try.ntmps40
go_upto_region 2 with (first | ((with_reducible refine gate_dst (N := 2) rfl ?_); (try (refine gate_guard (by rfl) ?_; dsimp only)); refine box_event ?hg (N := 2) ?hd (cs := #[.int .i64 a0_0, .slice A0_1 l0_1.length c0_1]) (t := 58) ?hr ?_; (case hd => rfl); (case hg => rfl); (case hr => first | (go_simp; done) | (go_simp; rfl)); intro gb327 hg w5 hbox hb; have BK327 := am (hbox); have GW327 := am (gw hg (rb HB)); have GE327 := GW327; replace HB := am (below_step (rb HB) hb); clear hb hbox hg) | ((with_reducible refine gate_dst (N := 3) rfl ?_); (try (refine gate_guard (by rfl) ?_; dsimp only)); refine box_event ?hg (N := 3) ?hd (cs := #[.int .i64 a1_0, .int .i64 a1_1, .slice A1_2 l1_2.length c1_2]) (t := 53) ?hr ?_; (case hd => rfl); (case hg => rfl); (case hr => first | (go_simp; done) | (go_simp; rfl)); intro gb328 hg w6 hbox hb; have BK328 := am (hbox); have GW328 := am (gw hg (rb1 HB GE327)); have GE328 := GW328; replace HB := am (below_step (rb1 HB GE327) hb); have NB327_328 := am (nl hg (rk BK327)); have NB328_327 := am (ng hg (rk BK327)); replace BK327 := am (blk_below (rk BK327) hb); clear hb hbox hg) | ((with_reducible refine gate_dst (N := 4) rfl ?_); (try (refine gate_guard (by rfl) ?_; dsimp only)); refine box_event ?hg (N := 4) ?hd (cs := #[.int .i64 0, .slice none 0 0]) (t := 58) ?hr ?_; (case hd => rfl); (case hg => rfl); (case hr => first | (go_simp; done) | (go_simp; rfl)); intro gb329 hg w7 hbox hb; have BK329 := am (hbox); have GW329 := am (gw hg (rb2 HB GE327 GE328)); have GE329 := GW329; replace HB := am (below_step (rb2 HB GE327 GE328) hb); have NB327_329 := am (nl hg (rk BK327)); have NB329_327 := am (ng hg (rk BK327)); replace BK327 := am (blk_below (rk BK327) hb); have NB328_329 := am (nl hg (rk BK328)); have NB329_328 := am (ng hg (rk BK328)); replace BK328 := am (blk_below (rk BK328) hb); clear hb hbox hg; have hnb8 := NB327_328.out; have hnc8 := NB328_327.out; have hnb9 := NB327_329.out; have hnc9 := NB329_327.out; have hcz10_0 : w7.cell? ⟨gb327, 0, none⟩ = some (.int .i64 a0_0) := (blk_cell BK327.out 0).trans rfl; have hcz10_1 : w7.cell? ⟨gb327, 1, none⟩ = some (.slice A0_1 l0_1.length c0_1) := (blk_cell BK327.out 1).trans rfl; have hfz10_0 := blk_frozen BK327.out 0; have hfz10_1 := blk_frozen BK327.out 1; have hnb11 := NB328_329.out; have hnc11 := NB329_328.out; have hcz12_0 : w7.cell? ⟨gb328, 0, none⟩ = some (.int .i64 a1_0) := (blk_cell BK328.out 0).trans rfl; have hcz12_1 : w7.cell? ⟨gb328, 1, none⟩ = some (.int .i64 a1_1) := (blk_cell BK328.out 1).trans rfl; have hcz12_2 : w7.cell? ⟨gb328, 2, none⟩ = some (.slice A1_2 l1_2.length c1_2) := (blk_cell BK328.out 2).trans rfl; have hfz12_0 := blk_frozen BK328.out 0; have hfz12_1 := blk_frozen BK328.out 1; have hfz12_2 := blk_frozen BK328.out 2) | ((with_reducible refine gate_callee (f := 80) rfl ?_); refine gl_ (some 16) Try.func80 #[.agg #[.int .i64 a0_0, .slice A0_1 l0_1.length c0_1], .int .i64 a1_0, .int .i64 a1_1] ?_; (with_reducible refine (spec_Resized.calls k a0_0 _ _ l0_1 a1_0 a1_1 t330 t331 _ ?side1 ?side2 A3.out).mono ?_); (case side1 => exact rc ((Kd.C_below HR0_1.out HB.out))); (case side2 => exact HC0_1.out); rintro e w13 ⟨v332, rfl, ho0, hb⟩; refine ⟨_, rfl, ?_⟩; have HO333 := am (Kd.S_lower ho0 (below_size (rb3 HB GE327 GE328 GE329))); replace BK327 := am (blk_below (rk BK327) hb); replace BK328 := am (blk_below (rk BK328) hb); replace BK329 := am (blk_below (rk BK329) hb); replace HB := am (below_step (rb3 HB GE327 GE328 GE329) hb); (try clear hb); (try clear hb2); (try clear hk); (try clear hi); (try clear ho0)) | ((with_reducible refine gate_dst (N := 6) rfl ?_); (try (refine gate_guard (by rfl) ?_; dsimp only)); refine box_event ?hg (N := 6) ?hd (cs := #[.int .i64 0, .slice none 0 0]) (t := 58) ?hr ?_; (case hd => rfl); (case hg => rfl); (case hr => first | (go_simp; done) | (go_simp; rfl)); intro gb334 hg w14 hbox hb; replace HO333 := am (Kd.S_below (rs HO333) hb); have BK334 := am (hbox); have GW334 := am (gw hg (rb3 HB GE327 GE328 GE329)); have GE334 := GW334; replace HB := am (below_step (rb3 HB GE327 GE328 GE329) hb); have NB327_334 := am (nl hg (rk BK327)); have NB334_327 := am (ng hg (rk BK327)); replace BK327 := am (blk_below (rk BK327) hb); have NB328_334 := am (nl hg (rk BK328)); have NB334_328 := am (ng hg (rk BK328)); replace BK328 := am (blk_below (rk BK328) hb); have NB329_334 := am (nl hg (rk BK329)); have NB334_329 := am (ng hg (rk BK329)); replace BK329 := am (blk_below (rk BK329) hb); clear hb hbox hg; have hnb15 := NB334_327.out; have hnc15 := NB327_334.out; have hnb16 := NB334_328.out; have hnc16 := NB328_334.out; have hnb17 := NB334_329.out; have hnc17 := NB329_334.out; have hcz18_0 : w14.cell? ⟨gb334, 0, none⟩ = some (.int .i64 0) := (blk_cell BK334.out 0).trans rfl; have hcz18_1 : w14.cell? ⟨gb334, 1, none⟩ = some (.slice none 0 0) := (blk_cell BK334.out 1).trans rfl; have hfz18_0 := blk_frozen BK334.out 0; have hfz18_1 := blk_frozen BK334.out 1; obtain ⟨Ao19, co19, eo19⟩ := Kd.S_slice HO333.out; subst eo19))
(try simp only [Act.put, List.setIfInBounds_toArray, List.set_cons_zero, List.set_cons_succ])
go_cut [26] (fun v26 wc => ∃ (kq : Nat) (x26_3 : Bool), v26 = .bool x26_3 ∧ Aside0 (spec_Patched.j0 kq x26_3 a1_0 a1_1 l1_2 t330 t331 = some (r1, r2, r3)) ∧ Aside0 (kq ≤ k) ∧ Aside0 (Kd.S (Kd.slice 98 k98) 99 wc w.heap.size (fun _ => True) (.slice Ao19 t331.length co19) t331) ∧ Aside0 (wc.heap[gb327]? = some (.cells #[.int .i64 a0_0, (.slice A0_1 l0_1.length c0_1)] 58 (0, 0))) ∧ Aside0 (wc.heap[gb328]? = some (.cells #[.int .i64 a1_0, .int .i64 a1_1, (.slice A1_2 l1_2.length c1_2)] 53 (0, 0))) ∧ Aside0 (wc.heap[gb329]? = some (.cells #[.int .i64 0, (.slice none 0 0)] 58 (0, 0))) ∧ Aside0 (wc.heap[gb334]? = some (.cells #[.int .i64 t330, (.slice Ao19 t331.length co19)] 58 (0, 0))) ∧ Aside0 (Below w.heap.size w wc))
case first => (
have H := HC4.out
clear HC4
by_cases c20 : (t331.length : Int) = 0
·(
rw [if_pos c20] at H
have c20b0 : ((t331.length : Int) == 0) = true := beq_iff_eq.mpr c20
have c20b1 : ((t331.length : Int) != 0) = false := bne_eq_false_iff_eq.mpr c20
clear c20
(first | rw [c20b0] | rw [c20b1] | (simp only [i64_w, i32_w]; rw [c20b0]) | skip)
have H' := am H
clear H
have hnb21 := NB334_327.out
have hnc21 := NB327_334.out
have hnb22 := NB334_328.out
have hnc22 := NB328_334.out
have hnb23 := NB334_329.out
have hnc23 := NB329_334.out
have hcz24_0 : w14.cell? ⟨gb334, 0, none⟩ = some (.int .i64 0) := (blk_cell BK334.out 0).trans rfl
have hcz24_1 : w14.cell? ⟨gb334, 1, none⟩ = some (.slice none 0 0) := (blk_cell BK334.out 1).trans rfl
have hfz24_0 := blk_frozen BK334.out 0
have hfz24_1 := blk_frozen BK334.out 1
go_wp2
go_meet
case rel => exact ⟨_, (true), (by first | rfl | (simp; done) | (simp [*]; done)), H', ⟨by first | omega | exact Nat.le_refl _⟩, ⟨by (with_reducible repeat (first | apply Kd.S_alloc | apply Kd.S_drewN | apply Kd.S_drew)); exact Kd.S_mono (Kd.S_far (p := ⟨gb334, 1, none⟩) (Kd.S_far (p := ⟨gb334, 0, none⟩) (Kd.S_types HO333.out BK334.out (by decide)) (fun _ hk => hk.2) (.int .i64 t330)) (fun _ hk => hk.2) (.slice Ao19 t331.length co19)) (fun _ hk => trivial)⟩, ⟨rf2 NB327_334 BK327⟩, ⟨rf2 NB328_334 BK328⟩, ⟨rf2 NB329_334 BK329⟩, ⟨by (with_reducible repeat (first | apply k1 | apply k2 | apply k3)); refine blk_put (cs := #[.int .i64 t330, .slice none 0 0]) ?_ 1 _ rfl; (with_reducible repeat (first | apply k1 | apply k2 | apply k3)); refine blk_put (cs := #[.int .i64 0, .slice none 0 0]) ?_ 0 _ rfl; (with_reducible repeat (first | apply k1 | apply k2 | apply k3)); exact BK334.out⟩, ⟨rb4 HB GE327 GE328 GE329 GE334⟩⟩
)
·(
rw [if_neg c20] at H
have c20b0 : ((t331.length : Int) == 0) = false := beq_eq_false_iff_ne.mpr c20
have c20b1 : ((t331.length : Int) != 0) = true := bne_iff_ne.mpr c20
have c20b2 : ¬ (t331 = []) := fun h_ => c20 (by rw [h_]; rfl)
(first | rw [c20b0] | rw [c20b1] | (simp only [i64_w, i32_w]; rw [c20b0]) | skip)
have H' := am H
clear H
have hnb25 := NB334_327.out
have hnc25 := NB327_334.out
have hnb26 := NB334_328.out
have hnc26 := NB328_334.out
have hnb27 := NB334_329.out
have hnc27 := NB329_334.out
have hcz28_0 : w14.cell? ⟨gb334, 0, none⟩ = some (.int .i64 0) := (blk_cell BK334.out 0).trans rfl
have hcz28_1 : w14.cell? ⟨gb334, 1, none⟩ = some (.slice none 0 0) := (blk_cell BK334.out 1).trans rfl
have hfz28_0 := blk_frozen BK334.out 0
have hfz28_1 := blk_frozen BK334.out 1
have hnb29 := NB328_327.out
have hnc29 := NB327_328.out
have hnb30 := NB328_329.out
have hnc30 := NB329_328.out
have hcz31_0 : w14.cell? ⟨gb328, 0, none⟩ = some (.int .i64 a1_0) := (blk_cell BK328.out 0).trans rfl
have hcz31_1 : w14.cell? ⟨gb328, 1, none⟩ = some (.int .i64 a1_1) := (blk_cell BK328.out 1).trans rfl
have hcz31_2 : w14.cell? ⟨gb328, 2, none⟩ = some (.slice A1_2 l1_2.length c1_2) := (blk_cell BK328.out 2).trans rfl
have hfz31_0 := blk_frozen BK328.out 0
have hfz31_1 := blk_frozen BK328.out 1
have hfz31_2 := blk_frozen BK328.out 2
go_wp2
go_meet
case rel => exact ⟨_, (decide ((l1_2.length : Int) > 400)), (by first | rfl | (simp; done) | (simp [*]; done)), H', ⟨by first | omega | exact Nat.le_refl _⟩, ⟨by (with_reducible repeat (first | apply Kd.S_alloc | apply Kd.S_drewN | apply Kd.S_drew)); exact Kd.S_mono (Kd.S_far (p := ⟨gb334, 1, none⟩) (Kd.S_far (p := ⟨gb334, 0, none⟩) (Kd.S_types HO333.out BK334.out (by decide)) (fun _ hk => hk.2) (.int .i64 t330)) (fun _ hk => hk.2) (.slice Ao19 t331.length co19)) (fun _ hk => trivial)⟩, ⟨rf2 NB327_334 BK327⟩, ⟨rf2 NB328_334 BK328⟩, ⟨rf2 NB329_334 BK329⟩, ⟨by (with_reducible repeat (first | apply k1 | apply k2 | apply k3)); refine blk_put (cs := #[.int .i64 t330, .slice none 0 0]) ?_ 1 _ rfl; (with_reducible repeat (first | apply k1 | apply k2 | apply k3)); refine blk_put (cs := #[.int .i64 0, .slice none 0 0]) ?_ 0 _ rfl; (with_reducible repeat (first | apply k1 | apply k2 | apply k3)); exact BK334.out⟩, ⟨rb4 HB GE327 GE328 GE329 GE334⟩⟩
)
)
case rest => (
clear HC4
try clear c1
try clear c2
try clear p2
try clear c3
try clear c4
try clear c8
try clear c9
try clear c11
try clear c15
try clear c16
try clear c17
try clear c20
try clear c20b0
try clear c20b1
try clear c20b2
try clear c21
try clear c22
try clear c23
try clear c25
try clear c26
try clear c27
try clear c29
try clear c30
try clear hcz10_0
try clear hcz10_1
try clear hcz12_0
try clear hcz12_1
try clear hcz12_2
try clear hcz18_0
try clear hcz18_1
try clear hcz24_0
try clear hcz24_1
try clear hcz28_0
try clear hcz28_1
try clear hcz31_0
try clear hcz31_1
try clear hcz31_2
try clear hfz10_0
try clear hfz10_1
try clear hfz12_0
try clear hfz12_1
try clear hfz12_2
try clear hfz18_0
try clear hfz18_1
try clear hfz24_0
try clear hfz24_1
try clear hfz28_0
try clear hfz28_1
try clear hfz31_0
try clear hfz31_1
try clear hfz31_2
obtain ⟨kq, x26_3, rfl, HA, HJ3, HO_335001, BK327, BK328, BK329, BK334, HB⟩ := hcut
cases kq with
| zero => exact absurd HA.out (by simp [spec_Patched.j0])
| succ kj3 => (
have H := HA.out
clear HA
simp only [spec_Patched.j0] at H
by_cases c32 : x26_3 = true
·(
subst c32
have H1 : (some (0, ([] : List (List (S98))), false)) = some (r1, r2, r3) := by rw [if_pos rfl] at H; exact H
clear H
have H := H1
clear H1
simp only [Option.some.injEq, Prod.mk.injEq] at H
obtain ⟨rfl, rfl, rfl⟩ := H
have hnb33 := NB329_327.out
have hnc33 := NB327_329.out
have hnb34 := NB329_328.out
have hnc34 := NB328_329.out
have hnb35 := NB329_334.out
have hnc35 := NB334_329.out
have hcz36_0 : wc.cell? ⟨gb329, 0, none⟩ = some (.int .i64 0) := (blk_cell BK329.out 0).trans rfl
have hcz36_1 : wc.cell? ⟨gb329, 1, none⟩ = some (.slice none 0 0) := (blk_cell BK329.out 1).trans rfl
have hfz36_0 := blk_frozen BK329.out 0
have hfz36_1 := blk_frozen BK329.out 1
go_wp2
refine bodyPost_ret (results_ct rfl _ _ gb329 58 #[.int .i64 0, .slice none 0 0] (0, 0) _ rfl (rp_0_1 BK329) Try.underlying58 rfl (by kernel_rfl)) rfl ?_
exact ⟨_, by first | rfl | (simp [errW_none, errW_some] <;> rfl) | (simp [*, errW_none, errW_some] <;> rfl), by first | exact Kd.S_nil _ _ _ _ _ | exact Kd.N_nil _ _ _ _ _ | exact Kd.V_nil _ _ _ _ _ | exact Kd.Q_nil _ _ _ _ _ | exact Kd.R_nil _ _ _ _ _, rb4 HB GE327 GE328 GE329 GE334⟩
)
·(
replace c32 := Bool.eq_false_iff.mpr c32
subst c32
rw [if_neg (show ¬ (false = true) by decide)] at H
have H' := am H
clear H
go_wp2
go_loopg [7] kj3 (fun kq v7 w' => ∃ (x7_2 : Int) (x330000_2 : Int) (x335001_2 : List (List (S98))) (u335001 : Value), v7 = .int .i64 x7_2 ∧ Aside0 (spec_Patched.l0 kq x7_2 a1_0 a1_1 l1_2 t330 x335001_2 = some (r1, r2, r3)) ∧ Aside0 (kq ≤ kj3) ∧ Aside0 (Kd.S (Kd.slice 98 k98) 99 w' w.heap.size (fun _ => True) u335001 x335001_2) ∧ Aside0 (w'.heap[gb327]? = some (.cells #[.int .i64 a0_0, (.slice A0_1 l0_1.length c0_1)] 58 (0, 0))) ∧ Aside0 (w'.heap[gb328]? = some (.cells #[.int .i64 a1_0, .int .i64 a1_1, (.slice A1_2 l1_2.length c1_2)] 53 (0, 0))) ∧ Aside0 (w'.heap[gb329]? = some (.cells #[.int .i64 x330000_2, (.slice none 0 0)] 58 (0, 0))) ∧ Aside0 (w'.heap[gb334]? = some (.cells #[.int .i64 t330, u335001] 58 (0, 0))) ∧ Aside0 (Below w.heap.size w w'))
case atStart => exact ⟨(0), (0), (t331), (.slice Ao19 t331.length co19), (by first | rfl | (simp; done) | (simp [*]; done)), H', ⟨Nat.le_refl _⟩, ⟨rs HO_335001⟩, ⟨rk BK327⟩, ⟨rk BK328⟩, ⟨rk BK329⟩, ⟨rk BK334⟩, ⟨rb4 HB GE327 GE328 GE329 GE334⟩⟩
case round => (
clear H'
try clear c1
try clear c2
try clear p2
try clear c3
try clear c4
try clear c8
try clear c9
try clear c11
try clear c15
try clear c16
try clear c17
try clear c20
try clear c20b0
try clear c20b1
try clear c20b2
try clear c21
try clear c22
try clear c23
try clear c25
try clear c26
try clear c27
try clear c29
try clear c30
try clear c32
try clear c33
try clear c34
try clear c35
try clear hcz10_0
try clear hcz10_1
try clear hcz12_0
try clear hcz12_1
try clear hcz12_2
try clear hcz18_0
try clear hcz18_1
try clear hcz24_0
try clear hcz24_1
try clear hcz28_0
try clear hcz28_1
try clear hcz31_0
try clear hcz31_1
try clear hcz31_2
try clear hcz36_0
try clear hcz36_1
try clear hfz10_0
try clear hfz10_1
try clear hfz12_0
try clear hfz12_1
try clear hfz12_2
try clear hfz18_0
try clear hfz18_1
try clear hfz24_0
try clear hfz24_1
try clear hfz28_0
try clear hfz28_1
try clear hfz31_0
try clear hfz31_1
try clear hfz31_2
try clear hfz36_0
try clear hfz36_1
try clear p2
obtain ⟨x7_2, x330000_2, x335001_2, u335001, rfl, HA, HK2, HO_335001, BK327, BK328, BK329, BK334, HB⟩ := hrel
cases gk with
| zero => exact absurd HA.out (by simp [spec_Patched.l0])
| succ k2 => (
have H := HA.out
clear HA
simp only [spec_Patched.l0] at H
by_cases c37 : x7_2 < (l1_2.length : Int)
·(
rw [if_pos c37] at H
have c37b0 : decide (x7_2 < (l1_2.length : Int)) = true := decide_eq_true c37
clear c37
refine em_ (p := 0 ≤ x7_2) (fun c38 => ?g0p) (fun c38 => ?g0n)
case' g0p => (
rw [if_pos c38] at H
have c38b0 : decide (0 ≤ x7_2) = true := decide_eq_true c38
clear c38
have HC39 := am H
clear H
have lf5_ := trivial
)
case g0n => (
rw [if_neg c38] at H
exact absurd H (by simp)
)
all_goals (
have hnb40 := NB328_327.out
have hnc40 := NB327_328.out
have hnb41 := NB328_329.out
have hnc41 := NB329_328.out
have hnb42 := NB328_334.out
have hnc42 := NB334_328.out
have hcz43_0 : wr.cell? ⟨gb328, 0, none⟩ = some (.int .i64 a1_0) := (blk_cell BK328.out 0).trans rfl
have hcz43_1 : wr.cell? ⟨gb328, 1, none⟩ = some (.int .i64 a1_1) := (blk_cell BK328.out 1).trans rfl
have hcz43_2 : wr.cell? ⟨gb328, 2, none⟩ = some (.slice A1_2 l1_2.length c1_2) := (blk_cell BK328.out 2).trans rfl
have hfz43_0 := blk_frozen BK328.out 0
have hfz43_1 := blk_frozen BK328.out 1
have hfz43_2 := blk_frozen BK328.out 2
have p336 : 0 ≤ (x7_2 : Int) := dt_
have q336 : x7_2 < (l1_2.length : Int) := dt_
obtain ⟨ad336, A336_2, c336_2, e336, hx336_0, hx336_1, hx336_2, hl336_2, hi336_2⟩ := at_T101 HR1_2.out x7_2 p336 q336
cases e336
replace hx336_0 := mv HB.out hx336_0
replace hx336_1 := mv HB.out hx336_1
replace hx336_2 := mv HB.out hx336_2
have HR336_2 := am hi336_2
have HC336_2 := am hl336_2
clear hi336_2 hl336_2
replace p336 := eq_true p336
replace q336 := eq_true q336
go_upto_region 9 with (first | ((with_reducible refine gate_dst (N := 8) rfl ?_); (try (refine gate_guard (by rfl) ?_; dsimp only)); refine box_event ?hg (N := 8) ?hd (cs := #[.int .i64 0, .int .i64 0, .slice none 0 0]) (t := 101) ?hr ?_; (case hd => rfl); (case hg => rfl); (case hr => first | (go_simp; done) | (go_simp; rfl)); intro gb337 hg w44 hbox hb; replace HO_335001 := am (Kd.S_below (rs HO_335001) hb); have BK337 := am (hbox); have GW337 := am (gw hg (rb4 HB GE327 GE328 GE329 GE334)); have GE337 := GW337; replace HB := am (below_step (rb4 HB GE327 GE328 GE329 GE334) hb); have NB327_337 := am (nl hg (rk BK327)); have NB337_327 := am (ng hg (rk BK327)); replace BK327 := am (blk_below (rk BK327) hb); have NB328_337 := am (nl hg (rk BK328)); have NB337_328 := am (ng hg (rk BK328)); replace BK328 := am (blk_below (rk BK328) hb); have NB329_337 := am (nl hg (rk BK329)); have NB337_329 := am (ng hg (rk BK329)); replace BK329 := am (blk_below (rk BK329) hb); have NB334_337 := am (nl hg (rk BK334)); have NB337_334 := am (ng hg (rk BK334)); replace BK334 := am (blk_below (rk BK334) hb); clear hb hbox hg; have hnb45 := NB337_327.out; have hnc45 := NB327_337.out; have hnb46 := NB337_328.out; have hnc46 := NB328_337.out; have hnb47 := NB337_329.out; have hnc47 := NB329_337.out; have hnb48 := NB337_334.out; have hnc48 := NB334_337.out; have hcz49_0 : w44.cell? ⟨gb337, 0, none⟩ = some (.int .i64 0) := (blk_cell BK337.out 0).trans rfl; have hcz49_1 : w44.cell? ⟨gb337, 1, none⟩ = some (.int .i64 0) := (blk_cell BK337.out 1).trans rfl; have hcz49_2 : w44.cell? ⟨gb337, 2, none⟩ = some (.slice none 0 0) := (blk_cell BK337.out 2).trans rfl; have hfz49_0 := blk_frozen BK337.out 0; have hfz49_1 := blk_frozen BK337.out 1; have hfz49_2 := blk_frozen BK337.out 2))
(try simp only [Act.put, List.setIfInBounds_toArray, List.set_cons_zero, List.set_cons_succ])
go_cut [63] (fun v63 wc => ∃ (kq : Nat) (x63_38 : Bool), v63 = .bool x63_38 ∧ Aside0 (spec_Patched.j2 kq x7_2 (((rd_T101 l1_2 x7_2).f2).length : Int) x63_38 a1_0 a1_1 l1_2 t330 x335001_2 ((rd_T101 l1_2 x7_2).f0) ((rd_T101 l1_2 x7_2).f1) ((rd_T101 l1_2 x7_2).f2) = some (r1, r2, r3)) ∧ Aside0 (kq ≤ k2) ∧ Aside0 (Kd.S (Kd.slice 98 k98) 99 wc w.heap.size (fun _ => True) u335001 x335001_2) ∧ Aside0 (wc.heap[gb327]? = some (.cells #[.int .i64 a0_0, (.slice A0_1 l0_1.length c0_1)] 58 (0, 0))) ∧ Aside0 (wc.heap[gb328]? = some (.cells #[.int .i64 a1_0, .int .i64 a1_1, (.slice (some ad336) l1_2.length c1_2)] 53 (0, 0))) ∧ Aside0 (wc.heap[gb329]? = some (.cells #[.int .i64 x330000_2, (.slice none 0 0)] 58 (0, 0))) ∧ Aside0 (wc.heap[gb334]? = some (.cells #[.int .i64 t330, u335001] 58 (0, 0))) ∧ Aside0 (wc.heap[gb337]? = some (.cells #[.int .i64 ((rd_T101 l1_2 x7_2).f0), .int .i64 ((rd_T101 l1_2 x7_2).f1), (.slice A336_2 ((rd_T101 l1_2 x7_2).f2).length c336_2)] 101 (0, 0))) ∧ Aside0 (Below w.heap.size w wc))
case first => (
have H := HC39.out
clear HC39
by_cases c50 : (((rd_T101 l1_2 x7_2).f2).length : Int) < 1
·(
rw [if_pos c50] at H
have c50b0 : decide ((((rd_T101 l1_2 x7_2).f2).length : Int) < 1) = true := decide_eq_true c50
have c50b1 : decide (((rd_T101 l1_2 x7_2).f2).length < 1) = true := decide_eq_true (by omega)
clear c50
(first | rw [c50b0] | (simp only [i64_w, i32_w]; rw [c50b0]) | skip)
have H' := am H
clear H
go_wp2
go_meet
case rel => exact ⟨_, (true), (by first | rfl | (simp; done) | (simp [*]; done)), H', ⟨by have := HJ3.out; have := HK2.out; first | omega | exact Nat.le_refl _⟩, ⟨by (with_reducible repeat (first | apply Kd.S_alloc | apply Kd.S_drewN | apply Kd.S_drew)); exact Kd.S_mono (Kd.S_far (p := ⟨gb337, 2, none⟩) (Kd.S_far (p := ⟨gb337, 1, none⟩) (Kd.S_far (p := ⟨gb337, 0, none⟩) (Kd.S_types HO_335001.out BK337.out (by decide)) (fun _ hk => hk.2) (.int .i64 ((rd_T101 l1_2 x7_2).f0))) (fun _ hk => hk.2) (.int .i64 ((rd_T101 l1_2 x7_2).f1))) (fun _ hk => hk.2) (.slice A336_2 ((rd_T101 l1_2 x7_2).f2).length c336_2)) (fun _ hk => trivial)⟩, ⟨rf3 NB327_337 BK327⟩, ⟨rf3 NB328_337 BK328⟩, ⟨rf3 NB329_337 BK329⟩, ⟨rf3 NB334_337 BK334⟩, ⟨by (with_reducible repeat (first | apply k1 | apply k2 | apply k3)); refine blk_put (cs := #[.int .i64 ((rd_T101 l1_2 x7_2).f0), .int .i64 ((rd_T101 l1_2 x7_2).f1), .slice none 0 0]) ?_ 2 _ rfl; (with_reducible repeat (first | apply k1 | apply k2 | apply k3)); refine blk_put (cs := #[.int .i64 ((rd_T101 l1_2 x7_2).f0), .int .i64 0, .slice none 0 0]) ?_ 1 _ rfl; (with_reducible repeat (first | apply k1 | apply k2 | apply k3)); refine blk_put (cs := #[.int .i64 0, .int .i64 0, .slice none 0 0]) ?_ 0 _ rfl; (with_reducible repeat (first | apply k1 | apply k2 | apply k3)); exact BK337.out⟩, ⟨rb5 HB GE327 GE328 GE329 GE334 GE337⟩⟩
)
·(
rw [if_neg c50] at H
have c50b0 : decide ((((rd_T101 l1_2 x7_2).f2).length : Int) < 1) = false := decide_eq_false c50
have c50b1 : decide (((rd_T101 l1_2 x7_2).f2).length < 1) = false := decide_eq_false (by omega)
clear c50
(first | rw [c50b0] | (simp only [i64_w, i32_w]; rw [c50b0]) | skip)
replace H := Option.bind_eq_some_iff.mp H
obtain ⟨t338, A510, H⟩ := H
(try dsimp only at H)
have A51 := am A510
clear A510
refine em_ (p := t338 = true) (fun c52 => ?g2p) (fun c52 => ?g2n)
case' g2p => (
subst c52
rw [if_pos rfl] at H
replace H := Option.bind_eq_some_iff.mp H
obtain ⟨t339, A530, H⟩ := H
(try dsimp only at H)
have A53 := am A530
clear A530
have H' := am H
clear H
have lf9_ := trivial
)
case' g2n => (
replace c52 := Bool.eq_false_iff.mpr c52
subst c52
rw [if_neg (show ¬ (false = true) by decide)] at H
have H' := am H
clear H
have lf10_ := trivial
)
all_goals (
have hnb54 := NB337_327.out
have hnc54 := NB327_337.out
have hnb55 := NB337_328.out
have hnc55 := NB328_337.out
have hnb56 := NB337_329.out
have hnc56 := NB329_337.out
have hnb57 := NB337_334.out
have hnc57 := NB334_337.out
have hcz58_0 : w44.cell? ⟨gb337, 0, none⟩ = some (.int .i64 0) := (blk_cell BK337.out 0).trans rfl
have hcz58_1 : w44.cell? ⟨gb337, 1, none⟩ = some (.int .i64 0) := (blk_cell BK337.out 1).trans rfl
have hcz58_2 : w44.cell? ⟨gb337, 2, none⟩ = some (.slice none 0 0) := (blk_cell BK337.out 2).trans rfl
have hfz58_0 := blk_frozen BK337.out 0
have hfz58_1 := blk_frozen BK337.out 1
have hfz58_2 := blk_frozen BK337.out 2
have hnb59 := NB328_327.out
have hnc59 := NB327_328.out
have hnb60 := NB328_329.out
have hnc60 := NB329_328.out
have hnb61 := NB328_334.out
have hnc61 := NB334_328.out
have hcz62_0 : w44.cell? ⟨gb328, 0, none⟩ = some (.int .i64 a1_0) := (blk_cell BK328.out 0).trans rfl
have hcz62_1 : w44.cell? ⟨gb328, 1, none⟩ = some (.int .i64 a1_1) := (blk_cell BK328.out 1).trans rfl
have hcz62_2 : w44.cell? ⟨gb328, 2, none⟩ = some (.slice (some ad336) l1_2.length c1_2) := (blk_cell BK328.out 2).trans rfl
have hfz62_0 := blk_frozen BK328.out 0
have hfz62_1 := blk_frozen BK328.out 1
have hfz62_2 := blk_frozen BK328.out 2
go_wp2_with (first | (go_at_call 60; (with_reducible refine (spec_l1In.calls ((rd_T101 l1_2 x7_2).f1) 0 (wrap64 (a1_0 - (((rd_T101 l1_2 x7_2).f2).length : Int))) t339 _ A53.out).mono ?_); rintro e w' ⟨rfl, ⟨nd, rfl⟩⟩) | (go_at_call 60; (with_reducible refine (spec_l1In.calls ((rd_T101 l1_2 x7_2).f0) 0 (wrap64 (a1_1 - 1)) false _ A51.out).mono ?_); rintro e w' ⟨rfl, ⟨nd, rfl⟩⟩) | (go_at_call 60; (with_reducible refine (spec_l1In.calls ((rd_T101 l1_2 x7_2).f0) 0 (wrap64 (a1_1 - 1)) true _ A51.out).mono ?_); rintro e w' ⟨rfl, ⟨nd, rfl⟩⟩))
go_meet
first
| (
have q_ := lf9_
case rel => exact ⟨_, (!t339), (by first | rfl | (simp; done) | (simp [*]; done)), H', ⟨by have := HJ3.out; have := HK2.out; first | omega | exact Nat.le_refl _⟩, ⟨by (with_reducible repeat (first | apply Kd.S_alloc | apply Kd.S_drewN | apply Kd.S_drew)); exact Kd.S_mono (Kd.S_far (p := ⟨gb337, 2, none⟩) (Kd.S_far (p := ⟨gb337, 1, none⟩) (Kd.S_far (p := ⟨gb337, 0, none⟩) (Kd.S_types HO_335001.out BK337.out (by decide)) (fun _ hk => hk.2) (.int .i64 ((rd_T101 l1_2 x7_2).f0))) (fun _ hk => hk.2) (.int .i64 ((rd_T101 l1_2 x7_2).f1))) (fun _ hk => hk.2) (.slice A336_2 ((rd_T101 l1_2 x7_2).f2).length c336_2)) (fun _ hk => trivial)⟩, ⟨rf3 NB327_337 BK327⟩, ⟨rf3 NB328_337 BK328⟩, ⟨rf3 NB329_337 BK329⟩, ⟨rf3 NB334_337 BK334⟩, ⟨by (with_reducible repeat (first | apply k1 | apply k2 | apply k3)); refine blk_put (cs := #[.int .i64 ((rd_T101 l1_2 x7_2).f0), .int .i64 ((rd_T101 l1_2 x7_2).f1), .slice none 0 0]) ?_ 2 _ rfl; (with_reducible repeat (first | apply k1 | apply k2 | apply k3)); refine blk_put (cs := #[.int .i64 ((rd_T101 l1_2 x7_2).f0), .int .i64 0, .slice none 0 0]) ?_ 1 _ rfl; (with_reducible repeat (first | apply k1 | apply k2 | apply k3)); refine blk_put (cs := #[.int .i64 0, .int .i64 0, .slice none 0 0]) ?_ 0 _ rfl; (with_reducible repeat (first | apply k1 | apply k2 | apply k3)); exact BK337.out⟩, ⟨rb5 HB GE327 GE328 GE329 GE334 GE337⟩⟩
)
| (
have q_ := lf10_
case rel => exact ⟨_, (true), (by first | rfl | (simp; done) | (simp [*]; done)), H', ⟨by have := HJ3.out; have := HK2.out; first | omega | exact Nat.le_refl _⟩, ⟨by (with_reducible repeat (first | apply Kd.S_alloc | apply Kd.S_drewN | apply Kd.S_drew)); exact Kd.S_mono (Kd.S_far (p := ⟨gb337, 2, none⟩) (Kd.S_far (p := ⟨gb337, 1, none⟩) (Kd.S_far (p := ⟨gb337, 0, none⟩) (Kd.S_types HO_335001.out BK337.out (by decide)) (fun _ hk => hk.2) (.int .i64 ((rd_T101 l1_2 x7_2).f0))) (fun _ hk => hk.2) (.int .i64 ((rd_T101 l1_2 x7_2).f1))) (fun _ hk => hk.2) (.slice A336_2 ((rd_T101 l1_2 x7_2).f2).length c336_2)) (fun _ hk => trivial)⟩, ⟨rf3 NB327_337 BK327⟩, ⟨rf3 NB328_337 BK328⟩, ⟨rf3 NB329_337 BK329⟩, ⟨rf3 NB334_337 BK334⟩, ⟨by (with_reducible repeat (first | apply k1 | apply k2 | apply k3)); refine blk_put (cs := #[.int .i64 ((rd_T101 l1_2 x7_2).f0), .int .i64 ((rd_T101 l1_2 x7_2).f1), .slice none 0 0]) ?_ 2 _ rfl; (with_reducible repeat (first | apply k1 | apply k2 | apply k3)); refine blk_put (cs := #[.int .i64 ((rd_T101 l1_2 x7_2).f0), .int .i64 0, .slice none 0 0]) ?_ 1 _ rfl; (with_reducible repeat (first | apply k1 | apply k2 | apply k3)); refine blk_put (cs := #[.int .i64 0, .int .i64 0, .slice none 0 0]) ?_ 0 _ rfl; (with_reducible repeat (first | apply k1 | apply k2 | apply k3)); exact BK337.out⟩, ⟨rb5 HB GE327 GE328 GE329 GE334 GE337⟩⟩
)
)
)
)
case rest => (
clear HC39
try clear c1
try clear c2
try clear p2
try clear c3
try clear p3
try clear q3
try clear hx3
try clear c4
try clear c5
try clear c6
try clear p6
try clear c7
try clear c8
try clear c9
try clear c11
try clear c15
try clear c16
try clear c17
try clear c20
try clear c20b0
try clear c20b1
try clear c20b2
try clear c21
try clear c22
try clear c23
try clear c25
try clear c26
try clear c27
try clear c29
try clear c30
try clear c32
try clear c33
try clear p33
try clear q33
try clear hx33
try clear c34
try clear c35
try clear c37
try clear c37b0
try clear c38
try clear c38b0
try clear c40
try clear c41
try clear c42
try clear c45
try clear c46
try clear c47
try clear c48
try clear c50
try clear c50b0
try clear c50b1
try clear c52
try clear c54
try clear c55
try clear c56
try clear c57
try clear c59
try clear c60
try clear c61
try clear c63
try clear c64
try clear p64
try clear c65
try clear c66
try clear c68
try clear c69
try clear c70
try clear hcz10_0
try clear hcz10_1
try clear hcz12_0
try clear hcz12_1
try clear hcz12_2
try clear hcz18_0
try clear hcz18_1
try clear hcz24_0
try clear hcz24_1
try clear hcz28_0
try clear hcz28_1
try clear hcz31_0
try clear hcz31_1
try clear hcz31_2
try clear hcz36_0
try clear hcz36_1
try clear hcz43_0
try clear hcz43_1
try clear hcz43_2
try clear hcz49_0
try clear hcz49_1
try clear hcz49_2
try clear hcz58_0
try clear hcz58_1
try clear hcz58_2
try clear hcz62_0
try clear hcz62_1
try clear hcz62_2
try clear hcz67_0
try clear hcz67_1
try clear hcz67_2
try clear hcz71_0
try clear hcz71_1
try clear hcz71_2
try clear hfz10_0
try clear hfz10_1
try clear hfz12_0
try clear hfz12_1
try clear hfz12_2
try clear hfz18_0
try clear hfz18_1
try clear hfz24_0
try clear hfz24_1
try clear hfz28_0
try clear hfz28_1
try clear hfz31_0
try clear hfz31_1
try clear hfz31_2
try clear hfz36_0
try clear hfz36_1
try clear hfz43_0
try clear hfz43_1
try clear hfz43_2
try clear hfz49_0
try clear hfz49_1
try clear hfz49_2
try clear hfz58_0
try clear hfz58_1
try clear hfz58_2
try clear hfz62_0
try clear hfz62_1
try clear hfz62_2
try clear hfz67_0
try clear hfz67_1
try clear hfz67_2
try clear hfz71_0
try clear hfz71_1
try clear hfz71_2
try clear hx336_0
try clear hx336_1
try clear hx336_2
try clear p2
try clear p336
try clear q336
obtain ⟨kq, x63_38, rfl, HA, HJ38, HO_335001, BK327, BK328, BK329, BK334, BK337, HB⟩ := hcut
cases kq with
| zero => exact absurd HA.out (by simp [spec_Patched.j2])
| succ kj38 => (
have H := HA.out
clear HA
simp only [spec_Patched.j2] at H
by_cases c72 : x63_38 = true
·(
subst c72
have H1 : (some (0, ([] : List (List (S98))), false)) = some (r1, r2, r3) := by rw [if_pos rfl] at H; exact H
clear H
have H := H1
clear H1
simp only [Option.some.injEq, Prod.mk.injEq] at H
obtain ⟨rfl, rfl, rfl⟩ := H
have hnb73 := NB329_327.out
have hnc73 := NB327_329.out
have hnb74 := NB329_328.out
have hnc74 := NB328_329.out
have hnb75 := NB329_334.out
have hnc75 := NB334_329.out
have hnb76 := NB329_337.out
have hnc76 := NB337_329.out
have hcz77_0 : wc.cell? ⟨gb329, 0, none⟩ = some (.int .i64 x330000_2) := (blk_cell BK329.out 0).trans rfl
have hcz77_1 : wc.cell? ⟨gb329, 1, none⟩ = some (.slice none 0 0) := (blk_cell BK329.out 1).trans rfl
have hfz77_0 := blk_frozen BK329.out 0
have hfz77_1 := blk_frozen BK329.out 1
go_wp2
refine bodyPost_ret (results_ct rfl _ _ gb329 58 #[.int .i64 0, .slice none 0 0] (0, 0) _ rfl (rp_0_1 BK329) Try.underlying58 rfl (by kernel_rfl)) rfl ?_
exact ⟨_, by first | rfl | (simp [errW_none, errW_some] <;> rfl) | (simp [*, errW_none, errW_some] <;> rfl), by first | exact Kd.S_nil _ _ _ _ _ | exact Kd.N_nil _ _ _ _ _ | exact Kd.V_nil _ _ _ _ _ | exact Kd.Q_nil _ _ _ _ _ | exact Kd.R_nil _ _ _ _ _, rb5 HB GE327 GE328 GE329 GE334 GE337⟩
)
·(
replace c72 := Bool.eq_false_iff.mpr c72
subst c72
rw [if_neg (show ¬ (false = true) by decide)] at H
have H' := am H
clear H
go_wp2
go_loopg [10] kj38 (fun kq v10 w' => ∃ (x10_4 : Int) (x335001_4 : List (List (S98))) (u335001 : Value), v10 = .int .i64 x10_4 ∧ Aside0 (spec_Patched.l1 kq x7_2 (((rd_T101 l1_2 x7_2).f2).length : Int) x10_4 a1_0 a1_1 l1_2 t330 x335001_4 ((rd_T101 l1_2 x7_2).f0) ((rd_T101 l1_2 x7_2).f1) ((rd_T101 l1_2 x7_2).f2) = some (r1, r2, r3)) ∧ Aside0 (kq ≤ kj38) ∧ Aside0 (Kd.S (Kd.slice 98 k98) 99 w' w.heap.size (fun _ => True) u335001 x335001_4) ∧ Aside0 (w'.heap[gb327]? = some (.cells #[.int .i64 a0_0, (.slice A0_1 l0_1.length c0_1)] 58 (0, 0))) ∧ Aside0 (w'.heap[gb328]? = some (.cells #[.int .i64 a1_0, .int .i64 a1_1, (.slice (some ad336) l1_2.length c1_2)] 53 (0, 0))) ∧ Aside0 (w'.heap[gb329]? = some (.cells #[.int .i64 x330000_2, (.slice none 0 0)] 58 (0, 0))) ∧ Aside0 (w'.heap[gb334]? = some (.cells #[.int .i64 t330, u335001] 58 (0, 0))) ∧ Aside0 (w'.heap[gb337]? = some (.cells #[.int .i64 ((rd_T101 l1_2 x7_2).f0), .int .i64 ((rd_T101 l1_2 x7_2).f1), (.slice A336_2 ((rd_T101 l1_2 x7_2).f2).length c336_2)] 101 (0, 0))) ∧ Aside0 (Below w.heap.size w w'))
case atStart => exact ⟨(0), (x335001_2), (u335001), (by first | rfl | (simp; done) | (simp [*]; done)), H', ⟨Nat.le_refl _⟩, ⟨rs HO_335001⟩, ⟨rk BK327⟩, ⟨rk BK328⟩, ⟨rk BK329⟩, ⟨rk BK334⟩, ⟨rk BK337⟩, ⟨rb5 HB GE327 GE328 GE329 GE334 GE337⟩⟩
case round => (
clear H'
try clear c1
try clear c2
try clear p2
try clear c3
try clear p3
try clear q3
try clear hx3
try clear c4
try clear c5
try clear c6
try clear p6
try clear c7
try clear c8
try clear c9
try clear c11
try clear c15
try clear c16
try clear c17
try clear c20
try clear c20b0
try clear c20b1
try clear c20b2
try clear c21
try clear c22
try clear c23
try clear c25
try clear c26
try clear c27
try clear c29
try clear c30
try clear c32
try clear c33
try clear p33
try clear q33
try clear hx33
try clear c34
try clear c35
try clear c37
try clear c37b0
try clear c38
try clear c38b0
try clear c40
try clear c41
try clear c42
try clear c45
try clear c46
try clear c47
try clear c48
try clear c50
try clear c50b0
try clear c50b1
try clear c52
try clear c54
try clear c55
try clear c56
try clear c57
try clear c59
try clear c60
try clear c61
try clear c63
try clear c64
try clear p64
try clear c65
try clear c66
try clear c68
try clear c69
try clear c70
try clear c72
try clear c73
try clear c74
try clear c75
try clear c76
try clear hcz10_0
try clear hcz10_1
try clear hcz12_0
try clear hcz12_1
try clear hcz12_2
try clear hcz18_0
try clear hcz18_1
try clear hcz24_0
try clear hcz24_1
try clear hcz28_0
try clear hcz28_1
try clear hcz31_0
try clear hcz31_1
try clear hcz31_2
try clear hcz36_0
try clear hcz36_1
try clear hcz43_0
try clear hcz43_1
try clear hcz43_2
try clear hcz49_0
try clear hcz49_1
try clear hcz49_2
try clear hcz58_0
try clear hcz58_1
try clear hcz58_2
try clear hcz62_0
try clear hcz62_1
try clear hcz62_2
try clear hcz67_0
try clear hcz67_1
try clear hcz67_2
try clear hcz71_0
try clear hcz71_1
try clear hcz71_2
try clear hcz77_0
try clear hcz77_1
try clear hfz10_0
try clear hfz10_1
try clear hfz12_0
try clear hfz12_1
try clear hfz12_2
try clear hfz18_0
try clear hfz18_1
try clear hfz24_0
try clear hfz24_1
try clear hfz28_0
try clear hfz28_1
try clear hfz31_0
try clear hfz31_1
try clear hfz31_2
try clear hfz36_0
try clear hfz36_1
try clear hfz43_0
try clear hfz43_1
try clear hfz43_2
try clear hfz49_0
try clear hfz49_1
try clear hfz49_2
try clear hfz58_0
try clear hfz58_1
try clear hfz58_2
try clear hfz62_0
try clear hfz62_1
try clear hfz62_2
try clear hfz67_0
try clear hfz67_1
try clear hfz67_2
try clear hfz71_0
try clear hfz71_1
try clear hfz71_2
try clear hfz77_0
try clear hfz77_1
try clear hx336_0
try clear hx336_1
try clear hx336_2
try clear p2
try clear p3
try clear p33
try clear p336
try clear p6
try clear p64
try clear q3
try clear q33
try clear q336
obtain ⟨x10_4, x335001_4, u335001, rfl, HA, HK4, HO_335001, BK327, BK328, BK329, BK334, BK337, HB⟩ := hrel
cases gk with
| zero => exact absurd HA.out (by simp [spec_Patched.l1])
| succ k4 => (
have H := HA.out
clear HA
simp only [spec_Patched.l1] at H
by_cases c78 : x10_4 < (((rd_T101 l1_2 x7_2).f2).length : Int)
·(
rw [if_pos c78] at H
have c78b0 : decide (x10_4 < (((rd_T101 l1_2 x7_2).f2).length : Int)) = true := decide_eq_true c78
clear c78
refine em_ (p := 0 ≤ ((rd_T101 l1_2 x7_2).f0)) (fun c79 => ?g8p) (fun c79 => ?g8n)
case' g8p => (
rw [if_pos c79] at H
have c79b0 : decide (0 ≤ ((rd_T101 l1_2 x7_2).f0)) = true := decide_eq_true c79
clear c79
refine em_ (p := ((rd_T101 l1_2 x7_2).f0) < (x335001_4.length : Int)) (fun c80 => ?g7p) (fun c80 => ?g7n)
case' g7p => (
rw [if_pos c80] at H
have c80b0 : decide (((rd_T101 l1_2 x7_2).f0) < (x335001_4.length : Int)) = true := decide_eq_true c80
clear c80
refine em_ (p := 0 ≤ x10_4) (fun c81 => ?g6p) (fun c81 => ?g6n)
case' g6p => (
rw [if_pos c81] at H
have c81b0 : decide (0 ≤ x10_4) = true := decide_eq_true c81
clear c81
refine em_ (p := x10_4 < (((rd_T101 l1_2 x7_2).f2).length : Int)) (fun c82 => ?g5p) (fun c82 => ?g5n)
case' g5p => (
rw [if_pos c82] at H
have c82b0 : decide (x10_4 < (((rd_T101 l1_2 x7_2).f2).length : Int)) = true := decide_eq_true c82
clear c82
obtain ⟨ji83, hji83⟩ : ∃ j_ : Int, (wrap64 (((rd_T101 l1_2 x7_2).f1) + x10_4)) = j_ := ⟨_, rfl⟩
replace H : (if 0 ≤ (ji83) then (if (ji83) < ((rd_L7 x335001_4 ((rd_T101 l1_2 x7_2).f0)).length : Int) then (spec_Patched.l1 k4 x7_2 (((rd_T101 l1_2 x7_2).f2).length : Int) (wrap64 (x10_4 + 1)) a1_0 a1_1 l1_2 t330 (x335001_4.set (((rd_T101 l1_2 x7_2).f0) : Int).toNat ((rd_L7 x335001_4 ((rd_T101 l1_2 x7_2).f0)).set ((ji83) : Int).toNat (⟨(rd_T98 ((rd_T101 l1_2 x7_2).f2) x10_4).f0, (⟨(rd_T98 ((rd_T101 l1_2 x7_2).f2) x10_4).f1.f0, (rd_T98 ((rd_T101 l1_2 x7_2).f2) x10_4).f1.f1, (rd_T98 ((rd_T101 l1_2 x7_2).f2) x10_4).f1.f2, (rd_T98 ((rd_T101 l1_2 x7_2).f2) x10_4).f1.f3, (rd_T98 ((rd_T101 l1_2 x7_2).f2) x10_4).f1.f4⟩ : S96), (rd_T98 ((rd_T101 l1_2 x7_2).f2) x10_4).f2⟩ : S98))) ((rd_T101 l1_2 x7_2).f0) ((rd_T101 l1_2 x7_2).f1) ((rd_T101 l1_2 x7_2).f2)) else (none)) else (none)) = some (r1, r2, r3) := by first | (rw [hji83] at H; exact H) | (simp only [hji83] at H ⊢; exact H)
have hji83w : (IntKind.i64.wrap (((rd_T101 l1_2 x7_2).f1) + x10_4)) = ji83 := (i64_w _).trans hji83
refine em_ (p := 0 ≤ (ji83)) (fun c84 => ?g4p) (fun c84 => ?g4n)
case' g4p => (
rw [if_pos c84] at H
have c84b0 : decide (0 ≤ (ji83)) = true := decide_eq_true c84
clear c84
refine em_ (p := (ji83) < ((rd_L7 x335001_4 ((rd_T101 l1_2 x7_2).f0)).length : Int)) (fun c85 => ?g3p) (fun c85 => ?g3n)
case' g3p => (
rw [if_pos c85] at H
have c85b0 : decide ((ji83) < ((rd_L7 x335001_4 ((rd_T101 l1_2 x7_2).f0)).length : Int)) = true := decide_eq_true c85
clear c85
obtain ⟨y342, hy342⟩ : ∃ y_ : List (S98), y_ = ((rd_L7 x335001_4 ((rd_T101 l1_2 x7_2).f0)).set ((ji83) : Int).toNat (⟨(rd_T98 ((rd_T101 l1_2 x7_2).f2) x10_4).f0, (⟨(rd_T98 ((rd_T101 l1_2 x7_2).f2) x10_4).f1.f0, (rd_T98 ((rd_T101 l1_2 x7_2).f2) x10_4).f1.f1, (rd_T98 ((rd_T101 l1_2 x7_2).f2) x10_4).f1.f2, (rd_T98 ((rd_T101 l1_2 x7_2).f2) x10_4).f1.f3, (rd_T98 ((rd_T101 l1_2 x7_2).f2) x10_4).f1.f4⟩ : S96), (rd_T98 ((rd_T101 l1_2 x7_2).f2) x10_4).f2⟩ : S98)) := ⟨_, rfl⟩
replace H : (spec_Patched.l1 k4 x7_2 (((rd_T101 l1_2 x7_2).f2).length : Int) (wrap64 (x10_4 + 1)) a1_0 a1_1 l1_2 t330 (x335001_4.set (((rd_T101 l1_2 x7_2).f0) : Int).toNat y342) ((rd_T101 l1_2 x7_2).f0) ((rd_T101 l1_2 x7_2).f1) ((rd_T101 l1_2 x7_2).f2)) = some (r1, r2, r3) := by first | (rw [hy342]; with_reducible exact H) | (rw [hy342]; exact H) | exact H
have Ny342 := am hy342
clear hy342
obtain ⟨y344, hy344⟩ : ∃ y_ : List (List (S98)), y_ = (x335001_4.set (((rd_T101 l1_2 x7_2).f0) : Int).toNat y342) := ⟨_, rfl⟩
replace H : (spec_Patched.l1 k4 x7_2 (((rd_T101 l1_2 x7_2).f2).length : Int) (wrap64 (x10_4 + 1)) a1_0 a1_1 l1_2 t330 y344 ((rd_T101 l1_2 x7_2).f0) ((rd_T101 l1_2 x7_2).f1) ((rd_T101 l1_2 x7_2).f2)) = some (r1, r2, r3) := by first | (rw [hy344]; with_reducible exact H) | (rw [hy344]; exact H) | exact H
have Ny344 := am hy344
clear hy344
have H' := am H
clear H
have lf13_ := trivial
)
case g3n => (
rw [if_neg c85] at H
exact absurd H (by simp)
)
)
case g4n => (
rw [if_neg c84] at H
exact absurd H (by simp)
)
)
case g5n => (
rw [if_neg c82] at H
exact absurd H (by simp)
)
)
case g6n => (
rw [if_neg c81] at H
exact absurd H (by simp)
)
)
case g7n => (
rw [if_neg c80] at H
exact absurd H (by simp)
)
)
case g8n => (
rw [if_neg c79] at H
exact absurd H (by simp)
)
all_goals (
try go_wp2
replace HO_335001 := am (Kd.S_drew HO_335001.out)
replace BK327 := am (blk_drew BK327.out)
replace BK328 := am (blk_drew BK328.out)
replace BK329 := am (blk_drew BK329.out)
replace BK334 := am (blk_drew BK334.out)
replace BK337 := am (blk_drew BK337.out)
replace HB := am (below_drew1 HB.out)
obtain ⟨Ao88, co88, eo88⟩ := Kd.S_slice HO_335001.out
(first | subst eo88 | (injection eo88 with f1_ f2_ f3_; have f4_ := f1_.symm; have f5_ := f3_.symm; clear f1_ f2_ f3_; subst f4_; subst f5_))
have p340 : 0 ≤ (((rd_T101 l1_2 x7_2).f0) : Int) := dt_
have q340 : ((rd_T101 l1_2 x7_2).f0) < (x335001_4.length : Int) := dt_
obtain ⟨ad340, A340_0, c340_0, e340, hx340_0, hl340_0, hi340_0⟩ := at_L7 (Kd.S_reads' HO_335001.out).2.2 ((rd_T101 l1_2 x7_2).f0) p340 q340
cases e340
obtain ⟨ce340, hce340, hMe340, hcc340⟩ := Kd.S_get HO_335001.out [] ((rd_T101 l1_2 x7_2).f0) p340 (by first | exact q340 | exact dt_ | (have e_ := (Kd.S_reads' HO_335001.out).1; omega))
obtain ⟨ve340_0, rfl, ge340_0⟩ := hMe340
have hv340_0 := hcc340 0 _ rfl
rw [Nat.add_zero, show ((Kd.slice 98 k98)).sz = 1 from rfl, Nat.mul_one] at hv340_0
replace hv340_0 := Option.some.inj (hv340_0.symm.trans hx340_0)
rw [hv340_0] at ge340_0
have HL340_0 := am (show Kd.R k98 98 _ _ _ _ (rd_L7 x335001_4 ((rd_T101 l1_2 x7_2).f0)) from ge340_0)
clear hv340_0 ge340_0
have HX340_0 := am hx340_0
clear hcc340 hce340
have HR340_0 := am hi340_0
have HC340_0 := am hl340_0
clear hi340_0 hl340_0
replace p340 := eq_true p340
replace q340 := eq_true q340
have p341 : 0 ≤ (x10_4 : Int) := dt_
have q341 : x10_4 < (((rd_T101 l1_2 x7_2).f2).length : Int) := dt_
obtain ⟨ad341, e341, hx341_0, hx341_1, hx341_2, hx341_3, hx341_4, hx341_5, hx341_6⟩ := at_T98 HR336_2.out x10_4 p341 q341
have hw341_6 := hx341_6
have hw341_5 := hx341_5
have hw341_4 := hx341_4
have hw341_3 := hx341_3
have hw341_2 := hx341_2
have hw341_1 := hx341_1
have hw341_0 := hx341_0
cases e341
replace hx341_0 := mv HB.out hx341_0
replace hx341_1 := mv HB.out hx341_1
replace hx341_2 := mv HB.out hx341_2
replace hx341_3 := mv HB.out hx341_3
replace hx341_4 := mv HB.out hx341_4
replace hx341_5 := mv HB.out hx341_5
replace hx341_6 := mv HB.out hx341_6
replace p341 := eq_true p341
replace q341 := eq_true q341
have p86 : 0 ≤ ((ji83) : Int) := dt_
have q86 : ((ji83) : Int) < (((rd_L7 x335001_4 ((rd_T101 l1_2 x7_2).f0)).length : Int) : Int) := dt_
obtain ⟨go86, co86, eo86, gb86, gl86, cl86, HG86⟩ := Kd.R_form HL340_0.out (by omega)
(first | cases eo86 | (injection eo86 with ea_ en_ ec_; (first | subst ea_ | (injection ea_ with ea_; subst ea_)); subst ec_; clear en_))
have GB86 := am gb86
have GG86 := am HG86
clear gb86 gl86 HG86
obtain ⟨ce86, hcl86, hM86, hcc86, hfr86⟩ := Kd.R_elem HL340_0.out z98 ((ji83) : Int) p86 q86
obtain rfl := k98_openM hM86
have hx86_0 : World.cell? _ ⟨go86, ((ji83) : Int).toNat * 7, none⟩ = some (.int .i64 ((rd_T98 (rd_L7 x335001_4 ((rd_T101 l1_2 x7_2).f0)) (ji83)).f0)) := hcc86 0 _ rfl
have hx86_1 : World.cell? _ ⟨go86, ((ji83) : Int).toNat * 7 + 1, none⟩ = some (.int .i64 ((rd_T98 (rd_L7 x335001_4 ((rd_T101 l1_2 x7_2).f0)) (ji83)).f1.f0)) := hcc86 1 _ rfl
have hx86_2 : World.cell? _ ⟨go86, ((ji83) : Int).toNat * 7 + 2, none⟩ = some (.int .i64 ((rd_T98 (rd_L7 x335001_4 ((rd_T101 l1_2 x7_2).f0)) (ji83)).f1.f1)) := hcc86 2 _ rfl
have hx86_3 : World.cell? _ ⟨go86, ((ji83) : Int).toNat * 7 + 3, none⟩ = some (.bool ((rd_T98 (rd_L7 x335001_4 ((rd_T101 l1_2 x7_2).f0)) (ji83)).f1.f2)) := hcc86 3 _ rfl
have hx86_4 : World.cell? _ ⟨go86, ((ji83) : Int).toNat * 7 + 4, none⟩ = some (.bool ((rd_T98 (rd_L7 x335001_4 ((rd_T101 l1_2 x7_2).f0)) (ji83)).f1.f3)) := hcc86 4 _ rfl
have hx86_5 : World.cell? _ ⟨go86, ((ji83) : Int).toNat * 7 + 5, none⟩ = some (.bool ((rd_T98 (rd_L7 x335001_4 ((rd_T101 l1_2 x7_2).f0)) (ji83)).f1.f4)) := hcc86 5 _ rfl
have hx86_6 : World.cell? _ ⟨go86, ((ji83) : Int).toNat * 7 + 6, none⟩ = some (.int .i64 ((rd_T98 (rd_L7 x335001_4 ((rd_T101 l1_2 x7_2).f0)) (ji83)).f2)) := hcc86 6 _ rfl
have hf86_0 : World.frozen? _ ⟨go86, ((ji83) : Int).toNat * 7, none⟩ = false := hfr86 0
have hf86_1 : World.frozen? _ ⟨go86, ((ji83) : Int).toNat * 7 + 1, none⟩ = false := hfr86 1
have hf86_2 : World.frozen? _ ⟨go86, ((ji83) : Int).toNat * 7 + 2, none⟩ = false := hfr86 2
have hf86_3 : World.frozen? _ ⟨go86, ((ji83) : Int).toNat * 7 + 3, none⟩ = false := hfr86 3
have hf86_4 : World.frozen? _ ⟨go86, ((ji83) : Int).toNat * 7 + 4, none⟩ = false := hfr86 4
have hf86_5 : World.frozen? _ ⟨go86, ((ji83) : Int).toNat * 7 + 5, none⟩ = false := hfr86 5
have hf86_6 : World.frozen? _ ⟨go86, ((ji83) : Int).toNat * 7 + 6, none⟩ = false := hfr86 6
clear hcl86 hcc86 hfr86 hM86
replace p86 := eq_true p86
replace q86 := eq_true q86
have hq89 : (((rd_T101 l1_2 x7_2).f0) : Int) < (x335001_4.length : Int) := (by have h_ : (((rd_T101 l1_2 x7_2).f0) : Int) < ((x335001_4.length : Int) : Int) := dt_; first | exact h_ | (have e_ := (Kd.S_reads' HO_335001.out).1; omega) | simpa only [List.length_set, List.length_set] using h_)
obtain ⟨oki89, ce89, hcl89, hM89, hcc89, hok89, hbk89⟩ := Kd.S_borrow HO_335001.out [] (((rd_T101 l1_2 x7_2).f0) : Int) dt_ hq89
obtain ⟨ve89_0, rfl, ge89_0⟩ := hM89
have hv89 := hcc89 0 _ rfl
rw [Nat.add_zero, show ((Kd.slice 98 k98)).sz = 1 from rfl, Nat.mul_one] at hv89
replace hv89 := Option.some.inj (hv89.symm.trans HX340_0.out)
subst hv89
clear hcc89 hcl89
replace ge89_0 := (show Kd.R k98 98 _ _ _ _ (rd_L7 x335001_4 ((rd_T101 l1_2 x7_2).f0)) from ge89_0)
obtain ⟨cf89, hcl89, hN89, hcc89, hfr89⟩ := Kd.R_elem ge89_0 z98 ((ji83) : Int) dt_ (by have h_ : ((ji83) : Int) < (((rd_L7 x335001_4 ((rd_T101 l1_2 x7_2).f0)).length : Int) : Int) := dt_; first | exact h_ | (have e_ := (Kd.R_reads' HR340_0.out).1; omega) | simpa using h_)
obtain rfl := k98_openM hN89
have HP89 := Kd.R_seg ge89_0 ((ji83) : Int) dt_ (by have h_ : ((ji83) : Int) < (((rd_L7 x335001_4 ((rd_T101 l1_2 x7_2).f0)).length : Int) : Int) := dt_; first | exact h_ | (have e_ := (Kd.R_reads' HR340_0.out).1; omega) | simpa using h_) (seg := [.int .i64 ((rd_T98 ((rd_T101 l1_2 x7_2).f2) x10_4).f0), .int .i64 ((rd_T98 ((rd_T101 l1_2 x7_2).f2) x10_4).f1.f0), .int .i64 ((rd_T98 ((rd_T101 l1_2 x7_2).f2) x10_4).f1.f1), .bool ((rd_T98 ((rd_T101 l1_2 x7_2).f2) x10_4).f1.f2), .bool ((rd_T98 ((rd_T101 l1_2 x7_2).f2) x10_4).f1.f3), .bool ((rd_T98 ((rd_T101 l1_2 x7_2).f2) x10_4).f1.f4), .int .i64 ((rd_T98 ((rd_T101 l1_2 x7_2).f2) x10_4).f2)]) (j := 0) hcl89 hcc89 (show 7 ≤ 7 from by decide) (x' := (⟨(rd_T98 ((rd_T101 l1_2 x7_2).f2) x10_4).f0, (⟨(rd_T98 ((rd_T101 l1_2 x7_2).f2) x10_4).f1.f0, (rd_T98 ((rd_T101 l1_2 x7_2).f2) x10_4).f1.f1, (rd_T98 ((rd_T101 l1_2 x7_2).f2) x10_4).f1.f2, (rd_T98 ((rd_T101 l1_2 x7_2).f2) x10_4).f1.f3, (rd_T98 ((rd_T101 l1_2 x7_2).f2) x10_4).f1.f4⟩ : S96), (rd_T98 ((rd_T101 l1_2 x7_2).f2) x10_4).f2⟩ : S98)) (k98_mkM _ _ _ (⟨(rd_T98 ((rd_T101 l1_2 x7_2).f2) x10_4).f0, (⟨(rd_T98 ((rd_T101 l1_2 x7_2).f2) x10_4).f1.f0, (rd_T98 ((rd_T101 l1_2 x7_2).f2) x10_4).f1.f1, (rd_T98 ((rd_T101 l1_2 x7_2).f2) x10_4).f1.f2, (rd_T98 ((rd_T101 l1_2 x7_2).f2) x10_4).f1.f3, (rd_T98 ((rd_T101 l1_2 x7_2).f2) x10_4).f1.f4⟩ : S96), (rd_T98 ((rd_T101 l1_2 x7_2).f2) x10_4).f2⟩ : S98)) (fun _ hk => hk)
clear hcl89 hcc89 hfr89 hN89
rw [← Ny342.out] at HP89
have HS89 := hbk89 HP89.2 (fun k_ e_ => by injection e_ with e_; subst e_; exact ge89_0.1 _ rfl) (x' := y342) (Kd.M_row HP89.1)
rw [← Ny344.out] at HS89
have HQ89 := am HS89
clear HP89 HS89 hbk89 hok89
refine start_ (n := 17) (S := fun w' => w'.cell? ⟨gb334, 0, none⟩ = some (.int .i64 t330) ∧ w'.cell? ⟨gb334, 1, none⟩ = some (.slice (some ad340) x335001_4.length co88) ∧ w'.cell? ⟨gb337, 0, none⟩ = some (.int .i64 ((rd_T101 l1_2 x7_2).f0)) ∧ w'.cell? ⟨gb337, 1, none⟩ = some (.int .i64 ((rd_T101 l1_2 x7_2).f1)) ∧ w'.cell? ⟨gb337, 2, none⟩ = some (.slice (some ad341) ((rd_T101 l1_2 x7_2).f2).length c336_2) ∧ w'.cell? (ad340.add (((rd_T101 l1_2 x7_2).f0)).toNat) = some (.slice (some ⟨go86, 0, none⟩) (rd_L7 x335001_4 ((rd_T101 l1_2 x7_2).f0)).length c340_0) ∧ w'.cell? (ad341.add ((x10_4).toNat * 7)) = some (.int .i64 ((rd_T98 ((rd_T101 l1_2 x7_2).f2) x10_4).f0)) ∧ w'.cell? ⟨(ad341.add ((x10_4).toNat * 7)).block, (ad341.add ((x10_4).toNat * 7)).off + 1, none⟩ = some (.int .i64 ((rd_T98 ((rd_T101 l1_2 x7_2).f2) x10_4).f1.f0)) ∧ w'.cell? ⟨(ad341.add ((x10_4).toNat * 7)).block, (ad341.add ((x10_4).toNat * 7)).off + 2, none⟩ = some (.int .i64 ((rd_T98 ((rd_T101 l1_2 x7_2).f2) x10_4).f1.f1)) ∧ w'.cell? ⟨(ad341.add ((x10_4).toNat * 7)).block, (ad341.add ((x10_4).toNat * 7)).off + 3, none⟩ = some (.bool ((rd_T98 ((rd_T101 l1_2 x7_2).f2) x10_4).f1.f2)) ∧ w'.cell? ⟨(ad341.add ((x10_4).toNat * 7)).block, (ad341.add ((x10_4).toNat * 7)).off + 4, none⟩ = some (.bool ((rd_T98 ((rd_T101 l1_2 x7_2).f2) x10_4).f1.f3)) ∧ w'.cell? ⟨(ad341.add ((x10_4).toNat * 7)).block, (ad341.add ((x10_4).toNat * 7)).off + 5, none⟩ = some (.bool ((rd_T98 ((rd_T101 l1_2 x7_2).f2) x10_4).f1.f4)) ∧ w'.cell? ⟨(ad341.add ((x10_4).toNat * 7)).block, (ad341.add ((x10_4).toNat * 7)).off + 6, none⟩ = some (.int .i64 ((rd_T98 ((rd_T101 l1_2 x7_2).f2) x10_4).f2))) (ds := [16]) (bm 17 0) (by kernel_rfl) rfl rfl ⟨(blk_cell BK334.out 0).trans rfl, (blk_cell BK334.out 1).trans rfl, (blk_cell BK337.out 0).trans rfl, (blk_cell BK337.out 1).trans rfl, (blk_cell BK337.out 2).trans rfl, hx340_0, ((HB.out.cell (World.block_lt_of_cell? w _ hw341_0)).trans hw341_0), ((HB.out.cell (World.block_lt_of_cell? w _ hw341_1)).trans hw341_1), ((HB.out.cell (World.block_lt_of_cell? w _ hw341_2)).trans hw341_2), ((HB.out.cell (World.block_lt_of_cell? w _ hw341_3)).trans hw341_3), ((HB.out.cell (World.block_lt_of_cell? w _ hw341_4)).trans hw341_4), ((HB.out.cell (World.block_lt_of_cell? w _ hw341_5)).trans hw341_5), ((HB.out.cell (World.block_lt_of_cell? w _ hw341_6)).trans hw341_6)⟩ (fun hHeld => ?_); refine with_tabW spec_Patched.tab14 spec_Patched.bits14 (fun HT_ HW_ => ?_)
generalize wr.drew = w87 at HO_335001 BK327 BK328 BK329 BK334 BK337 HB GG86 HL340_0 HQ89 HR340_0 HX340_0 hf86_0 hf86_1 hf86_2 hf86_3 hf86_4 hf86_5 hf86_6 hx340_0 hx341_0 hx341_1 hx341_2 hx341_3 hx341_4 hx341_5 hx341_6 hx86_0 hx86_1 hx86_2 hx86_3 hx86_4 hx86_5 hx86_6 hHeld ⊢
refine pu_ 0 70 (bm 17 1) HT_.out ?_
refine pu_ 2 72 (bm 17 5) HT_.out ?_
refine pu_ 6 76 (bm 17 69) HT_.out ?_
refine pu_ 8 78 (bm 17 325) HT_.out ?_
refine pu_ 10 80 (bm 17 1349) HT_.out ?_
refine pu_ 12 82 (bm 17 5445) HT_.out ?_
refine take_ (i := 1) (N := some 71) (v := ?_) (a' := ?_) (bm 17 5447) rfl rfl (take_ofW HT_.out HW_.out (by kernel_rfl)) (fun _ _ _ h => h) (Or.inl ⟨by rfl, ?_⟩) hHeld ?_ ?_
rotate_left
·(
rintro w' ⟨s0, s1, s2, s3, s4, s5, s6, s7, s8, s9, s10, s11, s12⟩
go_simp
with_reducible rfl
)
rotate_left
·(
simp only [Act.put, List.setIfInBounds_toArray, List.set_cons_zero, List.set_cons_succ, i64_w, i32_w]
rfl
)
refine take_ (i := 3) (N := some 73) (v := ?_) (a' := ?_) (bm 17 5455) rfl rfl (take_ofW HT_.out HW_.out (by kernel_rfl)) (fun _ _ _ h => h) (Or.inl ⟨by rfl, ?_⟩) hHeld ?_ ?_
rotate_left
·(
rintro w' ⟨s0, s1, s2, s3, s4, s5, s6, s7, s8, s9, s10, s11, s12⟩
go_simp
with_reducible rfl
)
rotate_left
·(
simp only [Act.put, List.setIfInBounds_toArray, List.set_cons_zero, List.set_cons_succ, i64_w, i32_w]
rfl
)
refine pu_ 4 74 (bm 17 5471) HT_.out ?_
refine take_ (i := 5) (N := some 75) (v := ?_) (a' := ?_) (bm 17 5503) rfl rfl (take_ofW HT_.out HW_.out (by kernel_rfl)) (fun _ _ _ h => h) (Or.inl ⟨by rfl, ?_⟩) hHeld ?_ ?_
rotate_left
·(
rintro w' ⟨s0, s1, s2, s3, s4, s5, s6, s7, s8, s9, s10, s11, s12⟩
go_simp
with_reducible rfl
)
rotate_left
·(
simp only [Act.put, List.setIfInBounds_toArray, List.set_cons_zero, List.set_cons_succ, i64_w, i32_w]
rfl
)
refine take_ (i := 7) (N := some 77) (v := ?_) (a' := ?_) (bm 17 5631) rfl rfl (take_ofW HT_.out HW_.out (by kernel_rfl)) (fun _ _ _ h => h) (Or.inl ⟨by rfl, ?_⟩) hHeld ?_ ?_
rotate_left
·(
rintro w' ⟨s0, s1, s2, s3, s4, s5, s6, s7, s8, s9, s10, s11, s12⟩
go_simp
with_reducible rfl
)
rotate_left
·(
simp only [Act.put, List.setIfInBounds_toArray, List.set_cons_zero, List.set_cons_succ, i64_w, i32_w]
rfl
)
refine pu_ 9 79 (bm 17 6143) HT_.out ?_
refine take_ (i := 11) (N := some 81) (v := ?_) (a' := ?_) (bm 17 8191) rfl rfl (take_ofW HT_.out HW_.out (by kernel_rfl)) (fun _ _ _ h => h) (Or.inl ⟨by rfl, ?_⟩) hHeld ?_ ?_
rotate_left
·(
rintro w' ⟨s0, s1, s2, s3, s4, s5, s6, s7, s8, s9, s10, s11, s12⟩
go_simp
with_reducible rfl
)
rotate_left
·(
simp only [Act.put, List.setIfInBounds_toArray, List.set_cons_zero, List.set_cons_succ, i64_w, i32_w]
rfl
)
refine pu_ 13 83 (bm 17 16383) HT_.out ?_
refine take_ (i := 14) (N := some 84) (v := ?_) (a' := ?_) (bm 17 32767) rfl rfl (take_ofW HT_.out HW_.out (by kernel_rfl)) (fun _ _ _ h => h) (Or.inl ⟨by rfl, ?_⟩) hHeld ?_ ?_
rotate_left
·(
rintro w' ⟨s0, s1, s2, s3, s4, s5, s6, s7, s8, s9, s10, s11, s12⟩
go_simp
with_reducible rfl
)
rotate_left
·(
simp only [Act.put, List.setIfInBounds_toArray, List.set_cons_zero, List.set_cons_succ, i64_w, i32_w]
rfl
)
refine pu_ 15 85 (bm 17 65535) HT_.out ?_
refine last_ (i := 16) (N := none) (bm 17 131071) rfl rfl (one_of HT_.out (by kernel_rfl)) (by decide) (fun K hK => ?_)
refine skip_ (w1 := ?_) (by rfl) rfl ?_ ?_
rotate_left
·(
go_simp
rfl
)
refine hK.out _ _ ?_
clear hK K
refine done_ (done_of HT_.out (by kernel_rfl)) ?_
try go_wp2
go_roundg k4
case measure => have := HJ3.out; have := HK2.out; have := HJ38.out; have := HK4.out; omega
case rel => exact ⟨(wrap64 (x10_4 + 1)), (y344), (.slice (some ad340) x335001_4.length co88), (by first | rfl | (simp; done) | (simp [*]; done)), H', ⟨by have := HJ3.out; have := HK2.out; have := HJ38.out; have := HK4.out; omega⟩, ⟨rs HQ89⟩, ⟨by (with_reducible repeat (first | apply k1 | apply k2 | apply k3)); refine blk_far ?_ (by have h_ := Kd.R_ne HL340_0.out BK327.out (by decide); intro e_; exact h_ (by rw [e_]; rfl)) _; (with_reducible repeat (first | apply k1 | apply k2 | apply k3)); refine blk_far ?_ (by have h_ := Kd.R_ne HL340_0.out BK327.out (by decide); intro e_; exact h_ (by rw [e_]; rfl)) _; (with_reducible repeat (first | apply k1 | apply k2 | apply k3)); refine blk_far ?_ (by have h_ := Kd.R_ne HL340_0.out BK327.out (by decide); intro e_; exact h_ (by rw [e_]; rfl)) _; (with_reducible repeat (first | apply k1 | apply k2 | apply k3)); refine blk_far ?_ (by have h_ := Kd.R_ne HL340_0.out BK327.out (by decide); intro e_; exact h_ (by rw [e_]; rfl)) _; (with_reducible repeat (first | apply k1 | apply k2 | apply k3)); refine blk_far ?_ (by have h_ := Kd.R_ne HL340_0.out BK327.out (by decide); intro e_; exact h_ (by rw [e_]; rfl)) _; (with_reducible repeat (first | apply k1 | apply k2 | apply k3)); refine blk_far ?_ (by have h_ := Kd.R_ne HL340_0.out BK327.out (by decide); intro e_; exact h_ (by rw [e_]; rfl)) _; (with_reducible repeat (first | apply k1 | apply k2 | apply k3)); refine blk_far ?_ (by have h_ := Kd.R_ne HL340_0.out BK327.out (by decide); intro e_; exact h_ (by rw [e_]; rfl)) _; (with_reducible repeat (first | apply k1 | apply k2 | apply k3)); exact BK327.out⟩, ⟨by (with_reducible repeat (first | apply k1 | apply k2 | apply k3)); refine blk_far ?_ (by have h_ := Kd.R_ne HL340_0.out BK328.out (by decide); intro e_; exact h_ (by rw [e_]; rfl)) _; (with_reducible repeat (first | apply k1 | apply k2 | apply k3)); refine blk_far ?_ (by have h_ := Kd.R_ne HL340_0.out BK328.out (by decide); intro e_; exact h_ (by rw [e_]; rfl)) _; (with_reducible repeat (first | apply k1 | apply k2 | apply k3)); refine blk_far ?_ (by have h_ := Kd.R_ne HL340_0.out BK328.out (by decide); intro e_; exact h_ (by rw [e_]; rfl)) _; (with_reducible repeat (first | apply k1 | apply k2 | apply k3)); refine blk_far ?_ (by have h_ := Kd.R_ne HL340_0.out BK328.out (by decide); intro e_; exact h_ (by rw [e_]; rfl)) _; (with_reducible repeat (first | apply k1 | apply k2 | apply k3)); refine blk_far ?_ (by have h_ := Kd.R_ne HL340_0.out BK328.out (by decide); intro e_; exact h_ (by rw [e_]; rfl)) _; (with_reducible repeat (first | apply k1 | apply k2 | apply k3)); refine blk_far ?_ (by have h_ := Kd.R_ne HL340_0.out BK328.out (by decide); intro e_; exact h_ (by rw [e_]; rfl)) _; (with_reducible repeat (first | apply k1 | apply k2 | apply k3)); refine blk_far ?_ (by have h_ := Kd.R_ne HL340_0.out BK328.out (by decide); intro e_; exact h_ (by rw [e_]; rfl)) _; (with_reducible repeat (first | apply k1 | apply k2 | apply k3)); exact BK328.out⟩, ⟨by (with_reducible repeat (first | apply k1 | apply k2 | apply k3)); refine blk_far ?_ (by have h_ := Kd.R_ne HL340_0.out BK329.out (by decide); intro e_; exact h_ (by rw [e_]; rfl)) _; (with_reducible repeat (first | apply k1 | apply k2 | apply k3)); refine blk_far ?_ (by have h_ := Kd.R_ne HL340_0.out BK329.out (by decide); intro e_; exact h_ (by rw [e_]; rfl)) _; (with_reducible repeat (first | apply k1 | apply k2 | apply k3)); refine blk_far ?_ (by have h_ := Kd.R_ne HL340_0.out BK329.out (by decide); intro e_; exact h_ (by rw [e_]; rfl)) _; (with_reducible repeat (first | apply k1 | apply k2 | apply k3)); refine blk_far ?_ (by have h_ := Kd.R_ne HL340_0.out BK329.out (by decide); intro e_; exact h_ (by rw [e_]; rfl)) _; (with_reducible repeat (first | apply k1 | apply k2 | apply k3)); refine blk_far ?_ (by have h_ := Kd.R_ne HL340_0.out BK329.out (by decide); intro e_; exact h_ (by rw [e_]; rfl)) _; (with_reducible repeat (first | apply k1 | apply k2 | apply k3)); refine blk_far ?_ (by have h_ := Kd.R_ne HL340_0.out BK329.out (by decide); intro e_; exact h_ (by rw [e_]; rfl)) _; (with_reducible repeat (first | apply k1 | apply k2 | apply k3)); refine blk_far ?_ (by have h_ := Kd.R_ne HL340_0.out BK329.out (by decide); intro e_; exact h_ (by rw [e_]; rfl)) _; (with_reducible repeat (first | apply k1 | apply k2 | apply k3)); exact BK329.out⟩, ⟨by (with_reducible repeat (first | apply k1 | apply k2 | apply k3)); refine blk_far ?_ (by have h_ := Kd.R_ne HL340_0.out BK334.out (by decide); intro e_; exact h_ (by rw [e_]; rfl)) _; (with_reducible repeat (first | apply k1 | apply k2 | apply k3)); refine blk_far ?_ (by have h_ := Kd.R_ne HL340_0.out BK334.out (by decide); intro e_; exact h_ (by rw [e_]; rfl)) _; (with_reducible repeat (first | apply k1 | apply k2 | apply k3)); refine blk_far ?_ (by have h_ := Kd.R_ne HL340_0.out BK334.out (by decide); intro e_; exact h_ (by rw [e_]; rfl)) _; (with_reducible repeat (first | apply k1 | apply k2 | apply k3)); refine blk_far ?_ (by have h_ := Kd.R_ne HL340_0.out BK334.out (by decide); intro e_; exact h_ (by rw [e_]; rfl)) _; (with_reducible repeat (first | apply k1 | apply k2 | apply k3)); refine blk_far ?_ (by have h_ := Kd.R_ne HL340_0.out BK334.out (by decide); intro e_; exact h_ (by rw [e_]; rfl)) _; (with_reducible repeat (first | apply k1 | apply k2 | apply k3)); refine blk_far ?_ (by have h_ := Kd.R_ne HL340_0.out BK334.out (by decide); intro e_; exact h_ (by rw [e_]; rfl)) _; (with_reducible repeat (first | apply k1 | apply k2 | apply k3)); refine blk_far ?_ (by have h_ := Kd.R_ne HL340_0.out BK334.out (by decide); intro e_; exact h_ (by rw [e_]; rfl)) _; (with_reducible repeat (first | apply k1 | apply k2 | apply k3)); exact BK334.out⟩, ⟨by (with_reducible repeat (first | apply k1 | apply k2 | apply k3)); refine blk_far ?_ (by have h_ := Kd.R_ne HL340_0.out BK337.out (by decide); intro e_; exact h_ (by rw [e_]; rfl)) _; (with_reducible repeat (first | apply k1 | apply k2 | apply k3)); refine blk_far ?_ (by have h_ := Kd.R_ne HL340_0.out BK337.out (by decide); intro e_; exact h_ (by rw [e_]; rfl)) _; (with_reducible repeat (first | apply k1 | apply k2 | apply k3)); refine blk_far ?_ (by have h_ := Kd.R_ne HL340_0.out BK337.out (by decide); intro e_; exact h_ (by rw [e_]; rfl)) _; (with_reducible repeat (first | apply k1 | apply k2 | apply k3)); refine blk_far ?_ (by have h_ := Kd.R_ne HL340_0.out BK337.out (by decide); intro e_; exact h_ (by rw [e_]; rfl)) _; (with_reducible repeat (first | apply k1 | apply k2 | apply k3)); refine blk_far ?_ (by have h_ := Kd.R_ne HL340_0.out BK337.out (by decide); intro e_; exact h_ (by rw [e_]; rfl)) _; (with_reducible repeat (first | apply k1 | apply k2 | apply k3)); refine blk_far ?_ (by have h_ := Kd.R_ne HL340_0.out BK337.out (by decide); intro e_; exact h_ (by rw [e_]; rfl)) _; (with_reducible repeat (first | apply k1 | apply k2 | apply k3)); refine blk_far ?_ (by have h_ := Kd.R_ne HL340_0.out BK337.out (by decide); intro e_; exact h_ (by rw [e_]; rfl)) _; (with_reducible repeat (first | apply k1 | apply k2 | apply k3)); exact BK337.out⟩, ⟨by repeat (first | (with_reducible first | exact HB.out | apply b1 | apply b2 | apply b3 | refine below_set ?_ GB86.out | refine below_set ?_ GB86.out | refine below_set ?_ GB86.out | refine below_set ?_ GB86.out | refine below_set ?_ GB86.out | refine below_set ?_ GB86.out | refine below_set ?_ GB86.out | refine below_set ?_ GE327.out | refine below_set ?_ GE328.out | refine below_set ?_ GE329.out | refine below_set ?_ GE334.out | refine below_set ?_ GE337.out) | exact HB.out)⟩⟩
)
)
·(
rw [if_neg c78] at H
have c78b0 : decide (x10_4 < (((rd_T101 l1_2 x7_2).f2).length : Int)) = false := decide_eq_false c78
clear c78
have H' := am H
clear H
go_wp2
go_roundg k4
case measure => have := HJ3.out; have := HK2.out; have := HJ38.out; have := HK4.out; omega
case rel => exact ⟨(wrap64 (x7_2 + 1)), (x330000_2), (x335001_4), (u335001), (by first | rfl | (simp; done) | (simp [*]; done)), H', ⟨by have := HJ3.out; have := HK2.out; have := HJ38.out; have := HK4.out; omega⟩, ⟨rs HO_335001⟩, ⟨rk BK327⟩, ⟨rk BK328⟩, ⟨rk BK329⟩, ⟨rk BK334⟩, ⟨rb5 HB GE327 GE328 GE329 GE334 GE337⟩⟩
)
)
)
)
)
)
)
)
·(
rw [if_neg c37] at H
have c37b0 : decide (x7_2 < (l1_2.length : Int)) = false := decide_eq_false c37
clear c37
replace H := Option.bind_eq_some_iff.mp H
obtain ⟨t335, A910, H⟩ := H
(try dsimp only at H)
have A91 := am A910
clear A910
refine em_ (p := t335 = true) (fun c92 => ?g1p) (fun c92 => ?g1n)
case' g1p => (
subst c92
have H1 : (some (t330, x335001_2, true)) = some (r1, r2, r3) := by rw [if_pos rfl] at H; exact H
clear H
have H := H1
clear H1
simp only [Option.some.injEq, Prod.mk.injEq] at H
obtain ⟨rfl, rfl, rfl⟩ := H
have lf6_ := trivial
)
case' g1n => (
replace c92 := Bool.eq_false_iff.mpr c92
subst c92
rw [if_neg (show ¬ (false = true) by decide)] at H
simp only [Option.some.injEq, Prod.mk.injEq] at H
obtain ⟨rfl, rfl, rfl⟩ := H
have lf7_ := trivial
)
all_goals (
have hnb93 := NB328_327.out
have hnc93 := NB327_328.out
have hnb94 := NB328_329.out
have hnc94 := NB329_328.out
have hnb95 := NB328_334.out
have hnc95 := NB334_328.out
have hcz96_0 : wr.cell? ⟨gb328, 0, none⟩ = some (.int .i64 a1_0) := (blk_cell BK328.out 0).trans rfl
have hcz96_1 : wr.cell? ⟨gb328, 1, none⟩ = some (.int .i64 a1_1) := (blk_cell BK328.out 1).trans rfl
have hcz96_2 : wr.cell? ⟨gb328, 2, none⟩ = some (.slice A1_2 l1_2.length c1_2) := (blk_cell BK328.out 2).trans rfl
have hfz96_0 := blk_frozen BK328.out 0
have hfz96_1 := blk_frozen BK328.out 1
have hfz96_2 := blk_frozen BK328.out 2
have hnb97 := NB334_327.out
have hnc97 := NB327_334.out
have hnb98 := NB334_329.out
have hnc98 := NB329_334.out
have hcz99_0 : wr.cell? ⟨gb334, 0, none⟩ = some (.int .i64 t330) := (blk_cell BK334.out 0).trans rfl
have hcz99_1 : wr.cell? ⟨gb334, 1, none⟩ = some (u335001) := (blk_cell BK334.out 1).trans rfl
have hfz99_0 := blk_frozen BK334.out 0
have hfz99_1 := blk_frozen BK334.out 1
obtain ⟨Ao100, co100, eo100⟩ := Kd.S_slice HO_335001.out
subst eo100
go_wp2_with (first | ((with_reducible refine gate_callee (f := 69) rfl ?_); refine gl_ (some 87) Try.func69 #[.agg #[.int .i64 t330, .slice Ao100 x335001_2.length co100]] ?_; (with_reducible refine (spec_GridOk.calls k2 t330 _ _ x335001_2 true _ ?side1 ?side2 A91.out).mono ?_); (case side1 => exact rcs HO_335001); (case side2 => exact (Kd.S_reads' HO_335001.out).2.1); rintro e w101 ⟨rfl, hb⟩; refine ⟨_, rfl, ?_⟩; replace HO_335001 := am (Kd.S_below (rs HO_335001) hb); replace BK327 := am (blk_below (rk BK327) hb); replace BK328 := am (blk_below (rk BK328) hb); replace BK329 := am (blk_below (rk BK329) hb); replace BK334 := am (blk_below (rk BK334) hb); replace HB := am (below_step (rb4 HB GE327 GE328 GE329 GE334) hb); (try clear hb); (try clear hb2); (try clear hk); (try clear hi); have hcz102_0 : w101.cell? ⟨gb334, 0, none⟩ = some (.int .i64 t330) := (blk_cell BK334.out 0).trans rfl; have hcz102_1 : w101.cell? ⟨gb334, 1, none⟩ = some (.slice Ao100 x335001_2.length co100) := (blk_cell BK334.out 1).trans rfl; have hfz102_0 := blk_frozen BK334.out 0; have hfz102_1 := blk_frozen BK334.out 1; have hnb103 := NB329_327.out; have hnc103 := NB327_329.out; have hcz104_0 : w101.cell? ⟨gb329, 0, none⟩ = some (.int .i64 x330000_2) := (blk_cell BK329.out 0).trans rfl; have hcz104_1 : w101.cell? ⟨gb329, 1, none⟩ = some (.slice none 0 0) := (blk_cell BK329.out 1).trans rfl; have hfz104_0 := blk_frozen BK329.out 0; have hfz104_1 := blk_frozen BK329.out 1) | ((with_reducible refine gate_callee (f := 69) rfl ?_); refine gl_ (some 87) Try.func69 #[.agg #[.int .i64 t330, .slice Ao100 x335001_2.length co100]] ?_; (with_reducible refine (spec_GridOk.calls k2 t330 _ _ x335001_2 false _ ?side1 ?side2 A91.out).mono ?_); (case side1 => exact rcs HO_335001); (case side2 => exact (Kd.S_reads' HO_335001.out).2.1); rintro e w113 ⟨rfl, hb⟩; refine ⟨_, rfl, ?_⟩; replace HO_335001 := am (Kd.S_below (rs HO_335001) hb); replace BK327 := am (blk_below (rk BK327) hb); replace BK328 := am (blk_below (rk BK328) hb); replace BK329 := am (blk_below (rk BK329) hb); replace BK334 := am (blk_below (rk BK334) hb); replace HB := am (below_step (rb4 HB GE327 GE328 GE329 GE334) hb); (try clear hb); (try clear hb2); (try clear hk); (try clear hi); have hnb114 := NB329_327.out; have hnc114 := NB327_329.out; have hcz115_0 : w113.cell? ⟨gb329, 0, none⟩ = some (.int .i64 x330000_2) := (blk_cell BK329.out 0).trans rfl; have hcz115_1 : w113.cell? ⟨gb329, 1, none⟩ = some (.slice none 0 0) := (blk_cell BK329.out 1).trans rfl; have hfz115_0 := blk_frozen BK329.out 0; have hfz115_1 := blk_frozen BK329.out 1))
first
| (
have q_ := lf6_
refine bodyPost_ret (results_ct rfl _ _ gb329 58 #[.int .i64 t330, .slice Ao100 x335001_2.length co100] (0, 0) _ rfl (rp_0_1 BK329) Try.underlying58 rfl (by kernel_rfl)) rfl ?_
exact ⟨_, by first | rfl | (simp [errW_none, errW_some] <;> rfl) | (simp [*, errW_none, errW_some] <;> rfl), by (with_reducible repeat (first | apply Kd.S_alloc | apply Kd.S_drewN | apply Kd.S_drew)); exact Kd.S_mono (Kd.S_far (p := ⟨gb329, 1, none⟩) (Kd.S_far (p := ⟨gb329, 0, none⟩) (Kd.S_types HO_335001.out BK329.out (by decide)) (fun _ hk => hk.2) (.int .i64 t330)) (fun _ hk => hk.2) (.slice Ao100 x335001_2.length co100)) (fun _ hk => trivial), rb4 HB GE327 GE328 GE329 GE334⟩
)
| (
have q_ := lf7_
refine bodyPost_ret (results_ct rfl _ _ gb329 58 #[.int .i64 0, .slice none 0 0] (0, 0) _ rfl (rp_0_1 BK329) Try.underlying58 rfl (by kernel_rfl)) rfl ?_
exact ⟨_, by first | rfl | (simp [errW_none, errW_some] <;> rfl) | (simp [*, errW_none, errW_some] <;> rfl), by first | exact Kd.S_nil _ _ _ _ _ | exact Kd.N_nil _ _ _ _ _ | exact Kd.V_nil _ _ _ _ _ | exact Kd.Q_nil _ _ _ _ _ | exact Kd.R_nil _ _ _ _ _, rb4 HB GE327 GE328 GE329 GE334⟩
)
)
)
)
)
)
)
)
)

end Go.Proofs.Ytalopdcephohgaa.RC
