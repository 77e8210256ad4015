/- Contracts of Go functions that laws of this seat reach: each Lean function answers as its Go function does. No condition. Written by wip/tools/inj.py, over the kit's print. -/
import Derived.Test.YtalopdcephohgaaRBx0
import Derived.Test.YtalopdcephohgaaRBx2
import Derived.Test.YtalopdcephohgaaRBx6
import Derived.Test.YtalopdcephohgaaRBx10
import Derived.Test.YtalopdcephohgaaRBx19
namespace Go.Proofs.Ytalopdcephohgaa.RB
open Go.RowKit Go.Proofs.YtalopdcephohgaaW.PrintWords Go.Proofs.YtalopdcephohgaaW.PrintLast Go.Proofs.YtalopdcephohgaaW.PrintMore
attribute [local go_sem] max2_int min2_int max_two min_two max_three min_three max_four min_four   -- for this text's walks alone
set_option linter.unusedVariables false
set_option linter.unusedSimpArgs false

attribute [local go_sem high] eqA98
/-! ### spec_Diff: function 31 -/
mutual
def spec_Diff.j0 : Nat → Bool → Int → List (List (S98)) → Int → List (List (S98)) → Option (Int × Int × (List (S101)) × Bool)
 | 0, _, _, _, _, _ => none
 | k + 1, x18, x246000, x246001, x247000, x247001 => if x18 = true then (some (0, 0, ([] : List (S101)), false)) else ((spec_l5Resized.f k x246000 x246001 x247000 (x247001.length : Int)).bind fun bt251 => (spec_Diff.l0 k 0 x247000 x247001 x247000 (x247001.length : Int) ([] : List (S101)) bt251.1 bt251.2))
def spec_Diff.l0 : Nat → Int → Int → List (List (S98)) → Int → Int → List (S101) → Int → List (List (S98)) → Option (Int × Int × (List (S101)) × Bool)
 | 0, _, _, _, _, _, _, _, _ => none
 | k + 1, x8, x247000, x247001, x251000, x251001, x251002, x256000, x256001 => if x8 < x251001 then (spec_Diff.l1 k x8 0 x247000 x247001 x251000 x251001 x251002 x256000 x256001) else (if (x251002.length : Int) > 400 then (some (0, 0, ([] : List (S101)), false)) else (some (x251000, x251001, x251002, true)))
def spec_Diff.l1 : Nat → Int → Int → Int → List (List (S98)) → Int → Int → List (S101) → Int → List (List (S98)) → Option (Int × Int × (List (S101)) × Bool)
 | 0, _, _, _, _, _, _, _, _, _ => none
 | k + 1, x8, x9, x247000, x247001, x251000, x251001, x251002, x256000, x256001 => if x9 < x251000 then (spec_Diff.l2 k x8 x9 x9 x247000 x247001 x251000 x251001 x251002 x256000 x256001) else (spec_Diff.l0 k (wrap64 (x8 + 1)) x247000 x247001 x251000 x251001 x251002 x256000 x256001)
def spec_Diff.l2 : Nat → Int → Int → Int → Int → List (List (S98)) → Int → Int → List (S101) → Int → List (List (S98)) → Option (Int × Int × (List (S101)) × Bool)
 | 0, _, _, _, _, _, _, _, _, _, _ => none
 | k + 1, x8, x9, x10, x247000, x247001, x251000, x251001, x251002, x256000, x256001 => if x10 < x251000 then (if 0 ≤ x8 then (if x8 < (x256001.length : Int) then (if 0 ≤ x10 then (if x10 < ((rd_L7 x256001 x8).length : Int) then (if x8 < (x247001.length : Int) then (if x10 < ((rd_L7 x247001 x8).length : Int) then (if (!(((rd_T98 (rd_L7 x256001 x8) x10).f0) == ((rd_T98 (rd_L7 x247001 x8) x10).f0)) || ((!(((rd_T98 (rd_L7 x256001 x8) x10).f1.f0) == ((rd_T98 (rd_L7 x247001 x8) x10).f1.f0)) || (!(((rd_T98 (rd_L7 x256001 x8) x10).f1.f1) == ((rd_T98 (rd_L7 x247001 x8) x10).f1.f1)) || (!(((rd_T98 (rd_L7 x256001 x8) x10).f1.f2) == ((rd_T98 (rd_L7 x247001 x8) x10).f1.f2)) || (!(((rd_T98 (rd_L7 x256001 x8) x10).f1.f3) == ((rd_T98 (rd_L7 x247001 x8) x10).f1.f3)) || (!(((rd_T98 (rd_L7 x256001 x8) x10).f1.f4) == ((rd_T98 (rd_L7 x247001 x8) x10).f1.f4))))))) || (!(((rd_T98 (rd_L7 x256001 x8) x10).f2) == ((rd_T98 (rd_L7 x247001 x8) x10).f2))))) = true then (spec_Diff.l2 k x8 x9 (wrap64 (x10 + 1)) x247000 x247001 x251000 x251001 x251002 x256000 x256001) else (if x10 > x9 then ((some (([] : List (S98)) : List (S98))).bind fun y260 => (if 0 ≤ x9 then (if x9 ≤ x10 then (if x10 ≤ ((rd_L7 x247001 x8).length : Int) then ((some (((rd_L7 x247001 x8).take (x10 : Int).toNat).drop (x9 : Int).toNat : List (S98))).bind fun y264 => (if y260.length + y264.length < 3518437208883 then (if x251002.length < 3518437208883 then (spec_Diff.l1 k x8 (wrap64 (x10 + 1)) x247000 x247001 x251000 x251001 (x251002 ++ [(⟨x8, x9, (y260 ++ y264)⟩ : S101)]) x256000 x256001) else (none)) else (none))) else (none)) else (none)) else (none))) else (spec_Diff.l1 k x8 (wrap64 (x10 + 1)) x247000 x247001 x251000 x251001 x251002 x256000 x256001))) else (none)) else (none)) else (none)) else (none)) else (none)) else (none)) else (if x10 > x9 then ((some (([] : List (S98)) : List (S98))).bind fun y274 => (if 0 ≤ x8 then (if x8 < (x247001.length : Int) then (if 0 ≤ x9 then (if x9 ≤ x10 then (if x10 ≤ ((rd_L7 x247001 x8).length : Int) then ((some (((rd_L7 x247001 x8).take (x10 : Int).toNat).drop (x9 : Int).toNat : List (S98))).bind fun y278 => (if y274.length + y278.length < 3518437208883 then (if x251002.length < 3518437208883 then (spec_Diff.l1 k x8 (wrap64 (x10 + 1)) x247000 x247001 x251000 x251001 (x251002 ++ [(⟨x8, x9, (y274 ++ y278)⟩ : S101)]) x256000 x256001) else (none)) else (none))) else (none)) else (none)) else (none)) else (none)) else (none))) else (spec_Diff.l1 k x8 (wrap64 (x10 + 1)) x247000 x247001 x251000 x251001 x251002 x256000 x256001))
end
def spec_Diff.f (k : Nat) (a0_0 : Int) (l0_1 : List (List (S98))) (a1_0 : Int) (l1_1 : List (List (S98))) : Option (Int × Int × (List (S101)) × Bool) := (spec_GridOk.f k a0_0 l0_1).bind fun t248 => (if t248 = true then ((spec_GridOk.f k a1_0 l1_1).bind fun t249 => (spec_Diff.j0 k (!t249) a0_0 l0_1 a1_0 l1_1)) else (spec_Diff.j0 k true a0_0 l0_1 a1_0 l1_1))
theorem spec_Diff.mono_l : ∀ k, (∀ y0 y1 y2 y3 y4, LeO (spec_Diff.j0 k y0 y1 y2 y3 y4) (spec_Diff.j0 (k + 1) y0 y1 y2 y3 y4)) ∧ (∀ y0 y1 y2 y3 y4 y5 y6 y7, LeO (spec_Diff.l0 k y0 y1 y2 y3 y4 y5 y6 y7) (spec_Diff.l0 (k + 1) y0 y1 y2 y3 y4 y5 y6 y7)) ∧ (∀ y0 y1 y2 y3 y4 y5 y6 y7 y8, LeO (spec_Diff.l1 k y0 y1 y2 y3 y4 y5 y6 y7 y8) (spec_Diff.l1 (k + 1) y0 y1 y2 y3 y4 y5 y6 y7 y8)) ∧ (∀ y0 y1 y2 y3 y4 y5 y6 y7 y8 y9, LeO (spec_Diff.l2 k y0 y1 y2 y3 y4 y5 y6 y7 y8 y9) (spec_Diff.l2 (k + 1) y0 y1 y2 y3 y4 y5 y6 y7 y8 y9))
 | 0 => ⟨fun _ _ _ _ _ r h => by simp [spec_Diff.j0] at h, fun _ _ _ _ _ _ _ _ r h => by simp [spec_Diff.l0] at h, fun _ _ _ _ _ _ _ _ _ r h => by simp [spec_Diff.l1] at h, fun _ _ _ _ _ _ _ _ _ _ r h => by simp [spec_Diff.l2] at h⟩
 | k + 1 => by
  obtain ⟨ih0, ih1, ih2, ih3⟩ := spec_Diff.mono_l k
  refine ⟨?_, ?_, ?_, ?_⟩
  ·intro y0 y1 y2 y3 y4
   unfold spec_Diff.j0
   repeat' first
   | (with_reducible exact ih0 _ _ _ _ _)
   | (with_reducible exact ih1 _ _ _ _ _ _ _ _)
   | (with_reducible exact ih2 _ _ _ _ _ _ _ _ _)
   | (with_reducible exact ih3 _ _ _ _ _ _ _ _ _ _)
   | (with_reducible exact spec_GridOk.mono _ _ _)
   | (with_reducible exact spec_l5Resized.mono _ _ _ _ _)
   | (with_reducible exact LeO.refl _)
   | (with_reducible exact LeO.none _)
   | (with_reducible refine LeO.ite ?_ ?_)
   | (with_reducible refine LeO.bind ?_ (fun _ => ?_))
  ·intro y0 y1 y2 y3 y4 y5 y6 y7
   unfold spec_Diff.l0
   repeat' first
   | (with_reducible exact ih0 _ _ _ _ _)
   | (with_reducible exact ih1 _ _ _ _ _ _ _ _)
   | (with_reducible exact ih2 _ _ _ _ _ _ _ _ _)
   | (with_reducible exact ih3 _ _ _ _ _ _ _ _ _ _)
   | (with_reducible exact spec_GridOk.mono _ _ _)
   | (with_reducible exact spec_l5Resized.mono _ _ _ _ _)
   | (with_reducible exact LeO.refl _)
   | (with_reducible exact LeO.none _)
   | (with_reducible refine LeO.ite ?_ ?_)
   | (with_reducible refine LeO.bind ?_ (fun _ => ?_))
  ·intro y0 y1 y2 y3 y4 y5 y6 y7 y8
   unfold spec_Diff.l1
   repeat' first
   | (with_reducible exact ih0 _ _ _ _ _)
   | (with_reducible exact ih1 _ _ _ _ _ _ _ _)
   | (with_reducible exact ih2 _ _ _ _ _ _ _ _ _)
   | (with_reducible exact ih3 _ _ _ _ _ _ _ _ _ _)
   | (with_reducible exact spec_GridOk.mono _ _ _)
   | (with_reducible exact spec_l5Resized.mono _ _ _ _ _)
   | (with_reducible exact LeO.refl _)
   | (with_reducible exact LeO.none _)
   | (with_reducible refine LeO.ite ?_ ?_)
   | (with_reducible refine LeO.bind ?_ (fun _ => ?_))
  ·intro y0 y1 y2 y3 y4 y5 y6 y7 y8 y9
   unfold spec_Diff.l2
   repeat' first
   | (with_reducible exact ih0 _ _ _ _ _)
   | (with_reducible exact ih1 _ _ _ _ _ _ _ _)
   | (with_reducible exact ih2 _ _ _ _ _ _ _ _ _)
   | (with_reducible exact ih3 _ _ _ _ _ _ _ _ _ _)
   | (with_reducible exact spec_GridOk.mono _ _ _)
   | (with_reducible exact spec_l5Resized.mono _ _ _ _ _)
   | (with_reducible exact LeO.refl _)
   | (with_reducible exact LeO.none _)
   | (with_reducible refine LeO.ite ?_ ?_)
   | (with_reducible refine LeO.bind ?_ (fun _ => ?_))
theorem spec_Diff.mono : ∀ a0 a1 a2 a3 k, LeO (spec_Diff.f k a0 a1 a2 a3) (spec_Diff.f (k + 1) a0 a1 a2 a3) := by
 intro a0 a1 a2 a3 k
 obtain ⟨ih0, ih1, ih2, ih3⟩ := spec_Diff.mono_l k
 unfold spec_Diff.f
 repeat' first
   | (with_reducible exact ih0 _ _ _ _ _)
   | (with_reducible exact ih1 _ _ _ _ _ _ _ _)
   | (with_reducible exact ih2 _ _ _ _ _ _ _ _ _)
   | (with_reducible exact ih3 _ _ _ _ _ _ _ _ _ _)
   | (with_reducible exact spec_GridOk.mono _ _ _)
   | (with_reducible exact spec_l5Resized.mono _ _ _ _ _)
   | (with_reducible exact LeO.refl _)
   | (with_reducible exact LeO.none _)
   | (with_reducible refine LeO.ite ?_ ?_)
   | (with_reducible refine LeO.bind ?_ (fun _ => ?_))
def spec_Diff.T11 : Bool × List (List Nat × List Nat) := (true, [([], []), ([], []), ([1], [1]), ([0, 2], [0, 2]), ([3], [3]), ([4], [4]), ([5, 4], [4, 5]), ([4], [4]), ([6, 7, 4], [4, 6, 7]), ([8, 4], [4, 8]), ([4], [4]), ([9, 10, 4], [4, 9, 10]), ([11, 4], [4, 11]), ([4], [4]), ([13, 4], [4, 13]), ([4], [4]), ([14, 15, 4], [4, 14, 15]), ([16, 4], [4, 16]), ([4], [4]), ([17, 18, 4], [4, 17, 18]), ([19, 4], [4, 19]), ([12, 20, 4], [4, 12, 20]), ([4, 21], [4, 21])])
def spec_Diff.B11 : List Nat := [0, 0, 2, 7, 15, 31, 63, 31, 255, 511, 31, 2047, 4095, 31, 8223, 31, 57375, 122911, 31, 516127, 1040415, 2097151, 4194303]
theorem spec_Diff.tab11 : rtab .any (opsOf Try.f31 11) = spec_Diff.T11 := by kernel_rfl
theorem spec_Diff.bits11 : waitsOk spec_Diff.T11.2 spec_Diff.B11 = true := by kernel_rfl
def spec_Diff.T14 : Bool × List (List Nat × List Nat) := (true, [([], []), ([0], [0]), ([], []), ([], []), ([], []), ([], []), ([5], [5]), ([], []), ([6, 7], [6, 7]), ([8], [8]), ([], []), ([], []), ([9, 10, 11], [9, 10, 11]), ([4, 12], [4, 12]), ([2, 3, 13], [2, 3, 13]), ([14], [14]), ([1, 15, 13], [1, 15]), ([0, 1, 2, 3, 4, 5, 6, 7, 8, 9, 10, 11, 12, 13, 14, 15, 16], []), ([17, 16, 16, 0, 1, 2, 3, 4, 5, 6, 7, 8, 9, 10, 11, 12, 13, 14, 15, 16], [16, 17])])
def spec_Diff.B14 : List Nat := [0, 1, 0, 0, 0, 0, 32, 0, 224, 480, 0, 0, 4064, 8176, 16380, 32764, 65535, 131071, 262143]
theorem spec_Diff.tab14 : rtab .any (opsOf Try.f31 14) = spec_Diff.T14 := by kernel_rfl
theorem spec_Diff.bits14 : waitsOk spec_Diff.T14.2 spec_Diff.B14 = true := by kernel_rfl
set_option maxHeartbeats 8000000 in
set_option maxRecDepth 100000 in
theorem spec_Diff.calls (k : Nat) (a0_0 : Int) (A0_1 : Option Addr) (c0_1 : Nat) (l0_1 : List (List (S98))) (a1_0 : Int) (A1_1 : Option Addr) (c1_1 : Nat) (l1_1 : List (List (S98))) (r1 : Int) (r2 : Int) (r3 : List (S101)) (r4 : Bool) (w : World) (hr0_1 : Kd.C (Kd.slice 98 k98) w A0_1 l0_1.length l0_1) (hc0_1 : l0_1.length ≤ c0_1) (hr1_1 : Kd.C (Kd.slice 98 k98) w A1_1 l1_1.length l1_1) (hc1_1 : l1_1.length ≤ c1_1) (h : spec_Diff.f k a0_0 l0_1 a1_0 l1_1 = some (r1, r2, r3, r4)) :
  Calls Try.prog 31 #[.agg #[.int .i64 a0_0, .slice A0_1 l0_1.length c0_1], .agg #[.int .i64 a1_0, .slice A1_1 l1_1.length c1_1]] w fun e w' => ∃ v2_ : Value, e = .returned (.tuple #[.agg #[.int .i64 r1, .int .i64 r2, v2_], .bool r4]) ∧ Kd.S k101 101 w' w.heap.size (fun _ => True) v2_ r3 ∧ Below w.heap.size w w' := by
 (
have hu58 := Try.underlying58
have hu53 := Try.underlying53
have hu98 := Try.underlying98
have hu101 := Try.underlying101
have HR0_1 := am hr0_1
have HC0_1 := am hc0_1
clear hr0_1 hc0_1
have HR1_1 := am hr1_1
have HC1_1 := am hc1_1
clear hr1_1 hc1_1
have HB := am (Below.refl w.heap.size w)
have H := h
unfold spec_Diff.f at H
clear h
have HC3 := am H
clear H
go_enter Try.func31, Try.ntmps31
go_upto_region 1 with (first | ((with_reducible refine gate_dst (N := 2) rfl ?_); refine box_event ?hg (N := 2) ?hd (cs := #[.int .i64 a0_0, .slice A0_1 l0_1.length c0_1]) (t := 58) ?hr ?_; (case hd => rfl); (case hg => rfl); (case hr => first | (go_simp; done) | (go_simp; rfl)); intro gb245 hg w4 hbox hb; have BK245 := am (hbox); have GW245 := am (gw hg (rb HB)); have GE245 := GW245; replace HB := am (below_step (rb HB) hb); clear hb hbox hg) | ((with_reducible refine gate_dst (N := 3) rfl ?_); refine box_event ?hg (N := 3) ?hd (cs := #[.int .i64 a1_0, .slice A1_1 l1_1.length c1_1]) (t := 58) ?hr ?_; (case hd => rfl); (case hg => rfl); (case hr => first | (go_simp; done) | (go_simp; rfl)); intro gb246 hg w5 hbox hb; have BK246 := am (hbox); have GW246 := am (gw hg (rb1 HB GE245)); have GE246 := GW246; replace HB := am (below_step (rb1 HB GE245) hb); have NB245_246 := am (nl hg (rk BK245)); have NB246_245 := am (ng hg (rk BK245)); replace BK245 := am (blk_below (rk BK245) hb); clear hb hbox hg) | ((with_reducible refine gate_dst (N := 4) rfl ?_); refine box_event ?hg (N := 4) ?hd (cs := #[.int .i64 0, .int .i64 0, .slice none 0 0]) (t := 53) ?hr ?_; (case hd => rfl); (case hg => rfl); (case hr => first | (go_simp; done) | (go_simp; rfl)); intro gb247 hg w6 hbox hb; have BK247 := am (hbox); have GW247 := am (gw hg (rb2 HB GE245 GE246)); have GE247 := GW247; replace HB := am (below_step (rb2 HB GE245 GE246) hb); have NB245_247 := am (nl hg (rk BK245)); have NB247_245 := am (ng hg (rk BK245)); replace BK245 := am (blk_below (rk BK245) hb); have NB246_247 := am (nl hg (rk BK246)); have NB247_246 := am (ng hg (rk BK246)); replace BK246 := am (blk_below (rk BK246) hb); clear hb hbox hg))
(try simp only [Act.put, List.setIfInBounds_toArray, List.set_cons_zero, List.set_cons_succ])
go_cut [18] (fun v18 wc => ∃ (kq : Nat) (x18_2 : Bool), v18 = .bool x18_2 ∧ Aside0 (spec_Diff.j0 kq x18_2 a0_0 l0_1 a1_0 l1_1 = some (r1, r2, r3, r4)) ∧ Aside0 (kq ≤ k) ∧ Aside0 (wc.heap[gb245]? = some (.cells #[.int .i64 a0_0, (.slice A0_1 l0_1.length c0_1)] 58 (0, 0))) ∧ Aside0 (wc.heap[gb246]? = some (.cells #[.int .i64 a1_0, (.slice A1_1 l1_1.length c1_1)] 58 (0, 0))) ∧ Aside0 (wc.heap[gb247]? = some (.cells #[.int .i64 0, .int .i64 0, (.slice none 0 0)] 53 (0, 0))) ∧ Aside0 (Below w.heap.size w wc))
case first => (
have H := HC3.out
clear HC3
replace H := Option.bind_eq_some_iff.mp H
obtain ⟨t248, A70, H⟩ := H
(try dsimp only at H)
have A7 := am A70
clear A70
by_cases c8 : t248 = true
·(
subst c8
rw [if_pos rfl] at H
replace H := Option.bind_eq_some_iff.mp H
obtain ⟨t249, A90, H⟩ := H
(try dsimp only at H)
have A9 := am A90
clear A90
have H' := am H
clear H
have hnb10 := NB245_246.out
have hnc10 := NB246_245.out
have hnb11 := NB245_247.out
have hnc11 := NB247_245.out
have hcz12_0 : w6.cell? ⟨gb245, 0, none⟩ = some (.int .i64 a0_0) := (blk_cell BK245.out 0).trans rfl
have hcz12_1 : w6.cell? ⟨gb245, 1, none⟩ = some (.slice A0_1 l0_1.length c0_1) := (blk_cell BK245.out 1).trans rfl
have hfz12_0 := blk_frozen BK245.out 0
have hfz12_1 := blk_frozen BK245.out 1
go_wp2_with (first | ((with_reducible refine gate_callee (f := 69) rfl ?_); refine gl_ (some 12) Try.func69 #[.agg #[.int .i64 a0_0, .slice A0_1 l0_1.length c0_1]] ?_; (with_reducible refine (spec_GridOk.calls k a0_0 _ _ l0_1 true _ ?side1 ?side2 A7.out).mono ?_); (case side1 => exact rc ((Kd.C_below HR0_1.out HB.out))); (case side2 => exact HC0_1.out); rintro e w13 ⟨rfl, hb⟩; refine ⟨_, rfl, ?_⟩; replace BK245 := am (blk_below (rk BK245) hb); replace BK246 := am (blk_below (rk BK246) hb); replace BK247 := am (blk_below (rk BK247) hb); replace HB := am (below_step (rb3 HB GE245 GE246 GE247) hb); (try clear hb); (try clear hb2); (try clear hk); (try clear hi); have hnb14 := NB246_247.out; have hnc14 := NB247_246.out; have hcz15_0 : w13.cell? ⟨gb246, 0, none⟩ = some (.int .i64 a1_0) := (blk_cell BK246.out 0).trans rfl; have hcz15_1 : w13.cell? ⟨gb246, 1, none⟩ = some (.slice A1_1 l1_1.length c1_1) := (blk_cell BK246.out 1).trans rfl; have hfz15_0 := blk_frozen BK246.out 0; have hfz15_1 := blk_frozen BK246.out 1) | (go_at_call 69; (with_reducible refine (spec_GridOk.calls k a1_0 _ _ l1_1 t249 _ ?side1 ?side2 A9.out).mono ?_); (case side1 => exact rc ((Kd.C_below HR1_1.out HB.out))); (case side2 => exact HC1_1.out); rintro e w16 ⟨rfl, hb⟩; replace BK245 := am (blk_below (rk BK245) hb); replace BK246 := am (blk_below (rk BK246) hb); replace BK247 := am (blk_below (rk BK247) hb); replace HB := am (below_step (rb3 HB GE245 GE246 GE247) hb); (try clear hb); (try clear hb2); (try clear hk); (try clear hi)))
go_meet
case rel => exact ⟨_, (!t249), (by first | rfl | (simp; done) | (simp [*]; done)), H', ⟨by first | omega | exact Nat.le_refl _⟩, ⟨rk BK245⟩, ⟨rk BK246⟩, ⟨rk BK247⟩, ⟨rb3 HB GE245 GE246 GE247⟩⟩
)
·(
replace c8 := Bool.eq_false_iff.mpr c8
subst c8
rw [if_neg (show ¬ (false = true) by decide)] at H
have H' := am H
clear H
have hnb17 := NB245_246.out
have hnc17 := NB246_245.out
have hnb18 := NB245_247.out
have hnc18 := NB247_245.out
have hcz19_0 : w6.cell? ⟨gb245, 0, none⟩ = some (.int .i64 a0_0) := (blk_cell BK245.out 0).trans rfl
have hcz19_1 : w6.cell? ⟨gb245, 1, none⟩ = some (.slice A0_1 l0_1.length c0_1) := (blk_cell BK245.out 1).trans rfl
have hfz19_0 := blk_frozen BK245.out 0
have hfz19_1 := blk_frozen BK245.out 1
go_wp2_with (first | ((with_reducible refine gate_callee (f := 69) rfl ?_); refine gl_ (some 12) Try.func69 #[.agg #[.int .i64 a0_0, .slice A0_1 l0_1.length c0_1]] ?_; (with_reducible refine (spec_GridOk.calls k a0_0 _ _ l0_1 false _ ?side1 ?side2 A7.out).mono ?_); (case side1 => exact rc ((Kd.C_below HR0_1.out HB.out))); (case side2 => exact HC0_1.out); rintro e w20 ⟨rfl, hb⟩; refine ⟨_, rfl, ?_⟩; replace BK245 := am (blk_below (rk BK245) hb); replace BK246 := am (blk_below (rk BK246) hb); replace BK247 := am (blk_below (rk BK247) hb); replace HB := am (below_step (rb3 HB GE245 GE246 GE247) hb); (try clear hb); (try clear hb2); (try clear hk); (try clear hi)))
go_meet
case rel => exact ⟨_, (true), (by first | rfl | (simp; done) | (simp [*]; done)), H', ⟨by first | omega | exact Nat.le_refl _⟩, ⟨rk BK245⟩, ⟨rk BK246⟩, ⟨rk BK247⟩, ⟨rb3 HB GE245 GE246 GE247⟩⟩
)
)
case rest => (
clear HC3
try clear c1
try clear p2
try clear c3
try clear c6
try clear c8
try clear c10
try clear c11
try clear c14
try clear c17
try clear c18
try clear hcz12_0
try clear hcz12_1
try clear hcz15_0
try clear hcz15_1
try clear hcz19_0
try clear hcz19_1
try clear hfz12_0
try clear hfz12_1
try clear hfz15_0
try clear hfz15_1
try clear hfz19_0
try clear hfz19_1
obtain ⟨kq, x18_2, rfl, HA, HJ2, BK245, BK246, BK247, HB⟩ := hcut
cases kq with
| zero => exact absurd HA.out (by simp [spec_Diff.j0])
| succ kj2 => (
have H := HA.out
clear HA
simp only [spec_Diff.j0] at H
by_cases c21 : x18_2 = true
·(
subst c21
have H1 : (some (0, 0, ([] : List (S101)), false)) = some (r1, r2, r3, r4) := by rw [if_pos rfl] at H; exact H
clear H
have H := H1
clear H1
simp only [Option.some.injEq, Prod.mk.injEq] at H
obtain ⟨rfl, rfl, rfl, rfl⟩ := H
have hnb22 := NB247_245.out
have hnc22 := NB245_247.out
have hnb23 := NB247_246.out
have hnc23 := NB246_247.out
have hcz24_0 : wc.cell? ⟨gb247, 0, none⟩ = some (.int .i64 0) := (blk_cell BK247.out 0).trans rfl
have hcz24_1 : wc.cell? ⟨gb247, 1, none⟩ = some (.int .i64 0) := (blk_cell BK247.out 1).trans rfl
have hcz24_2 : wc.cell? ⟨gb247, 2, none⟩ = some (.slice none 0 0) := (blk_cell BK247.out 2).trans rfl
have hfz24_0 := blk_frozen BK247.out 0
have hfz24_1 := blk_frozen BK247.out 1
have hfz24_2 := blk_frozen BK247.out 2
go_wp2
refine bodyPost_ret (results_ct rfl _ _ gb247 53 #[.int .i64 0, .int .i64 0, .slice none 0 0] (0, 0) _ rfl (rp_0_1_2 BK247) Try.underlying53 rfl (by kernel_rfl)) rfl ?_
exact ⟨_, by first | rfl | (simp [errW_none, errW_some] <;> rfl) | (simp [*, errW_none, errW_some] <;> rfl), by first | exact Kd.S_nil _ _ _ _ _ | exact Kd.N_nil _ _ _ _ _ | exact Kd.V_nil _ _ _ _ _ | exact Kd.Q_nil _ _ _ _ _ | exact Kd.R_nil _ _ _ _ _, rb3 HB GE245 GE246 GE247⟩
)
·(
replace c21 := Bool.eq_false_iff.mpr c21
subst c21
rw [if_neg (show ¬ (false = true) by decide)] at H
replace H := Option.bind_eq_some_iff.mp H
obtain ⟨⟨t251, t252⟩, A250, H⟩ := H
(try dsimp only at H)
have A25 := am A250
clear A250
have H' := am H
clear H
have hnb26 := NB246_245.out
have hnc26 := NB245_246.out
have hnb27 := NB246_247.out
have hnc27 := NB247_246.out
have hcz28_0 : wc.cell? ⟨gb246, 0, none⟩ = some (.int .i64 a1_0) := (blk_cell BK246.out 0).trans rfl
have hcz28_1 : wc.cell? ⟨gb246, 1, none⟩ = some (.slice A1_1 l1_1.length c1_1) := (blk_cell BK246.out 1).trans rfl
have hfz28_0 := blk_frozen BK246.out 0
have hfz28_1 := blk_frozen BK246.out 1
go_wp2_with (first | ((with_reducible refine gate_dst (N := 6) rfl ?_); refine box_event ?hg (N := 6) ?hd (cs := #[.int .i64 0, .int .i64 0, .slice none 0 0]) (t := 53) ?hr ?_; (case hd => rfl); (case hg => rfl); (case hr => first | (go_simp; done) | (go_simp; rfl)); intro gb250 hg w29 hbox hb; have BK250 := am (hbox); have GW250 := am (gw hg (rb3 HB GE245 GE246 GE247)); have GE250 := GW250; replace HB := am (below_step (rb3 HB GE245 GE246 GE247) hb); have NB245_250 := am (nl hg (rk BK245)); have NB250_245 := am (ng hg (rk BK245)); replace BK245 := am (blk_below (rk BK245) hb); have NB246_250 := am (nl hg (rk BK246)); have NB250_246 := am (ng hg (rk BK246)); replace BK246 := am (blk_below (rk BK246) hb); have NB247_250 := am (nl hg (rk BK247)); have NB250_247 := am (ng hg (rk BK247)); replace BK247 := am (blk_below (rk BK247) hb); clear hb hbox hg; have hnb30 := NB250_245.out; have hnc30 := NB245_250.out; have hnb31 := NB250_246.out; have hnc31 := NB246_250.out; have hnb32 := NB250_247.out; have hnc32 := NB247_250.out; have hcz33_0 : w29.cell? ⟨gb250, 0, none⟩ = some (.int .i64 0) := (blk_cell BK250.out 0).trans rfl; have hcz33_1 : w29.cell? ⟨gb250, 1, none⟩ = some (.int .i64 0) := (blk_cell BK250.out 1).trans rfl; have hcz33_2 : w29.cell? ⟨gb250, 2, none⟩ = some (.slice none 0 0) := (blk_cell BK250.out 2).trans rfl; have hfz33_0 := blk_frozen BK250.out 0; have hfz33_1 := blk_frozen BK250.out 1; have hfz33_2 := blk_frozen BK250.out 2; have hnb34 := NB245_247.out; have hnc34 := NB247_245.out; have hcz35_0 : w29.cell? ⟨gb245, 0, none⟩ = some (.int .i64 a0_0) := (blk_cell BK245.out 0).trans rfl; have hcz35_1 : w29.cell? ⟨gb245, 1, none⟩ = some (.slice A0_1 l0_1.length c0_1) := (blk_cell BK245.out 1).trans rfl; have hfz35_0 := blk_frozen BK245.out 0; have hfz35_1 := blk_frozen BK245.out 1) | ((with_reducible refine gate_callee (f := 70) rfl ?_); refine gl_ (some 31) Try.func70 #[.agg #[.int .i64 a0_0, .slice A0_1 l0_1.length c0_1], .int .i64 a1_0, .int .i64 (l1_1.length : Int)] ?_; (with_reducible refine (spec_l5Resized.calls kj2 a0_0 _ _ l0_1 a1_0 (l1_1.length : Int) t251 t252 _ ?side1 ?side2 A25.out).mono ?_); (case side1 => exact Kd.C_below HR0_1.out (rb4 HB GE245 GE246 GE247 GE250)); (case side2 => exact HC0_1.out); rintro e w36 ⟨v253, rfl, ho0, hb⟩; refine ⟨_, rfl, ?_⟩; have HO254 := am (Kd.S_lower (Sx_floor ho0) (below_size (rb4 HB GE245 GE246 GE247 GE250))); replace BK245 := am (blk_below (g := gb245) (o := .cells #[.int .i64 a0_0, .slice A0_1 l0_1.length c0_1] 58 (0, 0)) (rf3 NB245_250 BK245) hb); replace BK246 := am (blk_below (g := gb246) (o := .cells #[.int .i64 a1_0, .slice A1_1 l1_1.length c1_1] 58 (0, 0)) (rf3 NB246_250 BK246) hb); replace BK247 := am (blk_below (g := gb247) (o := .cells #[.int .i64 0, .int .i64 0, .slice none 0 0] 53 (0, 0)) (rf3 NB247_250 BK247) hb); replace BK250 := am (blk_below (g := gb250) (o := .cells #[.int .i64 a1_0, .int .i64 (l1_1.length : Int), .slice none 0 0] 53 (0, 0)) (rp_0_1_2 BK250) hb); replace HB := am (below_step (rb4 HB GE245 GE246 GE247 GE250) hb); (try clear hb); (try clear hb2); (try clear hk); (try clear hi); (try clear ho0)) | ((with_reducible refine gate_dst (N := 7) rfl ?_); refine box_event ?hg (N := 7) ?hd (cs := #[.int .i64 0, .slice none 0 0]) (t := 58) ?hr ?_; (case hd => rfl); (case hg => rfl); (case hr => first | (go_simp; done) | (go_simp; rfl)); intro gb255 hg w38 hbox hb; replace HO254 := am (Kd.S_below (rs HO254) hb); have BK255 := am (hbox); have GW255 := am (gw hg (rb4 HB GE245 GE246 GE247 GE250)); have GE255 := GW255; replace HB := am (below_step (rb4 HB GE245 GE246 GE247 GE250) hb); have NB245_255 := am (nl hg (rk BK245)); have NB255_245 := am (ng hg (rk BK245)); replace BK245 := am (blk_below (rk BK245) hb); have NB246_255 := am (nl hg (rk BK246)); have NB255_246 := am (ng hg (rk BK246)); replace BK246 := am (blk_below (rk BK246) hb); have NB247_255 := am (nl hg (rk BK247)); have NB255_247 := am (ng hg (rk BK247)); replace BK247 := am (blk_below (rk BK247) hb); have NB250_255 := am (nl hg (rk BK250)); have NB255_250 := am (ng hg (rk BK250)); replace BK250 := am (blk_below (rk BK250) hb); clear hb hbox hg; have hnb39 := NB255_245.out; have hnc39 := NB245_255.out; have hnb40 := NB255_246.out; have hnc40 := NB246_255.out; have hnb41 := NB255_247.out; have hnc41 := NB247_255.out; have hnb42 := NB255_250.out; have hnc42 := NB250_255.out; have hcz43_0 : w38.cell? ⟨gb255, 0, none⟩ = some (.int .i64 0) := (blk_cell BK255.out 0).trans rfl; have hcz43_1 : w38.cell? ⟨gb255, 1, none⟩ = some (.slice none 0 0) := (blk_cell BK255.out 1).trans rfl; have hfz43_0 := blk_frozen BK255.out 0; have hfz43_1 := blk_frozen BK255.out 1; obtain ⟨Ao44, co44, eo44⟩ := Kd.S_slice HO254.out; subst eo44))
go_loopg [8] kj2 (fun kq v8 w' => ∃ (x8_2 : Int) (x251002_2 : List (S101)) (u251002 : Value), v8 = .int .i64 x8_2 ∧ Aside0 (spec_Diff.l0 kq x8_2 a1_0 l1_1 a1_0 (l1_1.length : Int) x251002_2 t251 t252 = some (r1, r2, r3, r4)) ∧ Aside0 (kq ≤ kj2) ∧ Aside0 (Kd.S k101 101 w' w.heap.size (fun _ => True) u251002 x251002_2) ∧ Aside0 (Kd.S (Kd.slice 98 k98) 99 w' w.heap.size (fun _ => True) (.slice Ao44 t252.length co44) t252) ∧ Aside0 (w'.heap[gb245]? = some (.cells #[.int .i64 a0_0, (.slice A0_1 l0_1.length c0_1)] 58 (0, 0))) ∧ Aside0 (w'.heap[gb246]? = some (.cells #[.int .i64 a1_0, (.slice A1_1 l1_1.length c1_1)] 58 (0, 0))) ∧ Aside0 (w'.heap[gb247]? = some (.cells #[.int .i64 0, .int .i64 0, (.slice none 0 0)] 53 (0, 0))) ∧ Aside0 (w'.heap[gb250]? = some (.cells #[.int .i64 a1_0, .int .i64 (l1_1.length : Int), u251002] 53 (0, 0))) ∧ Aside0 (w'.heap[gb255]? = some (.cells #[.int .i64 t251, (.slice Ao44 t252.length co44)] 58 (0, 0))) ∧ Aside0 (Below w.heap.size w w'))
case atStart => exact ⟨(0), (([] : List (S101))), (.slice none 0 0), (by first | rfl | (simp; done) | (simp [*]; done)), H', ⟨Nat.le_refl _⟩, ⟨by first | exact Kd.S_nil _ _ _ _ _ | exact Kd.N_nil _ _ _ _ _ | exact Kd.V_nil _ _ _ _ _ | exact Kd.Q_nil _ _ _ _ _ | exact Kd.R_nil _ _ _ _ _⟩, ⟨by (with_reducible repeat (first | apply Kd.S_alloc | apply Kd.S_drewN | apply Kd.S_drew)); exact Kd.S_mono (Kd.S_far (p := ⟨gb255, 1, none⟩) (Kd.S_far (p := ⟨gb255, 0, none⟩) (Kd.S_types HO254.out BK255.out (by decide)) (fun _ hk => hk.2) (.int .i64 t251)) (fun _ hk => hk.2) (.slice Ao44 t252.length co44)) (fun _ hk => trivial)⟩, ⟨by (with_reducible repeat (first | apply k1 | apply k2 | apply k3)); refine blk_far ?_ NB245_255.out _; (with_reducible repeat (first | apply k1 | apply k2 | apply k3)); refine blk_far ?_ NB245_255.out _; (with_reducible repeat (first | apply k1 | apply k2 | apply k3)); exact BK245.out⟩, ⟨by (with_reducible repeat (first | apply k1 | apply k2 | apply k3)); refine blk_far ?_ NB246_255.out _; (with_reducible repeat (first | apply k1 | apply k2 | apply k3)); refine blk_far ?_ NB246_255.out _; (with_reducible repeat (first | apply k1 | apply k2 | apply k3)); exact BK246.out⟩, ⟨by (with_reducible repeat (first | apply k1 | apply k2 | apply k3)); refine blk_far ?_ NB247_255.out _; (with_reducible repeat (first | apply k1 | apply k2 | apply k3)); refine blk_far ?_ NB247_255.out _; (with_reducible repeat (first | apply k1 | apply k2 | apply k3)); exact BK247.out⟩, ⟨by (with_reducible repeat (first | apply k1 | apply k2 | apply k3)); refine blk_far ?_ NB250_255.out _; (with_reducible repeat (first | apply k1 | apply k2 | apply k3)); refine blk_far ?_ NB250_255.out _; (with_reducible repeat (first | apply k1 | apply k2 | apply k3)); exact BK250.out⟩, ⟨by (with_reducible repeat (first | apply k1 | apply k2 | apply k3)); refine blk_put (cs := #[.int .i64 t251, .slice none 0 0]) ?_ 1 _ rfl; (with_reducible repeat (first | apply k1 | apply k2 | apply k3)); refine blk_put (cs := #[.int .i64 0, .slice none 0 0]) ?_ 0 _ rfl; (with_reducible repeat (first | apply k1 | apply k2 | apply k3)); exact BK255.out⟩, ⟨rb5 HB GE245 GE246 GE247 GE250 GE255⟩⟩
case round => (
clear H'
try clear c1
try clear c2
try clear p2
try clear c3
try clear c4
try clear c6
try clear c7
try clear c8
try clear c10
try clear c11
try clear c14
try clear c17
try clear c18
try clear c21
try clear c22
try clear c23
try clear c26
try clear c27
try clear c30
try clear c31
try clear c32
try clear c34
try clear c39
try clear c40
try clear c41
try clear c42
try clear hcz12_0
try clear hcz12_1
try clear hcz15_0
try clear hcz15_1
try clear hcz19_0
try clear hcz19_1
try clear hcz24_0
try clear hcz24_1
try clear hcz24_2
try clear hcz28_0
try clear hcz28_1
try clear hcz33_0
try clear hcz33_1
try clear hcz33_2
try clear hcz35_0
try clear hcz35_1
try clear hcz43_0
try clear hcz43_1
try clear hfz12_0
try clear hfz12_1
try clear hfz15_0
try clear hfz15_1
try clear hfz19_0
try clear hfz19_1
try clear hfz24_0
try clear hfz24_1
try clear hfz24_2
try clear hfz28_0
try clear hfz28_1
try clear hfz33_0
try clear hfz33_1
try clear hfz33_2
try clear hfz35_0
try clear hfz35_1
try clear hfz43_0
try clear hfz43_1
try clear p2
obtain ⟨x8_2, x251002_2, u251002, rfl, HA, HK2, HO_251002, HO_256001, BK245, BK246, BK247, BK250, BK255, HB⟩ := hrel
cases gk with
| zero => exact absurd HA.out (by simp [spec_Diff.l0])
| succ k2 => (
have H := HA.out
clear HA
simp only [spec_Diff.l0] at H
refine em_ (p := x8_2 < (l1_1.length : Int)) (fun c45 => ?g1p) (fun c45 => ?g1n)
case' g1p => (
rw [if_pos c45] at H
have c45b0 : decide (x8_2 < (l1_1.length : Int)) = true := decide_eq_true c45
clear c45
have H' := am H
clear H
have lf5_ := trivial
)
case' g1n => (
rw [if_neg c45] at H
have c45b0 : decide (x8_2 < (l1_1.length : Int)) = false := decide_eq_false c45
clear c45
refine em_ (p := (x251002_2.length : Int) > 400) (fun c107 => ?g0p) (fun c107 => ?g0n)
case' g0p => (
rw [if_pos c107] at H
have c107b0 : decide (400 < (x251002_2.length : Int)) = true := decide_eq_true c107
have c107b1 : decide (400 < x251002_2.length) = true := decide_eq_true (by omega)
clear c107
simp only [Option.some.injEq, Prod.mk.injEq] at H
obtain ⟨rfl, rfl, rfl, rfl⟩ := H
have lf6_ := trivial
)
case' g0n => (
rw [if_neg c107] at H
have c107b0 : decide (400 < (x251002_2.length : Int)) = false := decide_eq_false c107
have c107b1 : decide (400 < x251002_2.length) = false := decide_eq_false (by omega)
clear c107
simp only [Option.some.injEq, Prod.mk.injEq] at H
obtain ⟨rfl, rfl, rfl, rfl⟩ := H
have lf7_ := trivial
)
)
all_goals (
have hnb46 := NB250_245.out
have hnc46 := NB245_250.out
have hnb47 := NB250_246.out
have hnc47 := NB246_250.out
have hnb48 := NB250_247.out
have hnc48 := NB247_250.out
have hnb49 := NB250_255.out
have hnc49 := NB255_250.out
have hcz50_0 : wr.cell? ⟨gb250, 0, none⟩ = some (.int .i64 a1_0) := (blk_cell BK250.out 0).trans rfl
have hcz50_1 : wr.cell? ⟨gb250, 1, none⟩ = some (.int .i64 (l1_1.length : Int)) := (blk_cell BK250.out 1).trans rfl
have hcz50_2 : wr.cell? ⟨gb250, 2, none⟩ = some (u251002) := (blk_cell BK250.out 2).trans rfl
have hfz50_0 := blk_frozen BK250.out 0
have hfz50_1 := blk_frozen BK250.out 1
have hfz50_2 := blk_frozen BK250.out 2
first
| (
have q_ := lf5_
go_wp2
go_loopg [9] k2 (fun kq v9 w' => ∃ (x9_3 : Int) (x251002_3 : List (S101)) (u251002 : Value), v9 = .int .i64 x9_3 ∧ Aside0 (spec_Diff.l1 kq x8_2 x9_3 a1_0 l1_1 a1_0 (l1_1.length : Int) x251002_3 t251 t252 = some (r1, r2, r3, r4)) ∧ Aside0 (kq ≤ k2) ∧ Aside0 (Kd.S k101 101 w' w.heap.size (fun _ => True) u251002 x251002_3) ∧ Aside0 (Kd.S (Kd.slice 98 k98) 99 w' w.heap.size (fun _ => True) (.slice Ao44 t252.length co44) t252) ∧ Aside0 (w'.heap[gb245]? = some (.cells #[.int .i64 a0_0, (.slice A0_1 l0_1.length c0_1)] 58 (0, 0))) ∧ Aside0 (w'.heap[gb246]? = some (.cells #[.int .i64 a1_0, (.slice A1_1 l1_1.length c1_1)] 58 (0, 0))) ∧ Aside0 (w'.heap[gb247]? = some (.cells #[.int .i64 0, .int .i64 0, (.slice none 0 0)] 53 (0, 0))) ∧ Aside0 (w'.heap[gb250]? = some (.cells #[.int .i64 a1_0, .int .i64 (l1_1.length : Int), u251002] 53 (0, 0))) ∧ Aside0 (w'.heap[gb255]? = some (.cells #[.int .i64 t251, (.slice Ao44 t252.length co44)] 58 (0, 0))) ∧ Aside0 (Below w.heap.size w w'))
case atStart => exact ⟨(0), (x251002_2), (u251002), (by first | rfl | (simp; done) | (simp [*]; done)), H', ⟨Nat.le_refl _⟩, ⟨rs HO_251002⟩, ⟨rs HO_256001⟩, ⟨rk BK245⟩, ⟨rk BK246⟩, ⟨rk BK247⟩, ⟨rk BK250⟩, ⟨rk BK255⟩, ⟨rb5 HB GE245 GE246 GE247 GE250 GE255⟩⟩
case round => (
clear H'
try clear c1
try clear c2
try clear p2
try clear c3
try clear c4
try clear c6
try clear c7
try clear c8
try clear c10
try clear c11
try clear c14
try clear c17
try clear c18
try clear c21
try clear c22
try clear c23
try clear c26
try clear c27
try clear c30
try clear c31
try clear c32
try clear c34
try clear c39
try clear c40
try clear c41
try clear c42
try clear c45
try clear c45b0
try clear c46
try clear c47
try clear c48
try clear c49
try clear hcz12_0
try clear hcz12_1
try clear hcz15_0
try clear hcz15_1
try clear hcz19_0
try clear hcz19_1
try clear hcz24_0
try clear hcz24_1
try clear hcz24_2
try clear hcz28_0
try clear hcz28_1
try clear hcz33_0
try clear hcz33_1
try clear hcz33_2
try clear hcz35_0
try clear hcz35_1
try clear hcz43_0
try clear hcz43_1
try clear hcz50_0
try clear hcz50_1
try clear hcz50_2
try clear hfz12_0
try clear hfz12_1
try clear hfz15_0
try clear hfz15_1
try clear hfz19_0
try clear hfz19_1
try clear hfz24_0
try clear hfz24_1
try clear hfz24_2
try clear hfz28_0
try clear hfz28_1
try clear hfz33_0
try clear hfz33_1
try clear hfz33_2
try clear hfz35_0
try clear hfz35_1
try clear hfz43_0
try clear hfz43_1
try clear hfz50_0
try clear hfz50_1
try clear hfz50_2
try clear p2
obtain ⟨x9_3, x251002_3, u251002, rfl, HA, HK3, HO_251002, HO_256001, BK245, BK246, BK247, BK250, BK255, HB⟩ := hrel
cases gk with
| zero => exact absurd HA.out (by simp [spec_Diff.l1])
| succ k3 => (
have H := HA.out
clear HA
simp only [spec_Diff.l1] at H
refine em_ (p := x9_3 < a1_0) (fun c51 => ?g2p) (fun c51 => ?g2n)
case' g2p => (
rw [if_pos c51] at H
have c51b0 : decide (x9_3 < a1_0) = true := decide_eq_true c51
clear c51
have H' := am H
clear H
have lf8_ := trivial
)
case' g2n => (
rw [if_neg c51] at H
have c51b0 : decide (x9_3 < a1_0) = false := decide_eq_false c51
clear c51
have H' := am H
clear H
have lf9_ := trivial
)
all_goals (
have hnb52 := NB250_245.out
have hnc52 := NB245_250.out
have hnb53 := NB250_246.out
have hnc53 := NB246_250.out
have hnb54 := NB250_247.out
have hnc54 := NB247_250.out
have hnb55 := NB250_255.out
have hnc55 := NB255_250.out
have hcz56_0 : wr.cell? ⟨gb250, 0, none⟩ = some (.int .i64 a1_0) := (blk_cell BK250.out 0).trans rfl
have hcz56_1 : wr.cell? ⟨gb250, 1, none⟩ = some (.int .i64 (l1_1.length : Int)) := (blk_cell BK250.out 1).trans rfl
have hcz56_2 : wr.cell? ⟨gb250, 2, none⟩ = some (u251002) := (blk_cell BK250.out 2).trans rfl
have hfz56_0 := blk_frozen BK250.out 0
have hfz56_1 := blk_frozen BK250.out 1
have hfz56_2 := blk_frozen BK250.out 2
go_wp2
first
| (
have q_ := lf8_
go_loopg [10] k3 (fun kq v10 w' => ∃ (x10_4 : Int), v10 = .int .i64 x10_4 ∧ Aside0 (spec_Diff.l2 kq x8_2 x9_3 x10_4 a1_0 l1_1 a1_0 (l1_1.length : Int) x251002_3 t251 t252 = some (r1, r2, r3, r4)) ∧ Aside0 (kq ≤ k3) ∧ Aside0 (Kd.S k101 101 w' w.heap.size (fun _ => True) u251002 x251002_3) ∧ Aside0 (Kd.S (Kd.slice 98 k98) 99 w' w.heap.size (fun _ => True) (.slice Ao44 t252.length co44) t252) ∧ Aside0 (w'.heap[gb245]? = some (.cells #[.int .i64 a0_0, (.slice A0_1 l0_1.length c0_1)] 58 (0, 0))) ∧ Aside0 (w'.heap[gb246]? = some (.cells #[.int .i64 a1_0, (.slice A1_1 l1_1.length c1_1)] 58 (0, 0))) ∧ Aside0 (w'.heap[gb247]? = some (.cells #[.int .i64 0, .int .i64 0, (.slice none 0 0)] 53 (0, 0))) ∧ Aside0 (w'.heap[gb250]? = some (.cells #[.int .i64 a1_0, .int .i64 (l1_1.length : Int), u251002] 53 (0, 0))) ∧ Aside0 (w'.heap[gb255]? = some (.cells #[.int .i64 t251, (.slice Ao44 t252.length co44)] 58 (0, 0))) ∧ Aside0 (Below w.heap.size w w'))
case atStart => exact ⟨(x9_3), (by first | rfl | (simp; done) | (simp [*]; done)), H', ⟨Nat.le_refl _⟩, ⟨rs HO_251002⟩, ⟨rs HO_256001⟩, ⟨rk BK245⟩, ⟨rk BK246⟩, ⟨rk BK247⟩, ⟨rk BK250⟩, ⟨rk BK255⟩, ⟨rb5 HB GE245 GE246 GE247 GE250 GE255⟩⟩
case round => (
clear H'
try clear c1
try clear c2
try clear p2
try clear c3
try clear c4
try clear c5
try clear c6
try clear c7
try clear c8
try clear c10
try clear c11
try clear c14
try clear c17
try clear c18
try clear c21
try clear c22
try clear c23
try clear c26
try clear c27
try clear c30
try clear c31
try clear c32
try clear c34
try clear c39
try clear c40
try clear c41
try clear c42
try clear c45
try clear c45b0
try clear c46
try clear c47
try clear c48
try clear c49
try clear c51
try clear c51b0
try clear c52
try clear c53
try clear c54
try clear c55
try clear hcz12_0
try clear hcz12_1
try clear hcz15_0
try clear hcz15_1
try clear hcz19_0
try clear hcz19_1
try clear hcz24_0
try clear hcz24_1
try clear hcz24_2
try clear hcz28_0
try clear hcz28_1
try clear hcz33_0
try clear hcz33_1
try clear hcz33_2
try clear hcz35_0
try clear hcz35_1
try clear hcz43_0
try clear hcz43_1
try clear hcz50_0
try clear hcz50_1
try clear hcz50_2
try clear hcz56_0
try clear hcz56_1
try clear hcz56_2
try clear hfz12_0
try clear hfz12_1
try clear hfz15_0
try clear hfz15_1
try clear hfz19_0
try clear hfz19_1
try clear hfz24_0
try clear hfz24_1
try clear hfz24_2
try clear hfz28_0
try clear hfz28_1
try clear hfz33_0
try clear hfz33_1
try clear hfz33_2
try clear hfz35_0
try clear hfz35_1
try clear hfz43_0
try clear hfz43_1
try clear hfz50_0
try clear hfz50_1
try clear hfz50_2
try clear hfz56_0
try clear hfz56_1
try clear hfz56_2
try clear p2
obtain ⟨x10_4, rfl, HA, HK4, HO_251002, HO_256001, BK245, BK246, BK247, BK250, BK255, HB⟩ := hrel
cases gk with
| zero => exact absurd HA.out (by simp [spec_Diff.l2])
| succ k4 => (
have H := HA.out
clear HA
simp only [spec_Diff.l2] at H
refine em_ (p := x10_4 < a1_0) (fun c57 => ?g24p) (fun c57 => ?g24n)
case' g24p => (
rw [if_pos c57] at H
have c57b0 : decide (x10_4 < a1_0) = true := decide_eq_true c57
clear c57
refine em_ (p := 0 ≤ x8_2) (fun c58 => ?g15p) (fun c58 => ?g15n)
case' g15p => (
rw [if_pos c58] at H
have c58b0 : decide (0 ≤ x8_2) = true := decide_eq_true c58
clear c58
refine em_ (p := x8_2 < (t252.length : Int)) (fun c59 => ?g14p) (fun c59 => ?g14n)
case' g14p => (
rw [if_pos c59] at H
have c59b0 : decide (x8_2 < (t252.length : Int)) = true := decide_eq_true c59
clear c59
refine em_ (p := 0 ≤ x10_4) (fun c60 => ?g13p) (fun c60 => ?g13n)
case' g13p => (
rw [if_pos c60] at H
have c60b0 : decide (0 ≤ x10_4) = true := decide_eq_true c60
clear c60
refine em_ (p := x10_4 < ((rd_L7 t252 x8_2).length : Int)) (fun c61 => ?g12p) (fun c61 => ?g12n)
case' g12p => (
rw [if_pos c61] at H
have c61b0 : decide (x10_4 < ((rd_L7 t252 x8_2).length : Int)) = true := decide_eq_true c61
clear c61
refine em_ (p := x8_2 < (l1_1.length : Int)) (fun c62 => ?g11p) (fun c62 => ?g11n)
case' g11p => (
rw [if_pos c62] at H
have c62b0 : decide (x8_2 < (l1_1.length : Int)) = true := decide_eq_true c62
clear c62
refine em_ (p := x10_4 < ((rd_L7 l1_1 x8_2).length : Int)) (fun c63 => ?g10p) (fun c63 => ?g10n)
case' g10p => (
rw [if_pos c63] at H
have c63b0 : decide (x10_4 < ((rd_L7 l1_1 x8_2).length : Int)) = true := decide_eq_true c63
clear c63
refine em_ (p := (!(((rd_T98 (rd_L7 t252 x8_2) x10_4).f0) == ((rd_T98 (rd_L7 l1_1 x8_2) x10_4).f0)) || ((!(((rd_T98 (rd_L7 t252 x8_2) x10_4).f1.f0) == ((rd_T98 (rd_L7 l1_1 x8_2) x10_4).f1.f0)) || (!(((rd_T98 (rd_L7 t252 x8_2) x10_4).f1.f1) == ((rd_T98 (rd_L7 l1_1 x8_2) x10_4).f1.f1)) || (!(((rd_T98 (rd_L7 t252 x8_2) x10_4).f1.f2) == ((rd_T98 (rd_L7 l1_1 x8_2) x10_4).f1.f2)) || (!(((rd_T98 (rd_L7 t252 x8_2) x10_4).f1.f3) == ((rd_T98 (rd_L7 l1_1 x8_2) x10_4).f1.f3)) || (!(((rd_T98 (rd_L7 t252 x8_2) x10_4).f1.f4) == ((rd_T98 (rd_L7 l1_1 x8_2) x10_4).f1.f4))))))) || (!(((rd_T98 (rd_L7 t252 x8_2) x10_4).f2) == ((rd_T98 (rd_L7 l1_1 x8_2) x10_4).f2))))) = true) (fun c64 => ?g9p) (fun c64 => ?g9n)
case' g9p => (
rw [if_pos c64] at H
have c64b0 : (!(((rd_T98 (rd_L7 t252 x8_2) x10_4).f0) == ((rd_T98 (rd_L7 l1_1 x8_2) x10_4).f0)) || ((!(((rd_T98 (rd_L7 t252 x8_2) x10_4).f1.f0) == ((rd_T98 (rd_L7 l1_1 x8_2) x10_4).f1.f0)) || (!(((rd_T98 (rd_L7 t252 x8_2) x10_4).f1.f1) == ((rd_T98 (rd_L7 l1_1 x8_2) x10_4).f1.f1)) || (!(((rd_T98 (rd_L7 t252 x8_2) x10_4).f1.f2) == ((rd_T98 (rd_L7 l1_1 x8_2) x10_4).f1.f2)) || (!(((rd_T98 (rd_L7 t252 x8_2) x10_4).f1.f3) == ((rd_T98 (rd_L7 l1_1 x8_2) x10_4).f1.f3)) || (!(((rd_T98 (rd_L7 t252 x8_2) x10_4).f1.f4) == ((rd_T98 (rd_L7 l1_1 x8_2) x10_4).f1.f4))))))) || (!(((rd_T98 (rd_L7 t252 x8_2) x10_4).f2) == ((rd_T98 (rd_L7 l1_1 x8_2) x10_4).f2))))) = true := c64
clear c64
have H' := am H
clear H
have lf10_ := trivial
)
case' g9n => (
rw [if_neg c64] at H
have c64b0 : (!(((rd_T98 (rd_L7 t252 x8_2) x10_4).f0) == ((rd_T98 (rd_L7 l1_1 x8_2) x10_4).f0)) || ((!(((rd_T98 (rd_L7 t252 x8_2) x10_4).f1.f0) == ((rd_T98 (rd_L7 l1_1 x8_2) x10_4).f1.f0)) || (!(((rd_T98 (rd_L7 t252 x8_2) x10_4).f1.f1) == ((rd_T98 (rd_L7 l1_1 x8_2) x10_4).f1.f1)) || (!(((rd_T98 (rd_L7 t252 x8_2) x10_4).f1.f2) == ((rd_T98 (rd_L7 l1_1 x8_2) x10_4).f1.f2)) || (!(((rd_T98 (rd_L7 t252 x8_2) x10_4).f1.f3) == ((rd_T98 (rd_L7 l1_1 x8_2) x10_4).f1.f3)) || (!(((rd_T98 (rd_L7 t252 x8_2) x10_4).f1.f4) == ((rd_T98 (rd_L7 l1_1 x8_2) x10_4).f1.f4))))))) || (!(((rd_T98 (rd_L7 t252 x8_2) x10_4).f2) == ((rd_T98 (rd_L7 l1_1 x8_2) x10_4).f2))))) = false := by simpa using c64
clear c64
refine em_ (p := x10_4 > x9_3) (fun c66 => ?g8p) (fun c66 => ?g8n)
case' g8p => (
rw [if_pos c66] at H
have c66b0 : decide (x9_3 < x10_4) = true := decide_eq_true c66
clear c66
obtain ⟨y260, hy260⟩ : ∃ y_ : List (S98), y_ = (([] : List (S98))) := ⟨_, rfl⟩
replace H : (if 0 ≤ x9_3 then (if x9_3 ≤ x10_4 then (if x10_4 ≤ ((rd_L7 l1_1 x8_2).length : Int) then ((some (((rd_L7 l1_1 x8_2).take (x10_4 : Int).toNat).drop (x9_3 : Int).toNat : List (S98))).bind fun y264 => (if y260.length + y264.length < 3518437208883 then (if x251002_3.length < 3518437208883 then (spec_Diff.l1 k4 x8_2 (wrap64 (x10_4 + 1)) a1_0 l1_1 a1_0 (l1_1.length : Int) (x251002_3 ++ [(⟨x8_2, x9_3, (y260 ++ y264)⟩ : S101)]) t251 t252) else (none)) else (none))) else (none)) else (none)) else (none)) = some (r1, r2, r3, r4) := by first | (rw [hy260]; with_reducible exact H) | (rw [hy260]; exact H) | exact H
have Ny260 := am hy260
clear hy260
refine em_ (p := 0 ≤ x9_3) (fun c67 => ?g7p) (fun c67 => ?g7n)
case' g7p => (
rw [if_pos c67] at H
have c67b0 := eq_true c67
have c67b1 : decide (0 ≤ x9_3) = true := decide_eq_true c67
clear c67
refine em_ (p := x9_3 ≤ x10_4) (fun c68 => ?g6p) (fun c68 => ?g6n)
case' g6p => (
rw [if_pos c68] at H
have c68b0 := eq_true c68
have c68b1 : decide (x9_3 ≤ x10_4) = true := decide_eq_true c68
clear c68
refine em_ (p := x10_4 ≤ ((rd_L7 l1_1 x8_2).length : Int)) (fun c69 => ?g5p) (fun c69 => ?g5n)
case' g5p => (
rw [if_pos c69] at H
have c69b0 := eq_true c69
have c69b1 : decide (x10_4 ≤ ((rd_L7 l1_1 x8_2).length : Int)) = true := decide_eq_true c69
clear c69
obtain ⟨y264, hy264⟩ : ∃ y_ : List (S98), y_ = (((rd_L7 l1_1 x8_2).take (x10_4 : Int).toNat).drop (x9_3 : Int).toNat) := ⟨_, rfl⟩
replace H : (if y260.length + y264.length < 3518437208883 then (if x251002_3.length < 3518437208883 then (spec_Diff.l1 k4 x8_2 (wrap64 (x10_4 + 1)) a1_0 l1_1 a1_0 (l1_1.length : Int) (x251002_3 ++ [(⟨x8_2, x9_3, (y260 ++ y264)⟩ : S101)]) t251 t252) else (none)) else (none)) = some (r1, r2, r3, r4) := by first | (rw [hy264]; with_reducible exact H) | (rw [hy264]; exact H) | exact H
have Ny264 := am hy264
clear hy264
refine em_ (p := y260.length + y264.length < 3518437208883) (fun c70 => ?g4p) (fun c70 => ?g4n)
case' g4p => (
rw [if_pos c70] at H
have LMc70 := am c70
clear c70
obtain ⟨y268, hy268⟩ : ∃ y_ : List (S98), y_ = (y260 ++ y264) := ⟨_, rfl⟩
replace H : (if x251002_3.length < 3518437208883 then (spec_Diff.l1 k4 x8_2 (wrap64 (x10_4 + 1)) a1_0 l1_1 a1_0 (l1_1.length : Int) (x251002_3 ++ [(⟨x8_2, x9_3, y268⟩ : S101)]) t251 t252) else (none)) = some (r1, r2, r3, r4) := by first | (rw [hy268]; with_reducible exact H) | (rw [hy268]; exact H) | exact H
have Ny268 := am hy268
clear hy268
refine em_ (p := x251002_3.length < 3518437208883) (fun c71 => ?g3p) (fun c71 => ?g3n)
case' g3p => (
rw [if_pos c71] at H
have LMc71 := am c71
clear c71
obtain ⟨y271, hy271⟩ : ∃ y_ : List (S101), y_ = (x251002_3 ++ [(⟨x8_2, x9_3, y268⟩ : S101)]) := ⟨_, rfl⟩
replace H : (spec_Diff.l1 k4 x8_2 (wrap64 (x10_4 + 1)) a1_0 l1_1 a1_0 (l1_1.length : Int) y271 t251 t252) = some (r1, r2, r3, r4) := by first | (rw [hy271]; with_reducible exact H) | (rw [hy271]; exact H) | exact H
have Ny271 := am hy271
clear hy271
have H' := am H
clear H
have lf11_ := trivial
)
case g3n => (
rw [if_neg c71] at H
exact absurd H (by simp)
)
)
case g4n => (
rw [if_neg c70] at H
exact absurd H (by simp)
)
)
case g5n => (
rw [if_neg c69] at H
exact absurd H (by simp)
)
)
case g6n => (
rw [if_neg c68] at H
exact absurd H (by simp)
)
)
case g7n => (
rw [if_neg c67] at H
exact absurd H (by simp)
)
)
case' g8n => (
rw [if_neg c66] at H
have c66b0 : decide (x9_3 < x10_4) = false := decide_eq_false c66
clear c66
have H' := am H
clear H
have lf12_ := trivial
)
)
)
case g10n => (
rw [if_neg c63] at H
exact absurd H (by simp)
)
)
case g11n => (
rw [if_neg c62] at H
exact absurd H (by simp)
)
)
case g12n => (
rw [if_neg c61] at H
exact absurd H (by simp)
)
)
case g13n => (
rw [if_neg c60] at H
exact absurd H (by simp)
)
)
case g14n => (
rw [if_neg c59] at H
exact absurd H (by simp)
)
)
case g15n => (
rw [if_neg c58] at H
exact absurd H (by simp)
)
)
case' g24n => (
rw [if_neg c57] at H
have c57b0 : decide (x10_4 < a1_0) = false := decide_eq_false c57
clear c57
refine em_ (p := x10_4 > x9_3) (fun c83 => ?g23p) (fun c83 => ?g23n)
case' g23p => (
rw [if_pos c83] at H
have c83b0 : decide (x9_3 < x10_4) = true := decide_eq_true c83
clear c83
obtain ⟨y274, hy274⟩ : ∃ y_ : List (S98), y_ = (([] : List (S98))) := ⟨_, rfl⟩
replace H : (if 0 ≤ x8_2 then (if x8_2 < (l1_1.length : Int) then (if 0 ≤ x9_3 then (if x9_3 ≤ x10_4 then (if x10_4 ≤ ((rd_L7 l1_1 x8_2).length : Int) then ((some (((rd_L7 l1_1 x8_2).take (x10_4 : Int).toNat).drop (x9_3 : Int).toNat : List (S98))).bind fun y278 => (if y274.length + y278.length < 3518437208883 then (if x251002_3.length < 3518437208883 then (spec_Diff.l1 k4 x8_2 (wrap64 (x10_4 + 1)) a1_0 l1_1 a1_0 (l1_1.length : Int) (x251002_3 ++ [(⟨x8_2, x9_3, (y274 ++ y278)⟩ : S101)]) t251 t252) else (none)) else (none))) else (none)) else (none)) else (none)) else (none)) else (none)) = some (r1, r2, r3, r4) := by first | (rw [hy274]; with_reducible exact H) | (rw [hy274]; exact H) | exact H
have Ny274 := am hy274
clear hy274
refine em_ (p := 0 ≤ x8_2) (fun c84 => ?g22p) (fun c84 => ?g22n)
case' g22p => (
rw [if_pos c84] at H
have c84b0 : decide (0 ≤ x8_2) = true := decide_eq_true c84
clear c84
refine em_ (p := x8_2 < (l1_1.length : Int)) (fun c85 => ?g21p) (fun c85 => ?g21n)
case' g21p => (
rw [if_pos c85] at H
have c85b0 : decide (x8_2 < (l1_1.length : Int)) = true := decide_eq_true c85
clear c85
refine em_ (p := 0 ≤ x9_3) (fun c86 => ?g20p) (fun c86 => ?g20n)
case' g20p => (
rw [if_pos c86] at H
have c86b0 := eq_true c86
have c86b1 : decide (0 ≤ x9_3) = true := decide_eq_true c86
clear c86
refine em_ (p := x9_3 ≤ x10_4) (fun c87 => ?g19p) (fun c87 => ?g19n)
case' g19p => (
rw [if_pos c87] at H
have c87b0 := eq_true c87
have c87b1 : decide (x9_3 ≤ x10_4) = true := decide_eq_true c87
clear c87
refine em_ (p := x10_4 ≤ ((rd_L7 l1_1 x8_2).length : Int)) (fun c88 => ?g18p) (fun c88 => ?g18n)
case' g18p => (
rw [if_pos c88] at H
have c88b0 := eq_true c88
have c88b1 : decide (x10_4 ≤ ((rd_L7 l1_1 x8_2).length : Int)) = true := decide_eq_true c88
clear c88
obtain ⟨y278, hy278⟩ : ∃ y_ : List (S98), y_ = (((rd_L7 l1_1 x8_2).take (x10_4 : Int).toNat).drop (x9_3 : Int).toNat) := ⟨_, rfl⟩
replace H : (if y274.length + y278.length < 3518437208883 then (if x251002_3.length < 3518437208883 then (spec_Diff.l1 k4 x8_2 (wrap64 (x10_4 + 1)) a1_0 l1_1 a1_0 (l1_1.length : Int) (x251002_3 ++ [(⟨x8_2, x9_3, (y274 ++ y278)⟩ : S101)]) t251 t252) else (none)) else (none)) = some (r1, r2, r3, r4) := by first | (rw [hy278]; with_reducible exact H) | (rw [hy278]; exact H) | exact H
have Ny278 := am hy278
clear hy278
refine em_ (p := y274.length + y278.length < 3518437208883) (fun c89 => ?g17p) (fun c89 => ?g17n)
case' g17p => (
rw [if_pos c89] at H
have LMc89 := am c89
clear c89
obtain ⟨y282, hy282⟩ : ∃ y_ : List (S98), y_ = (y274 ++ y278) := ⟨_, rfl⟩
replace H : (if x251002_3.length < 3518437208883 then (spec_Diff.l1 k4 x8_2 (wrap64 (x10_4 + 1)) a1_0 l1_1 a1_0 (l1_1.length : Int) (x251002_3 ++ [(⟨x8_2, x9_3, y282⟩ : S101)]) t251 t252) else (none)) = some (r1, r2, r3, r4) := by first | (rw [hy282]; with_reducible exact H) | (rw [hy282]; exact H) | exact H
have Ny282 := am hy282
clear hy282
refine em_ (p := x251002_3.length < 3518437208883) (fun c90 => ?g16p) (fun c90 => ?g16n)
case' g16p => (
rw [if_pos c90] at H
have LMc90 := am c90
clear c90
obtain ⟨y285, hy285⟩ : ∃ y_ : List (S101), y_ = (x251002_3 ++ [(⟨x8_2, x9_3, y282⟩ : S101)]) := ⟨_, rfl⟩
replace H : (spec_Diff.l1 k4 x8_2 (wrap64 (x10_4 + 1)) a1_0 l1_1 a1_0 (l1_1.length : Int) y285 t251 t252) = some (r1, r2, r3, r4) := by first | (rw [hy285]; with_reducible exact H) | (rw [hy285]; exact H) | exact H
have Ny285 := am hy285
clear hy285
have H' := am H
clear H
have lf13_ := trivial
)
case g16n => (
rw [if_neg c90] at H
exact absurd H (by simp)
)
)
case g17n => (
rw [if_neg c89] at H
exact absurd H (by simp)
)
)
case g18n => (
rw [if_neg c88] at H
exact absurd H (by simp)
)
)
case g19n => (
rw [if_neg c87] at H
exact absurd H (by simp)
)
)
case g20n => (
rw [if_neg c86] at H
exact absurd H (by simp)
)
)
case g21n => (
rw [if_neg c85] at H
exact absurd H (by simp)
)
)
case g22n => (
rw [if_neg c84] at H
exact absurd H (by simp)
)
)
case' g23n => (
rw [if_neg c83] at H
have c83b0 : decide (x9_3 < x10_4) = false := decide_eq_false c83
clear c83
have H' := am H
clear H
have lf14_ := trivial
)
)
all_goals (
try go_wp2
replace HO_251002 := am (Kd.S_drew HO_251002.out)
replace HO_256001 := am (Kd.S_drew HO_256001.out)
replace BK245 := am (blk_drew BK245.out)
replace BK246 := am (blk_drew BK246.out)
replace BK247 := am (blk_drew BK247.out)
replace BK250 := am (blk_drew BK250.out)
replace BK255 := am (blk_drew BK255.out)
replace HB := am (below_drew1 HB.out)
first
| (
have p256 : 0 ≤ (x8_2 : Int) := dt_
have q256 : x8_2 < (t252.length : Int) := dt_
obtain ⟨ad256, A256_0, c256_0, e256, hx256_0, hl256_0, hi256_0⟩ := at_L7 (Kd.S_reads' HO_256001.out).2.2 x8_2 p256 q256
cases e256
obtain ⟨ce256, hce256, hMe256, hcc256⟩ := Kd.S_get HO_256001.out [] x8_2 p256 (by first | exact q256 | exact dt_ | (have e_ := (Kd.S_reads' HO_256001.out).1; omega))
obtain ⟨ve256_0, rfl, ge256_0⟩ := hMe256
have hv256_0 := hcc256 0 _ rfl
rw [Nat.add_zero, show ((Kd.slice 98 k98)).sz = 1 from rfl, Nat.mul_one] at hv256_0
replace hv256_0 := Option.some.inj (hv256_0.symm.trans hx256_0)
rw [hv256_0] at ge256_0
have HL256_0 := am (show Kd.R k98 98 _ _ _ _ (rd_L7 t252 x8_2) from ge256_0)
clear hv256_0 ge256_0
clear hcc256 hce256
have HR256_0 := am hi256_0
have HC256_0 := am hl256_0
clear hi256_0 hl256_0
replace p256 := eq_true p256
replace q256 := eq_true q256
have p257 : 0 ≤ (x10_4 : Int) := dt_
have q257 : x10_4 < ((rd_L7 t252 x8_2).length : Int) := dt_
obtain ⟨ad257, e257, hx257_0, hx257_1, hx257_2, hx257_3, hx257_4, hx257_5, hx257_6⟩ := at_T98 (by repeat (first | (with_reducible exact HR256_0.out) | (with_reducible refine Kd.C_alloc ?_ _) | (with_reducible refine Kd.C_drewN ?_ _) | (with_reducible refine Kd.C_drew ?_) | exact HR256_0.out)) x10_4 p257 q257
cases e257
replace p257 := eq_true p257
replace q257 := eq_true q257
have p258 : 0 ≤ (x8_2 : Int) := dt_
have q258 : x8_2 < (l1_1.length : Int) := dt_
obtain ⟨ad258, A258_0, c258_0, e258, hx258_0, hl258_0, hi258_0⟩ := at_L7 HR1_1.out x8_2 p258 q258
have hw258_0 := hx258_0
cases e258
replace hx258_0 := mv HB.out hx258_0
have HR258_0 := am hi258_0
have HC258_0 := am hl258_0
clear hi258_0 hl258_0
replace p258 := eq_true p258
replace q258 := eq_true q258
have p259 : 0 ≤ (x10_4 : Int) := dt_
have q259 : x10_4 < ((rd_L7 l1_1 x8_2).length : Int) := dt_
obtain ⟨ad259, e259, hx259_0, hx259_1, hx259_2, hx259_3, hx259_4, hx259_5, hx259_6⟩ := at_T98 HR258_0.out x10_4 p259 q259
have hw259_6 := hx259_6
have hw259_5 := hx259_5
have hw259_4 := hx259_4
have hw259_3 := hx259_3
have hw259_2 := hx259_2
have hw259_1 := hx259_1
have hw259_0 := hx259_0
cases e259
replace hx259_0 := mv HB.out hx259_0
replace hx259_1 := mv HB.out hx259_1
replace hx259_2 := mv HB.out hx259_2
replace hx259_3 := mv HB.out hx259_3
replace hx259_4 := mv HB.out hx259_4
replace hx259_5 := mv HB.out hx259_5
replace hx259_6 := mv HB.out hx259_6
replace p259 := eq_true p259
replace q259 := eq_true q259
refine start_ (n := 23) (S := fun w' => w'.cell? ⟨gb250, 0, none⟩ = some (.int .i64 a1_0) ∧ w'.cell? ⟨gb250, 1, none⟩ = some (.int .i64 (l1_1.length : Int)) ∧ w'.cell? ⟨gb250, 2, none⟩ = some (u251002) ∧ w'.cell? ⟨gb255, 0, none⟩ = some (.int .i64 t251) ∧ w'.cell? ⟨gb255, 1, none⟩ = some (.slice (some ad256) t252.length co44) ∧ w'.cell? ⟨gb246, 0, none⟩ = some (.int .i64 a1_0) ∧ w'.cell? ⟨gb246, 1, none⟩ = some (.slice (some ad258) l1_1.length c1_1) ∧ w'.cell? (ad256.add (x8_2).toNat) = some (.slice (some ad257) (rd_L7 t252 x8_2).length c256_0) ∧ w'.cell? (ad257.add ((x10_4).toNat * 7)) = some (.int .i64 ((rd_T98 (rd_L7 t252 x8_2) x10_4).f0)) ∧ w'.cell? ⟨(ad257.add ((x10_4).toNat * 7)).block, (ad257.add ((x10_4).toNat * 7)).off + 1, none⟩ = some (.int .i64 ((rd_T98 (rd_L7 t252 x8_2) x10_4).f1.f0)) ∧ w'.cell? ⟨(ad257.add ((x10_4).toNat * 7)).block, (ad257.add ((x10_4).toNat * 7)).off + 2, none⟩ = some (.int .i64 ((rd_T98 (rd_L7 t252 x8_2) x10_4).f1.f1)) ∧ w'.cell? ⟨(ad257.add ((x10_4).toNat * 7)).block, (ad257.add ((x10_4).toNat * 7)).off + 3, none⟩ = some (.bool ((rd_T98 (rd_L7 t252 x8_2) x10_4).f1.f2)) ∧ w'.cell? ⟨(ad257.add ((x10_4).toNat * 7)).block, (ad257.add ((x10_4).toNat * 7)).off + 4, none⟩ = some (.bool ((rd_T98 (rd_L7 t252 x8_2) x10_4).f1.f3)) ∧ w'.cell? ⟨(ad257.add ((x10_4).toNat * 7)).block, (ad257.add ((x10_4).toNat * 7)).off + 5, none⟩ = some (.bool ((rd_T98 (rd_L7 t252 x8_2) x10_4).f1.f4)) ∧ w'.cell? ⟨(ad257.add ((x10_4).toNat * 7)).block, (ad257.add ((x10_4).toNat * 7)).off + 6, none⟩ = some (.int .i64 ((rd_T98 (rd_L7 t252 x8_2) x10_4).f2)) ∧ w'.cell? (ad258.add (x8_2).toNat) = some (.slice (some ad259) (rd_L7 l1_1 x8_2).length c258_0) ∧ w'.cell? (ad259.add ((x10_4).toNat * 7)) = some (.int .i64 ((rd_T98 (rd_L7 l1_1 x8_2) x10_4).f0)) ∧ w'.cell? ⟨(ad259.add ((x10_4).toNat * 7)).block, (ad259.add ((x10_4).toNat * 7)).off + 1, none⟩ = some (.int .i64 ((rd_T98 (rd_L7 l1_1 x8_2) x10_4).f1.f0)) ∧ w'.cell? ⟨(ad259.add ((x10_4).toNat * 7)).block, (ad259.add ((x10_4).toNat * 7)).off + 2, none⟩ = some (.int .i64 ((rd_T98 (rd_L7 l1_1 x8_2) x10_4).f1.f1)) ∧ w'.cell? ⟨(ad259.add ((x10_4).toNat * 7)).block, (ad259.add ((x10_4).toNat * 7)).off + 3, none⟩ = some (.bool ((rd_T98 (rd_L7 l1_1 x8_2) x10_4).f1.f2)) ∧ w'.cell? ⟨(ad259.add ((x10_4).toNat * 7)).block, (ad259.add ((x10_4).toNat * 7)).off + 4, none⟩ = some (.bool ((rd_T98 (rd_L7 l1_1 x8_2) x10_4).f1.f3)) ∧ w'.cell? ⟨(ad259.add ((x10_4).toNat * 7)).block, (ad259.add ((x10_4).toNat * 7)).off + 5, none⟩ = some (.bool ((rd_T98 (rd_L7 l1_1 x8_2) x10_4).f1.f4)) ∧ w'.cell? ⟨(ad259.add ((x10_4).toNat * 7)).block, (ad259.add ((x10_4).toNat * 7)).off + 6, none⟩ = some (.int .i64 ((rd_T98 (rd_L7 l1_1 x8_2) x10_4).f2))) (ds := []) (bm 23 0) (by kernel_rfl) rfl rfl ⟨(blk_cell BK250.out 0).trans rfl, (blk_cell BK250.out 1).trans rfl, (blk_cell BK250.out 2).trans rfl, (blk_cell BK255.out 0).trans rfl, (blk_cell BK255.out 1).trans rfl, (blk_cell BK246.out 0).trans rfl, (blk_cell BK246.out 1).trans rfl, hx256_0, hx257_0, hx257_1, hx257_2, hx257_3, hx257_4, hx257_5, hx257_6, ((HB.out.cell (World.block_lt_of_cell? w _ hw258_0)).trans hw258_0), ((HB.out.cell (World.block_lt_of_cell? w _ hw259_0)).trans hw259_0), ((HB.out.cell (World.block_lt_of_cell? w _ hw259_1)).trans hw259_1), ((HB.out.cell (World.block_lt_of_cell? w _ hw259_2)).trans hw259_2), ((HB.out.cell (World.block_lt_of_cell? w _ hw259_3)).trans hw259_3), ((HB.out.cell (World.block_lt_of_cell? w _ hw259_4)).trans hw259_4), ((HB.out.cell (World.block_lt_of_cell? w _ hw259_5)).trans hw259_5), ((HB.out.cell (World.block_lt_of_cell? w _ hw259_6)).trans hw259_6)⟩ (fun hHeld => ?_); refine with_tabW spec_Diff.tab11 spec_Diff.bits11 (fun HT_ HW_ => ?_)
generalize wr.drew = w65 at HO_251002 HO_256001 BK245 BK246 BK247 BK250 BK255 HB HL256_0 HR256_0 HR258_0 hx256_0 hx257_0 hx257_1 hx257_2 hx257_3 hx257_4 hx257_5 hx257_6 hx258_0 hx259_0 hx259_1 hx259_2 hx259_3 hx259_4 hx259_5 hx259_6 hHeld ⊢
)
| (
refine start_ (n := 23) (S := fun w' => w'.cell? ⟨gb250, 0, none⟩ = some (.int .i64 a1_0) ∧ w'.cell? ⟨gb250, 1, none⟩ = some (.int .i64 (l1_1.length : Int)) ∧ w'.cell? ⟨gb250, 2, none⟩ = some (u251002)) (ds := []) (bm 23 0) (by kernel_rfl) rfl rfl ⟨(blk_cell BK250.out 0).trans rfl, (blk_cell BK250.out 1).trans rfl, (blk_cell BK250.out 2).trans rfl⟩ (fun hHeld => ?_); refine with_tabW spec_Diff.tab11 spec_Diff.bits11 (fun HT_ HW_ => ?_)
generalize wr.drew = w91 at HO_251002 HO_256001 BK245 BK246 BK247 BK250 BK255 HB hHeld ⊢
)
refine pu_ 0 43 (bm 23 1) HT_.out ?_
refine pu_ 1 44 (bm 23 3) HT_.out ?_
refine take_ (i := 2) (N := some 45) (v := ?_) (a' := ?_) (bm 23 7) rfl rfl (take_ofW HT_.out HW_.out (by kernel_rfl)) (fun _ _ _ h => h) (Or.inl ⟨by rfl, ?_⟩) hHeld ?_ ?_
rotate_left
first
| (
·(
rintro w' ⟨s0, s1, s2, s3, s4, s5, s6, s7, s8, s9, s10, s11, s12, s13, s14, s15, s16, s17, s18, s19, s20, s21, s22⟩
go_simp
with_reducible rfl
)
)
| (
·(
rintro w' ⟨s0, s1, s2⟩
go_simp
with_reducible rfl
)
)
rotate_left
·(
simp only [Act.put, List.setIfInBounds_toArray, List.set_cons_zero, List.set_cons_succ, i64_w, i32_w]
rfl
)
refine pu_ 3 46 (bm 23 15) HT_.out ?_
refine pu_ 4 47 (bm 23 31) HT_.out ?_
first | refine pu_ 5 48 (bm 23 63) HT_.out ?_ | refine un_ 5 48 (bm 23 63) HT_.out ?_
first
| (
refine pu_ 7 50 (bm 23 191) HT_.out ?_
refine pu_ 10 53 (bm 23 1215) HT_.out ?_
refine pu_ 13 56 (bm 23 9407) HT_.out ?_
refine pu_ 15 58 (bm 23 42175) HT_.out ?_
refine pu_ 18 61 (bm 23 304319) HT_.out ?_
refine take_ (i := 6) (N := some 49) (v := ?_) (a' := ?_) (bm 23 304383) rfl rfl (take_ofW HT_.out HW_.out (by kernel_rfl)) (fun _ _ _ h => h) (Or.inl ⟨by rfl, ?_⟩) hHeld ?_ ?_
rotate_left
·(
rintro w' ⟨s0, s1, s2, s3, s4, s5, s6, s7, s8, s9, s10, s11, s12, s13, s14, s15, s16, s17, s18, s19, s20, s21, s22⟩
go_simp
with_reducible rfl
)
rotate_left
·(
simp only [Act.put, List.setIfInBounds_toArray, List.set_cons_zero, List.set_cons_succ, i64_w, i32_w]
rfl
)
refine pu_ 8 51 (bm 23 304639) HT_.out ?_
refine take_ (i := 9) (N := some 52) (v := ?_) (a' := ?_) (bm 23 305151) rfl rfl (take_ofW HT_.out HW_.out (by kernel_rfl)) (fun _ _ _ h => h) (Or.inl ⟨by rfl, ?_⟩) hHeld ?_ ?_
rotate_left
·(
rintro w' ⟨s0, s1, s2, s3, s4, s5, s6, s7, s8, s9, s10, s11, s12, s13, s14, s15, s16, s17, s18, s19, s20, s21, s22⟩
go_simp
with_reducible rfl
)
rotate_left
·(
simp only [Act.put, List.setIfInBounds_toArray, List.set_cons_zero, List.set_cons_succ, i64_w, i32_w]
rfl
)
refine pu_ 11 54 (bm 23 307199) HT_.out ?_
refine take_ (i := 12) (N := some 55) (v := ?_) (a' := ?_) (bm 23 311295) rfl rfl (take_ofW HT_.out HW_.out (by kernel_rfl)) (fun _ _ _ h => h) (Or.inl ⟨by rfl, ?_⟩) hHeld ?_ ?_
rotate_left
·(
rintro w' ⟨s0, s1, s2, s3, s4, s5, s6, s7, s8, s9, s10, s11, s12, s13, s14, s15, s16, s17, s18, s19, s20, s21, s22⟩
go_simp
with_reducible rfl
)
rotate_left
·(
simp only [Act.put, List.setIfInBounds_toArray, List.set_cons_zero, List.set_cons_succ, i64_w, i32_w]
rfl
)
refine take_ (i := 14) (N := some 57) (v := ?_) (a' := ?_) (bm 23 327679) rfl rfl (take_ofW HT_.out HW_.out (by kernel_rfl)) (fun _ _ _ h => h) (Or.inl ⟨by rfl, ?_⟩) hHeld ?_ ?_
rotate_left
·(
rintro w' ⟨s0, s1, s2, s3, s4, s5, s6, s7, s8, s9, s10, s11, s12, s13, s14, s15, s16, s17, s18, s19, s20, s21, s22⟩
go_simp
with_reducible rfl
)
rotate_left
·(
simp only [Act.put, List.setIfInBounds_toArray, List.set_cons_zero, List.set_cons_succ, i64_w, i32_w]
rfl
)
refine pu_ 16 59 (bm 23 393215) HT_.out ?_
refine take_ (i := 17) (N := some 60) (v := ?_) (a' := ?_) (bm 23 524287) rfl rfl (take_ofW HT_.out HW_.out (by kernel_rfl)) (fun _ _ _ h => h) (Or.inl ⟨by rfl, ?_⟩) hHeld ?_ ?_
rotate_left
·(
rintro w' ⟨s0, s1, s2, s3, s4, s5, s6, s7, s8, s9, s10, s11, s12, s13, s14, s15, s16, s17, s18, s19, s20, s21, s22⟩
go_simp
with_reducible rfl
)
rotate_left
·(
simp only [Act.put, List.setIfInBounds_toArray, List.set_cons_zero, List.set_cons_succ, i64_w, i32_w]
rfl
)
refine pu_ 19 62 (bm 23 1048575) HT_.out ?_
refine take_ (i := 20) (N := some 63) (v := ?_) (a' := ?_) (bm 23 2097151) rfl rfl (take_ofW HT_.out HW_.out (by kernel_rfl)) (fun _ _ _ h => h) (Or.inl ⟨by rfl, ?_⟩) hHeld ?_ ?_
rotate_left
·(
rintro w' ⟨s0, s1, s2, s3, s4, s5, s6, s7, s8, s9, s10, s11, s12, s13, s14, s15, s16, s17, s18, s19, s20, s21, s22⟩
go_simp
with_reducible rfl
)
rotate_left
·(
simp only [Act.put, List.setIfInBounds_toArray, List.set_cons_zero, List.set_cons_succ, i64_w, i32_w]
rfl
)
)
| (
refine un_ 6 49 (bm 23 127) HT_.out ?_
refine un_ 7 50 (bm 23 255) HT_.out ?_
refine un_ 8 51 (bm 23 511) HT_.out ?_
refine un_ 9 52 (bm 23 1023) HT_.out ?_
refine un_ 10 53 (bm 23 2047) HT_.out ?_
refine un_ 11 54 (bm 23 4095) HT_.out ?_
refine un_ 12 55 (bm 23 8191) HT_.out ?_
refine un_ 13 56 (bm 23 16383) HT_.out ?_
refine un_ 14 57 (bm 23 32767) HT_.out ?_
refine un_ 15 58 (bm 23 65535) HT_.out ?_
refine un_ 16 59 (bm 23 131071) HT_.out ?_
refine un_ 17 60 (bm 23 262143) HT_.out ?_
refine un_ 18 61 (bm 23 524287) HT_.out ?_
refine un_ 19 62 (bm 23 1048575) HT_.out ?_
refine un_ 20 63 (bm 23 2097151) HT_.out ?_
)
first | refine pu_ 21 64 (bm 23 4194303) HT_.out ?_ | refine un_ 21 64 (bm 23 4194303) HT_.out ?_
refine pu_ 22 65 (bm 23 8388607) HT_.out ?_
refine done_ (done_of HT_.out (by kernel_rfl)) ?_
try go_wp2
first
| (
have q_ := lf11_
replace HO_251002 := am (Kd.S_drew HO_251002.out)
replace HO_256001 := am (Kd.S_drew HO_256001.out)
replace HL256_0 := am (Kd.R_drew HL256_0.out)
replace BK245 := am (blk_drew BK245.out)
replace BK246 := am (blk_drew BK246.out)
replace BK247 := am (blk_drew BK247.out)
replace BK250 := am (blk_drew BK250.out)
replace BK255 := am (blk_drew BK255.out)
replace HR256_0 := am (Kd.C_drew HR256_0.out)
replace HB := am (below_drew1 HB.out)
have p263 : 0 ≤ (x8_2 : Int) := dt_
have q263 : x8_2 < (l1_1.length : Int) := dt_
obtain ⟨ad263, A263_0, c263_0, e263, hx263_0, hl263_0, hi263_0⟩ := at_L7 HR1_1.out x8_2 p263 q263
have hw263_0 := hx263_0
obtain rfl : ad258 = ad263 := (by injection e263)
replace hx263_0 := mv HB.out hx263_0
have HR263_0 := am hi263_0
have HC263_0 := am hl263_0
clear hi263_0 hl263_0
replace p263 := eq_true p263
replace q263 := eq_true q263
have q74 : (x10_4 : Int) ≤ (((rd_L7 l1_1 x8_2).length : Int) : Int) := dt_
obtain ⟨i074, hi074, _, hsz74, _⟩ := info_parts info98
have hroom74 : (rd_L7 l1_1 x8_2).length ≤ c263_0 := HC263_0.out
have hC74 : Kd.C k98 _ A263_0 (rd_L7 l1_1 x8_2).length (rd_L7 l1_1 x8_2) := HR263_0.out
have ql74 : (x9_3 : Int) ≤ (x10_4 : Int) := dt_
have q074 : (0 : Int) ≤ (x9_3 : Int) := dt_
have hcut74 := cut_mid (P := Try.prog) 99 98 .i64 .i64 Try.underlying99 hi074 7 hsz74 A263_0 (rd_L7 l1_1 x8_2).length c263_0 x9_3 x10_4 q074 ql74 q74 hroom74
have hr74 := Kd.C_mid (lo := (x9_3 : Int).toNat) (hi := (x10_4 : Int).toNat) (c := c263_0) hC74 (by omega) (by omega) hroom74
obtain ⟨A74, hA74⟩ : ∃ A1, A1 = (if c263_0 = (x9_3 : Int).toNat then A263_0 else (A263_0 : Option Addr).map (·.add ((x9_3 : Int).toNat * 7))) := ⟨_, rfl⟩
obtain ⟨c74, hc74⟩ : ∃ c1, c1 = c263_0 - (x9_3 : Int).toNat := ⟨_, rfl⟩
have hy74 : y264.length = (x10_4 : Int).toNat - (x9_3 : Int).toNat := (by rw [Ny264.out, List.length_drop, List.length_take] <;> omega)
rw [show ((rd_L7 l1_1 x8_2).take (x10_4 : Int).toNat).drop (x9_3 : Int).toNat = y264 from Ny264.out.symm] at hr74
replace hr74 : Kd.C k98 _ A74 y264.length y264 := (by rw [hA74]; exact hr74)
rw [← hy74, ← hA74, ← hc74] at hcut74
have HR267 := am hr74
have HC267 := am (show y264.length ≤ c74 from by rw [hy74, hc74]; exact Nat.sub_le_sub_right (Nat.le_trans (by omega) hroom74) _)
clear hr74 hC74 hroom74 hi074 hsz74 hc74
have KY74 := am hy74
have KA74 := am hA74
clear hy74 hA74
replace q74 := eq_true q74
refine start_ (n := 19) (S := fun w' => w'.cell? ⟨gb250, 0, none⟩ = some (.int .i64 a1_0) ∧ w'.cell? ⟨gb250, 1, none⟩ = some (.int .i64 (l1_1.length : Int)) ∧ w'.cell? ⟨gb250, 2, none⟩ = some (u251002) ∧ w'.cell? ⟨gb246, 0, none⟩ = some (.int .i64 a1_0) ∧ w'.cell? ⟨gb246, 1, none⟩ = some (.slice (some ad258) l1_1.length c1_1) ∧ w'.cell? (ad258.add (x8_2).toNat) = some (.slice A263_0 (rd_L7 l1_1 x8_2).length c263_0)) (ds := [18]) (bm 19 0) (by kernel_rfl) rfl rfl ⟨(blk_cell BK250.out 0).trans rfl, (blk_cell BK250.out 1).trans rfl, (blk_cell BK250.out 2).trans rfl, (blk_cell BK246.out 0).trans rfl, (blk_cell BK246.out 1).trans rfl, ((HB.out.cell (World.block_lt_of_cell? w _ hw263_0)).trans hw263_0)⟩ (fun hHeld => ?_); refine with_tabW spec_Diff.tab14 spec_Diff.bits14 (fun HT_ HW_ => ?_)
generalize w65.drew = w73 at HO_251002 HO_256001 HL256_0 BK245 BK246 BK247 BK250 BK255 HR256_0 HB HR263_0 HR267 hx263_0 hHeld ⊢
refine pu_ 0 71 (bm 19 1) HT_.out ?_
refine pu_ 2 73 (bm 19 5) HT_.out ?_
refine pu_ 3 74 (bm 19 13) HT_.out ?_
refine pu_ 5 76 (bm 19 45) HT_.out ?_
refine pu_ 7 78 (bm 19 173) HT_.out ?_
refine pu_ 10 81 (bm 19 1197) HT_.out ?_
refine pu_ 11 82 (bm 19 3245) HT_.out ?_
refine take_ (i := 1) (N := some 72) (v := ?_) (a' := ?_) (bm 19 3247) rfl rfl (take_ofW HT_.out HW_.out (by kernel_rfl)) (fun _ _ _ h => h) (Or.inl ⟨by rfl, ?_⟩) hHeld ?_ ?_
rotate_left
·(
rintro w' ⟨s0, s1, s2, s3, s4, s5⟩
go_simp
with_reducible rfl
)
rotate_left
·(
simp only [Act.put, List.setIfInBounds_toArray, List.set_cons_zero, List.set_cons_succ, i64_w, i32_w]
rfl
)
refine take_ (i := 6) (N := some 77) (v := ?_) (a' := ?_) (bm 19 3311) rfl rfl (take_ofW HT_.out HW_.out (by kernel_rfl)) (fun _ _ _ h => h) (Or.inl ⟨by rfl, ?_⟩) hHeld ?_ ?_
rotate_left
·(
rintro w' ⟨s0, s1, s2, s3, s4, s5⟩
go_simp
with_reducible rfl
)
rotate_left
·(
simp only [Act.put, List.setIfInBounds_toArray, List.set_cons_zero, List.set_cons_succ, i64_w, i32_w]
rfl
)
refine pu_ 8 79 (bm 19 3567) HT_.out ?_
refine take_ (i := 9) (N := some 80) (v := ?_) (a' := ?_) (bm 19 4079) rfl rfl (take_ofW HT_.out HW_.out (by kernel_rfl)) (fun _ _ _ h => h) (Or.inl ⟨by rfl, ?_⟩) hHeld ?_ ?_
rotate_left
·(
rintro w' ⟨s0, s1, s2, s3, s4, s5⟩
go_simp
with_reducible rfl
)
rotate_left
·(
simp only [Act.put, List.setIfInBounds_toArray, List.set_cons_zero, List.set_cons_succ, i64_w, i32_w]
rfl
)
refine pu_ 12 83 (bm 19 8175) HT_.out ?_
refine one_ (i := 4) (N := some 75) (bm 19 8191) rfl rfl (one_of HT_.out (by kernel_rfl)) (by decide) (fun K hK => ?_)
refine Kd.R_lit_step k98 _ 98 ?hg (N := 75) ?hd (xs := ([] : List (S98))) (inner := []) (ok := fun _ => True) (okp := fun _ => True) ?hr ?hp (fun _ hk => hk) trivial (Below.refl _ _) (Nat.le_refl _) (by simp) ?_; (case hd => rfl); (case hg => rfl); (case hr => first | (go_simp; done) | (go_simp; rfl)); (case hp => exact (Reps.none _ _))
intro v261 w75 ho76 hb hg_ hnew_
clear hg_ hnew_
(first | rw [← Ny260.out] at ho76 | (simp only [Int.reduceToNat] at ho76; rw [← Ny260.out] at ho76))
replace HO_251002 := am (Kd.S_elder' (rs HO_251002) (Kd.R_base ho76) hb)
replace HO_256001 := am (Kd.S_elder' (rs HO_256001) (Kd.R_base ho76) hb)
have HO262 := am (Kd.R_lower (Kd.R_new' ho76 (Kd.R_lt (rr HL256_0))) (below_size (rb5 HB GE245 GE246 GE247 GE250 GE255)))
replace HL256_0 := am (Kd.R_elder' (rr HL256_0) (Kd.R_base ho76) hb)
replace BK245 := am (blk_below (rk BK245) hb)
replace BK246 := am (blk_below (rk BK246) hb)
replace BK247 := am (blk_below (rk BK247) hb)
replace BK250 := am (blk_below (rk BK250) hb)
replace BK255 := am (blk_below (rk BK255) hb)
replace HR256_0 := am (Kd.C_below (by repeat (first | (with_reducible exact HR256_0.out) | (with_reducible refine Kd.C_alloc ?_ _) | (with_reducible refine Kd.C_drewN ?_ _) | (with_reducible refine Kd.C_drew ?_) | exact HR256_0.out)) hb)
replace HB := am (below_step (rb5 HB GE245 GE246 GE247 GE250 GE255) hb)
clear hb ho76
refine hK.out _ _ ⟨(blk_cell BK250.out 0).trans rfl, (blk_cell BK250.out 1).trans rfl, (blk_cell BK250.out 2).trans rfl, (blk_cell BK246.out 0).trans rfl, (blk_cell BK246.out 1).trans rfl, ((HB.out.cell (World.block_lt_of_cell? w _ hw263_0)).trans hw263_0)⟩ (fun hHeld => ?_)
clear hK K
refine norm_ (a' := _) (show Act.put _ (some 75) _ = _ from na) ?_
refine one_ (i := 13) (N := some 84) (bm 19 16383) rfl rfl (one_of HT_.out (by kernel_rfl)) (by decide) (fun K hK => ?_)
refine Kd.R_append_rows_step k98 (w0 := w) w.heap.size (by rfl) (.tmp 75) (.tmp 83) 99 98 (.agg #[(.int .i64 0), (.int .i64 0), (.int .i64 0), (.bool false), (.bool false), (.bool false), (.int .i64 0)]) 40 rfl Try.underlying99 info98 rfl (by decide) (by omega) v261 y260 y264 _ _ _ (fun k_ => some k_ ≠ (.slice (some ad257) (rd_L7 t252 x8_2).length c256_0 : Value).ownBlock) (fun _ => False) rfl rfl ?aO ?aR (fun _ _ h => h) (fun _ h => h.elim) ?aF ?aB ?aS ?aL ?_
(case aR => repeat (first | exact (Kd.C_below HR267.out HB.out) | (with_reducible refine Kd.C_alloc ?_ _) | (with_reducible refine Kd.C_drewN ?_ _) | (with_reducible refine Kd.C_drew ?_)))
(case aB => exact (rb5 HB GE245 GE246 GE247 GE250 GE255))
(case aF => exact (fun k_ hk => Kd.fresh' (Kd.R_lt (rr HL256_0)) k_ hk))
(case aO => exact (by (with_reducible repeat (first | apply r1 | apply r2 | apply r3)); exact Kd.R_mono HO262.out (fun _ hk => hk.2)))
(case aS => exact (below_size (rb5 HB GE245 GE246 GE247 GE250 GE255)))
(case aL => have := LMc70.out; omega)
intro v269 w77 ho hb hg hat
rw [← Ny268.out] at ho
replace HO_251002 := am (Kd.S_after (ok := (fun _ => True)) (rs HO_251002) hg hat)
replace HO_256001 := am (Kd.S_after (ok := (fun _ => True)) (rs HO_256001) hg hat)
replace BK245 := am (blk_grown (rk BK245) hg (Kd.R_ne HO262.out BK245.out (by decide)))
replace BK246 := am (blk_grown (rk BK246) hg (Kd.R_ne HO262.out BK246.out (by decide)))
replace BK247 := am (blk_grown (rk BK247) hg (Kd.R_ne HO262.out BK247.out (by decide)))
replace BK250 := am (blk_grown (rk BK250) hg (Kd.R_ne HO262.out BK250.out (by decide)))
replace BK255 := am (blk_grown (rk BK255) hg (Kd.R_ne HO262.out BK255.out (by decide)))
replace HL256_0 := am (Kd.R_after (ok := (fun k_ => some k_ ≠ (.slice (some ad256) t252.length co44 : Value).ownBlock)) (by (with_reducible repeat (first | apply r1 | apply r2 | apply r3)); exact Kd.R_mono HL256_0.out (fun _ hk => ⟨hk.1.2, hk.2⟩)) hg hat)
replace HB := am (hb)
have HO270 := am (ho)
clear HO262
clear ho hb hg hat
obtain ⟨Ao78, co78, eo78⟩ := Kd.R_slice HO270.out
(first | subst eo78 | (injection eo78 with f1_ f2_ f3_; have f4_ := f1_.symm; have f5_ := f3_.symm; clear f1_ f2_ f3_; subst f4_; subst f5_))
refine hK.out _ _ ⟨(blk_cell BK250.out 0).trans rfl, (blk_cell BK250.out 1).trans rfl, (blk_cell BK250.out 2).trans rfl, (blk_cell BK246.out 0).trans rfl, (blk_cell BK246.out 1).trans rfl, ((HB.out.cell (World.block_lt_of_cell? w _ hw263_0)).trans hw263_0)⟩ (fun hHeld => ?_)
clear hK K
refine norm_ (a' := _) (show Act.put _ (some 84) _ = _ from na) ?_
refine pu_ 14 85 (bm 19 32767) HT_.out ?_
refine one_ (i := 15) (N := some 86) (bm 19 65535) rfl rfl (one_of HT_.out (by kernel_rfl)) (by decide) (fun K hK => ?_)
refine value_ (w1 := ?_) (v := ?_) (by rfl) rfl ?_ ?_
rotate_left 2
·(
go_simp
constructor
·rfl
·rfl
)
refine hK.out _ _ ⟨(blk_cell (blk_alloc BK250.out _) 0).trans rfl, (blk_cell (blk_alloc BK250.out _) 1).trans rfl, (blk_cell (blk_alloc BK250.out _) 2).trans rfl, (blk_cell (blk_alloc BK246.out _) 0).trans rfl, (blk_cell (blk_alloc BK246.out _) 1).trans rfl, (World.cell?_alloc_lt _ _ _ (World.block_lt_of_cell? _ _ (((HB.out.cell (World.block_lt_of_cell? w _ hw263_0)).trans hw263_0)))).trans (((HB.out.cell (World.block_lt_of_cell? w _ hw263_0)).trans hw263_0))⟩ (fun hHeld => ?_)
clear hK K
refine norm_ (a' := _) (show Act.put _ (some 86) _ = _ from na) ?_
refine one_ (i := 16) (N := some 87) (bm 19 131071) rfl rfl (one_of HT_.out (by kernel_rfl)) (by decide) (fun K hK => ?_)
refine Kd.S_append_step k101 (w0 := w) w.heap.size (by rfl) (.tmp 72) (.tmp 86) 51 101 (.agg #[(.int .i64 0), (.int .i64 0), (.slice none 0 0)]) 40 rfl Try.underlying51 info101 rfl (by decide) (by omega) u251002 x251002_3 (⟨x8_2, x9_3, y268⟩ : S101) [.int .i64 x8_2, .int .i64 x9_3, .slice Ao78 y268.length co78] (fun _ => True) (fun k_ => some k_ = (.slice Ao78 y268.length co78 : Value).ownBlock) rfl rfl ?aP (fun k_ hk_ => ((Kd.R_mono (ok' := fun k_ => ((fun _ => True)) k_ ∧ some k_ ≠ (u251002 : Value).ownBlock) (Kd.R_apart' (HO270.out) (Kd.S_typed HO_251002.out) (by decide)) (fun k_ hk => ⟨trivial, hk.2⟩))).1 k_ hk_.symm) ?aF ?aO ?aB ?aS ?aL ?_
(case aP => exact k101_mkM _ _ _ (⟨x8_2, x9_3, y268⟩ : S101) (Kd.R_mono (Kd.R_tight rfl (Kd.R_mono (ok' := fun k_ => ((fun _ => True)) k_ ∧ some k_ ≠ (u251002 : Value).ownBlock) (Kd.R_apart' (HO270.out) (Kd.S_typed HO_251002.out) (by decide)) (fun k_ hk => ⟨trivial, hk.2⟩))) (fun _ h_ => h_)))
(case aB => exact (rb5 HB GE245 GE246 GE247 GE250 GE255))
(case aF => exact (fun _ _ => trivial))
(case aO => exact (by (with_reducible repeat (first | apply Kd.S_alloc | apply Kd.S_drewN | apply Kd.S_drew)); exact Kd.S_mono HO_251002.out (fun k_ hk => ⟨trivial, fun e_ => hk.2 e_⟩)))
(case aS => exact (below_size (rb5 HB GE245 GE246 GE247 GE250 GE255)))
(case aL => have := LMc71.out; omega)
intro v272 w79 ho hb hg hat
rw [← Ny271.out] at ho
replace HO_256001 := am (Kd.S_over' (rs HO_256001) (Kd.S_typed (rs HO_251002)) (by decide) hg)
replace BK245 := am (blk_grown (rk BK245) hg (Kd.S_ne HO_251002.out BK245.out (by decide)))
replace BK246 := am (blk_grown (rk BK246) hg (Kd.S_ne HO_251002.out BK246.out (by decide)))
replace BK247 := am (blk_grown (rk BK247) hg (Kd.S_ne HO_251002.out BK247.out (by decide)))
replace BK250 := am (blk_grown (rk BK250) hg (Kd.S_ne HO_251002.out BK250.out (by decide)))
replace BK255 := am (blk_grown (rk BK255) hg (Kd.S_ne HO_251002.out BK255.out (by decide)))
replace HL256_0 := am (Kd.R_over' (rr HL256_0) (Kd.S_typed (rs HO_251002)) (by decide) hg)
replace HB := am (hb)
have HO273 := am (ho)
clear HO_251002 HO270
clear ho hb hg hat
obtain ⟨Ao80, co80, eo80⟩ := Kd.S_slice HO273.out
(first | subst eo80 | (injection eo80 with f1_ f2_ f3_; have f4_ := f1_.symm; have f5_ := f3_.symm; clear f1_ f2_ f3_; subst f4_; subst f5_))
refine hK.out _ _ ⟨(blk_cell BK250.out 0).trans rfl, (blk_cell BK250.out 1).trans rfl, (blk_cell BK250.out 2).trans rfl, (blk_cell BK246.out 0).trans rfl, (blk_cell BK246.out 1).trans rfl, ((HB.out.cell (World.block_lt_of_cell? w _ hw263_0)).trans hw263_0)⟩ (fun hHeld => ?_)
clear hK K
refine norm_ (a' := _) (show Act.put _ (some 87) _ = _ from na) ?_
refine pu_ 17 88 (bm 19 262143) HT_.out ?_
refine last_ (i := 18) (N := none) (bm 19 524287) rfl rfl (one_of HT_.out (by kernel_rfl)) (by decide) (fun K hK => ?_)
have hs81 : w79.cell? ⟨gb250, 2, none⟩ = some (u251002) := (blk_cell BK250.out 2).trans rfl
have hfs81 := blk_frozen BK250.out 2
have hns81_0 := NB245_250.out
have hns81_1 := NB246_250.out
have hns81_2 := NB247_250.out
have hns81_4 := NB255_250.out
have hms81_0 := NB250_245.out
have hms81_1 := NB250_246.out
have hms81_2 := NB250_247.out
have hms81_4 := NB250_255.out
refine skip_ (w1 := ?_) (by rfl) rfl ?_ ?_
rotate_left
·(
go_simp
rfl
)
refine hK.out _ _ ?_
clear hK K
refine done_ (done_of HT_.out (by kernel_rfl)) ?_
try go_wp2
go_roundg k4
case measure => have := HJ2.out; have := HK2.out; have := HK3.out; have := HK4.out; omega
case rel => exact ⟨(wrap64 (x10_4 + 1)), (y271), (.slice Ao80 y271.length co80), (by first | rfl | (simp; done) | (simp [*]; done)), H', ⟨by have := HJ2.out; have := HK2.out; have := HK3.out; have := HK4.out; omega⟩, ⟨by (with_reducible repeat (first | apply Kd.S_alloc | apply Kd.S_drewN | apply Kd.S_drew)); exact Kd.S_mono (Kd.S_far (p := ⟨gb250, 2, none⟩) (Kd.S_types HO273.out BK250.out (by decide)) (fun _ hk => hk.2) (.slice Ao80 y271.length co80)) (fun _ hk => trivial)⟩, ⟨by (with_reducible repeat (first | apply Kd.S_alloc | apply Kd.S_drewN | apply Kd.S_drew)); exact Kd.S_mono (Kd.S_far (p := ⟨gb250, 2, none⟩) (Kd.S_types HO_256001.out BK250.out (by decide)) (fun _ hk => hk.2) (.slice Ao80 y271.length co80)) (fun _ hk => trivial)⟩, ⟨by (with_reducible repeat (first | apply k1 | apply k2 | apply k3)); refine blk_far ?_ NB245_250.out _; (with_reducible repeat (first | apply k1 | apply k2 | apply k3)); exact BK245.out⟩, ⟨by (with_reducible repeat (first | apply k1 | apply k2 | apply k3)); refine blk_far ?_ NB246_250.out _; (with_reducible repeat (first | apply k1 | apply k2 | apply k3)); exact BK246.out⟩, ⟨by (with_reducible repeat (first | apply k1 | apply k2 | apply k3)); refine blk_far ?_ NB247_250.out _; (with_reducible repeat (first | apply k1 | apply k2 | apply k3)); exact BK247.out⟩, ⟨by (with_reducible repeat (first | apply k1 | apply k2 | apply k3)); refine blk_put (cs := #[.int .i64 a1_0, .int .i64 (l1_1.length : Int), u251002]) ?_ 2 _ rfl; (with_reducible repeat (first | apply k1 | apply k2 | apply k3)); exact BK250.out⟩, ⟨by (with_reducible repeat (first | apply k1 | apply k2 | apply k3)); refine blk_far ?_ NB255_250.out _; (with_reducible repeat (first | apply k1 | apply k2 | apply k3)); exact BK255.out⟩, ⟨rb5 HB GE245 GE246 GE247 GE250 GE255⟩⟩
)
| (
have q_ := lf13_
replace HO_251002 := am (Kd.S_drew HO_251002.out)
replace HO_256001 := am (Kd.S_drew HO_256001.out)
replace BK245 := am (blk_drew BK245.out)
replace BK246 := am (blk_drew BK246.out)
replace BK247 := am (blk_drew BK247.out)
replace BK250 := am (blk_drew BK250.out)
replace BK255 := am (blk_drew BK255.out)
replace HB := am (below_drew1 HB.out)
have p277 : 0 ≤ (x8_2 : Int) := dt_
have q277 : x8_2 < (l1_1.length : Int) := dt_
obtain ⟨ad277, A277_0, c277_0, e277, hx277_0, hl277_0, hi277_0⟩ := at_L7 HR1_1.out x8_2 p277 q277
have hw277_0 := hx277_0
cases e277
replace hx277_0 := mv HB.out hx277_0
have HR277_0 := am hi277_0
have HC277_0 := am hl277_0
clear hi277_0 hl277_0
replace p277 := eq_true p277
replace q277 := eq_true q277
have q93 : (x10_4 : Int) ≤ (((rd_L7 l1_1 x8_2).length : Int) : Int) := dt_
obtain ⟨i093, hi093, _, hsz93, _⟩ := info_parts info98
have hroom93 : (rd_L7 l1_1 x8_2).length ≤ c277_0 := HC277_0.out
have hC93 : Kd.C k98 _ A277_0 (rd_L7 l1_1 x8_2).length (rd_L7 l1_1 x8_2) := HR277_0.out
have ql93 : (x9_3 : Int) ≤ (x10_4 : Int) := dt_
have q093 : (0 : Int) ≤ (x9_3 : Int) := dt_
have hcut93 := cut_mid (P := Try.prog) 99 98 .i64 .i64 Try.underlying99 hi093 7 hsz93 A277_0 (rd_L7 l1_1 x8_2).length c277_0 x9_3 x10_4 q093 ql93 q93 hroom93
have hr93 := Kd.C_mid (lo := (x9_3 : Int).toNat) (hi := (x10_4 : Int).toNat) (c := c277_0) hC93 (by omega) (by omega) hroom93
obtain ⟨A93, hA93⟩ : ∃ A1, A1 = (if c277_0 = (x9_3 : Int).toNat then A277_0 else (A277_0 : Option Addr).map (·.add ((x9_3 : Int).toNat * 7))) := ⟨_, rfl⟩
obtain ⟨c93, hc93⟩ : ∃ c1, c1 = c277_0 - (x9_3 : Int).toNat := ⟨_, rfl⟩
have hy93 : y278.length = (x10_4 : Int).toNat - (x9_3 : Int).toNat := (by rw [Ny278.out, List.length_drop, List.length_take] <;> omega)
rw [show ((rd_L7 l1_1 x8_2).take (x10_4 : Int).toNat).drop (x9_3 : Int).toNat = y278 from Ny278.out.symm] at hr93
replace hr93 : Kd.C k98 _ A93 y278.length y278 := (by rw [hA93]; exact hr93)
rw [← hy93, ← hA93, ← hc93] at hcut93
have HR281 := am hr93
have HC281 := am (show y278.length ≤ c93 from by rw [hy93, hc93]; exact Nat.sub_le_sub_right (Nat.le_trans (by omega) hroom93) _)
clear hr93 hC93 hroom93 hi093 hsz93 hc93
have KY93 := am hy93
have KA93 := am hA93
clear hy93 hA93
replace q93 := eq_true q93
refine start_ (n := 19) (S := fun w' => w'.cell? ⟨gb250, 0, none⟩ = some (.int .i64 a1_0) ∧ w'.cell? ⟨gb250, 1, none⟩ = some (.int .i64 (l1_1.length : Int)) ∧ w'.cell? ⟨gb250, 2, none⟩ = some (u251002) ∧ w'.cell? ⟨gb246, 0, none⟩ = some (.int .i64 a1_0) ∧ w'.cell? ⟨gb246, 1, none⟩ = some (.slice (some ad277) l1_1.length c1_1) ∧ w'.cell? (ad277.add (x8_2).toNat) = some (.slice A277_0 (rd_L7 l1_1 x8_2).length c277_0)) (ds := [18]) (bm 19 0) (by kernel_rfl) rfl rfl ⟨(blk_cell BK250.out 0).trans rfl, (blk_cell BK250.out 1).trans rfl, (blk_cell BK250.out 2).trans rfl, (blk_cell BK246.out 0).trans rfl, (blk_cell BK246.out 1).trans rfl, ((HB.out.cell (World.block_lt_of_cell? w _ hw277_0)).trans hw277_0)⟩ (fun hHeld => ?_); refine with_tabW spec_Diff.tab14 spec_Diff.bits14 (fun HT_ HW_ => ?_)
generalize w91.drew = w92 at HO_251002 HO_256001 BK245 BK246 BK247 BK250 BK255 HB HR277_0 HR281 hx277_0 hHeld ⊢
refine pu_ 0 71 (bm 19 1) HT_.out ?_
refine pu_ 2 73 (bm 19 5) HT_.out ?_
refine pu_ 3 74 (bm 19 13) HT_.out ?_
refine pu_ 5 76 (bm 19 45) HT_.out ?_
refine pu_ 7 78 (bm 19 173) HT_.out ?_
refine pu_ 10 81 (bm 19 1197) HT_.out ?_
refine pu_ 11 82 (bm 19 3245) HT_.out ?_
refine take_ (i := 1) (N := some 72) (v := ?_) (a' := ?_) (bm 19 3247) rfl rfl (take_ofW HT_.out HW_.out (by kernel_rfl)) (fun _ _ _ h => h) (Or.inl ⟨by rfl, ?_⟩) hHeld ?_ ?_
rotate_left
·(
rintro w' ⟨s0, s1, s2, s3, s4, s5⟩
go_simp
with_reducible rfl
)
rotate_left
·(
simp only [Act.put, List.setIfInBounds_toArray, List.set_cons_zero, List.set_cons_succ, i64_w, i32_w]
rfl
)
refine take_ (i := 6) (N := some 77) (v := ?_) (a' := ?_) (bm 19 3311) rfl rfl (take_ofW HT_.out HW_.out (by kernel_rfl)) (fun _ _ _ h => h) (Or.inl ⟨by rfl, ?_⟩) hHeld ?_ ?_
rotate_left
·(
rintro w' ⟨s0, s1, s2, s3, s4, s5⟩
go_simp
with_reducible rfl
)
rotate_left
·(
simp only [Act.put, List.setIfInBounds_toArray, List.set_cons_zero, List.set_cons_succ, i64_w, i32_w]
rfl
)
refine pu_ 8 79 (bm 19 3567) HT_.out ?_
refine take_ (i := 9) (N := some 80) (v := ?_) (a' := ?_) (bm 19 4079) rfl rfl (take_ofW HT_.out HW_.out (by kernel_rfl)) (fun _ _ _ h => h) (Or.inl ⟨by rfl, ?_⟩) hHeld ?_ ?_
rotate_left
·(
rintro w' ⟨s0, s1, s2, s3, s4, s5⟩
go_simp
with_reducible rfl
)
rotate_left
·(
simp only [Act.put, List.setIfInBounds_toArray, List.set_cons_zero, List.set_cons_succ, i64_w, i32_w]
rfl
)
refine pu_ 12 83 (bm 19 8175) HT_.out ?_
refine one_ (i := 4) (N := some 75) (bm 19 8191) rfl rfl (one_of HT_.out (by kernel_rfl)) (by decide) (fun K hK => ?_)
refine Kd.R_lit_step k98 _ 98 ?hg (N := 75) ?hd (xs := ([] : List (S98))) (inner := []) (ok := fun _ => True) (okp := fun _ => True) ?hr ?hp (fun _ hk => hk) trivial (Below.refl _ _) (Nat.le_refl _) (by simp) ?_; (case hd => rfl); (case hg => rfl); (case hr => first | (go_simp; done) | (go_simp; rfl)); (case hp => exact (Reps.none _ _))
intro v275 w94 ho95 hb hg_ hnew_
clear hg_ hnew_
(first | rw [← Ny274.out] at ho95 | (simp only [Int.reduceToNat] at ho95; rw [← Ny274.out] at ho95))
replace HO_251002 := am (Kd.S_elder' (rs HO_251002) (Kd.R_base ho95) hb)
replace HO_256001 := am (Kd.S_elder' (rs HO_256001) (Kd.R_base ho95) hb)
have HO276 := am (Kd.R_lower ho95 (below_size (rb5 HB GE245 GE246 GE247 GE250 GE255)))
replace BK245 := am (blk_below (rk BK245) hb)
replace BK246 := am (blk_below (rk BK246) hb)
replace BK247 := am (blk_below (rk BK247) hb)
replace BK250 := am (blk_below (rk BK250) hb)
replace BK255 := am (blk_below (rk BK255) hb)
replace HB := am (below_step (rb5 HB GE245 GE246 GE247 GE250 GE255) hb)
clear hb ho95
refine hK.out _ _ ⟨(blk_cell BK250.out 0).trans rfl, (blk_cell BK250.out 1).trans rfl, (blk_cell BK250.out 2).trans rfl, (blk_cell BK246.out 0).trans rfl, (blk_cell BK246.out 1).trans rfl, ((HB.out.cell (World.block_lt_of_cell? w _ hw277_0)).trans hw277_0)⟩ (fun hHeld => ?_)
clear hK K
refine norm_ (a' := _) (show Act.put _ (some 75) _ = _ from na) ?_
refine one_ (i := 13) (N := some 84) (bm 19 16383) rfl rfl (one_of HT_.out (by kernel_rfl)) (by decide) (fun K hK => ?_)
refine Kd.R_append_rows_step k98 (w0 := w) w.heap.size (by rfl) (.tmp 75) (.tmp 83) 99 98 (.agg #[(.int .i64 0), (.int .i64 0), (.int .i64 0), (.bool false), (.bool false), (.bool false), (.int .i64 0)]) 40 rfl Try.underlying99 info98 rfl (by decide) (by omega) v275 y274 y278 _ _ _ (fun _ => True) (fun _ => False) rfl rfl ?aO ?aR (fun _ _ h => h) (fun _ h => h.elim) ?aF ?aB ?aS ?aL ?_
(case aR => repeat (first | exact (Kd.C_below HR281.out HB.out) | (with_reducible refine Kd.C_alloc ?_ _) | (with_reducible refine Kd.C_drewN ?_ _) | (with_reducible refine Kd.C_drew ?_)))
(case aB => exact (rb5 HB GE245 GE246 GE247 GE250 GE255))
(case aF => exact (fun _ _ => trivial))
(case aO => exact (rr HO276))
(case aS => exact (below_size (rb5 HB GE245 GE246 GE247 GE250 GE255)))
(case aL => have := LMc89.out; omega)
intro v283 w96 ho hb hg hat
rw [← Ny282.out] at ho
replace HO_251002 := am (Kd.S_after (ok := (fun _ => True)) (rs HO_251002) hg hat)
replace HO_256001 := am (Kd.S_after (ok := (fun _ => True)) (rs HO_256001) hg hat)
replace BK245 := am (blk_grown (rk BK245) hg (Kd.R_ne HO276.out BK245.out (by decide)))
replace BK246 := am (blk_grown (rk BK246) hg (Kd.R_ne HO276.out BK246.out (by decide)))
replace BK247 := am (blk_grown (rk BK247) hg (Kd.R_ne HO276.out BK247.out (by decide)))
replace BK250 := am (blk_grown (rk BK250) hg (Kd.R_ne HO276.out BK250.out (by decide)))
replace BK255 := am (blk_grown (rk BK255) hg (Kd.R_ne HO276.out BK255.out (by decide)))
replace HB := am (hb)
have HO284 := am (ho)
clear HO276
clear ho hb hg hat
obtain ⟨Ao97, co97, eo97⟩ := Kd.R_slice HO284.out
(first | subst eo97 | (injection eo97 with f1_ f2_ f3_; have f4_ := f1_.symm; have f5_ := f3_.symm; clear f1_ f2_ f3_; subst f4_; subst f5_))
refine hK.out _ _ ⟨(blk_cell BK250.out 0).trans rfl, (blk_cell BK250.out 1).trans rfl, (blk_cell BK250.out 2).trans rfl, (blk_cell BK246.out 0).trans rfl, (blk_cell BK246.out 1).trans rfl, ((HB.out.cell (World.block_lt_of_cell? w _ hw277_0)).trans hw277_0)⟩ (fun hHeld => ?_)
clear hK K
refine norm_ (a' := _) (show Act.put _ (some 84) _ = _ from na) ?_
refine pu_ 14 85 (bm 19 32767) HT_.out ?_
refine one_ (i := 15) (N := some 86) (bm 19 65535) rfl rfl (one_of HT_.out (by kernel_rfl)) (by decide) (fun K hK => ?_)
refine value_ (w1 := ?_) (v := ?_) (by rfl) rfl ?_ ?_
rotate_left 2
·(
go_simp
constructor
·rfl
·rfl
)
refine hK.out _ _ ⟨(blk_cell (blk_alloc BK250.out _) 0).trans rfl, (blk_cell (blk_alloc BK250.out _) 1).trans rfl, (blk_cell (blk_alloc BK250.out _) 2).trans rfl, (blk_cell (blk_alloc BK246.out _) 0).trans rfl, (blk_cell (blk_alloc BK246.out _) 1).trans rfl, (World.cell?_alloc_lt _ _ _ (World.block_lt_of_cell? _ _ (((HB.out.cell (World.block_lt_of_cell? w _ hw277_0)).trans hw277_0)))).trans (((HB.out.cell (World.block_lt_of_cell? w _ hw277_0)).trans hw277_0))⟩ (fun hHeld => ?_)
clear hK K
refine norm_ (a' := _) (show Act.put _ (some 86) _ = _ from na) ?_
refine one_ (i := 16) (N := some 87) (bm 19 131071) rfl rfl (one_of HT_.out (by kernel_rfl)) (by decide) (fun K hK => ?_)
refine Kd.S_append_step k101 (w0 := w) w.heap.size (by rfl) (.tmp 72) (.tmp 86) 51 101 (.agg #[(.int .i64 0), (.int .i64 0), (.slice none 0 0)]) 40 rfl Try.underlying51 info101 rfl (by decide) (by omega) u251002 x251002_3 (⟨x8_2, x9_3, y282⟩ : S101) [.int .i64 x8_2, .int .i64 x9_3, .slice Ao97 y282.length co97] (fun _ => True) (fun k_ => some k_ = (.slice Ao97 y282.length co97 : Value).ownBlock) rfl rfl ?aP (fun k_ hk_ => ((Kd.R_mono (ok' := fun k_ => ((fun _ => True)) k_ ∧ some k_ ≠ (u251002 : Value).ownBlock) (Kd.R_apart' (HO284.out) (Kd.S_typed HO_251002.out) (by decide)) (fun k_ hk => ⟨trivial, hk.2⟩))).1 k_ hk_.symm) ?aF ?aO ?aB ?aS ?aL ?_
(case aP => exact k101_mkM _ _ _ (⟨x8_2, x9_3, y282⟩ : S101) (Kd.R_mono (Kd.R_tight rfl (Kd.R_mono (ok' := fun k_ => ((fun _ => True)) k_ ∧ some k_ ≠ (u251002 : Value).ownBlock) (Kd.R_apart' (HO284.out) (Kd.S_typed HO_251002.out) (by decide)) (fun k_ hk => ⟨trivial, hk.2⟩))) (fun _ h_ => h_)))
(case aB => exact (rb5 HB GE245 GE246 GE247 GE250 GE255))
(case aF => exact (fun _ _ => trivial))
(case aO => exact (by (with_reducible repeat (first | apply Kd.S_alloc | apply Kd.S_drewN | apply Kd.S_drew)); exact Kd.S_mono HO_251002.out (fun k_ hk => ⟨trivial, fun e_ => hk.2 e_⟩)))
(case aS => exact (below_size (rb5 HB GE245 GE246 GE247 GE250 GE255)))
(case aL => have := LMc90.out; omega)
intro v286 w98 ho hb hg hat
rw [← Ny285.out] at ho
replace HO_256001 := am (Kd.S_over' (rs HO_256001) (Kd.S_typed (rs HO_251002)) (by decide) hg)
replace BK245 := am (blk_grown (rk BK245) hg (Kd.S_ne HO_251002.out BK245.out (by decide)))
replace BK246 := am (blk_grown (rk BK246) hg (Kd.S_ne HO_251002.out BK246.out (by decide)))
replace BK247 := am (blk_grown (rk BK247) hg (Kd.S_ne HO_251002.out BK247.out (by decide)))
replace BK250 := am (blk_grown (rk BK250) hg (Kd.S_ne HO_251002.out BK250.out (by decide)))
replace BK255 := am (blk_grown (rk BK255) hg (Kd.S_ne HO_251002.out BK255.out (by decide)))
replace HB := am (hb)
have HO287 := am (ho)
clear HO_251002 HO284
clear ho hb hg hat
obtain ⟨Ao99, co99, eo99⟩ := Kd.S_slice HO287.out
(first | subst eo99 | (injection eo99 with f1_ f2_ f3_; have f4_ := f1_.symm; have f5_ := f3_.symm; clear f1_ f2_ f3_; subst f4_; subst f5_))
refine hK.out _ _ ⟨(blk_cell BK250.out 0).trans rfl, (blk_cell BK250.out 1).trans rfl, (blk_cell BK250.out 2).trans rfl, (blk_cell BK246.out 0).trans rfl, (blk_cell BK246.out 1).trans rfl, ((HB.out.cell (World.block_lt_of_cell? w _ hw277_0)).trans hw277_0)⟩ (fun hHeld => ?_)
clear hK K
refine norm_ (a' := _) (show Act.put _ (some 87) _ = _ from na) ?_
refine pu_ 17 88 (bm 19 262143) HT_.out ?_
refine last_ (i := 18) (N := none) (bm 19 524287) rfl rfl (one_of HT_.out (by kernel_rfl)) (by decide) (fun K hK => ?_)
have hs100 : w98.cell? ⟨gb250, 2, none⟩ = some (u251002) := (blk_cell BK250.out 2).trans rfl
have hfs100 := blk_frozen BK250.out 2
have hns100_0 := NB245_250.out
have hns100_1 := NB246_250.out
have hns100_2 := NB247_250.out
have hns100_4 := NB255_250.out
have hms100_0 := NB250_245.out
have hms100_1 := NB250_246.out
have hms100_2 := NB250_247.out
have hms100_4 := NB250_255.out
refine skip_ (w1 := ?_) (by rfl) rfl ?_ ?_
rotate_left
·(
go_simp
rfl
)
refine hK.out _ _ ?_
clear hK K
refine done_ (done_of HT_.out (by kernel_rfl)) ?_
try go_wp2
go_roundg k4
case measure => have := HJ2.out; have := HK2.out; have := HK3.out; have := HK4.out; omega
case rel => exact ⟨(wrap64 (x10_4 + 1)), (y285), (.slice Ao99 y285.length co99), (by first | rfl | (simp; done) | (simp [*]; done)), H', ⟨by have := HJ2.out; have := HK2.out; have := HK3.out; have := HK4.out; omega⟩, ⟨by (with_reducible repeat (first | apply Kd.S_alloc | apply Kd.S_drewN | apply Kd.S_drew)); exact Kd.S_mono (Kd.S_far (p := ⟨gb250, 2, none⟩) (Kd.S_types HO287.out BK250.out (by decide)) (fun _ hk => hk.2) (.slice Ao99 y285.length co99)) (fun _ hk => trivial)⟩, ⟨by (with_reducible repeat (first | apply Kd.S_alloc | apply Kd.S_drewN | apply Kd.S_drew)); exact Kd.S_mono (Kd.S_far (p := ⟨gb250, 2, none⟩) (Kd.S_types HO_256001.out BK250.out (by decide)) (fun _ hk => hk.2) (.slice Ao99 y285.length co99)) (fun _ hk => trivial)⟩, ⟨by (with_reducible repeat (first | apply k1 | apply k2 | apply k3)); refine blk_far ?_ NB245_250.out _; (with_reducible repeat (first | apply k1 | apply k2 | apply k3)); exact BK245.out⟩, ⟨by (with_reducible repeat (first | apply k1 | apply k2 | apply k3)); refine blk_far ?_ NB246_250.out _; (with_reducible repeat (first | apply k1 | apply k2 | apply k3)); exact BK246.out⟩, ⟨by (with_reducible repeat (first | apply k1 | apply k2 | apply k3)); refine blk_far ?_ NB247_250.out _; (with_reducible repeat (first | apply k1 | apply k2 | apply k3)); exact BK247.out⟩, ⟨by (with_reducible repeat (first | apply k1 | apply k2 | apply k3)); refine blk_put (cs := #[.int .i64 a1_0, .int .i64 (l1_1.length : Int), u251002]) ?_ 2 _ rfl; (with_reducible repeat (first | apply k1 | apply k2 | apply k3)); exact BK250.out⟩, ⟨by (with_reducible repeat (first | apply k1 | apply k2 | apply k3)); refine blk_far ?_ NB255_250.out _; (with_reducible repeat (first | apply k1 | apply k2 | apply k3)); exact BK255.out⟩, ⟨rb5 HB GE245 GE246 GE247 GE250 GE255⟩⟩
)
| (
first | have q_ := lf12_ | have q_ := lf14_
go_roundg k4
case measure => have := HJ2.out; have := HK2.out; have := HK3.out; have := HK4.out; omega
case rel => exact ⟨(wrap64 (x10_4 + 1)), (x251002_3), (u251002), (by first | rfl | (simp; done) | (simp [*]; done)), H', ⟨by have := HJ2.out; have := HK2.out; have := HK3.out; have := HK4.out; omega⟩, ⟨rs HO_251002⟩, ⟨rs HO_256001⟩, ⟨rk BK245⟩, ⟨rk BK246⟩, ⟨rk BK247⟩, ⟨rk BK250⟩, ⟨rk BK255⟩, ⟨rb5 HB GE245 GE246 GE247 GE250 GE255⟩⟩
)
| (
have q_ := lf10_
go_roundg k4
case measure => have := HJ2.out; have := HK2.out; have := HK3.out; have := HK4.out; omega
case rel => exact ⟨(wrap64 (x10_4 + 1)), (by first | rfl | (simp; done) | (simp [*]; done)), H', ⟨by have := HJ2.out; have := HK2.out; have := HK3.out; have := HK4.out; omega⟩, ⟨rs HO_251002⟩, ⟨rs HO_256001⟩, ⟨rk BK245⟩, ⟨rk BK246⟩, ⟨rk BK247⟩, ⟨rk BK250⟩, ⟨rk BK255⟩, ⟨rb5 HB GE245 GE246 GE247 GE250 GE255⟩⟩
)
)
)
)
)
| (
have q_ := lf9_
go_roundg k3
case measure => have := HJ2.out; have := HK2.out; have := HK3.out; omega
case rel => exact ⟨(wrap64 (x8_2 + 1)), (x251002_3), (u251002), (by first | rfl | (simp; done) | (simp [*]; done)), H', ⟨by have := HJ2.out; have := HK2.out; have := HK3.out; omega⟩, ⟨rs HO_251002⟩, ⟨rs HO_256001⟩, ⟨rk BK245⟩, ⟨rk BK246⟩, ⟨rk BK247⟩, ⟨rk BK250⟩, ⟨rk BK255⟩, ⟨rb5 HB GE245 GE246 GE247 GE250 GE255⟩⟩
)
)
)
)
)
| (
first | have q_ := lf6_ | have q_ := lf7_
obtain ⟨Ao113, co113, eo113⟩ := Kd.S_slice HO_251002.out
subst eo113
have hnb114 := NB247_245.out
have hnc114 := NB245_247.out
have hnb115 := NB247_246.out
have hnc115 := NB246_247.out
have hnb116 := NB247_255.out
have hnc116 := NB255_247.out
have hcz117_0 : wr.cell? ⟨gb247, 0, none⟩ = some (.int .i64 0) := (blk_cell BK247.out 0).trans rfl
have hcz117_1 : wr.cell? ⟨gb247, 1, none⟩ = some (.int .i64 0) := (blk_cell BK247.out 1).trans rfl
have hcz117_2 : wr.cell? ⟨gb247, 2, none⟩ = some (.slice none 0 0) := (blk_cell BK247.out 2).trans rfl
have hfz117_0 := blk_frozen BK247.out 0
have hfz117_1 := blk_frozen BK247.out 1
have hfz117_2 := blk_frozen BK247.out 2
go_wp2
first
| (
have q_ := lf7_
refine bodyPost_ret (results_ct rfl _ _ gb247 53 #[.int .i64 a1_0, .int .i64 (l1_1.length : Int), .slice Ao113 x251002_2.length co113] (0, 0) _ rfl (rp_0_1_2 BK247) Try.underlying53 rfl (by kernel_rfl)) rfl ?_
exact ⟨_, by first | rfl | (simp [errW_none, errW_some] <;> rfl) | (simp [*, errW_none, errW_some] <;> rfl), by (with_reducible repeat (first | apply Kd.S_alloc | apply Kd.S_drewN | apply Kd.S_drew)); exact Kd.S_mono (Kd.S_far (p := ⟨gb247, 2, none⟩) (Kd.S_far (p := ⟨gb247, 1, none⟩) (Kd.S_far (p := ⟨gb247, 0, none⟩) (Kd.S_types HO_251002.out BK247.out (by decide)) (fun _ hk => hk.2) (.int .i64 a1_0)) (fun _ hk => hk.2) (.int .i64 (l1_1.length : Int))) (fun _ hk => hk.2) (.slice Ao113 x251002_2.length co113)) (fun _ hk => trivial), rb5 HB GE245 GE246 GE247 GE250 GE255⟩
)
| (
have q_ := lf6_
refine bodyPost_ret (results_ct rfl _ _ gb247 53 #[.int .i64 0, .int .i64 0, .slice none 0 0] (0, 0) _ rfl (rp_0_1_2 BK247) Try.underlying53 rfl (by kernel_rfl)) rfl ?_
exact ⟨_, by first | rfl | (simp [errW_none, errW_some] <;> rfl) | (simp [*, errW_none, errW_some] <;> rfl), by first | exact Kd.S_nil _ _ _ _ _ | exact Kd.N_nil _ _ _ _ _ | exact Kd.V_nil _ _ _ _ _ | exact Kd.Q_nil _ _ _ _ _ | exact Kd.R_nil _ _ _ _ _, rb5 HB GE245 GE246 GE247 GE250 GE255⟩
)
)
)
)
)
)
)
)
)

end Go.Proofs.Ytalopdcephohgaa.RB
