/- Contracts of Go functions that laws of this seat reach: each Lean function answers as its Go function does. No condition. Written by wip/tools/inj.py, over the kit's print. -/
import Derived.Test.YtalopdcephohgaaDoorSBx0
import Derived.Test.YtalopdcephohgaaDoorSBx5
import Derived.Test.YtalopdcephohgaaDoorSBx8
import Derived.Test.YtalopdcephohgaaDoorSBx10
namespace Go.Proofs.YtalopdcephohgaaDoor.SB
open Go.RowKit Go.Proofs.YtalopdcephohgaaDoorW.PrintWords Go.Proofs.YtalopdcephohgaaDoorW.PrintLast Go.Proofs.YtalopdcephohgaaDoorW.PrintMore
attribute [local go_sem] max2_int min2_int max_two min_two max_three min_three max_four min_four   -- for this text's walks alone
set_option linter.unusedVariables false
set_option linter.unusedSimpArgs false

/-! ### spec_ReadPatch: function 10 -/
mutual
def spec_ReadPatch.j0 : Nat → ByteArray → List Int → Bool → Option (Int × Int × (List (S40)) × Bool)
 | 0, _, _, _ => none
 | k + 1, x0, x4, x21 => if x21 = true then (some (0, 0, ([] : List (S40)), false)) else (if 0 < (x4.length : Int) then (if 1 < (x4.length : Int) then (if 2 ≤ (x4.length : Int) then (spec_ReadPatch.l0 k x0 (x4.drop (2 : Int).toNat) (rd x4 0) (rd x4 1) ([] : List (S40))) else (none)) else (none)) else (none))
def spec_ReadPatch.l0 : Nat → ByteArray → List Int → Int → Int → List (S40) → Option (Int × Int × (List (S40)) × Bool)
 | 0, _, _, _, _, _ => none
 | k + 1, x0, x4, x193000, x193001, x193002 => if (x4.length : Int) > 0 then (if (x4.length : Int) < 3 then (spec_ReadPatch.j2 k x0 x4 true x193000 x193001 x193002) else (if 2 < (x4.length : Int) then ((spec_l1In.f (rd x4 2) 1 60).bind fun t198 => (if t198 = true then (spec_ReadPatch.j2 k x0 x4 (decide ((x4.length : Int) < (wrap64 (3 + (wrap64 (5 * (rd x4 2))))))) x193000 x193001 x193002) else (spec_ReadPatch.j2 k x0 x4 true x193000 x193001 x193002))) else (none))) else ((spec_ShowPatch.f k x193000 x193001 x193002).bind fun t196 => (if t196.toList = x0.toList then (some (x193000, x193001, x193002, true)) else (some (0, 0, ([] : List (S40)), false))))
def spec_ReadPatch.j2 : Nat → ByteArray → List Int → Bool → Int → Int → List (S40) → Option (Int × Int × (List (S40)) × Bool)
 | 0, _, _, _, _, _, _ => none
 | k + 1, x0, x4, x54, x193000, x193001, x193002 => if x54 = true then (some (0, 0, ([] : List (S40)), false)) else (if 0 < (x4.length : Int) then (if 1 < (x4.length : Int) then (if 2 < (x4.length : Int) then (if 3 ≤ (x4.length : Int) then (spec_ReadPatch.l1 k x0 (x4.drop (3 : Int).toNat) (rd x4 2) x193000 x193001 x193002 (rd x4 0) (rd x4 1) ([] : List (S45))) else (none)) else (none)) else (none)) else (none))
def spec_ReadPatch.l1 : Nat → ByteArray → List Int → Int → Int → Int → List (S40) → Int → Int → List (S45) → Option (Int × Int × (List (S40)) × Bool)
 | 0, _, _, _, _, _, _, _, _, _ => none
 | k + 1, x0, x4, x8, x193000, x193001, x193002, x203000, x203001, x203002 => if x8 > 0 then (if 1 < (x4.length : Int) then (if 2 < (x4.length : Int) then (if 3 < (x4.length : Int) then (if 0 < (x4.length : Int) then (if 4 < (x4.length : Int) then (if x203002.length < 3518437208883 then (if 5 ≤ (x4.length : Int) then (spec_ReadPatch.l1 k x0 (x4.drop (5 : Int).toNat) (wrap64 (x8 - 1)) x193000 x193001 x193002 x203000 x203001 (x203002 ++ [(⟨rd x4 0, (⟨rd x4 1, rd x4 2, ((Int.tmod (rd x4 3) 2) == 1), ((Int.tmod (wrap64 (Int.tdiv (rd x4 3) 2)) 2) == 1), ((Int.tmod (wrap64 (Int.tdiv (rd x4 3) 4)) 2) == 1)⟩ : S43), rd x4 4⟩ : S45)])) else (none)) else (none)) else (none)) else (none)) else (none)) else (none)) else (none)) else (if x193002.length < 3518437208883 then (spec_ReadPatch.l0 k x0 x4 x193000 x193001 (x193002 ++ [(⟨x203000, x203001, x203002⟩ : S40)])) else (none))
end
def spec_ReadPatch.f (k : Nat) (a0 : ByteArray) : Option (Int × Int × (List (S40)) × Bool) := (spec_l10Read.f k a0).bind fun bt186 => (if bt186.2 = true then (spec_ReadPatch.j0 k a0 bt186.1 (decide ((bt186.1.length : Int) < 2))) else (spec_ReadPatch.j0 k a0 bt186.1 true))
theorem spec_ReadPatch.mono_l : ∀ k, (∀ y0 y1 y2, LeO (spec_ReadPatch.j0 k y0 y1 y2) (spec_ReadPatch.j0 (k + 1) y0 y1 y2)) ∧ (∀ y0 y1 y2 y3 y4, LeO (spec_ReadPatch.l0 k y0 y1 y2 y3 y4) (spec_ReadPatch.l0 (k + 1) y0 y1 y2 y3 y4)) ∧ (∀ y0 y1 y2 y3 y4 y5, LeO (spec_ReadPatch.j2 k y0 y1 y2 y3 y4 y5) (spec_ReadPatch.j2 (k + 1) y0 y1 y2 y3 y4 y5)) ∧ (∀ y0 y1 y2 y3 y4 y5 y6 y7 y8, LeO (spec_ReadPatch.l1 k y0 y1 y2 y3 y4 y5 y6 y7 y8) (spec_ReadPatch.l1 (k + 1) y0 y1 y2 y3 y4 y5 y6 y7 y8))
 | 0 => ⟨fun _ _ _ r h => by simp [spec_ReadPatch.j0] at h, fun _ _ _ _ _ r h => by simp [spec_ReadPatch.l0] at h, fun _ _ _ _ _ _ r h => by simp [spec_ReadPatch.j2] at h, fun _ _ _ _ _ _ _ _ _ r h => by simp [spec_ReadPatch.l1] at h⟩
 | k + 1 => by
  obtain ⟨ih0, ih1, ih2, ih3⟩ := spec_ReadPatch.mono_l k
  refine ⟨?_, ?_, ?_, ?_⟩
  ·intro y0 y1 y2
   unfold spec_ReadPatch.j0
   repeat' first
   | (with_reducible exact ih0 _ _ _)
   | (with_reducible exact ih1 _ _ _ _ _)
   | (with_reducible exact ih2 _ _ _ _ _ _)
   | (with_reducible exact ih3 _ _ _ _ _ _ _ _ _)
   | (with_reducible exact spec_ShowPatch.mono _ _ _ _)
   | (with_reducible exact spec_l10Read.mono _ _)
   | (with_reducible exact LeO.refl _)
   | (with_reducible exact LeO.none _)
   | (with_reducible refine LeO.ite ?_ ?_)
   | (with_reducible refine LeO.bind ?_ (fun _ => ?_))
   | exact ih0 _ _ _
   | exact ih1 _ _ _ _ _
   | exact ih2 _ _ _ _ _ _
   | exact ih3 _ _ _ _ _ _ _ _ _
   | exact spec_ShowPatch.mono _ _ _ _
   | exact spec_l10Read.mono _ _
   | exact LeO.none _
   | refine LeO.ite ?_ ?_
   | refine LeO.bind ?_ (fun _ => ?_)
  ·intro y0 y1 y2 y3 y4
   unfold spec_ReadPatch.l0
   repeat' first
   | (with_reducible exact ih0 _ _ _)
   | (with_reducible exact ih1 _ _ _ _ _)
   | (with_reducible exact ih2 _ _ _ _ _ _)
   | (with_reducible exact ih3 _ _ _ _ _ _ _ _ _)
   | (with_reducible exact spec_ShowPatch.mono _ _ _ _)
   | (with_reducible exact spec_l10Read.mono _ _)
   | (with_reducible exact LeO.refl _)
   | (with_reducible exact LeO.none _)
   | (with_reducible refine LeO.ite ?_ ?_)
   | (with_reducible refine LeO.bind ?_ (fun _ => ?_))
   | exact ih0 _ _ _
   | exact ih1 _ _ _ _ _
   | exact ih2 _ _ _ _ _ _
   | exact ih3 _ _ _ _ _ _ _ _ _
   | exact spec_ShowPatch.mono _ _ _ _
   | exact spec_l10Read.mono _ _
   | exact LeO.none _
   | refine LeO.ite ?_ ?_
   | refine LeO.bind ?_ (fun _ => ?_)
  ·intro y0 y1 y2 y3 y4 y5
   unfold spec_ReadPatch.j2
   repeat' first
   | (with_reducible exact ih0 _ _ _)
   | (with_reducible exact ih1 _ _ _ _ _)
   | (with_reducible exact ih2 _ _ _ _ _ _)
   | (with_reducible exact ih3 _ _ _ _ _ _ _ _ _)
   | (with_reducible exact spec_ShowPatch.mono _ _ _ _)
   | (with_reducible exact spec_l10Read.mono _ _)
   | (with_reducible exact LeO.refl _)
   | (with_reducible exact LeO.none _)
   | (with_reducible refine LeO.ite ?_ ?_)
   | (with_reducible refine LeO.bind ?_ (fun _ => ?_))
   | exact ih0 _ _ _
   | exact ih1 _ _ _ _ _
   | exact ih2 _ _ _ _ _ _
   | exact ih3 _ _ _ _ _ _ _ _ _
   | exact spec_ShowPatch.mono _ _ _ _
   | exact spec_l10Read.mono _ _
   | exact LeO.none _
   | refine LeO.ite ?_ ?_
   | refine LeO.bind ?_ (fun _ => ?_)
  ·intro y0 y1 y2 y3 y4 y5 y6 y7 y8
   unfold spec_ReadPatch.l1
   repeat' first
   | (with_reducible exact ih0 _ _ _)
   | (with_reducible exact ih1 _ _ _ _ _)
   | (with_reducible exact ih2 _ _ _ _ _ _)
   | (with_reducible exact ih3 _ _ _ _ _ _ _ _ _)
   | (with_reducible exact spec_ShowPatch.mono _ _ _ _)
   | (with_reducible exact spec_l10Read.mono _ _)
   | (with_reducible exact LeO.refl _)
   | (with_reducible exact LeO.none _)
   | (with_reducible refine LeO.ite ?_ ?_)
   | (with_reducible refine LeO.bind ?_ (fun _ => ?_))
   | exact ih0 _ _ _
   | exact ih1 _ _ _ _ _
   | exact ih2 _ _ _ _ _ _
   | exact ih3 _ _ _ _ _ _ _ _ _
   | exact spec_ShowPatch.mono _ _ _ _
   | exact spec_l10Read.mono _ _
   | exact LeO.none _
   | refine LeO.ite ?_ ?_
   | refine LeO.bind ?_ (fun _ => ?_)
theorem spec_ReadPatch.mono : ∀ a0 k, LeO (spec_ReadPatch.f k a0) (spec_ReadPatch.f (k + 1) a0) := by
 intro a0 k
 obtain ⟨ih0, ih1, ih2, ih3⟩ := spec_ReadPatch.mono_l k
 unfold spec_ReadPatch.f
 repeat' first
   | (with_reducible exact ih0 _ _ _)
   | (with_reducible exact ih1 _ _ _ _ _)
   | (with_reducible exact ih2 _ _ _ _ _ _)
   | (with_reducible exact ih3 _ _ _ _ _ _ _ _ _)
   | (with_reducible exact spec_ShowPatch.mono _ _ _ _)
   | (with_reducible exact spec_l10Read.mono _ _)
   | (with_reducible exact LeO.refl _)
   | (with_reducible exact LeO.none _)
   | (with_reducible refine LeO.ite ?_ ?_)
   | (with_reducible refine LeO.bind ?_ (fun _ => ?_))
   | exact ih0 _ _ _
   | exact ih1 _ _ _ _ _
   | exact ih2 _ _ _ _ _ _
   | exact ih3 _ _ _ _ _ _ _ _ _
   | exact spec_ShowPatch.mono _ _ _ _
   | exact spec_l10Read.mono _ _
   | exact LeO.none _
   | refine LeO.ite ?_ ?_
   | refine LeO.bind ?_ (fun _ => ?_)
def spec_ReadPatch.T4 : Bool × List (List Nat × List Nat) := (true, [([], []), ([0], [0]), ([1], [1]), ([], []), ([3], [3]), ([4], [4]), ([2, 5], [2, 5]), ([], []), ([7, 6, 0, 1, 2, 3, 4, 5, 6, 7], [6, 7])])
def spec_ReadPatch.B4 : List Nat := [0, 1, 3, 0, 8, 24, 63, 0, 255]
theorem spec_ReadPatch.tab4 : rtab .any (opsOf Tryd.f10 4) = spec_ReadPatch.T4 := by kernel_rfl
theorem spec_ReadPatch.bits4 : waitsOk spec_ReadPatch.T4.2 spec_ReadPatch.B4 = true := by kernel_rfl
def spec_ReadPatch.T9 : Bool × List (List Nat × List Nat) := (true, [([], []), ([0], [0]), ([1], [1]), ([], []), ([3], [3]), ([4], [4]), ([2, 5], [2, 5]), ([], []), ([7, 6, 0, 1, 2, 3, 4, 5, 6, 7], [6, 7])])
def spec_ReadPatch.B9 : List Nat := [0, 1, 3, 0, 8, 24, 63, 0, 255]
theorem spec_ReadPatch.tab9 : rtab .any (opsOf Tryd.f10 9) = spec_ReadPatch.T9 := by kernel_rfl
theorem spec_ReadPatch.bits9 : waitsOk spec_ReadPatch.T9.2 spec_ReadPatch.B9 = true := by kernel_rfl
def spec_ReadPatch.T14 : Bool × List (List Nat × List Nat) := (true, [([], []), ([0], [0]), ([1], [1]), ([], []), ([3], [3]), ([4], [4]), ([], []), ([6], [6]), ([7], [7]), ([8], [8]), ([9], [9]), ([], []), ([11], [11]), ([12], [12]), ([13], [13]), ([14], [14]), ([15], [15]), ([], []), ([17], [17]), ([18], [18]), ([19], [19]), ([20], [20]), ([21], [21]), ([2, 5, 10, 16, 22], [2, 5, 10, 16, 22]), ([], []), ([24, 23, 0, 1, 2, 3, 4, 5, 6, 7, 8, 9, 10, 11, 12, 13, 14, 15, 16, 17, 18, 19, 20, 21, 22, 23, 24], [23, 24])])
def spec_ReadPatch.B14 : List Nat := [0, 1, 3, 0, 8, 24, 0, 64, 192, 448, 960, 0, 2048, 6144, 14336, 30720, 63488, 0, 131072, 393216, 917504, 1966080, 4063232, 8388607, 0, 33554431]
theorem spec_ReadPatch.tab14 : rtab .any (opsOf Tryd.f10 14) = spec_ReadPatch.T14 := by kernel_rfl
theorem spec_ReadPatch.bits14 : waitsOk spec_ReadPatch.T14.2 spec_ReadPatch.B14 = true := by kernel_rfl
def spec_ReadPatch.T15 : Bool × List (List Nat × List Nat) := (true, [([], []), ([0], [0]), ([], []), ([2], [2]), ([3], [3]), ([], []), ([], []), ([6], [6]), ([7], [7]), ([4, 5, 8], [4, 5, 8]), ([9], [9]), ([1, 10], [1, 10]), ([0, 1, 2, 3, 4, 5, 6, 7, 8, 9, 10, 11], []), ([12, 11, 11, 0, 1, 2, 3, 4, 5, 6, 7, 8, 9, 10, 11], [11, 12])])
def spec_ReadPatch.B15 : List Nat := [0, 1, 0, 4, 12, 0, 0, 64, 192, 508, 1020, 2047, 4095, 8191]
theorem spec_ReadPatch.tab15 : rtab .any (opsOf Tryd.f10 15) = spec_ReadPatch.T15 := by kernel_rfl
theorem spec_ReadPatch.bits15 : waitsOk spec_ReadPatch.T15.2 spec_ReadPatch.B15 = true := by kernel_rfl
set_option maxHeartbeats 8000000 in
set_option maxRecDepth 100000 in
theorem spec_ReadPatch.calls (k : Nat) (a0 : ByteArray) (r1 : Int) (r2 : Int) (r3 : List (S40)) (r4 : Bool) (w : World) (h : spec_ReadPatch.f k a0 = some (r1, r2, r3, r4)) :
  Calls Tryd.prog 10 #[.string a0] w fun e w' => ∃ v2_ : Value, e = .returned (.tuple #[.agg #[.int .i64 r1, .int .i64 r2, v2_], .bool r4]) ∧ Kd.S k40 40 w' w.heap.size (fun _ => True) v2_ r3 ∧ Below w.heap.size w w' := by
 have hu29 := Tryd.underlying29
 have hu40 := Tryd.underlying40
 have hu43 := Tryd.underlying43
 have hu45 := Tryd.underlying45
 have HB := am (Below.refl w.heap.size w)
 have H : ((spec_l10Read.f k a0).bind fun bt186 => (if bt186.2 = true then (spec_ReadPatch.j0 k a0 bt186.1 (decide ((bt186.1.length : Int) < 2))) else (spec_ReadPatch.j0 k a0 bt186.1 true))) = some (r1, r2, r3, r4) := h
 clear h
 replace H := Option.bind_eq_some_iff.mp H
 obtain ⟨⟨t186, t187⟩, A20, H⟩ := H
 replace H : (if t187 = true then (spec_ReadPatch.j0 k a0 t186 (decide ((t186.length : Int) < 2))) else (spec_ReadPatch.j0 k a0 t186 true)) = some (r1, r2, r3, r4) := H
 have A2 := am A20
 clear A20
 have HC3 := am H
 clear H
 go_enter Tryd.func10, Tryd.ntmps10
 go_upto_region 2 with (first | ((with_reducible refine gate_dst (N := 2) rfl ?_); (try (refine gate_guard (by rfl) ?_; dsimp only)); refine box_event ?hg (N := 2) ?hd (cs := #[.int .i64 0, .int .i64 0, .slice none 0 0]) (t := 29) ?hr ?_; (case hd => rfl); (case hg => rfl); (case hr => first | (go_simp; done) | (go_simp; rfl)); intro gb185 hg w4 hbox hb; have n0_ := am (below_step (rb HB) hb); have n1_ := am (hbox); have n2_ := am ((by rw [hg]; exact (below_size (rb HB)) : w.heap.size ≤ gb185)); have n3_ := am ((by rw [hg]; exact (below_size (rb HB)) : w.heap.size ≤ gb185)); clear HB; have HB := n0_; have BK185 := n1_; have GW185 := n2_; have GE185 := n3_; clear n0_ n1_ n2_ n3_; clear hb hbox hg) | ((with_reducible refine gate_callee (f := 23) rfl ?_); refine gl_ (some 12) Tryd.func23 #[.string a0] ?_; (with_reducible refine (spec_l10Read.calls k a0 t186 t187 _ A2.out).mono ?_); rintro e w5 ⟨v188, rfl, ho0, hb⟩; refine ⟨_, rfl, ?_⟩; have n0_ := am (Kd.R_lower ho0 (below_size (rb1 HB GE185))); have n1_ := am (blk_below (g := gb185) (o := .cells #[.int .i64 0, .int .i64 0, .slice none 0 0] 29 (0, 0)) (rk BK185) hb); have n2_ := am (below_step (rb1 HB GE185) hb); clear BK185; clear HB; have HO189 := n0_; have BK185 := n1_; have HB := n2_; clear n0_ n1_ n2_; (try clear hb); (try clear hb2); (try clear hk); (try clear hi); (try clear ho0)))
 (try simp only [Act.put, List.setIfInBounds_toArray, List.set_cons_zero, List.set_cons_succ])
 go_cut [21] (fun v21 wc => ∃ (kq : Nat) (x21_2 : Bool), v21 = .bool x21_2 ∧ Aside0 (spec_ReadPatch.j0 kq a0 t186 x21_2 = some (r1, r2, r3, r4)) ∧ Aside0 (kq ≤ k) ∧ Aside0 (Kd.Q (Kd.int .i64) 2 wc w.heap.size (fun _ => True) v188 t186) ∧ Aside0 (wc.heap[gb185]? = some (.cells #[.int .i64 0, .int .i64 0, (.slice none 0 0)] 29 (0, 0))) ∧ Aside0 (Below w.heap.size w wc))
 case first =>
  have H := HC3.out
  clear HC3
  by_cases c6 : t187 = true
  ·subst c6
   have H1 : (spec_ReadPatch.j0 k a0 t186 (decide ((t186.length : Int) < 2))) = some (r1, r2, r3, r4) := by rw [if_pos rfl] at H; exact H
   clear H
   have H := H1
   clear H1
   have H' := am H
   clear H
   obtain ⟨Ao7, co7, eo7⟩ := Kd.R_slice HO189.out
   subst eo7
   go_wp2
   go_meet
   case rel => exact ⟨_, (decide ((t186.length : Int) < 2)), (by first | rfl | (simp; done) | (simp [*]; done)), H', ⟨by first | omega | exact Nat.le_refl _⟩, ⟨Kd.Q_of_R (rr HO189)⟩, ⟨rk BK185⟩, ⟨by repeat (first | (with_reducible first | exact HB.out | apply b1 | apply b2 | apply b3 | refine below_set ?_ GE185.out) | exact HB.out)⟩⟩
  ·replace c6 := Bool.eq_false_iff.mpr c6
   subst c6
   have H1 : (spec_ReadPatch.j0 k a0 t186 true) = some (r1, r2, r3, r4) := by rw [if_neg (show ¬ (false = true) by decide)] at H; exact H
   clear H
   have H := H1
   clear H1
   have H' := am H
   clear H
   go_wp2
   go_meet
   case rel => exact ⟨_, (true), (by first | rfl | (simp; done) | (simp [*]; done)), H', ⟨by first | omega | exact Nat.le_refl _⟩, ⟨Kd.Q_of_R (rr HO189)⟩, ⟨rk BK185⟩, ⟨by repeat (first | (with_reducible first | exact HB.out | apply b1 | apply b2 | apply b3 | refine below_set ?_ GE185.out) | exact HB.out)⟩⟩
 case rest =>
  clear HC3
  try clear c1
  try clear c2
  try clear p2
  try clear c6
  obtain ⟨kq, x21_2, rfl, HA, HJ2, HO_4, BK185, HB⟩ := hcut
  cases kq with
  | zero => exact absurd HA.out (by simp [spec_ReadPatch.j0])
  | succ kj2 =>
   have H := HA.out
   clear HA
   simp only [spec_ReadPatch.j0] at H
   by_cases c8 : x21_2 = true
   ·subst c8
    have H1 : (some (0, 0, ([] : List (S40)), false)) = some (r1, r2, r3, r4) := by rw [if_pos rfl] at H; exact H
    clear H
    have H := H1
    clear H1
    simp only [Option.some.injEq, Prod.mk.injEq] at H
    obtain ⟨rfl, rfl, rfl, rfl⟩ := H
    have hcz9_0 : wc.cell? ⟨gb185, 0, none⟩ = some (.int .i64 0) := (blk_cell BK185.out 0).trans rfl
    have hcz9_1 : wc.cell? ⟨gb185, 1, none⟩ = some (.int .i64 0) := (blk_cell BK185.out 1).trans rfl
    have hcz9_2 : wc.cell? ⟨gb185, 2, none⟩ = some (.slice none 0 0) := (blk_cell BK185.out 2).trans rfl
    have hfz9_0 := blk_frozen BK185.out 0
    have hfz9_1 := blk_frozen BK185.out 1
    have hfz9_2 := blk_frozen BK185.out 2
    go_wp2
    refine bodyPost_ret (results_ct rfl _ _ gb185 29 #[.int .i64 0, .int .i64 0, .slice none 0 0] (0, 0) _ rfl (by (with_reducible repeat (first | apply k1 | apply k2 | apply k3)); refine blk_put (cs := #[.int .i64 0, .int .i64 0, .slice none 0 0]) ?_ 2 _ rfl; (with_reducible repeat (first | apply k1 | apply k2 | apply k3)); refine blk_put (cs := #[.int .i64 0, .int .i64 0, .slice none 0 0]) ?_ 1 _ rfl; (with_reducible repeat (first | apply k1 | apply k2 | apply k3)); refine blk_put (cs := #[.int .i64 0, .int .i64 0, .slice none 0 0]) ?_ 0 _ rfl; (with_reducible repeat (first | apply k1 | apply k2 | apply k3)); exact BK185.out) Tryd.underlying29 rfl (by kernel_rfl)) rfl ?_
    exact ⟨_, by first | rfl | (simp [errW_none, errW_some] <;> rfl) | (simp [*, errW_none, errW_some] <;> rfl), by first | exact Kd.S_nil _ _ _ _ _ | exact Kd.N_nil _ _ _ _ _ | exact Kd.V_nil _ _ _ _ _ | exact Kd.Q_nil _ _ _ _ _ | exact Kd.R_nil _ _ _ _ _, by repeat (first | (with_reducible first | exact HB.out | apply b1 | apply b2 | apply b3 | refine below_set ?_ GE185.out) | exact HB.out)⟩
   ·replace c8 := Bool.eq_false_iff.mpr c8
    subst c8
    have H1 : (if 0 < (t186.length : Int) then (if 1 < (t186.length : Int) then (if 2 ≤ (t186.length : Int) then (spec_ReadPatch.l0 kj2 a0 (t186.drop (2 : Int).toNat) (rd t186 0) (rd t186 1) ([] : List (S40))) else (none)) else (none)) else (none)) = some (r1, r2, r3, r4) := by rw [if_neg (show ¬ (false = true) by decide)] at H; exact H
    clear H
    have H := H1
    clear H1
    by_cases c10 : 0 < (t186.length : Int)
    ·rw [if_pos c10] at H
     have c10b0 : decide (0 < (t186.length : Int)) = true := decide_eq_true c10
     have c10b1 : decide (0 < t186.length) = true := decide_eq_true (by omega)
     clear c10
     by_cases c11 : 1 < (t186.length : Int)
     ·rw [if_pos c11] at H
      have c11b0 : decide (1 < (t186.length : Int)) = true := decide_eq_true c11
      have c11b1 : decide (1 < t186.length) = true := decide_eq_true (by omega)
      clear c11
      by_cases c12 : 2 ≤ (t186.length : Int)
      ·rw [if_pos c12] at H
       have c12b0 := eq_true c12
       have c12b1 : decide (2 ≤ (t186.length : Int)) = true := decide_eq_true c12
       clear c12
       obtain ⟨y193, hy193⟩ : ∃ y_ : List Int, y_ = (t186.drop (2 : Int).toNat) := ⟨_, rfl⟩
       replace H : (spec_ReadPatch.l0 kj2 a0 y193 (rd t186 0) (rd t186 1) ([] : List (S40))) = some (r1, r2, r3, r4) := by first | (rw [hy193]; with_reducible exact H) | (rw [hy193]; exact H) | exact H
       have Ny193 := am hy193
       clear hy193
       have H' := am H
       clear H
       try go_wp2
       have n0_ := am (Kd.Q_drew HO_4.out)
       have n1_ := am (blk_drew BK185.out)
       have n2_ := am (below_drew1 HB.out)
       clear HO_4
       clear BK185
       clear HB
       have HO_4 := n0_
       have BK185 := n1_
       have HB := n2_
       clear n0_ n1_ n2_
       obtain ⟨Ao14, co14, eo14, _⟩ := Kd.Q_slice HO_4.out
       (first | subst eo14 | (injection eo14 with f1_ f2_ f3_; have f4_ := f1_.symm; have f5_ := f3_.symm; clear f1_ f2_ f3_; subst f4_; subst f5_))
       have p190 : 0 ≤ (0 : Int) := (by omega)
       have q190 : 0 < (t186.length : Int) := dt_
       obtain ⟨ad190, e190, hx190_0⟩ := Kd.at_int (Kd.Q_reads' HO_4.out).2.2 0 p190 q190
       cases e190
       have qi190 : (0 < t186.length) = True := eq_true (by omega)
       (try rw [show ((0 : Int)).toNat = 0 from rfl] at hx190_0)
       (try rw [Addr.add_zero'] at hx190_0)
       replace p190 := eq_true p190
       replace q190 := eq_true q190
       have p191 : 0 ≤ (1 : Int) := (by omega)
       have q191 : 1 < (t186.length : Int) := dt_
       obtain ⟨ad191, e191, hx191_0⟩ := Kd.at_int (Kd.Q_reads' HO_4.out).2.2 1 p191 q191
       obtain rfl : ad190 = ad191 := (by injection e191)
       (try simp only [show (1 : Int).toNat = 1 from rfl, Nat.reduceMul, Nat.reduceEqDiff, Go.Addr.add, ↓reduceIte] at hx191_0)
       have qi191 : (1 < t186.length) = True := eq_true (by omega)
       (try rw [show ((1 : Int)).toNat = 1 from rfl] at hx191_0)
       replace p191 := eq_true p191
       replace q191 := eq_true q191
       refine start_ (n := 9) (S := fun w' => w'.cell? ad190 = some (.int .i64 (rd t186 0)) ∧ w'.cell? ⟨ad190.block, ad190.off + 1, none⟩ = some (.int .i64 (rd t186 1))) (ds := []) (bm 9 0) (by kernel_rfl) rfl rfl ⟨hx190_0, hx191_0⟩ (fun hHeld => ?_); refine with_tabW spec_ReadPatch.tab4 spec_ReadPatch.bits4 (fun HT_ HW_ => ?_)
       generalize wc.drew = w13 at HO_4 BK185 HB hx190_0 hx191_0 hHeld ⊢
       refine pu_ 0 23 (bm 9 1) HT_.out ?_
       refine pu_ 1 24 (bm 9 3) HT_.out ?_
       refine pu_ 3 26 (bm 9 11) HT_.out ?_
       refine pu_ 4 27 (bm 9 27) HT_.out ?_
       refine take_ (i := 2) (N := some 25) (v := ?_) (a' := ?_) (bm 9 31) rfl rfl (take_ofW HT_.out HW_.out (by kernel_rfl)) (fun _ _ _ h => h) (Or.inl ⟨by rfl, ?_⟩) hHeld ?_ ?_
       rotate_left
       ·rintro w' ⟨s0, s1⟩
        go_simp
        with_reducible rfl
       rotate_left
       ·simp only [Act.put, List.setIfInBounds_toArray, List.set_cons_zero, List.set_cons_succ, i64_w, i32_w]
        rfl
       refine take_ (i := 5) (N := some 28) (v := ?_) (a' := ?_) (bm 9 63) rfl rfl (take_ofW HT_.out HW_.out (by kernel_rfl)) (fun _ _ _ h => h) (Or.inl ⟨by rfl, ?_⟩) hHeld ?_ ?_
       rotate_left
       ·rintro w' ⟨s0, s1⟩
        go_simp
        with_reducible rfl
       rotate_left
       ·simp only [Act.put, List.setIfInBounds_toArray, List.set_cons_zero, List.set_cons_succ, i64_w, i32_w]
        rfl
       refine pu_ 6 29 (bm 9 127) HT_.out ?_
       refine one_ (i := 7) (N := some 6) (bm 9 255) rfl rfl (one_of HT_.out (by kernel_rfl)) (by decide) (fun K hK => ?_)
       refine box_step ?hg (N := 6) ?hd (cs := #[.int .i64 0, .int .i64 0, .slice none 0 0]) (t := 29) ?hr ?_; (case hd => rfl); (case hg => rfl); (case hr => first | (go_simp; done) | (go_simp; rfl))
       intro gb192 hg w15 hbox hb
       have HS0_ := (hb.cell (World.block_lt_of_cell? _ _ (hHeld.1))).trans (hHeld.1)
       have HS1_ := (hb.cell (World.block_lt_of_cell? _ _ (hHeld.2))).trans (hHeld.2)
       have n0_ := am (Kd.Q_below (by (with_reducible repeat (first | apply Kd.Q_alloc | apply Kd.Q_drewN | apply Kd.Q_drew)); exact HO_4.out) hb)
       have n1_ := am (blk_below (g := gb185) (o := .cells #[.int .i64 0, .int .i64 0, .slice none 0 0] 29 (0, 0)) (rk BK185) hb)
       have n2_ := am (below_step (rb1 HB GE185) hb)
       have n3_ := am (hbox)
       have n4_ := am ((by rw [hg]; exact (below_size (rb1 HB GE185)) : w.heap.size ≤ gb192))
       have n5_ := am ((by rw [hg]; exact (below_size (rb1 HB GE185)) : w.heap.size ≤ gb192))
       have n6_ := am ((by rw [hg]; exact Nat.ne_of_lt (blk_lt (g := gb185) (o := .cells #[.int .i64 0, .int .i64 0, .slice none 0 0] 29 (0, 0)) (rk BK185)) : gb185 ≠ gb192))
       have n7_ := am ((by rw [hg]; exact Nat.ne_of_gt (blk_lt (g := gb185) (o := .cells #[.int .i64 0, .int .i64 0, .slice none 0 0] 29 (0, 0)) (rk BK185)) : gb192 ≠ gb185))
       clear HO_4
       clear BK185
       clear HB
       have HO_4 := n0_
       have BK185 := n1_
       have HB := n2_
       have BK192 := n3_
       have GW192 := n4_
       have GE192 := n5_
       have NB185_192 := n6_
       have NB192_185 := n7_
       clear n0_ n1_ n2_ n3_ n4_ n5_ n6_ n7_
       clear hb hbox hg
       refine hK.out _ _ ⟨HS0_, HS1_⟩ (fun hHeld => ?_)
       clear hK K
       refine norm_ (a' := ?_) ?_ ?_
       rotate_left
       ·show Act.put _ (some 6) _ = _
        simp only [Act.put, List.setIfInBounds_toArray, List.set_cons_zero, List.set_cons_succ, i64_w, i32_w]
        rfl
       refine one_ (i := 8) (N := none) (bm 9 511) rfl rfl (one_of HT_.out (by kernel_rfl)) (by decide) (fun K hK => ?_)
       have hs16 : w15.cell? ⟨gb192, 0, none⟩ = some (.int .i64 0) := (blk_cell BK192.out 0).trans rfl
       have hfs16 := blk_frozen BK192.out 0
       have hns16_0 := NB185_192.out
       have hms16_0 := NB192_185.out
       have hs17 : w15.cell? ⟨gb192, 1, none⟩ = some (.int .i64 0) := (blk_cell BK192.out 1).trans rfl
       have hfs17 := blk_frozen BK192.out 1
       have hns17_0 := NB185_192.out
       have hms17_0 := NB192_185.out
       have hs18 : w15.cell? ⟨gb192, 2, none⟩ = some (.slice none 0 0) := (blk_cell BK192.out 2).trans rfl
       have hfs18 := blk_frozen BK192.out 2
       have hns18_0 := NB185_192.out
       have hms18_0 := NB192_185.out
       refine skip_ (w1 := ?_) (by rfl) rfl ?_ ?_
       rotate_left
       ·go_simp
        rfl
       have hne_ := Kd.own_blk (Kd.Q_ne HO_4.out BK192.out (by decide))
       refine hK.out _ _ ⟨((cell_far (p := ⟨gb192, _, none⟩) (by exact hne_) _).trans (((cell_far (p := ⟨gb192, _, none⟩) (by exact hne_) _).trans (((cell_far (p := ⟨gb192, _, none⟩) (by exact hne_) _).trans (hHeld.1)))))), ((cell_far (p := ⟨gb192, _, none⟩) (by exact hne_) _).trans (((cell_far (p := ⟨gb192, _, none⟩) (by exact hne_) _).trans (((cell_far (p := ⟨gb192, _, none⟩) (by exact hne_) _).trans (hHeld.2))))))⟩ (fun hHeld => ?_)
       clear hK K
       refine done_ (done_of HT_.out (by kernel_rfl)) ?_
       have n0_ : Aside0 (Kd.Q (Kd.int .i64) 2 (((w15.setCell ⟨gb192, 0, none⟩ (.int .i64 (rd t186 0))).setCell ⟨gb192, 1, none⟩ (.int .i64 (rd t186 1))).setCell ⟨gb192, 2, none⟩ (.slice none 0 0)) w.heap.size (fun _ => True) (.slice (some ad190) t186.length co14) t186) := ⟨by (with_reducible repeat (first | apply Kd.Q_alloc | apply Kd.Q_drewN | apply Kd.Q_drew)); exact Kd.Q_mono (Kd.Q_far (p := ⟨gb192, 2, none⟩) (Kd.Q_far (p := ⟨gb192, 1, none⟩) (Kd.Q_far (p := ⟨gb192, 0, none⟩) (Kd.Q_types HO_4.out BK192.out (by decide)) (fun _ hk => hk.2) (.int .i64 (rd t186 0))) (fun _ hk => hk.2) (.int .i64 (rd t186 1))) (fun _ hk => hk.2) (.slice none 0 0)) (fun _ hk => trivial)⟩
       have n1_ : Aside0 ((((w15.setCell ⟨gb192, 0, none⟩ (.int .i64 (rd t186 0))).setCell ⟨gb192, 1, none⟩ (.int .i64 (rd t186 1))).setCell ⟨gb192, 2, none⟩ (.slice none 0 0)).heap[gb185]? = some (.cells #[.int .i64 0, .int .i64 0, .slice none 0 0] 29 (0, 0))) := ⟨by (with_reducible repeat (first | apply k1 | apply k2 | apply k3)); refine blk_far ?_ NB185_192.out _; (with_reducible repeat (first | apply k1 | apply k2 | apply k3)); refine blk_far ?_ NB185_192.out _; (with_reducible repeat (first | apply k1 | apply k2 | apply k3)); refine blk_far ?_ NB185_192.out _; (with_reducible repeat (first | apply k1 | apply k2 | apply k3)); exact BK185.out⟩
       have n2_ : Aside0 ((((w15.setCell ⟨gb192, 0, none⟩ (.int .i64 (rd t186 0))).setCell ⟨gb192, 1, none⟩ (.int .i64 (rd t186 1))).setCell ⟨gb192, 2, none⟩ (.slice none 0 0)).heap[gb192]? = some (.cells #[.int .i64 (rd t186 0), .int .i64 (rd t186 1), .slice none 0 0] 29 (0, 0))) := ⟨by (with_reducible repeat (first | apply k1 | apply k2 | apply k3)); refine blk_put (cs := #[.int .i64 (rd t186 0), .int .i64 (rd t186 1), .slice none 0 0]) ?_ 2 _ rfl; (with_reducible repeat (first | apply k1 | apply k2 | apply k3)); refine blk_put (cs := #[.int .i64 (rd t186 0), .int .i64 0, .slice none 0 0]) ?_ 1 _ rfl; (with_reducible repeat (first | apply k1 | apply k2 | apply k3)); refine blk_put (cs := #[.int .i64 0, .int .i64 0, .slice none 0 0]) ?_ 0 _ rfl; (with_reducible repeat (first | apply k1 | apply k2 | apply k3)); exact BK192.out⟩
       have n3_ : Aside0 (Below w.heap.size w (((w15.setCell ⟨gb192, 0, none⟩ (.int .i64 (rd t186 0))).setCell ⟨gb192, 1, none⟩ (.int .i64 (rd t186 1))).setCell ⟨gb192, 2, none⟩ (.slice none 0 0))) := ⟨by repeat (first | (with_reducible first | exact HB.out | apply b1 | apply b2 | apply b3 | refine below_set ?_ GE185.out | refine below_set ?_ GE192.out) | exact HB.out)⟩
       (try clear HO_4)
       (try clear BK185)
       (try clear BK192)
       (try clear HB)
       generalize (((w15.setCell ⟨gb192, 0, none⟩ (.int .i64 (rd t186 0))).setCell ⟨gb192, 1, none⟩ (.int .i64 (rd t186 1))).setCell ⟨gb192, 2, none⟩ (.slice none 0 0)) = w19 at n0_ n1_ n2_ n3_ ⊢
       have HO_4 := n0_
       have BK185 := n1_
       have BK192 := n2_
       have HB := n3_
       clear n0_ n1_ n2_ n3_
       have q20 : (2 : Int) ≤ ((t186.length : Int) : Int) := dt_
       obtain ⟨i020, hi020, _, hsz20, _⟩ := info_parts info2
       have hcut20 := cut_from (P := Tryd.prog) 47 2 .i64 Tryd.underlying47 hi020 1 hsz20 (some ad190) t186.length co14 2 (by omega) q20
       have hr20 := Kd.Q_drop (k := (2 : Int).toNat) HO_4.out (by omega)
       obtain ⟨A20, hA20⟩ : ∃ A1, A1 = (if co14 = (2 : Int).toNat then (some ad190) else ((some ad190) : Option Addr).map (·.add ((2 : Int).toNat * 1))) := ⟨_, rfl⟩
       obtain ⟨c20, hc20⟩ : ∃ c1, c1 = co14 - (2 : Int).toNat := ⟨_, rfl⟩
       have hy20 : y193.length = t186.length - (2 : Int).toNat := (by rw [Ny193.out, List.length_drop])
       rw [← Ny193.out] at hr20
       rw [← hy20, ← hA20, ← hc20] at hcut20
       replace hr20 : Kd.Q (Kd.int .i64) 2 w19 w.heap.size (fun _ => True) (.slice A20 y193.length c20) y193 := (by rw [hA20, hc20, hy20]; exact hr20)
       have HE20 : Aside0 ((Value.slice A20 y193.length c20).ownBlock = (.slice (some ad190) t186.length co14 : Value).ownBlock) := ⟨by rw [hA20]; split <;> (cases ((some ad190) : Option Addr) <;> rfl)⟩
       clear hy20 hi020 hsz20 HO_4 hA20 hc20
       have HO195 := am hr20
       clear hr20
       replace q20 := eq_true q20
       try go_wp2
       go_loopg [4] kj2 (fun kq v4 w' => ∃ (x4_2 : List Int) (x186000_2 : Int) (x186001_2 : Int) (x193002_2 : List (S40)) (u193002 : Value), Aside0 (spec_ReadPatch.l0 kq a0 x4_2 (rd t186 0) (rd t186 1) x193002_2 = some (r1, r2, r3, r4)) ∧ Aside0 (kq ≤ kj2) ∧ Aside0 (Kd.Q (Kd.int .i64) 2 w' w.heap.size (fun _ => True) v4 x4_2) ∧ Aside0 (Kd.S k40 40 w' w.heap.size (fun _ => True) u193002 x193002_2) ∧ Aside0 (w'.heap[gb185]? = some (.cells #[.int .i64 x186000_2, .int .i64 x186001_2, (.slice none 0 0)] 29 (0, 0))) ∧ Aside0 (w'.heap[gb192]? = some (.cells #[.int .i64 (rd t186 0), .int .i64 (rd t186 1), u193002] 29 (0, 0))) ∧ Aside0 (Below w.heap.size w w'))
       case atStart => exact ⟨(y193), (0), (0), (([] : List (S40))), (.slice none 0 0), H', ⟨Nat.le_refl _⟩, ⟨by (with_reducible repeat (first | apply Kd.Q_alloc | apply Kd.Q_drewN | apply Kd.Q_drew)); exact HO195.out⟩, ⟨by first | exact Kd.S_nil _ _ _ _ _ | exact Kd.N_nil _ _ _ _ _ | exact Kd.V_nil _ _ _ _ _ | exact Kd.Q_nil _ _ _ _ _ | exact Kd.R_nil _ _ _ _ _⟩, ⟨rk BK185⟩, ⟨rk BK192⟩, ⟨by repeat (first | (with_reducible first | exact HB.out | apply b1 | apply b2 | apply b3 | refine below_set ?_ GE185.out | refine below_set ?_ GE192.out) | exact HB.out)⟩⟩
       case round =>
        clear H'
        try clear c1
        try clear p1
        try clear q1
        try clear hx1
        try clear qi1
        try clear c2
        try clear p2
        try clear q2
        try clear c6
        try clear c8
        try clear c10
        try clear c10b0
        try clear c10b1
        try clear c11
        try clear c11b0
        try clear c11b1
        try clear c12
        try clear c12b0
        try clear c12b1
        try clear p19
        try clear q19
        try clear hx19
        try clear qi19
        try clear c20
        try clear q20
        try clear hcz9_0
        try clear hcz9_1
        try clear hcz9_2
        try clear hfz9_0
        try clear hfz9_1
        try clear hfz9_2
        try clear hx190_0
        try clear hx191_0
        try clear p190
        try clear p191
        try clear p2
        try clear q190
        try clear q191
        try clear q20
        obtain ⟨x4_2, x186000_2, x186001_2, x193002_2, u193002, HA, HK2, HO_4, HO_193002, BK185, BK192, HB⟩ := hrel
        cases gk with
        | zero => exact absurd HA.out (by simp [spec_ReadPatch.l0])
        | succ k2 =>
         have H := HA.out
         clear HA
         simp only [spec_ReadPatch.l0] at H
         by_cases c21 : (x4_2.length : Int) > 0
         ·rw [if_pos c21] at H
          have c21b0 : decide (0 < (x4_2.length : Int)) = true := decide_eq_true c21
          have c21b1 : decide (0 < x4_2.length) = true := decide_eq_true (by omega)
          clear c21
          have HC22 := am H
          clear H
          obtain ⟨Ao23, co23, eo23, _⟩ := Kd.Q_slice HO_4.out
          subst eo23
          go_upto_region 7 with (fail)
          go_cut [54] (fun v54 wc => ∃ (kq : Nat) (x54_21 : Bool), v54 = .bool x54_21 ∧ Aside0 (spec_ReadPatch.j2 kq a0 x4_2 x54_21 (rd t186 0) (rd t186 1) x193002_2 = some (r1, r2, r3, r4)) ∧ Aside0 (kq ≤ k2) ∧ Aside0 (Kd.Q (Kd.int .i64) 2 wc w.heap.size (fun _ => True) (.slice Ao23 x4_2.length co23) x4_2) ∧ Aside0 (Kd.S k40 40 wc w.heap.size (fun _ => True) u193002 x193002_2) ∧ Aside0 (wc.heap[gb185]? = some (.cells #[.int .i64 x186000_2, .int .i64 x186001_2, (.slice none 0 0)] 29 (0, 0))) ∧ Aside0 (wc.heap[gb192]? = some (.cells #[.int .i64 (rd t186 0), .int .i64 (rd t186 1), u193002] 29 (0, 0))) ∧ Aside0 (Below w.heap.size w wc))
          case first =>
           have H := HC22.out
           clear HC22
           by_cases c24 : (x4_2.length : Int) < 3
           ·rw [if_pos c24] at H
            have c24b0 : decide ((x4_2.length : Int) < 3) = true := decide_eq_true c24
            have c24b1 : decide (x4_2.length < 3) = true := decide_eq_true (by omega)
            clear c24
            (first | rw [c24b0] | (simp only [i64_w, i32_w]; rw [c24b0]) | skip)
            have H' := am H
            clear H
            go_wp2
            go_meet
            case rel => exact ⟨_, (true), (by first | rfl | (simp; done) | (simp [*]; done)), H', ⟨by have := HJ2.out; have := HK2.out; first | omega | exact Nat.le_refl _⟩, ⟨by (with_reducible repeat (first | apply Kd.Q_alloc | apply Kd.Q_drewN | apply Kd.Q_drew)); exact HO_4.out⟩, ⟨rs HO_193002⟩, ⟨rk BK185⟩, ⟨rk BK192⟩, ⟨by repeat (first | (with_reducible first | exact HB.out | apply b1 | apply b2 | apply b3 | refine below_set ?_ GE185.out | refine below_set ?_ GE192.out) | exact HB.out)⟩⟩
           ·rw [if_neg c24] at H
            have c24b0 : decide ((x4_2.length : Int) < 3) = false := decide_eq_false c24
            have c24b1 : decide (x4_2.length < 3) = false := decide_eq_false (by omega)
            clear c24
            (first | rw [c24b0] | (simp only [i64_w, i32_w]; rw [c24b0]) | skip)
            by_cases c25 : 2 < (x4_2.length : Int)
            ·rw [if_pos c25] at H
             have c25b0 : decide (2 < (x4_2.length : Int)) = true := decide_eq_true c25
             have c25b1 : decide (2 < x4_2.length) = true := decide_eq_true (by omega)
             clear c25
             replace H := Option.bind_eq_some_iff.mp H
             obtain ⟨t198, A260, H⟩ := H
             replace H : (if t198 = true then (spec_ReadPatch.j2 k2 a0 x4_2 (decide ((x4_2.length : Int) < (wrap64 (3 + (wrap64 (5 * (rd x4_2 2))))))) (rd t186 0) (rd t186 1) x193002_2) else (spec_ReadPatch.j2 k2 a0 x4_2 true (rd t186 0) (rd t186 1) x193002_2)) = some (r1, r2, r3, r4) := H
             have A26 := am A260
             clear A260
             by_cases c27 : t198 = true
             ·subst c27
              have H1 : (spec_ReadPatch.j2 k2 a0 x4_2 (decide ((x4_2.length : Int) < (wrap64 (3 + (wrap64 (5 * (rd x4_2 2))))))) (rd t186 0) (rd t186 1) x193002_2) = some (r1, r2, r3, r4) := by rw [if_pos rfl] at H; exact H
              clear H
              have H := H1
              clear H1
              have H' := am H
              clear H
              have p197 : 0 ≤ (2 : Int) := (by omega)
              have q197 : 2 < (x4_2.length : Int) := dt_
              obtain ⟨ad197, e197, hx197_0⟩ := Kd.at_int (Kd.Q_reads' HO_4.out).2.2 2 p197 q197
              cases e197
              (try simp only [show (2 : Int).toNat = 2 from rfl, Nat.reduceMul, Nat.reduceEqDiff, Go.Addr.add, ↓reduceIte] at hx197_0)
              have qi197 : (2 < x4_2.length) = True := eq_true (by omega)
              (try rw [show ((2 : Int)).toNat = 2 from rfl] at hx197_0)
              replace p197 := eq_true p197
              replace q197 := eq_true q197
              go_wp2_with (first | (go_at_call 17; (with_reducible refine (spec_l1In.calls (rd x4_2 2) 1 60 true _ A26.out).mono ?_); rintro e w' ⟨rfl, ⟨nd, rfl⟩⟩; have p199 : 0 ≤ (2 : Int) := (by omega); have q199 : 2 < (x4_2.length : Int) := dt_; obtain ⟨ad199, e199, hx199_0⟩ := Kd.at_int (Kd.Q_reads' HO_4.out).2.2 2 p199 q199; obtain rfl : ad197 = ad199 := (by injection e199); (try simp only [show (2 : Int).toNat = 2 from rfl, Nat.reduceMul, Nat.reduceEqDiff, Go.Addr.add, ↓reduceIte] at hx199_0); have qi199 : (2 < x4_2.length) = True := eq_true (by omega); (try rw [show ((2 : Int)).toNat = 2 from rfl] at hx199_0); replace p199 := eq_true p199; replace q199 := eq_true q199))
              go_meet
              case rel => exact ⟨_, (decide ((x4_2.length : Int) < (wrap64 (3 + (wrap64 (5 * (rd x4_2 2))))))), (by first | rfl | (simp; done) | (simp [*]; done)), H', ⟨by have := HJ2.out; have := HK2.out; first | omega | exact Nat.le_refl _⟩, ⟨by (with_reducible repeat (first | apply Kd.Q_alloc | apply Kd.Q_drewN | apply Kd.Q_drew)); exact HO_4.out⟩, ⟨rs HO_193002⟩, ⟨rk BK185⟩, ⟨rk BK192⟩, ⟨by repeat (first | (with_reducible first | exact HB.out | apply b1 | apply b2 | apply b3 | refine below_set ?_ GE185.out | refine below_set ?_ GE192.out) | exact HB.out)⟩⟩
             ·replace c27 := Bool.eq_false_iff.mpr c27
              subst c27
              have H1 : (spec_ReadPatch.j2 k2 a0 x4_2 true (rd t186 0) (rd t186 1) x193002_2) = some (r1, r2, r3, r4) := by rw [if_neg (show ¬ (false = true) by decide)] at H; exact H
              clear H
              have H := H1
              clear H1
              have H' := am H
              clear H
              have p197 : 0 ≤ (2 : Int) := (by omega)
              have q197 : 2 < (x4_2.length : Int) := dt_
              obtain ⟨ad197, e197, hx197_0⟩ := Kd.at_int (Kd.Q_reads' HO_4.out).2.2 2 p197 q197
              cases e197
              (try simp only [show (2 : Int).toNat = 2 from rfl, Nat.reduceMul, Nat.reduceEqDiff, Go.Addr.add, ↓reduceIte] at hx197_0)
              have qi197 : (2 < x4_2.length) = True := eq_true (by omega)
              (try rw [show ((2 : Int)).toNat = 2 from rfl] at hx197_0)
              replace p197 := eq_true p197
              replace q197 := eq_true q197
              go_wp2_with (first | (go_at_call 17; (with_reducible refine (spec_l1In.calls (rd x4_2 2) 1 60 false _ A26.out).mono ?_); rintro e w' ⟨rfl, ⟨nd, rfl⟩⟩))
              go_meet
              case rel => exact ⟨_, (true), (by first | rfl | (simp; done) | (simp [*]; done)), H', ⟨by have := HJ2.out; have := HK2.out; first | omega | exact Nat.le_refl _⟩, ⟨by (with_reducible repeat (first | apply Kd.Q_alloc | apply Kd.Q_drewN | apply Kd.Q_drew)); exact HO_4.out⟩, ⟨rs HO_193002⟩, ⟨rk BK185⟩, ⟨rk BK192⟩, ⟨by repeat (first | (with_reducible first | exact HB.out | apply b1 | apply b2 | apply b3 | refine below_set ?_ GE185.out | refine below_set ?_ GE192.out) | exact HB.out)⟩⟩
            ·rw [if_neg c25] at H
             exact absurd H (by simp)
          case rest =>
           clear HC22
           try clear c1
           try clear p1
           try clear q1
           try clear hx1
           try clear qi1
           try clear c2
           try clear p2
           try clear q2
           try clear c6
           try clear p6
           try clear c8
           try clear c10
           try clear c10b0
           try clear c10b1
           try clear c11
           try clear c11b0
           try clear c11b1
           try clear c12
           try clear c12b0
           try clear c12b1
           try clear p19
           try clear q19
           try clear hx19
           try clear qi19
           try clear c20
           try clear q20
           try clear c21
           try clear c21b0
           try clear c21b1
           try clear c23
           try clear c24
           try clear c24b0
           try clear c24b1
           try clear c25
           try clear c25b0
           try clear c25b1
           try clear c27
           try clear hcz9_0
           try clear hcz9_1
           try clear hcz9_2
           try clear hfz9_0
           try clear hfz9_1
           try clear hfz9_2
           try clear hx190_0
           try clear hx191_0
           try clear hx197_0
           try clear hx199_0
           try clear p1
           try clear p19
           try clear p190
           try clear p191
           try clear p197
           try clear p199
           try clear p2
           try clear q1
           try clear q19
           try clear q190
           try clear q191
           try clear q197
           try clear q199
           try clear q2
           try clear q20
           obtain ⟨kq, x54_21, rfl, HA, HJ21, HO_4, HO_193002, BK185, BK192, HB⟩ := hcut
           cases kq with
           | zero => exact absurd HA.out (by simp [spec_ReadPatch.j2])
           | succ kj21 =>
            have H := HA.out
            clear HA
            simp only [spec_ReadPatch.j2] at H
            by_cases c28 : x54_21 = true
            ·subst c28
             have H1 : (some (0, 0, ([] : List (S40)), false)) = some (r1, r2, r3, r4) := by rw [if_pos rfl] at H; exact H
             clear H
             have H := H1
             clear H1
             simp only [Option.some.injEq, Prod.mk.injEq] at H
             obtain ⟨rfl, rfl, rfl, rfl⟩ := H
             have hnb29 := NB185_192.out
             have hnc29 := NB192_185.out
             have hcz30_0 : wc.cell? ⟨gb185, 0, none⟩ = some (.int .i64 x186000_2) := (blk_cell BK185.out 0).trans rfl
             have hcz30_1 : wc.cell? ⟨gb185, 1, none⟩ = some (.int .i64 x186001_2) := (blk_cell BK185.out 1).trans rfl
             have hcz30_2 : wc.cell? ⟨gb185, 2, none⟩ = some (.slice none 0 0) := (blk_cell BK185.out 2).trans rfl
             have hfz30_0 := blk_frozen BK185.out 0
             have hfz30_1 := blk_frozen BK185.out 1
             have hfz30_2 := blk_frozen BK185.out 2
             go_wp2
             refine bodyPost_ret (results_ct rfl _ _ gb185 29 #[.int .i64 0, .int .i64 0, .slice none 0 0] (0, 0) _ rfl (by (with_reducible repeat (first | apply k1 | apply k2 | apply k3)); refine blk_put (cs := #[.int .i64 0, .int .i64 0, .slice none 0 0]) ?_ 2 _ rfl; (with_reducible repeat (first | apply k1 | apply k2 | apply k3)); refine blk_put (cs := #[.int .i64 0, .int .i64 x186001_2, .slice none 0 0]) ?_ 1 _ rfl; (with_reducible repeat (first | apply k1 | apply k2 | apply k3)); refine blk_put (cs := #[.int .i64 x186000_2, .int .i64 x186001_2, .slice none 0 0]) ?_ 0 _ rfl; (with_reducible repeat (first | apply k1 | apply k2 | apply k3)); exact BK185.out) Tryd.underlying29 rfl (by kernel_rfl)) rfl ?_
             exact ⟨_, by first | rfl | (simp [errW_none, errW_some] <;> rfl) | (simp [*, errW_none, errW_some] <;> rfl), by first | exact Kd.S_nil _ _ _ _ _ | exact Kd.N_nil _ _ _ _ _ | exact Kd.V_nil _ _ _ _ _ | exact Kd.Q_nil _ _ _ _ _ | exact Kd.R_nil _ _ _ _ _, by repeat (first | (with_reducible first | exact HB.out | apply b1 | apply b2 | apply b3 | refine below_set ?_ GE185.out | refine below_set ?_ GE192.out) | exact HB.out)⟩
            ·replace c28 := Bool.eq_false_iff.mpr c28
             subst c28
             have H1 : (if 0 < (x4_2.length : Int) then (if 1 < (x4_2.length : Int) then (if 2 < (x4_2.length : Int) then (if 3 ≤ (x4_2.length : Int) then (spec_ReadPatch.l1 kj21 a0 (x4_2.drop (3 : Int).toNat) (rd x4_2 2) (rd t186 0) (rd t186 1) x193002_2 (rd x4_2 0) (rd x4_2 1) ([] : List (S45))) else (none)) else (none)) else (none)) else (none)) = some (r1, r2, r3, r4) := by rw [if_neg (show ¬ (false = true) by decide)] at H; exact H
             clear H
             have H := H1
             clear H1
             by_cases c31 : 0 < (x4_2.length : Int)
             ·rw [if_pos c31] at H
              have c31b0 : decide (0 < (x4_2.length : Int)) = true := decide_eq_true c31
              have c31b1 : decide (0 < x4_2.length) = true := decide_eq_true (by omega)
              clear c31
              by_cases c32 : 1 < (x4_2.length : Int)
              ·rw [if_pos c32] at H
               have c32b0 : decide (1 < (x4_2.length : Int)) = true := decide_eq_true c32
               have c32b1 : decide (1 < x4_2.length) = true := decide_eq_true (by omega)
               clear c32
               by_cases c33 : 2 < (x4_2.length : Int)
               ·rw [if_pos c33] at H
                have c33b0 : decide (2 < (x4_2.length : Int)) = true := decide_eq_true c33
                have c33b1 : decide (2 < x4_2.length) = true := decide_eq_true (by omega)
                clear c33
                by_cases c34 : 3 ≤ (x4_2.length : Int)
                ·rw [if_pos c34] at H
                 have c34b0 := eq_true c34
                 have c34b1 : decide (3 ≤ (x4_2.length : Int)) = true := decide_eq_true c34
                 clear c34
                 obtain ⟨y204, hy204⟩ : ∃ y_ : List Int, y_ = (x4_2.drop (3 : Int).toNat) := ⟨_, rfl⟩
                 replace H : (spec_ReadPatch.l1 kj21 a0 y204 (rd x4_2 2) (rd t186 0) (rd t186 1) x193002_2 (rd x4_2 0) (rd x4_2 1) ([] : List (S45))) = some (r1, r2, r3, r4) := by first | (rw [hy204]; with_reducible exact H) | (rw [hy204]; exact H) | exact H
                 have Ny204 := am hy204
                 clear hy204
                 have H' := am H
                 clear H
                 try go_wp2
                 have n0_ := am (Kd.Q_drew HO_4.out)
                 have n1_ := am (Kd.S_drew HO_193002.out)
                 have n2_ := am (blk_drew BK185.out)
                 have n3_ := am (blk_drew BK192.out)
                 have n4_ := am (below_drew1 HB.out)
                 clear HO_4
                 clear HO_193002
                 clear BK185
                 clear BK192
                 clear HB
                 have HO_4 := n0_
                 have HO_193002 := n1_
                 have BK185 := n2_
                 have BK192 := n3_
                 have HB := n4_
                 clear n0_ n1_ n2_ n3_ n4_
                 have p200 : 0 ≤ (0 : Int) := (by omega)
                 have q200 : 0 < (x4_2.length : Int) := dt_
                 obtain ⟨ad200, e200, hx200_0⟩ := Kd.at_int (Kd.Q_reads' HO_4.out).2.2 0 p200 q200
                 cases e200
                 have qi200 : (0 < x4_2.length) = True := eq_true (by omega)
                 (try rw [show ((0 : Int)).toNat = 0 from rfl] at hx200_0)
                 (try rw [Addr.add_zero'] at hx200_0)
                 replace p200 := eq_true p200
                 replace q200 := eq_true q200
                 have p201 : 0 ≤ (1 : Int) := (by omega)
                 have q201 : 1 < (x4_2.length : Int) := dt_
                 obtain ⟨ad201, e201, hx201_0⟩ := Kd.at_int (Kd.Q_reads' HO_4.out).2.2 1 p201 q201
                 obtain rfl : ad200 = ad201 := (by injection e201)
                 (try simp only [show (1 : Int).toNat = 1 from rfl, Nat.reduceMul, Nat.reduceEqDiff, Go.Addr.add, ↓reduceIte] at hx201_0)
                 have qi201 : (1 < x4_2.length) = True := eq_true (by omega)
                 (try rw [show ((1 : Int)).toNat = 1 from rfl] at hx201_0)
                 replace p201 := eq_true p201
                 replace q201 := eq_true q201
                 refine start_ (n := 9) (S := fun w' => w'.cell? ad200 = some (.int .i64 (rd x4_2 0)) ∧ w'.cell? ⟨ad200.block, ad200.off + 1, none⟩ = some (.int .i64 (rd x4_2 1))) (ds := []) (bm 9 0) (by kernel_rfl) rfl rfl ⟨hx200_0, hx201_0⟩ (fun hHeld => ?_); refine with_tabW spec_ReadPatch.tab9 spec_ReadPatch.bits9 (fun HT_ HW_ => ?_)
                 generalize wc.drew = w35 at HO_4 HO_193002 BK185 BK192 HB hx200_0 hx201_0 hHeld ⊢
                 refine pu_ 0 56 (bm 9 1) HT_.out ?_
                 refine pu_ 1 57 (bm 9 3) HT_.out ?_
                 refine pu_ 3 59 (bm 9 11) HT_.out ?_
                 refine pu_ 4 60 (bm 9 27) HT_.out ?_
                 refine take_ (i := 2) (N := some 58) (v := ?_) (a' := ?_) (bm 9 31) rfl rfl (take_ofW HT_.out HW_.out (by kernel_rfl)) (fun _ _ _ h => h) (Or.inl ⟨by rfl, ?_⟩) hHeld ?_ ?_
                 rotate_left
                 ·rintro w' ⟨s0, s1⟩
                  go_simp
                  with_reducible rfl
                 rotate_left
                 ·simp only [Act.put, List.setIfInBounds_toArray, List.set_cons_zero, List.set_cons_succ, i64_w, i32_w]
                  rfl
                 refine take_ (i := 5) (N := some 61) (v := ?_) (a' := ?_) (bm 9 63) rfl rfl (take_ofW HT_.out HW_.out (by kernel_rfl)) (fun _ _ _ h => h) (Or.inl ⟨by rfl, ?_⟩) hHeld ?_ ?_
                 rotate_left
                 ·rintro w' ⟨s0, s1⟩
                  go_simp
                  with_reducible rfl
                 rotate_left
                 ·simp only [Act.put, List.setIfInBounds_toArray, List.set_cons_zero, List.set_cons_succ, i64_w, i32_w]
                  rfl
                 refine pu_ 6 62 (bm 9 127) HT_.out ?_
                 refine one_ (i := 7) (N := some 7) (bm 9 255) rfl rfl (one_of HT_.out (by kernel_rfl)) (by decide) (fun K hK => ?_)
                 refine box_step ?hg (N := 7) ?hd (cs := #[.int .i64 0, .int .i64 0, .slice none 0 0]) (t := 40) ?hr ?_; (case hd => rfl); (case hg => rfl); (case hr => first | (go_simp; done) | (go_simp; rfl))
                 intro gb202 hg w36 hbox hb
                 have HS0_ := (hb.cell (World.block_lt_of_cell? _ _ (hHeld.1))).trans (hHeld.1)
                 have HS1_ := (hb.cell (World.block_lt_of_cell? _ _ (hHeld.2))).trans (hHeld.2)
                 have n0_ := am (Kd.Q_below (by (with_reducible repeat (first | apply Kd.Q_alloc | apply Kd.Q_drewN | apply Kd.Q_drew)); exact HO_4.out) hb)
                 have n1_ := am (Kd.S_below (Kd.S_elderB (rs HO_193002) gb202 (Nat.le_of_eq hg.symm)) hb)
                 have n2_ := am (blk_below (g := gb185) (o := .cells #[.int .i64 x186000_2, .int .i64 x186001_2, .slice none 0 0] 29 (0, 0)) (rk BK185) hb)
                 have n3_ := am (blk_below (g := gb192) (o := .cells #[.int .i64 (rd t186 0), .int .i64 (rd t186 1), u193002] 29 (0, 0)) (rk BK192) hb)
                 have n4_ := am (below_step (by repeat (first | (with_reducible first | exact HB.out | apply b1 | apply b2 | apply b3 | refine below_set ?_ GE185.out | refine below_set ?_ GE192.out) | exact HB.out)) hb)
                 have n5_ := am (hbox)
                 have n6_ := am ((by rw [hg]; exact (below_size (by repeat (first | (with_reducible first | exact HB.out | apply b1 | apply b2 | apply b3 | refine below_set ?_ GE185.out | refine below_set ?_ GE192.out) | exact HB.out))) : w.heap.size ≤ gb202))
                 have n7_ := am ((by rw [hg]; exact (below_size (by repeat (first | (with_reducible first | exact HB.out | apply b1 | apply b2 | apply b3 | refine below_set ?_ GE185.out | refine below_set ?_ GE192.out) | exact HB.out))) : w.heap.size ≤ gb202))
                 have n8_ := am ((by rw [hg]; exact Nat.ne_of_lt (blk_lt (g := gb185) (o := .cells #[.int .i64 x186000_2, .int .i64 x186001_2, .slice none 0 0] 29 (0, 0)) (rk BK185)) : gb185 ≠ gb202))
                 have n9_ := am ((by rw [hg]; exact Nat.ne_of_gt (blk_lt (g := gb185) (o := .cells #[.int .i64 x186000_2, .int .i64 x186001_2, .slice none 0 0] 29 (0, 0)) (rk BK185)) : gb202 ≠ gb185))
                 have n10_ := am ((by rw [hg]; exact Nat.ne_of_lt (blk_lt (g := gb192) (o := .cells #[.int .i64 (rd t186 0), .int .i64 (rd t186 1), u193002] 29 (0, 0)) (rk BK192)) : gb192 ≠ gb202))
                 have n11_ := am ((by rw [hg]; exact Nat.ne_of_gt (blk_lt (g := gb192) (o := .cells #[.int .i64 (rd t186 0), .int .i64 (rd t186 1), u193002] 29 (0, 0)) (rk BK192)) : gb202 ≠ gb192))
                 clear HO_4
                 clear HO_193002
                 clear BK185
                 clear BK192
                 clear HB
                 have HO_4 := n0_
                 have HO_193002 := n1_
                 have BK185 := n2_
                 have BK192 := n3_
                 have HB := n4_
                 have BK202 := n5_
                 have GW202 := n6_
                 have GE202 := n7_
                 have NB185_202 := n8_
                 have NB202_185 := n9_
                 have NB192_202 := n10_
                 have NB202_192 := n11_
                 clear n0_ n1_ n2_ n3_ n4_ n5_ n6_ n7_ n8_ n9_ n10_ n11_
                 clear hb hbox hg
                 refine hK.out _ _ ⟨HS0_, HS1_⟩ (fun hHeld => ?_)
                 clear hK K
                 refine norm_ (a' := ?_) ?_ ?_
                 rotate_left
                 ·show Act.put _ (some 7) _ = _
                  simp only [Act.put, List.setIfInBounds_toArray, List.set_cons_zero, List.set_cons_succ, i64_w, i32_w]
                  rfl
                 refine one_ (i := 8) (N := none) (bm 9 511) rfl rfl (one_of HT_.out (by kernel_rfl)) (by decide) (fun K hK => ?_)
                 have hs37 : w36.cell? ⟨gb202, 0, none⟩ = some (.int .i64 0) := (blk_cell BK202.out 0).trans rfl
                 have hfs37 := blk_frozen BK202.out 0
                 have hns37_0 := NB185_202.out
                 have hns37_1 := NB192_202.out
                 have hms37_0 := NB202_185.out
                 have hms37_1 := NB202_192.out
                 have hs38 : w36.cell? ⟨gb202, 1, none⟩ = some (.int .i64 0) := (blk_cell BK202.out 1).trans rfl
                 have hfs38 := blk_frozen BK202.out 1
                 have hns38_0 := NB185_202.out
                 have hns38_1 := NB192_202.out
                 have hms38_0 := NB202_185.out
                 have hms38_1 := NB202_192.out
                 have hs39 : w36.cell? ⟨gb202, 2, none⟩ = some (.slice none 0 0) := (blk_cell BK202.out 2).trans rfl
                 have hfs39 := blk_frozen BK202.out 2
                 have hns39_0 := NB185_202.out
                 have hns39_1 := NB192_202.out
                 have hms39_0 := NB202_185.out
                 have hms39_1 := NB202_192.out
                 refine skip_ (w1 := ?_) (by rfl) rfl ?_ ?_
                 rotate_left
                 ·go_simp
                  rfl
                 have hne_ := Kd.own_blk (Kd.Q_ne HO_4.out BK202.out (by decide))
                 refine hK.out _ _ ⟨((cell_far (p := ⟨gb202, _, none⟩) (by exact hne_) _).trans (((cell_far (p := ⟨gb202, _, none⟩) (by exact hne_) _).trans (((cell_far (p := ⟨gb202, _, none⟩) (by exact hne_) _).trans (hHeld.1)))))), ((cell_far (p := ⟨gb202, _, none⟩) (by exact hne_) _).trans (((cell_far (p := ⟨gb202, _, none⟩) (by exact hne_) _).trans (((cell_far (p := ⟨gb202, _, none⟩) (by exact hne_) _).trans (hHeld.2))))))⟩ (fun hHeld => ?_)
                 clear hK K
                 refine done_ (done_of HT_.out (by kernel_rfl)) ?_
                 have n0_ : Aside0 (Kd.Q (Kd.int .i64) 2 (((w36.setCell ⟨gb202, 0, none⟩ (.int .i64 (rd x4_2 0))).setCell ⟨gb202, 1, none⟩ (.int .i64 (rd x4_2 1))).setCell ⟨gb202, 2, none⟩ (.slice none 0 0)) w.heap.size (fun _ => True) (.slice (some ad200) x4_2.length co23) x4_2) := ⟨by (with_reducible repeat (first | apply Kd.Q_alloc | apply Kd.Q_drewN | apply Kd.Q_drew)); exact Kd.Q_mono (Kd.Q_far (p := ⟨gb202, 2, none⟩) (Kd.Q_far (p := ⟨gb202, 1, none⟩) (Kd.Q_far (p := ⟨gb202, 0, none⟩) (Kd.Q_types HO_4.out BK202.out (by decide)) (fun _ hk => hk.2) (.int .i64 (rd x4_2 0))) (fun _ hk => hk.2) (.int .i64 (rd x4_2 1))) (fun _ hk => hk.2) (.slice none 0 0)) (fun _ hk => trivial)⟩
                 have n1_ : Aside0 (Kd.S k40 40 (((w36.setCell ⟨gb202, 0, none⟩ (.int .i64 (rd x4_2 0))).setCell ⟨gb202, 1, none⟩ (.int .i64 (rd x4_2 1))).setCell ⟨gb202, 2, none⟩ (.slice none 0 0)) w.heap.size (fun k_ => k_ ≠ gb202) u193002 x193002_2) := ⟨by (with_reducible repeat (first | apply Kd.S_alloc | apply Kd.S_drewN | apply Kd.S_drew)); exact Kd.S_mono (Kd.S_far (p := ⟨gb202, 2, none⟩) (Kd.S_far (p := ⟨gb202, 1, none⟩) (Kd.S_far (p := ⟨gb202, 0, none⟩) (Kd.S_mono HO_193002.out (fun k_ hk => (⟨hk, hk.2⟩ : _ ∧ k_ ≠ gb202))) (fun _ hk => hk.2) (.int .i64 (rd x4_2 0))) (fun _ hk => hk.2) (.int .i64 (rd x4_2 1))) (fun _ hk => hk.2) (.slice none 0 0)) (fun _ hk => hk.1.2)⟩
                 have n2_ : Aside0 ((((w36.setCell ⟨gb202, 0, none⟩ (.int .i64 (rd x4_2 0))).setCell ⟨gb202, 1, none⟩ (.int .i64 (rd x4_2 1))).setCell ⟨gb202, 2, none⟩ (.slice none 0 0)).heap[gb185]? = some (.cells #[.int .i64 x186000_2, .int .i64 x186001_2, .slice none 0 0] 29 (0, 0))) := ⟨by (with_reducible repeat (first | apply k1 | apply k2 | apply k3)); refine blk_far ?_ NB185_202.out _; (with_reducible repeat (first | apply k1 | apply k2 | apply k3)); refine blk_far ?_ NB185_202.out _; (with_reducible repeat (first | apply k1 | apply k2 | apply k3)); refine blk_far ?_ NB185_202.out _; (with_reducible repeat (first | apply k1 | apply k2 | apply k3)); exact BK185.out⟩
                 have n3_ : Aside0 ((((w36.setCell ⟨gb202, 0, none⟩ (.int .i64 (rd x4_2 0))).setCell ⟨gb202, 1, none⟩ (.int .i64 (rd x4_2 1))).setCell ⟨gb202, 2, none⟩ (.slice none 0 0)).heap[gb192]? = some (.cells #[.int .i64 (rd t186 0), .int .i64 (rd t186 1), u193002] 29 (0, 0))) := ⟨by (with_reducible repeat (first | apply k1 | apply k2 | apply k3)); refine blk_far ?_ NB192_202.out _; (with_reducible repeat (first | apply k1 | apply k2 | apply k3)); refine blk_far ?_ NB192_202.out _; (with_reducible repeat (first | apply k1 | apply k2 | apply k3)); refine blk_far ?_ NB192_202.out _; (with_reducible repeat (first | apply k1 | apply k2 | apply k3)); exact BK192.out⟩
                 have n4_ : Aside0 ((((w36.setCell ⟨gb202, 0, none⟩ (.int .i64 (rd x4_2 0))).setCell ⟨gb202, 1, none⟩ (.int .i64 (rd x4_2 1))).setCell ⟨gb202, 2, none⟩ (.slice none 0 0)).heap[gb202]? = some (.cells #[.int .i64 (rd x4_2 0), .int .i64 (rd x4_2 1), .slice none 0 0] 40 (0, 0))) := ⟨by (with_reducible repeat (first | apply k1 | apply k2 | apply k3)); refine blk_put (cs := #[.int .i64 (rd x4_2 0), .int .i64 (rd x4_2 1), .slice none 0 0]) ?_ 2 _ rfl; (with_reducible repeat (first | apply k1 | apply k2 | apply k3)); refine blk_put (cs := #[.int .i64 (rd x4_2 0), .int .i64 0, .slice none 0 0]) ?_ 1 _ rfl; (with_reducible repeat (first | apply k1 | apply k2 | apply k3)); refine blk_put (cs := #[.int .i64 0, .int .i64 0, .slice none 0 0]) ?_ 0 _ rfl; (with_reducible repeat (first | apply k1 | apply k2 | apply k3)); exact BK202.out⟩
                 have n5_ : Aside0 (Below w.heap.size w (((w36.setCell ⟨gb202, 0, none⟩ (.int .i64 (rd x4_2 0))).setCell ⟨gb202, 1, none⟩ (.int .i64 (rd x4_2 1))).setCell ⟨gb202, 2, none⟩ (.slice none 0 0))) := ⟨by repeat (first | (with_reducible first | exact HB.out | apply b1 | apply b2 | apply b3 | refine below_set ?_ GE185.out | refine below_set ?_ GE192.out | refine below_set ?_ GE202.out) | exact HB.out)⟩
                 (try clear HO_4)
                 (try clear HO_193002)
                 (try clear BK185)
                 (try clear BK192)
                 (try clear BK202)
                 (try clear HB)
                 generalize (((w36.setCell ⟨gb202, 0, none⟩ (.int .i64 (rd x4_2 0))).setCell ⟨gb202, 1, none⟩ (.int .i64 (rd x4_2 1))).setCell ⟨gb202, 2, none⟩ (.slice none 0 0)) = w40 at n0_ n1_ n2_ n3_ n4_ n5_ ⊢
                 have HO_4 := n0_
                 have HO_193002 := n1_
                 have BK185 := n2_
                 have BK192 := n3_
                 have BK202 := n4_
                 have HB := n5_
                 clear n0_ n1_ n2_ n3_ n4_ n5_
                 have p203 : 0 ≤ (2 : Int) := (by omega)
                 have q203 : 2 < (x4_2.length : Int) := dt_
                 obtain ⟨ad203, e203, hx203_0⟩ := Kd.at_int (Kd.Q_reads' HO_4.out).2.2 2 p203 q203
                 obtain rfl : ad200 = ad203 := (by injection e203)
                 (try simp only [show (2 : Int).toNat = 2 from rfl, Nat.reduceMul, Nat.reduceEqDiff, Go.Addr.add, ↓reduceIte] at hx203_0)
                 have qi203 : (2 < x4_2.length) = True := eq_true (by omega)
                 (try rw [show ((2 : Int)).toNat = 2 from rfl] at hx203_0)
                 replace p203 := eq_true p203
                 replace q203 := eq_true q203
                 have q41 : (3 : Int) ≤ ((x4_2.length : Int) : Int) := dt_
                 obtain ⟨i041, hi041, _, hsz41, _⟩ := info_parts info2
                 have hcut41 := cut_from (P := Tryd.prog) 47 2 .i64 Tryd.underlying47 hi041 1 hsz41 (some ad200) x4_2.length co23 3 (by omega) q41
                 have hr41 := Kd.Q_drop (k := (3 : Int).toNat) HO_4.out (by omega)
                 obtain ⟨A41, hA41⟩ : ∃ A1, A1 = (if co23 = (3 : Int).toNat then (some ad200) else ((some ad200) : Option Addr).map (·.add ((3 : Int).toNat * 1))) := ⟨_, rfl⟩
                 obtain ⟨c41, hc41⟩ : ∃ c1, c1 = co23 - (3 : Int).toNat := ⟨_, rfl⟩
                 have hy41 : y204.length = x4_2.length - (3 : Int).toNat := (by rw [Ny204.out, List.length_drop])
                 rw [← Ny204.out] at hr41
                 rw [← hy41, ← hA41, ← hc41] at hcut41
                 replace hr41 : Kd.Q (Kd.int .i64) 2 w40 w.heap.size (fun _ => True) (.slice A41 y204.length c41) y204 := (by rw [hA41, hc41, hy41]; exact hr41)
                 have HE41 : Aside0 ((Value.slice A41 y204.length c41).ownBlock = (.slice (some ad200) x4_2.length co23 : Value).ownBlock) := ⟨by rw [hA41]; split <;> (cases ((some ad200) : Option Addr) <;> rfl)⟩
                 clear hy41 hi041 hsz41 HO_4 hA41 hc41
                 have HO206 := am hr41
                 clear hr41
                 replace q41 := eq_true q41
                 try go_wp2
                 go_loopg [4, 8] kj21 (fun kq v4 v8 w' => ∃ (x4_4 : List Int) (x8_4 : Int) (x203002_4 : List (S45)) (u203002 : Value), v8 = .int .i64 x8_4 ∧ Aside0 (spec_ReadPatch.l1 kq a0 x4_4 x8_4 (rd t186 0) (rd t186 1) x193002_2 (rd x4_2 0) (rd x4_2 1) x203002_4 = some (r1, r2, r3, r4)) ∧ Aside0 (kq ≤ kj21) ∧ Aside0 (Kd.Q (Kd.int .i64) 2 w' w.heap.size (fun _ => True) v4 x4_4) ∧ Aside0 (Kd.S k40 40 w' w.heap.size (fun k_ => some k_ ≠ (u203002 : Value).ownBlock ∧ k_ ≠ gb202) u193002 x193002_2) ∧ Aside0 (Kd.R k45 45 w' w.heap.size (fun _ => True) u203002 x203002_4) ∧ Aside0 (w'.heap[gb185]? = some (.cells #[.int .i64 x186000_2, .int .i64 x186001_2, (.slice none 0 0)] 29 (0, 0))) ∧ Aside0 (w'.heap[gb192]? = some (.cells #[.int .i64 (rd t186 0), .int .i64 (rd t186 1), u193002] 29 (0, 0))) ∧ Aside0 (w'.heap[gb202]? = some (.cells #[.int .i64 (rd x4_2 0), .int .i64 (rd x4_2 1), u203002] 40 (0, 0))) ∧ Aside0 (Below w.heap.size w w'))
                 case atStart => exact ⟨(y204), (rd x4_2 2), (([] : List (S45))), (.slice none 0 0), (by first | rfl | (simp; done) | (simp [*]; done)), H', ⟨Nat.le_refl _⟩, ⟨by (with_reducible repeat (first | apply Kd.Q_alloc | apply Kd.Q_drewN | apply Kd.Q_drew)); exact HO206.out⟩, ⟨by (with_reducible repeat (first | apply Kd.S_alloc | apply Kd.S_drewN | apply Kd.S_drew)); exact Kd.S_mono HO_193002.out (fun _ hk => ⟨(by simp [Value.ownBlock]), hk⟩)⟩, ⟨by first | exact Kd.R_nil _ _ _ _ _ | exact Kd.N_nil _ _ _ _ _ | exact Kd.V_nil _ _ _ _ _ | exact Kd.Q_nil _ _ _ _ _ | exact Kd.S_nil _ _ _ _ _⟩, ⟨rk BK185⟩, ⟨rk BK192⟩, ⟨rk BK202⟩, ⟨by repeat (first | (with_reducible first | exact HB.out | apply b1 | apply b2 | apply b3 | refine below_set ?_ GE185.out | refine below_set ?_ GE192.out | refine below_set ?_ GE202.out) | exact HB.out)⟩⟩
                 case round =>
                  clear H'
                  try clear c1
                  try clear p1
                  try clear q1
                  try clear hx1
                  try clear qi1
                  try clear c2
                  try clear p2
                  try clear q2
                  try clear hx2
                  try clear qi2
                  try clear c3
                  try clear c4
                  try clear q4
                  try clear c6
                  try clear p6
                  try clear c8
                  try clear c10
                  try clear c10b0
                  try clear c10b1
                  try clear c11
                  try clear c11b0
                  try clear c11b1
                  try clear c12
                  try clear c12b0
                  try clear c12b1
                  try clear p19
                  try clear q19
                  try clear hx19
                  try clear qi19
                  try clear c20
                  try clear p20
                  try clear q20
                  try clear hx20
                  try clear qi20
                  try clear c21
                  try clear c21b0
                  try clear c21b1
                  try clear c23
                  try clear c24
                  try clear c24b0
                  try clear c24b1
                  try clear c25
                  try clear c25b0
                  try clear c25b1
                  try clear c27
                  try clear c28
                  try clear c29
                  try clear c31
                  try clear c31b0
                  try clear c31b1
                  try clear c32
                  try clear c32b0
                  try clear c32b1
                  try clear c33
                  try clear c33b0
                  try clear c33b1
                  try clear c34
                  try clear c34b0
                  try clear c34b1
                  try clear c41
                  try clear q41
                  try clear hcz30_0
                  try clear hcz30_1
                  try clear hcz30_2
                  try clear hcz9_0
                  try clear hcz9_1
                  try clear hcz9_2
                  try clear hfz30_0
                  try clear hfz30_1
                  try clear hfz30_2
                  try clear hfz9_0
                  try clear hfz9_1
                  try clear hfz9_2
                  try clear hx190_0
                  try clear hx191_0
                  try clear hx197_0
                  try clear hx199_0
                  try clear hx200_0
                  try clear hx201_0
                  try clear hx203_0
                  try clear p1
                  try clear p19
                  try clear p190
                  try clear p191
                  try clear p197
                  try clear p199
                  try clear p2
                  try clear p200
                  try clear p201
                  try clear p203
                  try clear p6
                  try clear q1
                  try clear q19
                  try clear q190
                  try clear q191
                  try clear q197
                  try clear q199
                  try clear q2
                  try clear q20
                  try clear q200
                  try clear q201
                  try clear q203
                  try clear q41
                  obtain ⟨x4_4, x8_4, x203002_4, u203002, rfl, HA, HK4, HO_4, HO_193002, HO_203002, BK185, BK192, BK202, HB⟩ := hrel
                  cases gk with
                  | zero => exact absurd HA.out (by simp [spec_ReadPatch.l1])
                  | succ k4 =>
                   have H := HA.out
                   clear HA
                   simp only [spec_ReadPatch.l1] at H
                   by_cases c42 : x8_4 > 0
                   ·rw [if_pos c42] at H
                    have c42b0 : decide (0 < x8_4) = true := decide_eq_true c42
                    clear c42
                    by_cases c43 : 1 < (x4_4.length : Int)
                    ·rw [if_pos c43] at H
                     have c43b0 : decide (1 < (x4_4.length : Int)) = true := decide_eq_true c43
                     have c43b1 : decide (1 < x4_4.length) = true := decide_eq_true (by omega)
                     clear c43
                     by_cases c44 : 2 < (x4_4.length : Int)
                     ·rw [if_pos c44] at H
                      have c44b0 : decide (2 < (x4_4.length : Int)) = true := decide_eq_true c44
                      have c44b1 : decide (2 < x4_4.length) = true := decide_eq_true (by omega)
                      clear c44
                      by_cases c45 : 3 < (x4_4.length : Int)
                      ·rw [if_pos c45] at H
                       have c45b0 : decide (3 < (x4_4.length : Int)) = true := decide_eq_true c45
                       have c45b1 : decide (3 < x4_4.length) = true := decide_eq_true (by omega)
                       clear c45
                       by_cases c46 : 0 < (x4_4.length : Int)
                       ·rw [if_pos c46] at H
                        have c46b0 : decide (0 < (x4_4.length : Int)) = true := decide_eq_true c46
                        have c46b1 : decide (0 < x4_4.length) = true := decide_eq_true (by omega)
                        clear c46
                        by_cases c47 : 4 < (x4_4.length : Int)
                        ·rw [if_pos c47] at H
                         have c47b0 : decide (4 < (x4_4.length : Int)) = true := decide_eq_true c47
                         have c47b1 : decide (4 < x4_4.length) = true := decide_eq_true (by omega)
                         clear c47
                         by_cases c48 : x203002_4.length < 3518437208883
                         ·rw [if_pos c48] at H
                          have LMc48 := am c48
                          clear c48
                          obtain ⟨y215, hy215⟩ : ∃ y_ : List (S45), y_ = (x203002_4 ++ [(⟨rd x4_4 0, (⟨rd x4_4 1, rd x4_4 2, ((Int.tmod (rd x4_4 3) 2) == 1), ((Int.tmod (wrap64 (Int.tdiv (rd x4_4 3) 2)) 2) == 1), ((Int.tmod (wrap64 (Int.tdiv (rd x4_4 3) 4)) 2) == 1)⟩ : S43), rd x4_4 4⟩ : S45)]) := ⟨_, rfl⟩
                          replace H : (if 5 ≤ (x4_4.length : Int) then (spec_ReadPatch.l1 k4 a0 (x4_4.drop (5 : Int).toNat) (wrap64 (x8_4 - 1)) (rd t186 0) (rd t186 1) x193002_2 (rd x4_2 0) (rd x4_2 1) y215) else (none)) = some (r1, r2, r3, r4) := by first | (rw [hy215]; with_reducible exact H) | (rw [hy215]; exact H) | exact H
                          have Ny215 := am hy215
                          clear hy215
                          by_cases c49 : 5 ≤ (x4_4.length : Int)
                          ·rw [if_pos c49] at H
                           have c49b0 := eq_true c49
                           have c49b1 : decide (5 ≤ (x4_4.length : Int)) = true := decide_eq_true c49
                           clear c49
                           obtain ⟨y218, hy218⟩ : ∃ y_ : List Int, y_ = (x4_4.drop (5 : Int).toNat) := ⟨_, rfl⟩
                           replace H : (spec_ReadPatch.l1 k4 a0 y218 (wrap64 (x8_4 - 1)) (rd t186 0) (rd t186 1) x193002_2 (rd x4_2 0) (rd x4_2 1) y215) = some (r1, r2, r3, r4) := by first | (rw [hy218]; with_reducible exact H) | (rw [hy218]; exact H) | exact H
                           have Ny218 := am hy218
                           clear hy218
                           have H' := am H
                           clear H
                           try go_wp2
                           have n0_ := am (Kd.Q_drew HO_4.out)
                           have n1_ := am (Kd.S_drew HO_193002.out)
                           have n2_ := am (Kd.R_drew HO_203002.out)
                           have n3_ := am (blk_drew BK185.out)
                           have n4_ := am (blk_drew BK192.out)
                           have n5_ := am (blk_drew BK202.out)
                           have n6_ := am (below_drew1 HB.out)
                           clear HO_4
                           clear HO_193002
                           clear HO_203002
                           clear BK185
                           clear BK192
                           clear BK202
                           clear HB
                           have HO_4 := n0_
                           have HO_193002 := n1_
                           have HO_203002 := n2_
                           have BK185 := n3_
                           have BK192 := n4_
                           have BK202 := n5_
                           have HB := n6_
                           clear n0_ n1_ n2_ n3_ n4_ n5_ n6_
                           obtain ⟨Ao51, co51, eo51, _⟩ := Kd.Q_slice HO_4.out
                           (first | subst eo51 | (injection eo51 with f1_ f2_ f3_; have f4_ := f1_.symm; have f5_ := f3_.symm; clear f1_ f2_ f3_; subst f4_; subst f5_))
                           have p207 : 0 ≤ (1 : Int) := (by omega)
                           have q207 : 1 < (x4_4.length : Int) := dt_
                           obtain ⟨ad207, e207, hx207_0⟩ := Kd.at_int (Kd.Q_reads' HO_4.out).2.2 1 p207 q207
                           cases e207
                           (try simp only [show (1 : Int).toNat = 1 from rfl, Nat.reduceMul, Nat.reduceEqDiff, Go.Addr.add, ↓reduceIte] at hx207_0)
                           have qi207 : (1 < x4_4.length) = True := eq_true (by omega)
                           (try rw [show ((1 : Int)).toNat = 1 from rfl] at hx207_0)
                           replace p207 := eq_true p207
                           replace q207 := eq_true q207
                           have p208 : 0 ≤ (2 : Int) := (by omega)
                           have q208 : 2 < (x4_4.length : Int) := dt_
                           obtain ⟨ad208, e208, hx208_0⟩ := Kd.at_int (Kd.Q_reads' HO_4.out).2.2 2 p208 q208
                           obtain rfl : ad207 = ad208 := (by injection e208)
                           (try simp only [show (2 : Int).toNat = 2 from rfl, Nat.reduceMul, Nat.reduceEqDiff, Go.Addr.add, ↓reduceIte] at hx208_0)
                           have qi208 : (2 < x4_4.length) = True := eq_true (by omega)
                           (try rw [show ((2 : Int)).toNat = 2 from rfl] at hx208_0)
                           replace p208 := eq_true p208
                           replace q208 := eq_true q208
                           have p209 : 0 ≤ (3 : Int) := (by omega)
                           have q209 : 3 < (x4_4.length : Int) := dt_
                           obtain ⟨ad209, e209, hx209_0⟩ := Kd.at_int (Kd.Q_reads' HO_4.out).2.2 3 p209 q209
                           obtain rfl : ad207 = ad209 := (by injection e209)
                           (try simp only [show (3 : Int).toNat = 3 from rfl, Nat.reduceMul, Nat.reduceEqDiff, Go.Addr.add, ↓reduceIte] at hx209_0)
                           have qi209 : (3 < x4_4.length) = True := eq_true (by omega)
                           (try rw [show ((3 : Int)).toNat = 3 from rfl] at hx209_0)
                           replace p209 := eq_true p209
                           replace q209 := eq_true q209
                           have p210 : 0 ≤ (3 : Int) := (by omega)
                           have q210 : 3 < (x4_4.length : Int) := dt_
                           obtain ⟨ad210, e210, hx210_0⟩ := Kd.at_int (Kd.Q_reads' HO_4.out).2.2 3 p210 q210
                           obtain rfl : ad207 = ad210 := (by injection e210)
                           (try simp only [show (3 : Int).toNat = 3 from rfl, Nat.reduceMul, Nat.reduceEqDiff, Go.Addr.add, ↓reduceIte] at hx210_0)
                           have qi210 : (3 < x4_4.length) = True := eq_true (by omega)
                           (try rw [show ((3 : Int)).toNat = 3 from rfl] at hx210_0)
                           replace p210 := eq_true p210
                           replace q210 := eq_true q210
                           have p211 : 0 ≤ (3 : Int) := (by omega)
                           have q211 : 3 < (x4_4.length : Int) := dt_
                           obtain ⟨ad211, e211, hx211_0⟩ := Kd.at_int (Kd.Q_reads' HO_4.out).2.2 3 p211 q211
                           obtain rfl : ad207 = ad211 := (by injection e211)
                           (try simp only [show (3 : Int).toNat = 3 from rfl, Nat.reduceMul, Nat.reduceEqDiff, Go.Addr.add, ↓reduceIte] at hx211_0)
                           have qi211 : (3 < x4_4.length) = True := eq_true (by omega)
                           (try rw [show ((3 : Int)).toNat = 3 from rfl] at hx211_0)
                           replace p211 := eq_true p211
                           replace q211 := eq_true q211
                           refine start_ (n := 26) (S := fun w' => w'.cell? ⟨ad207.block, ad207.off + 1, none⟩ = some (.int .i64 (rd x4_4 1)) ∧ w'.cell? ⟨ad207.block, ad207.off + 2, none⟩ = some (.int .i64 (rd x4_4 2)) ∧ w'.cell? ⟨ad207.block, ad207.off + 3, none⟩ = some (.int .i64 (rd x4_4 3)) ∧ w'.cell? ⟨ad207.block, ad207.off + 3, none⟩ = some (.int .i64 (rd x4_4 3)) ∧ w'.cell? ⟨ad207.block, ad207.off + 3, none⟩ = some (.int .i64 (rd x4_4 3))) (ds := []) (bm 26 0) (by kernel_rfl) rfl rfl ⟨hx207_0, hx208_0, hx209_0, hx210_0, hx211_0⟩ (fun hHeld => ?_); refine with_tabW spec_ReadPatch.tab14 spec_ReadPatch.bits14 (fun HT_ HW_ => ?_)
                           generalize wr.drew = w50 at HO_4 HO_193002 HO_203002 BK185 BK192 BK202 HB hx207_0 hx208_0 hx209_0 hx210_0 hx211_0 hHeld ⊢
                           refine pu_ 0 72 (bm 26 1) HT_.out ?_
                           refine pu_ 1 73 (bm 26 3) HT_.out ?_
                           refine pu_ 3 75 (bm 26 11) HT_.out ?_
                           refine pu_ 4 76 (bm 26 27) HT_.out ?_
                           refine pu_ 6 78 (bm 26 91) HT_.out ?_
                           refine pu_ 7 79 (bm 26 219) HT_.out ?_
                           refine pu_ 11 83 (bm 26 2267) HT_.out ?_
                           refine pu_ 12 84 (bm 26 6363) HT_.out ?_
                           refine pu_ 17 89 (bm 26 137435) HT_.out ?_
                           refine pu_ 18 90 (bm 26 399579) HT_.out ?_
                           refine take_ (i := 2) (N := some 74) (v := ?_) (a' := ?_) (bm 26 399583) rfl rfl (take_ofW HT_.out HW_.out (by kernel_rfl)) (fun _ _ _ h => h) (Or.inl ⟨by rfl, ?_⟩) hHeld ?_ ?_
                           rotate_left
                           ·rintro w' ⟨s0, s1, s2, s3, s4⟩
                            go_simp
                            with_reducible rfl
                           rotate_left
                           ·simp only [Act.put, List.setIfInBounds_toArray, List.set_cons_zero, List.set_cons_succ, i64_w, i32_w]
                            rfl
                           refine take_ (i := 5) (N := some 77) (v := ?_) (a' := ?_) (bm 26 399615) rfl rfl (take_ofW HT_.out HW_.out (by kernel_rfl)) (fun _ _ _ h => h) (Or.inl ⟨by rfl, ?_⟩) hHeld ?_ ?_
                           rotate_left
                           ·rintro w' ⟨s0, s1, s2, s3, s4⟩
                            go_simp
                            with_reducible rfl
                           rotate_left
                           ·simp only [Act.put, List.setIfInBounds_toArray, List.set_cons_zero, List.set_cons_succ, i64_w, i32_w]
                            rfl
                           refine take_ (i := 8) (N := some 80) (v := ?_) (a' := ?_) (bm 26 399871) rfl rfl (take_ofW HT_.out HW_.out (by kernel_rfl)) (fun _ _ _ h => h) (Or.inl ⟨by rfl, ?_⟩) hHeld ?_ ?_
                           rotate_left
                           ·rintro w' ⟨s0, s1, s2, s3, s4⟩
                            go_simp
                            with_reducible rfl
                           rotate_left
                           ·simp only [Act.put, List.setIfInBounds_toArray, List.set_cons_zero, List.set_cons_succ, i64_w, i32_w]
                            rfl
                           refine pu_ 9 81 (bm 26 400383) HT_.out ?_
                           refine pu_ 10 82 (bm 26 401407) HT_.out ?_
                           refine take_ (i := 13) (N := some 85) (v := ?_) (a' := ?_) (bm 26 409599) rfl rfl (take_ofW HT_.out HW_.out (by kernel_rfl)) (fun _ _ _ h => h) (Or.inl ⟨by rfl, ?_⟩) hHeld ?_ ?_
                           rotate_left
                           ·rintro w' ⟨s0, s1, s2, s3, s4⟩
                            go_simp
                            with_reducible rfl
                           rotate_left
                           ·simp only [Act.put, List.setIfInBounds_toArray, List.set_cons_zero, List.set_cons_succ, i64_w, i32_w]
                            rfl
                           refine pu_ 14 86 (bm 26 425983) HT_.out ?_
                           refine pu_ 15 87 (bm 26 458751) HT_.out ?_
                           refine pu_ 16 88 (bm 26 524287) HT_.out ?_
                           refine take_ (i := 19) (N := some 91) (v := ?_) (a' := ?_) (bm 26 1048575) rfl rfl (take_ofW HT_.out HW_.out (by kernel_rfl)) (fun _ _ _ h => h) (Or.inl ⟨by rfl, ?_⟩) hHeld ?_ ?_
                           rotate_left
                           ·rintro w' ⟨s0, s1, s2, s3, s4⟩
                            go_simp
                            with_reducible rfl
                           rotate_left
                           ·simp only [Act.put, List.setIfInBounds_toArray, List.set_cons_zero, List.set_cons_succ, i64_w, i32_w]
                            rfl
                           refine pu_ 20 92 (bm 26 2097151) HT_.out ?_
                           refine pu_ 21 93 (bm 26 4194303) HT_.out ?_
                           refine pu_ 22 94 (bm 26 8388607) HT_.out ?_
                           refine pu_ 23 95 (bm 26 16777215) HT_.out ?_
                           refine one_ (i := 24) (N := some 9) (bm 26 33554431) rfl rfl (one_of HT_.out (by kernel_rfl)) (by decide) (fun K hK => ?_)
                           refine box_step ?hg (N := 9) ?hd (cs := #[.int .i64 0, .int .i64 0, .bool false, .bool false, .bool false]) (t := 43) ?hr ?_; (case hd => rfl); (case hg => rfl); (case hr => first | (go_simp; done) | (go_simp; rfl))
                           intro gb212 hg w52 hbox hb
                           have HS0_ := (hb.cell (World.block_lt_of_cell? _ _ (hHeld.1))).trans (hHeld.1)
                           have HS1_ := (hb.cell (World.block_lt_of_cell? _ _ (hHeld.2.1))).trans (hHeld.2.1)
                           have HS2_ := (hb.cell (World.block_lt_of_cell? _ _ (hHeld.2.2.1))).trans (hHeld.2.2.1)
                           have HS3_ := (hb.cell (World.block_lt_of_cell? _ _ (hHeld.2.2.2.1))).trans (hHeld.2.2.2.1)
                           have HS4_ := (hb.cell (World.block_lt_of_cell? _ _ (hHeld.2.2.2.2))).trans (hHeld.2.2.2.2)
                           have n0_ := am (Kd.Q_below (by (with_reducible repeat (first | apply Kd.Q_alloc | apply Kd.Q_drewN | apply Kd.Q_drew)); exact HO_4.out) hb)
                           have n1_ := am (Kd.S_below (rs HO_193002) hb)
                           have n2_ := am (Kd.R_below (rr HO_203002) hb)
                           have n3_ := am (blk_below (g := gb185) (o := .cells #[.int .i64 x186000_2, .int .i64 x186001_2, .slice none 0 0] 29 (0, 0)) (rk BK185) hb)
                           have n4_ := am (blk_below (g := gb192) (o := .cells #[.int .i64 (rd t186 0), .int .i64 (rd t186 1), u193002] 29 (0, 0)) (rk BK192) hb)
                           have n5_ := am (blk_below (g := gb202) (o := .cells #[.int .i64 (rd x4_2 0), .int .i64 (rd x4_2 1), u203002] 40 (0, 0)) (rk BK202) hb)
                           have n6_ := am (below_step (by repeat (first | (with_reducible first | exact HB.out | apply b1 | apply b2 | apply b3 | refine below_set ?_ GE185.out | refine below_set ?_ GE192.out | refine below_set ?_ GE202.out) | exact HB.out)) hb)
                           have n7_ := am (hbox)
                           have n8_ := am ((by rw [hg]; exact (below_size (by repeat (first | (with_reducible first | exact HB.out | apply b1 | apply b2 | apply b3 | refine below_set ?_ GE185.out | refine below_set ?_ GE192.out | refine below_set ?_ GE202.out) | exact HB.out))) : w.heap.size ≤ gb212))
                           have n9_ := am ((by rw [hg]; exact (below_size (by repeat (first | (with_reducible first | exact HB.out | apply b1 | apply b2 | apply b3 | refine below_set ?_ GE185.out | refine below_set ?_ GE192.out | refine below_set ?_ GE202.out) | exact HB.out))) : w.heap.size ≤ gb212))
                           have n10_ := am ((by rw [hg]; exact Nat.ne_of_lt (blk_lt (g := gb185) (o := .cells #[.int .i64 x186000_2, .int .i64 x186001_2, .slice none 0 0] 29 (0, 0)) (rk BK185)) : gb185 ≠ gb212))
                           have n11_ := am ((by rw [hg]; exact Nat.ne_of_gt (blk_lt (g := gb185) (o := .cells #[.int .i64 x186000_2, .int .i64 x186001_2, .slice none 0 0] 29 (0, 0)) (rk BK185)) : gb212 ≠ gb185))
                           have n12_ := am ((by rw [hg]; exact Nat.ne_of_lt (blk_lt (g := gb192) (o := .cells #[.int .i64 (rd t186 0), .int .i64 (rd t186 1), u193002] 29 (0, 0)) (rk BK192)) : gb192 ≠ gb212))
                           have n13_ := am ((by rw [hg]; exact Nat.ne_of_gt (blk_lt (g := gb192) (o := .cells #[.int .i64 (rd t186 0), .int .i64 (rd t186 1), u193002] 29 (0, 0)) (rk BK192)) : gb212 ≠ gb192))
                           have n14_ := am ((by rw [hg]; exact Nat.ne_of_lt (blk_lt (g := gb202) (o := .cells #[.int .i64 (rd x4_2 0), .int .i64 (rd x4_2 1), u203002] 40 (0, 0)) (rk BK202)) : gb202 ≠ gb212))
                           have n15_ := am ((by rw [hg]; exact Nat.ne_of_gt (blk_lt (g := gb202) (o := .cells #[.int .i64 (rd x4_2 0), .int .i64 (rd x4_2 1), u203002] 40 (0, 0)) (rk BK202)) : gb212 ≠ gb202))
                           clear HO_4
                           clear HO_193002
                           clear HO_203002
                           clear BK185
                           clear BK192
                           clear BK202
                           clear HB
                           have HO_4 := n0_
                           have HO_193002 := n1_
                           have HO_203002 := n2_
                           have BK185 := n3_
                           have BK192 := n4_
                           have BK202 := n5_
                           have HB := n6_
                           have BK212 := n7_
                           have GW212 := n8_
                           have GE212 := n9_
                           have NB185_212 := n10_
                           have NB212_185 := n11_
                           have NB192_212 := n12_
                           have NB212_192 := n13_
                           have NB202_212 := n14_
                           have NB212_202 := n15_
                           clear n0_ n1_ n2_ n3_ n4_ n5_ n6_ n7_ n8_ n9_ n10_ n11_ n12_ n13_ n14_ n15_
                           clear hb hbox hg
                           refine hK.out _ _ ⟨HS0_, HS1_, HS2_, HS3_, HS4_⟩ (fun hHeld => ?_)
                           clear hK K
                           refine norm_ (a' := ?_) ?_ ?_
                           rotate_left
                           ·show Act.put _ (some 9) _ = _
                            simp only [Act.put, List.setIfInBounds_toArray, List.set_cons_zero, List.set_cons_succ, i64_w, i32_w]
                            rfl
                           refine one_ (i := 25) (N := none) (bm 26 67108863) rfl rfl (one_of HT_.out (by kernel_rfl)) (by decide) (fun K hK => ?_)
                           have hs53 : w52.cell? ⟨gb212, 0, none⟩ = some (.int .i64 0) := (blk_cell BK212.out 0).trans rfl
                           have hfs53 := blk_frozen BK212.out 0
                           have hns53_0 := NB185_212.out
                           have hns53_1 := NB192_212.out
                           have hns53_2 := NB202_212.out
                           have hms53_0 := NB212_185.out
                           have hms53_1 := NB212_192.out
                           have hms53_2 := NB212_202.out
                           have hs54 : w52.cell? ⟨gb212, 1, none⟩ = some (.int .i64 0) := (blk_cell BK212.out 1).trans rfl
                           have hfs54 := blk_frozen BK212.out 1
                           have hns54_0 := NB185_212.out
                           have hns54_1 := NB192_212.out
                           have hns54_2 := NB202_212.out
                           have hms54_0 := NB212_185.out
                           have hms54_1 := NB212_192.out
                           have hms54_2 := NB212_202.out
                           have hs55 : w52.cell? ⟨gb212, 2, none⟩ = some (.bool false) := (blk_cell BK212.out 2).trans rfl
                           have hfs55 := blk_frozen BK212.out 2
                           have hns55_0 := NB185_212.out
                           have hns55_1 := NB192_212.out
                           have hns55_2 := NB202_212.out
                           have hms55_0 := NB212_185.out
                           have hms55_1 := NB212_192.out
                           have hms55_2 := NB212_202.out
                           have hs56 : w52.cell? ⟨gb212, 3, none⟩ = some (.bool false) := (blk_cell BK212.out 3).trans rfl
                           have hfs56 := blk_frozen BK212.out 3
                           have hns56_0 := NB185_212.out
                           have hns56_1 := NB192_212.out
                           have hns56_2 := NB202_212.out
                           have hms56_0 := NB212_185.out
                           have hms56_1 := NB212_192.out
                           have hms56_2 := NB212_202.out
                           have hs57 : w52.cell? ⟨gb212, 4, none⟩ = some (.bool false) := (blk_cell BK212.out 4).trans rfl
                           have hfs57 := blk_frozen BK212.out 4
                           have hns57_0 := NB185_212.out
                           have hns57_1 := NB192_212.out
                           have hns57_2 := NB202_212.out
                           have hms57_0 := NB212_185.out
                           have hms57_1 := NB212_192.out
                           have hms57_2 := NB212_202.out
                           refine skip_ (w1 := ?_) (by rfl) rfl ?_ ?_
                           rotate_left
                           ·go_simp
                            rfl
                           have hne_ := Kd.own_blk (Kd.Q_ne HO_4.out BK212.out (by decide))
                           refine hK.out _ _ ⟨((cell_far (p := ⟨gb212, _, none⟩) (by exact hne_) _).trans (((cell_far (p := ⟨gb212, _, none⟩) (by exact hne_) _).trans (((cell_far (p := ⟨gb212, _, none⟩) (by exact hne_) _).trans (((cell_far (p := ⟨gb212, _, none⟩) (by exact hne_) _).trans (((cell_far (p := ⟨gb212, _, none⟩) (by exact hne_) _).trans (hHeld.1)))))))))), ((cell_far (p := ⟨gb212, _, none⟩) (by exact hne_) _).trans (((cell_far (p := ⟨gb212, _, none⟩) (by exact hne_) _).trans (((cell_far (p := ⟨gb212, _, none⟩) (by exact hne_) _).trans (((cell_far (p := ⟨gb212, _, none⟩) (by exact hne_) _).trans (((cell_far (p := ⟨gb212, _, none⟩) (by exact hne_) _).trans (hHeld.2.1)))))))))), ((cell_far (p := ⟨gb212, _, none⟩) (by exact hne_) _).trans (((cell_far (p := ⟨gb212, _, none⟩) (by exact hne_) _).trans (((cell_far (p := ⟨gb212, _, none⟩) (by exact hne_) _).trans (((cell_far (p := ⟨gb212, _, none⟩) (by exact hne_) _).trans (((cell_far (p := ⟨gb212, _, none⟩) (by exact hne_) _).trans (hHeld.2.2.1)))))))))), ((cell_far (p := ⟨gb212, _, none⟩) (by exact hne_) _).trans (((cell_far (p := ⟨gb212, _, none⟩) (by exact hne_) _).trans (((cell_far (p := ⟨gb212, _, none⟩) (by exact hne_) _).trans (((cell_far (p := ⟨gb212, _, none⟩) (by exact hne_) _).trans (((cell_far (p := ⟨gb212, _, none⟩) (by exact hne_) _).trans (hHeld.2.2.2.1)))))))))), ((cell_far (p := ⟨gb212, _, none⟩) (by exact hne_) _).trans (((cell_far (p := ⟨gb212, _, none⟩) (by exact hne_) _).trans (((cell_far (p := ⟨gb212, _, none⟩) (by exact hne_) _).trans (((cell_far (p := ⟨gb212, _, none⟩) (by exact hne_) _).trans (((cell_far (p := ⟨gb212, _, none⟩) (by exact hne_) _).trans (hHeld.2.2.2.2))))))))))⟩ (fun hHeld => ?_)
                           clear hK K
                           refine done_ (done_of HT_.out (by kernel_rfl)) ?_
                           try go_wp2
                           have n0_ : Aside0 (Kd.Q (Kd.int .i64) 2 (((((w52.setCell ⟨gb212, 0, none⟩ (.int .i64 (rd x4_4 1))).setCell ⟨gb212, 1, none⟩ (.int .i64 (rd x4_4 2))).setCell ⟨gb212, 2, none⟩ (.bool ((Int.tmod (rd x4_4 3) 2) == 1))).setCell ⟨gb212, 3, none⟩ (.bool ((Int.tmod (wrap64 (Int.tdiv (rd x4_4 3) 2)) 2) == 1))).setCell ⟨gb212, 4, none⟩ (.bool ((Int.tmod (wrap64 (Int.tdiv (rd x4_4 3) 4)) 2) == 1))) w.heap.size (fun _ => True) (.slice (some ad207) x4_4.length co51) x4_4) := ⟨by (with_reducible repeat (first | apply Kd.Q_alloc | apply Kd.Q_drewN | apply Kd.Q_drew)); exact Kd.Q_mono (Kd.Q_far (p := ⟨gb212, 4, none⟩) (Kd.Q_far (p := ⟨gb212, 3, none⟩) (Kd.Q_far (p := ⟨gb212, 2, none⟩) (Kd.Q_far (p := ⟨gb212, 1, none⟩) (Kd.Q_far (p := ⟨gb212, 0, none⟩) (Kd.Q_types HO_4.out BK212.out (by decide)) (fun _ hk => hk.2) (.int .i64 (rd x4_4 1))) (fun _ hk => hk.2) (.int .i64 (rd x4_4 2))) (fun _ hk => hk.2) (.bool ((Int.tmod (rd x4_4 3) 2) == 1))) (fun _ hk => hk.2) (.bool ((Int.tmod (wrap64 (Int.tdiv (rd x4_4 3) 2)) 2) == 1))) (fun _ hk => hk.2) (.bool ((Int.tmod (wrap64 (Int.tdiv (rd x4_4 3) 4)) 2) == 1))) (fun _ hk => trivial)⟩
                           have n1_ : Aside0 (Kd.S k40 40 (((((w52.setCell ⟨gb212, 0, none⟩ (.int .i64 (rd x4_4 1))).setCell ⟨gb212, 1, none⟩ (.int .i64 (rd x4_4 2))).setCell ⟨gb212, 2, none⟩ (.bool ((Int.tmod (rd x4_4 3) 2) == 1))).setCell ⟨gb212, 3, none⟩ (.bool ((Int.tmod (wrap64 (Int.tdiv (rd x4_4 3) 2)) 2) == 1))).setCell ⟨gb212, 4, none⟩ (.bool ((Int.tmod (wrap64 (Int.tdiv (rd x4_4 3) 4)) 2) == 1))) w.heap.size (fun k_ => some k_ ≠ (u203002 : Value).ownBlock ∧ k_ ≠ gb202) u193002 x193002_2) := ⟨by (with_reducible repeat (first | apply Kd.S_alloc | apply Kd.S_drewN | apply Kd.S_drew)); exact Kd.S_mono (Kd.S_far (p := ⟨gb212, 4, none⟩) (Kd.S_far (p := ⟨gb212, 3, none⟩) (Kd.S_far (p := ⟨gb212, 2, none⟩) (Kd.S_far (p := ⟨gb212, 1, none⟩) (Kd.S_far (p := ⟨gb212, 0, none⟩) (Kd.S_types HO_193002.out BK212.out (by decide)) (fun _ hk => hk.2) (.int .i64 (rd x4_4 1))) (fun _ hk => hk.2) (.int .i64 (rd x4_4 2))) (fun _ hk => hk.2) (.bool ((Int.tmod (rd x4_4 3) 2) == 1))) (fun _ hk => hk.2) (.bool ((Int.tmod (wrap64 (Int.tdiv (rd x4_4 3) 2)) 2) == 1))) (fun _ hk => hk.2) (.bool ((Int.tmod (wrap64 (Int.tdiv (rd x4_4 3) 4)) 2) == 1))) (fun _ hk => ⟨hk.1.1, hk.1.2⟩)⟩
                           have n2_ : Aside0 (Kd.R k45 45 (((((w52.setCell ⟨gb212, 0, none⟩ (.int .i64 (rd x4_4 1))).setCell ⟨gb212, 1, none⟩ (.int .i64 (rd x4_4 2))).setCell ⟨gb212, 2, none⟩ (.bool ((Int.tmod (rd x4_4 3) 2) == 1))).setCell ⟨gb212, 3, none⟩ (.bool ((Int.tmod (wrap64 (Int.tdiv (rd x4_4 3) 2)) 2) == 1))).setCell ⟨gb212, 4, none⟩ (.bool ((Int.tmod (wrap64 (Int.tdiv (rd x4_4 3) 4)) 2) == 1))) w.heap.size (fun _ => True) u203002 x203002_4) := ⟨by (with_reducible repeat (first | apply r1 | apply r2 | apply r3)); exact Kd.R_mono (Kd.R_far (p := ⟨gb212, 4, none⟩) (Kd.R_far (p := ⟨gb212, 3, none⟩) (Kd.R_far (p := ⟨gb212, 2, none⟩) (Kd.R_far (p := ⟨gb212, 1, none⟩) (Kd.R_far (p := ⟨gb212, 0, none⟩) (Kd.R_types HO_203002.out BK212.out (by decide)) (fun _ hk => hk.2) (.int .i64 (rd x4_4 1))) (fun _ hk => hk.2) (.int .i64 (rd x4_4 2))) (fun _ hk => hk.2) (.bool ((Int.tmod (rd x4_4 3) 2) == 1))) (fun _ hk => hk.2) (.bool ((Int.tmod (wrap64 (Int.tdiv (rd x4_4 3) 2)) 2) == 1))) (fun _ hk => hk.2) (.bool ((Int.tmod (wrap64 (Int.tdiv (rd x4_4 3) 4)) 2) == 1))) (fun _ hk => trivial)⟩
                           have n3_ : Aside0 ((((((w52.setCell ⟨gb212, 0, none⟩ (.int .i64 (rd x4_4 1))).setCell ⟨gb212, 1, none⟩ (.int .i64 (rd x4_4 2))).setCell ⟨gb212, 2, none⟩ (.bool ((Int.tmod (rd x4_4 3) 2) == 1))).setCell ⟨gb212, 3, none⟩ (.bool ((Int.tmod (wrap64 (Int.tdiv (rd x4_4 3) 2)) 2) == 1))).setCell ⟨gb212, 4, none⟩ (.bool ((Int.tmod (wrap64 (Int.tdiv (rd x4_4 3) 4)) 2) == 1))).heap[gb185]? = some (.cells #[.int .i64 x186000_2, .int .i64 x186001_2, .slice none 0 0] 29 (0, 0))) := ⟨by (with_reducible repeat (first | apply k1 | apply k2 | apply k3)); refine blk_far ?_ NB185_212.out _; (with_reducible repeat (first | apply k1 | apply k2 | apply k3)); refine blk_far ?_ NB185_212.out _; (with_reducible repeat (first | apply k1 | apply k2 | apply k3)); refine blk_far ?_ NB185_212.out _; (with_reducible repeat (first | apply k1 | apply k2 | apply k3)); refine blk_far ?_ NB185_212.out _; (with_reducible repeat (first | apply k1 | apply k2 | apply k3)); refine blk_far ?_ NB185_212.out _; (with_reducible repeat (first | apply k1 | apply k2 | apply k3)); exact BK185.out⟩
                           have n4_ : Aside0 ((((((w52.setCell ⟨gb212, 0, none⟩ (.int .i64 (rd x4_4 1))).setCell ⟨gb212, 1, none⟩ (.int .i64 (rd x4_4 2))).setCell ⟨gb212, 2, none⟩ (.bool ((Int.tmod (rd x4_4 3) 2) == 1))).setCell ⟨gb212, 3, none⟩ (.bool ((Int.tmod (wrap64 (Int.tdiv (rd x4_4 3) 2)) 2) == 1))).setCell ⟨gb212, 4, none⟩ (.bool ((Int.tmod (wrap64 (Int.tdiv (rd x4_4 3) 4)) 2) == 1))).heap[gb192]? = some (.cells #[.int .i64 (rd t186 0), .int .i64 (rd t186 1), u193002] 29 (0, 0))) := ⟨by (with_reducible repeat (first | apply k1 | apply k2 | apply k3)); refine blk_far ?_ NB192_212.out _; (with_reducible repeat (first | apply k1 | apply k2 | apply k3)); refine blk_far ?_ NB192_212.out _; (with_reducible repeat (first | apply k1 | apply k2 | apply k3)); refine blk_far ?_ NB192_212.out _; (with_reducible repeat (first | apply k1 | apply k2 | apply k3)); refine blk_far ?_ NB192_212.out _; (with_reducible repeat (first | apply k1 | apply k2 | apply k3)); refine blk_far ?_ NB192_212.out _; (with_reducible repeat (first | apply k1 | apply k2 | apply k3)); exact BK192.out⟩
                           have n5_ : Aside0 ((((((w52.setCell ⟨gb212, 0, none⟩ (.int .i64 (rd x4_4 1))).setCell ⟨gb212, 1, none⟩ (.int .i64 (rd x4_4 2))).setCell ⟨gb212, 2, none⟩ (.bool ((Int.tmod (rd x4_4 3) 2) == 1))).setCell ⟨gb212, 3, none⟩ (.bool ((Int.tmod (wrap64 (Int.tdiv (rd x4_4 3) 2)) 2) == 1))).setCell ⟨gb212, 4, none⟩ (.bool ((Int.tmod (wrap64 (Int.tdiv (rd x4_4 3) 4)) 2) == 1))).heap[gb202]? = some (.cells #[.int .i64 (rd x4_2 0), .int .i64 (rd x4_2 1), u203002] 40 (0, 0))) := ⟨by (with_reducible repeat (first | apply k1 | apply k2 | apply k3)); refine blk_far ?_ NB202_212.out _; (with_reducible repeat (first | apply k1 | apply k2 | apply k3)); refine blk_far ?_ NB202_212.out _; (with_reducible repeat (first | apply k1 | apply k2 | apply k3)); refine blk_far ?_ NB202_212.out _; (with_reducible repeat (first | apply k1 | apply k2 | apply k3)); refine blk_far ?_ NB202_212.out _; (with_reducible repeat (first | apply k1 | apply k2 | apply k3)); refine blk_far ?_ NB202_212.out _; (with_reducible repeat (first | apply k1 | apply k2 | apply k3)); exact BK202.out⟩
                           have n6_ : Aside0 ((((((w52.setCell ⟨gb212, 0, none⟩ (.int .i64 (rd x4_4 1))).setCell ⟨gb212, 1, none⟩ (.int .i64 (rd x4_4 2))).setCell ⟨gb212, 2, none⟩ (.bool ((Int.tmod (rd x4_4 3) 2) == 1))).setCell ⟨gb212, 3, none⟩ (.bool ((Int.tmod (wrap64 (Int.tdiv (rd x4_4 3) 2)) 2) == 1))).setCell ⟨gb212, 4, none⟩ (.bool ((Int.tmod (wrap64 (Int.tdiv (rd x4_4 3) 4)) 2) == 1))).heap[gb212]? = some (.cells #[.int .i64 (rd x4_4 1), .int .i64 (rd x4_4 2), .bool ((Int.tmod (rd x4_4 3) 2) == 1), .bool ((Int.tmod (wrap64 (Int.tdiv (rd x4_4 3) 2)) 2) == 1), .bool ((Int.tmod (wrap64 (Int.tdiv (rd x4_4 3) 4)) 2) == 1)] 43 (0, 0))) := ⟨by (with_reducible repeat (first | apply k1 | apply k2 | apply k3)); refine blk_put (cs := #[.int .i64 (rd x4_4 1), .int .i64 (rd x4_4 2), .bool ((Int.tmod (rd x4_4 3) 2) == 1), .bool ((Int.tmod (wrap64 (Int.tdiv (rd x4_4 3) 2)) 2) == 1), .bool false]) ?_ 4 _ rfl; (with_reducible repeat (first | apply k1 | apply k2 | apply k3)); refine blk_put (cs := #[.int .i64 (rd x4_4 1), .int .i64 (rd x4_4 2), .bool ((Int.tmod (rd x4_4 3) 2) == 1), .bool false, .bool false]) ?_ 3 _ rfl; (with_reducible repeat (first | apply k1 | apply k2 | apply k3)); refine blk_put (cs := #[.int .i64 (rd x4_4 1), .int .i64 (rd x4_4 2), .bool false, .bool false, .bool false]) ?_ 2 _ rfl; (with_reducible repeat (first | apply k1 | apply k2 | apply k3)); refine blk_put (cs := #[.int .i64 (rd x4_4 1), .int .i64 0, .bool false, .bool false, .bool false]) ?_ 1 _ rfl; (with_reducible repeat (first | apply k1 | apply k2 | apply k3)); refine blk_put (cs := #[.int .i64 0, .int .i64 0, .bool false, .bool false, .bool false]) ?_ 0 _ rfl; (with_reducible repeat (first | apply k1 | apply k2 | apply k3)); exact BK212.out⟩
                           have n7_ : Aside0 (Below w.heap.size w (((((w52.setCell ⟨gb212, 0, none⟩ (.int .i64 (rd x4_4 1))).setCell ⟨gb212, 1, none⟩ (.int .i64 (rd x4_4 2))).setCell ⟨gb212, 2, none⟩ (.bool ((Int.tmod (rd x4_4 3) 2) == 1))).setCell ⟨gb212, 3, none⟩ (.bool ((Int.tmod (wrap64 (Int.tdiv (rd x4_4 3) 2)) 2) == 1))).setCell ⟨gb212, 4, none⟩ (.bool ((Int.tmod (wrap64 (Int.tdiv (rd x4_4 3) 4)) 2) == 1)))) := ⟨by repeat (first | (with_reducible first | exact HB.out | apply b1 | apply b2 | apply b3 | refine below_set ?_ GE185.out | refine below_set ?_ GE192.out | refine below_set ?_ GE202.out | refine below_set ?_ GE212.out) | exact HB.out)⟩
                           (try clear HO_4)
                           (try clear HO_193002)
                           (try clear HO_203002)
                           (try clear BK185)
                           (try clear BK192)
                           (try clear BK202)
                           (try clear BK212)
                           (try clear HB)
                           generalize (((((w52.setCell ⟨gb212, 0, none⟩ (.int .i64 (rd x4_4 1))).setCell ⟨gb212, 1, none⟩ (.int .i64 (rd x4_4 2))).setCell ⟨gb212, 2, none⟩ (.bool ((Int.tmod (rd x4_4 3) 2) == 1))).setCell ⟨gb212, 3, none⟩ (.bool ((Int.tmod (wrap64 (Int.tdiv (rd x4_4 3) 2)) 2) == 1))).setCell ⟨gb212, 4, none⟩ (.bool ((Int.tmod (wrap64 (Int.tdiv (rd x4_4 3) 4)) 2) == 1))) = w58 at n0_ n1_ n2_ n3_ n4_ n5_ n6_ n7_ ⊢
                           have HO_4 := n0_
                           have HO_193002 := n1_
                           have HO_203002 := n2_
                           have BK185 := n3_
                           have BK192 := n4_
                           have BK202 := n5_
                           have BK212 := n6_
                           have HB := n7_
                           clear n0_ n1_ n2_ n3_ n4_ n5_ n6_ n7_
                           have n0_ := am (Kd.Q_drew HO_4.out)
                           have n1_ := am (Kd.S_drew HO_193002.out)
                           have n2_ := am (Kd.R_drew HO_203002.out)
                           have n3_ := am (blk_drew BK185.out)
                           have n4_ := am (blk_drew BK192.out)
                           have n5_ := am (blk_drew BK202.out)
                           have n6_ := am (blk_drew BK212.out)
                           have n7_ := am (below_drew1 HB.out)
                           clear HO_4
                           clear HO_193002
                           clear HO_203002
                           clear BK185
                           clear BK192
                           clear BK202
                           clear BK212
                           clear HB
                           have HO_4 := n0_
                           have HO_193002 := n1_
                           have HO_203002 := n2_
                           have BK185 := n3_
                           have BK192 := n4_
                           have BK202 := n5_
                           have BK212 := n6_
                           have HB := n7_
                           clear n0_ n1_ n2_ n3_ n4_ n5_ n6_ n7_
                           have p213 : 0 ≤ (0 : Int) := (by omega)
                           have q213 : 0 < (x4_4.length : Int) := dt_
                           obtain ⟨ad213, e213, hx213_0⟩ := Kd.at_int (Kd.Q_reads' HO_4.out).2.2 0 p213 q213
                           obtain rfl : ad207 = ad213 := (by injection e213)
                           have qi213 : (0 < x4_4.length) = True := eq_true (by omega)
                           (try rw [show ((0 : Int)).toNat = 0 from rfl] at hx213_0)
                           (try rw [Addr.add_zero'] at hx213_0)
                           replace p213 := eq_true p213
                           replace q213 := eq_true q213
                           have p214 : 0 ≤ (4 : Int) := (by omega)
                           have q214 : 4 < (x4_4.length : Int) := dt_
                           obtain ⟨ad214, e214, hx214_0⟩ := Kd.at_int (Kd.Q_reads' HO_4.out).2.2 4 p214 q214
                           obtain rfl : ad207 = ad214 := (by injection e214)
                           (try simp only [show (4 : Int).toNat = 4 from rfl, Nat.reduceMul, Nat.reduceEqDiff, Go.Addr.add, ↓reduceIte] at hx214_0)
                           have qi214 : (4 < x4_4.length) = True := eq_true (by omega)
                           (try rw [show ((4 : Int)).toNat = 4 from rfl] at hx214_0)
                           replace p214 := eq_true p214
                           replace q214 := eq_true q214
                           refine start_ (n := 14) (S := fun w' => w'.cell? ⟨gb202, 0, none⟩ = some (.int .i64 (rd x4_2 0)) ∧ w'.cell? ⟨gb202, 1, none⟩ = some (.int .i64 (rd x4_2 1)) ∧ w'.cell? ⟨gb202, 2, none⟩ = some (u203002) ∧ w'.cell? ⟨gb212, 0, none⟩ = some (.int .i64 (rd x4_4 1)) ∧ w'.cell? ⟨gb212, 1, none⟩ = some (.int .i64 (rd x4_4 2)) ∧ w'.cell? ⟨gb212, 2, none⟩ = some (.bool ((Int.tmod (rd x4_4 3) 2) == 1)) ∧ w'.cell? ⟨gb212, 3, none⟩ = some (.bool ((Int.tmod (wrap64 (Int.tdiv (rd x4_4 3) 2)) 2) == 1)) ∧ w'.cell? ⟨gb212, 4, none⟩ = some (.bool ((Int.tmod (wrap64 (Int.tdiv (rd x4_4 3) 4)) 2) == 1)) ∧ w'.cell? ad207 = some (.int .i64 (rd x4_4 0)) ∧ w'.cell? ⟨ad207.block, ad207.off + 4, none⟩ = some (.int .i64 (rd x4_4 4))) (ds := [11, 13]) (bm 14 0) (by kernel_rfl) rfl rfl ⟨(blk_cell BK202.out 0).trans rfl, (blk_cell BK202.out 1).trans rfl, (blk_cell BK202.out 2).trans rfl, (blk_cell BK212.out 0).trans rfl, (blk_cell BK212.out 1).trans rfl, (blk_cell BK212.out 2).trans rfl, (blk_cell BK212.out 3).trans rfl, (blk_cell BK212.out 4).trans rfl, hx213_0, hx214_0⟩ (fun hHeld => ?_); refine with_tabW spec_ReadPatch.tab15 spec_ReadPatch.bits15 (fun HT_ HW_ => ?_)
                           generalize w58.drew = w59 at HO_4 HO_193002 HO_203002 BK185 BK192 BK202 BK212 HB hx213_0 hx214_0 hHeld ⊢
                           refine pu_ 0 96 (bm 14 1) HT_.out ?_
                           refine pu_ 2 98 (bm 14 5) HT_.out ?_
                           refine pu_ 3 99 (bm 14 13) HT_.out ?_
                           refine pu_ 6 102 (bm 14 77) HT_.out ?_
                           refine pu_ 7 103 (bm 14 205) HT_.out ?_
                           refine take_ (i := 1) (N := some 97) (v := ?_) (a' := ?_) (bm 14 207) rfl rfl (take_ofW HT_.out HW_.out (by kernel_rfl)) (fun _ _ _ h => h) (Or.inl ⟨by rfl, ?_⟩) hHeld ?_ ?_
                           rotate_left
                           ·rintro w' ⟨s0, s1, s2, s3, s4, s5, s6, s7, s8, s9⟩
                            go_simp
                            with_reducible rfl
                           rotate_left
                           ·simp only [Act.put, List.setIfInBounds_toArray, List.set_cons_zero, List.set_cons_succ, i64_w, i32_w]
                            rfl
                           refine take_ (i := 4) (N := some 100) (v := ?_) (a' := ?_) (bm 14 223) rfl rfl (take_ofW HT_.out HW_.out (by kernel_rfl)) (fun _ _ _ h => h) (Or.inl ⟨by rfl, ?_⟩) hHeld ?_ ?_
                           rotate_left
                           ·rintro w' ⟨s0, s1, s2, s3, s4, s5, s6, s7, s8, s9⟩
                            go_simp
                            with_reducible rfl
                           rotate_left
                           ·simp only [Act.put, List.setIfInBounds_toArray, List.set_cons_zero, List.set_cons_succ, i64_w, i32_w]
                            rfl
                           refine take_ (i := 5) (N := some 101) (v := ?_) (a' := ?_) (bm 14 255) rfl rfl (take_ofW HT_.out HW_.out (by kernel_rfl)) (fun _ _ _ h => h) (Or.inl ⟨by rfl, ?_⟩) hHeld ?_ ?_
                           rotate_left
                           ·rintro w' ⟨s0, s1, s2, s3, s4, s5, s6, s7, s8, s9⟩
                            go_simp
                            with_reducible rfl
                           rotate_left
                           ·simp only [Act.put, List.setIfInBounds_toArray, List.set_cons_zero, List.set_cons_succ, i64_w, i32_w]
                            rfl
                           refine take_ (i := 8) (N := some 104) (v := ?_) (a' := ?_) (bm 14 511) rfl rfl (take_ofW HT_.out HW_.out (by kernel_rfl)) (fun _ _ _ h => h) (Or.inl ⟨by rfl, ?_⟩) hHeld ?_ ?_
                           rotate_left
                           ·rintro w' ⟨s0, s1, s2, s3, s4, s5, s6, s7, s8, s9⟩
                            go_simp
                            with_reducible rfl
                           rotate_left
                           ·simp only [Act.put, List.setIfInBounds_toArray, List.set_cons_zero, List.set_cons_succ, i64_w, i32_w]
                            rfl
                           refine pu_ 9 105 (bm 14 1023) HT_.out ?_
                           refine one_ (i := 10) (N := some 106) (bm 14 2047) rfl rfl (one_of HT_.out (by kernel_rfl)) (by decide) (fun K hK => ?_)
                           refine value_ (w1 := ?_) (v := ?_) (by rfl) rfl ?_ ?_
                           rotate_left 2
                           ·go_simp
                            constructor
                            ·rfl
                            ·rfl
                           refine hK.out _ _ ⟨(blk_cell (blk_alloc BK202.out _) 0).trans rfl, (blk_cell (blk_alloc BK202.out _) 1).trans rfl, (blk_cell (blk_alloc BK202.out _) 2).trans rfl, (blk_cell (blk_alloc BK212.out _) 0).trans rfl, (blk_cell (blk_alloc BK212.out _) 1).trans rfl, (blk_cell (blk_alloc BK212.out _) 2).trans rfl, (blk_cell (blk_alloc BK212.out _) 3).trans rfl, (blk_cell (blk_alloc BK212.out _) 4).trans rfl, (World.cell?_alloc_lt _ _ _ (World.block_lt_of_cell? _ _ (hHeld.2.2.2.2.2.2.2.2.1))).trans (hHeld.2.2.2.2.2.2.2.2.1), (World.cell?_alloc_lt _ _ _ (World.block_lt_of_cell? _ _ (hHeld.2.2.2.2.2.2.2.2.2))).trans (hHeld.2.2.2.2.2.2.2.2.2)⟩ (fun hHeld => ?_)
                           clear hK K
                           refine norm_ (a' := ?_) ?_ ?_
                           rotate_left
                           ·show Act.put _ (some 106) _ = _
                            simp only [Act.put, List.setIfInBounds_toArray, List.set_cons_zero, List.set_cons_succ, i64_w, i32_w]
                            rfl
                           refine last_ (i := 11) (N := some 107) (bm 14 4095) rfl rfl (one_of HT_.out (by kernel_rfl)) (by decide) (fun K hK => ?_)
                           refine Kd.R_append_step k45 (w0 := w) w.heap.size (by rfl) (.tmp 97) (.tmp 106) 38 45 (.agg #[(.int .i64 0), (.int .i64 0), (.int .i64 0), (.bool false), (.bool false), (.bool false), (.int .i64 0)]) 40 rfl Tryd.underlying38 info45 rfl (by decide) (by omega) u203002 x203002_4 (⟨rd x4_4 0, (⟨rd x4_4 1, rd x4_4 2, ((Int.tmod (rd x4_4 3) 2) == 1), ((Int.tmod (wrap64 (Int.tdiv (rd x4_4 3) 2)) 2) == 1), ((Int.tmod (wrap64 (Int.tdiv (rd x4_4 3) 4)) 2) == 1)⟩ : S43), rd x4_4 4⟩ : S45) [.int .i64 (rd x4_4 0), .int .i64 (rd x4_4 1), .int .i64 (rd x4_4 2), .bool ((Int.tmod (rd x4_4 3) 2) == 1), .bool ((Int.tmod (wrap64 (Int.tdiv (rd x4_4 3) 2)) 2) == 1), .bool ((Int.tmod (wrap64 (Int.tdiv (rd x4_4 3) 4)) 2) == 1), .int .i64 (rd x4_4 4)] (fun _ => True) (fun _ => False) rfl rfl ?aP (fun _ hk => hk.elim) ?aF ?aO ?aB ?aS ?aL ?_
                           (case aP => exact k45_mkM _ _ _ (⟨rd x4_4 0, (⟨rd x4_4 1, rd x4_4 2, ((Int.tmod (rd x4_4 3) 2) == 1), ((Int.tmod (wrap64 (Int.tdiv (rd x4_4 3) 2)) 2) == 1), ((Int.tmod (wrap64 (Int.tdiv (rd x4_4 3) 4)) 2) == 1)⟩ : S43), rd x4_4 4⟩ : S45))
                           (case aB => exact (by repeat (first | (with_reducible first | exact HB.out | apply b1 | apply b2 | apply b3 | refine below_set ?_ GE185.out | refine below_set ?_ GE192.out | refine below_set ?_ GE202.out | refine below_set ?_ GE212.out) | exact HB.out)))
                           (case aF => exact (fun _ _ => trivial))
                           (case aO => exact (rr HO_203002))
                           (case aS => exact (below_size (by repeat (first | (with_reducible first | exact HB.out | apply b1 | apply b2 | apply b3 | refine below_set ?_ GE185.out | refine below_set ?_ GE192.out | refine below_set ?_ GE202.out | refine below_set ?_ GE212.out) | exact HB.out))))
                           (case aL => have := LMc48.out; omega)
                           intro v216 w60 ho hb hg hat
                           rw [← Ny215.out] at ho
                           have n0_ := am (Kd.Q_over' (by (with_reducible repeat (first | apply Kd.Q_alloc | apply Kd.Q_drewN | apply Kd.Q_drew)); exact HO_4.out) (Kd.R_typed (rr HO_203002)) (by decide) hg)
                           have n1_ := am (Kd.S_after (ok := (fun k_ => k_ ≠ gb202)) (by (with_reducible repeat (first | apply Kd.S_alloc | apply Kd.S_drewN | apply Kd.S_drew)); exact Kd.S_mono HO_193002.out (fun _ hk => ⟨hk.2, hk.1⟩)) hg hat)
                           have n2_ := am (blk_grown (g := gb185) (o := .cells #[.int .i64 x186000_2, .int .i64 x186001_2, .slice none 0 0] 29 (0, 0)) (rk BK185) hg (Kd.R_ne HO_203002.out BK185.out (by decide)))
                           have n3_ := am (blk_grown (g := gb192) (o := .cells #[.int .i64 (rd t186 0), .int .i64 (rd t186 1), u193002] 29 (0, 0)) (rk BK192) hg (Kd.R_ne HO_203002.out BK192.out (by decide)))
                           have n4_ := am (blk_grown (g := gb202) (o := .cells #[.int .i64 (rd x4_2 0), .int .i64 (rd x4_2 1), u203002] 40 (0, 0)) (rk BK202) hg (Kd.R_ne HO_203002.out BK202.out (by decide)))
                           have n5_ := am (blk_grown (g := gb212) (o := .cells #[.int .i64 (rd x4_4 1), .int .i64 (rd x4_4 2), .bool ((Int.tmod (rd x4_4 3) 2) == 1), .bool ((Int.tmod (wrap64 (Int.tdiv (rd x4_4 3) 2)) 2) == 1), .bool ((Int.tmod (wrap64 (Int.tdiv (rd x4_4 3) 4)) 2) == 1)] 43 (0, 0)) (rk BK212) hg (Kd.R_ne HO_203002.out BK212.out (by decide)))
                           have n6_ := am (hb)
                           have n7_ := am (ho)
                           clear HO_4
                           clear HO_193002
                           clear BK185
                           clear BK192
                           clear BK202
                           clear BK212
                           clear HB
                           clear HO_203002
                           have HO_4 := n0_
                           have HO_193002 := n1_
                           have BK185 := n2_
                           have BK192 := n3_
                           have BK202 := n4_
                           have BK212 := n5_
                           have HB := n6_
                           have HO217 := n7_
                           clear n0_ n1_ n2_ n3_ n4_ n5_ n6_ n7_
                           clear ho hb hg hat
                           obtain ⟨Ao61, co61, eo61⟩ := Kd.R_slice HO217.out
                           (first | subst eo61 | (injection eo61 with f1_ f2_ f3_; have f4_ := f1_.symm; have f5_ := f3_.symm; clear f1_ f2_ f3_; subst f4_; subst f5_))
                           refine hK.out _ _ ?_
                           clear hK K
                           refine norm_ (a' := ?_) ?_ ?_
                           rotate_left
                           ·show Act.put _ (some 107) _ = _
                            simp only [Act.put, List.setIfInBounds_toArray, List.set_cons_zero, List.set_cons_succ, i64_w, i32_w]
                            rfl
                           refine pu_ 12 108 (bm 14 8191) HT_.out ?_
                           refine last_ (i := 13) (N := none) (bm 14 16383) rfl rfl (one_of HT_.out (by kernel_rfl)) (by decide) (fun K hK => ?_)
                           have hs62 : w60.cell? ⟨gb202, 2, none⟩ = some (u203002) := (blk_cell BK202.out 2).trans rfl
                           have hfs62 := blk_frozen BK202.out 2
                           have hns62_0 := NB185_202.out
                           have hns62_1 := NB192_202.out
                           have hns62_3 := NB212_202.out
                           have hms62_0 := NB202_185.out
                           have hms62_1 := NB202_192.out
                           have hms62_3 := NB202_212.out
                           refine skip_ (w1 := ?_) (by rfl) rfl ?_ ?_
                           rotate_left
                           ·go_simp
                            rfl
                           refine hK.out _ _ ?_
                           clear hK K
                           refine done_ (done_of HT_.out (by kernel_rfl)) ?_
                           have n0_ : Aside0 (Kd.Q (Kd.int .i64) 2 (w60.setCell ⟨gb202, 2, none⟩ (.slice Ao61 y215.length co61)) w.heap.size (fun _ => True) (.slice (some ad207) x4_4.length co51) x4_4) := ⟨by (with_reducible repeat (first | apply Kd.Q_alloc | apply Kd.Q_drewN | apply Kd.Q_drew)); exact Kd.Q_mono (Kd.Q_far (p := ⟨gb202, 2, none⟩) (Kd.Q_types HO_4.out BK202.out (by decide)) (fun _ hk => hk.2) (.slice Ao61 y215.length co61)) (fun _ hk => trivial)⟩
                           have n1_ : Aside0 (Kd.S k40 40 (w60.setCell ⟨gb202, 2, none⟩ (.slice Ao61 y215.length co61)) w.heap.size (fun k_ => some k_ ≠ (.slice Ao61 y215.length co61 : Value).ownBlock ∧ k_ ≠ gb202) u193002 x193002_2) := ⟨by (with_reducible repeat (first | apply Kd.S_alloc | apply Kd.S_drewN | apply Kd.S_drew)); exact Kd.S_mono (Kd.S_far (p := ⟨gb202, 2, none⟩) (Kd.S_mono HO_193002.out (fun k_ hk => (⟨hk, hk.1⟩ : _ ∧ k_ ≠ gb202))) (fun _ hk => hk.2) (.slice Ao61 y215.length co61)) (fun _ hk => ⟨hk.1.2, hk.1.1⟩)⟩
                           have n2_ : Aside0 (Kd.R k45 45 (w60.setCell ⟨gb202, 2, none⟩ (.slice Ao61 y215.length co61)) w.heap.size (fun _ => True) (.slice Ao61 y215.length co61) y215) := ⟨by (with_reducible repeat (first | apply r1 | apply r2 | apply r3)); exact Kd.R_mono (Kd.R_far (p := ⟨gb202, 2, none⟩) (Kd.R_types HO217.out BK202.out (by decide)) (fun _ hk => hk.2) (.slice Ao61 y215.length co61)) (fun _ hk => trivial)⟩
                           have n3_ : Aside0 ((w60.setCell ⟨gb202, 2, none⟩ (.slice Ao61 y215.length co61)).heap[gb185]? = some (.cells #[.int .i64 x186000_2, .int .i64 x186001_2, .slice none 0 0] 29 (0, 0))) := ⟨by (with_reducible repeat (first | apply k1 | apply k2 | apply k3)); refine blk_far ?_ NB185_202.out _; (with_reducible repeat (first | apply k1 | apply k2 | apply k3)); exact BK185.out⟩
                           have n4_ : Aside0 ((w60.setCell ⟨gb202, 2, none⟩ (.slice Ao61 y215.length co61)).heap[gb192]? = some (.cells #[.int .i64 (rd t186 0), .int .i64 (rd t186 1), u193002] 29 (0, 0))) := ⟨by (with_reducible repeat (first | apply k1 | apply k2 | apply k3)); refine blk_far ?_ NB192_202.out _; (with_reducible repeat (first | apply k1 | apply k2 | apply k3)); exact BK192.out⟩
                           have n5_ : Aside0 ((w60.setCell ⟨gb202, 2, none⟩ (.slice Ao61 y215.length co61)).heap[gb202]? = some (.cells #[.int .i64 (rd x4_2 0), .int .i64 (rd x4_2 1), .slice Ao61 y215.length co61] 40 (0, 0))) := ⟨by (with_reducible repeat (first | apply k1 | apply k2 | apply k3)); refine blk_put (cs := #[.int .i64 (rd x4_2 0), .int .i64 (rd x4_2 1), u203002]) ?_ 2 _ rfl; (with_reducible repeat (first | apply k1 | apply k2 | apply k3)); exact BK202.out⟩
                           have n6_ : Aside0 ((w60.setCell ⟨gb202, 2, none⟩ (.slice Ao61 y215.length co61)).heap[gb212]? = some (.cells #[.int .i64 (rd x4_4 1), .int .i64 (rd x4_4 2), .bool ((Int.tmod (rd x4_4 3) 2) == 1), .bool ((Int.tmod (wrap64 (Int.tdiv (rd x4_4 3) 2)) 2) == 1), .bool ((Int.tmod (wrap64 (Int.tdiv (rd x4_4 3) 4)) 2) == 1)] 43 (0, 0))) := ⟨by (with_reducible repeat (first | apply k1 | apply k2 | apply k3)); refine blk_far ?_ NB212_202.out _; (with_reducible repeat (first | apply k1 | apply k2 | apply k3)); exact BK212.out⟩
                           have n7_ : Aside0 (Below w.heap.size w (w60.setCell ⟨gb202, 2, none⟩ (.slice Ao61 y215.length co61))) := ⟨by repeat (first | (with_reducible first | exact HB.out | apply b1 | apply b2 | apply b3 | refine below_set ?_ GE185.out | refine below_set ?_ GE192.out | refine below_set ?_ GE202.out | refine below_set ?_ GE212.out) | exact HB.out)⟩
                           (try clear HO_4)
                           (try clear HO_193002)
                           (try clear HO217)
                           (try clear BK185)
                           (try clear BK192)
                           (try clear BK202)
                           (try clear BK212)
                           (try clear HB)
                           generalize (w60.setCell ⟨gb202, 2, none⟩ (.slice Ao61 y215.length co61)) = w63 at n0_ n1_ n2_ n3_ n4_ n5_ n6_ n7_ ⊢
                           have HO_4 := n0_
                           have HO_193002 := n1_
                           have HO217 := n2_
                           have BK185 := n3_
                           have BK192 := n4_
                           have BK202 := n5_
                           have BK212 := n6_
                           have HB := n7_
                           clear n0_ n1_ n2_ n3_ n4_ n5_ n6_ n7_
                           have q64 : (5 : Int) ≤ ((x4_4.length : Int) : Int) := dt_
                           obtain ⟨i064, hi064, _, hsz64, _⟩ := info_parts info2
                           have hcut64 := cut_from (P := Tryd.prog) 47 2 .i64 Tryd.underlying47 hi064 1 hsz64 (some ad207) x4_4.length co51 5 (by omega) q64
                           have hr64 := Kd.Q_drop (k := (5 : Int).toNat) HO_4.out (by omega)
                           obtain ⟨A64, hA64⟩ : ∃ A1, A1 = (if co51 = (5 : Int).toNat then (some ad207) else ((some ad207) : Option Addr).map (·.add ((5 : Int).toNat * 1))) := ⟨_, rfl⟩
                           obtain ⟨c64, hc64⟩ : ∃ c1, c1 = co51 - (5 : Int).toNat := ⟨_, rfl⟩
                           have hy64 : y218.length = x4_4.length - (5 : Int).toNat := (by rw [Ny218.out, List.length_drop])
                           rw [← Ny218.out] at hr64
                           rw [← hy64, ← hA64, ← hc64] at hcut64
                           replace hr64 : Kd.Q (Kd.int .i64) 2 w63 w.heap.size (fun _ => True) (.slice A64 y218.length c64) y218 := (by rw [hA64, hc64, hy64]; exact hr64)
                           have HE64 : Aside0 ((Value.slice A64 y218.length c64).ownBlock = (.slice (some ad207) x4_4.length co51 : Value).ownBlock) := ⟨by rw [hA64]; split <;> (cases ((some ad207) : Option Addr) <;> rfl)⟩
                           clear hy64 hi064 hsz64 HO_4 hA64 hc64
                           have HO220 := am hr64
                           clear hr64
                           replace q64 := eq_true q64
                           try go_wp2
                           go_roundg k4
                           case measure => have := HJ2.out; have := HK2.out; have := HJ21.out; have := HK4.out; omega
                           case rel => exact ⟨(y218), (wrap64 (x8_4 - 1)), (y215), (.slice Ao61 y215.length co61), (by first | rfl | (simp; done) | (simp [*]; done)), H', ⟨by have := HJ2.out; have := HK2.out; have := HJ21.out; have := HK4.out; omega⟩, ⟨by (with_reducible repeat (first | apply Kd.Q_alloc | apply Kd.Q_drewN | apply Kd.Q_drew)); exact HO220.out⟩, ⟨rs HO_193002⟩, ⟨rr HO217⟩, ⟨rk BK185⟩, ⟨rk BK192⟩, ⟨rk BK202⟩, ⟨by repeat (first | (with_reducible first | exact HB.out | apply b1 | apply b2 | apply b3 | refine below_set ?_ GE185.out | refine below_set ?_ GE192.out | refine below_set ?_ GE202.out | refine below_set ?_ GE212.out) | exact HB.out)⟩⟩
                          ·rw [if_neg c49] at H
                           exact absurd H (by simp)
                         ·rw [if_neg c48] at H
                          exact absurd H (by simp)
                        ·rw [if_neg c47] at H
                         exact absurd H (by simp)
                       ·rw [if_neg c46] at H
                        exact absurd H (by simp)
                      ·rw [if_neg c45] at H
                       exact absurd H (by simp)
                     ·rw [if_neg c44] at H
                      exact absurd H (by simp)
                    ·rw [if_neg c43] at H
                     exact absurd H (by simp)
                   ·rw [if_neg c42] at H
                    have c42b0 : decide (0 < x8_4) = false := decide_eq_false c42
                    clear c42
                    by_cases c65 : x193002_2.length < 3518437208883
                    ·rw [if_pos c65] at H
                     have LMc65 := am c65
                     clear c65
                     obtain ⟨y221, hy221⟩ : ∃ y_ : List (S40), y_ = (x193002_2 ++ [(⟨(rd x4_2 0), (rd x4_2 1), x203002_4⟩ : S40)]) := ⟨_, rfl⟩
                     replace H : (spec_ReadPatch.l0 k4 a0 x4_4 (rd t186 0) (rd t186 1) y221) = some (r1, r2, r3, r4) := by first | (rw [hy221]; with_reducible exact H) | (rw [hy221]; exact H) | exact H
                     have Ny221 := am hy221
                     clear hy221
                     have H' := am H
                     clear H
                     have hnb66 := NB192_185.out
                     have hnc66 := NB185_192.out
                     have hnb67 := NB192_202.out
                     have hnc67 := NB202_192.out
                     have hcz68_0 : wr.cell? ⟨gb192, 0, none⟩ = some (.int .i64 (rd t186 0)) := (blk_cell BK192.out 0).trans rfl
                     have hcz68_1 : wr.cell? ⟨gb192, 1, none⟩ = some (.int .i64 (rd t186 1)) := (blk_cell BK192.out 1).trans rfl
                     have hcz68_2 : wr.cell? ⟨gb192, 2, none⟩ = some (u193002) := (blk_cell BK192.out 2).trans rfl
                     have hfz68_0 := blk_frozen BK192.out 0
                     have hfz68_1 := blk_frozen BK192.out 1
                     have hfz68_2 := blk_frozen BK192.out 2
                     have hnb69 := NB202_185.out
                     have hnc69 := NB185_202.out
                     have hcz70_0 : wr.cell? ⟨gb202, 0, none⟩ = some (.int .i64 (rd x4_2 0)) := (blk_cell BK202.out 0).trans rfl
                     have hcz70_1 : wr.cell? ⟨gb202, 1, none⟩ = some (.int .i64 (rd x4_2 1)) := (blk_cell BK202.out 1).trans rfl
                     have hcz70_2 : wr.cell? ⟨gb202, 2, none⟩ = some (u203002) := (blk_cell BK202.out 2).trans rfl
                     have hfz70_0 := blk_frozen BK202.out 0
                     have hfz70_1 := blk_frozen BK202.out 1
                     have hfz70_2 := blk_frozen BK202.out 2
                     obtain ⟨Ao72, co72, eo72⟩ := Kd.R_slice HO_203002.out
                     subst eo72
                     go_wp2_with (first | ((with_reducible refine gate_builtin (b := .append) (xs := #[.tmp 112, .tmp 114]) rfl ?_); (try (refine gate_guard (by rfl) ?_; dsimp only)); at_builtin; refine Kd.S_append k40 (w0 := w) w.heap.size rfl (.tmp 112) (.tmp 114) 27 40 (.agg #[(.int .i64 0), (.int .i64 0), (.slice none 0 0)]) 40 rfl Tryd.underlying27 info40 rfl (by decide) (by omega) u193002 x193002_2 (⟨(rd x4_2 0), (rd x4_2 1), x203002_4⟩ : S40) [.int .i64 (rd x4_2 0), .int .i64 (rd x4_2 1), .slice Ao72 x203002_4.length co72] (fun k_ => k_ ≠ gb202) (fun k_ => some k_ = (.slice Ao72 x203002_4.length co72 : Value).ownBlock) rfl rfl ?aP (fun k_ hk_ => ((Kd.R_mono (ok' := fun k_ => ((fun k_ => k_ ≠ gb202)) k_ ∧ some k_ ≠ (u193002 : Value).ownBlock) (Kd.R_types (Kd.R_apart' (HO_203002.out) (Kd.S_typed HO_193002.out) (by decide)) BK202.out (by decide)) (fun k_ hk => ⟨hk.2, hk.1.2⟩))).1 k_ hk_.symm) ?aF ?aO ?aB ?aS ?aL ?_; (case aP => exact k40_mkM _ _ _ (⟨(rd x4_2 0), (rd x4_2 1), x203002_4⟩ : S40) (Kd.R_mono (Kd.R_tight rfl (Kd.R_mono (ok' := fun k_ => ((fun k_ => k_ ≠ gb202)) k_ ∧ some k_ ≠ (u193002 : Value).ownBlock) (Kd.R_types (Kd.R_apart' (HO_203002.out) (Kd.S_typed HO_193002.out) (by decide)) BK202.out (by decide)) (fun k_ hk => ⟨hk.2, hk.1.2⟩))) (fun _ h_ => h_))); (case aB => exact (by repeat (first | (with_reducible first | exact HB.out | apply b1 | apply b2 | apply b3 | refine below_set ?_ GE185.out | refine below_set ?_ GE192.out | refine below_set ?_ GE202.out) | exact HB.out))); (case aF => exact (fun k_ hk => Kd.freshB (g := gb202) (o := .cells #[.int .i64 (rd x4_2 0), .int .i64 (rd x4_2 1), .slice Ao72 x203002_4.length co72] 40 (0, 0)) (rk BK202) k_ hk)); (case aO => exact (by (with_reducible repeat (first | apply Kd.S_alloc | apply Kd.S_drewN | apply Kd.S_drew)); exact Kd.S_mono HO_193002.out (fun k_ hk => ⟨hk.2, fun e_ => hk.1 e_⟩))); (case aS => exact (below_size (by repeat (first | (with_reducible first | exact HB.out | apply b1 | apply b2 | apply b3 | refine below_set ?_ GE185.out | refine below_set ?_ GE192.out | refine below_set ?_ GE202.out) | exact HB.out)))); (case aL => have := LMc65.out; omega); intro v222 w71 ho hb hg hat; rw [← Ny221.out] at ho; have n0_ := am (Kd.Q_over' (by (with_reducible repeat (first | apply Kd.Q_alloc | apply Kd.Q_drewN | apply Kd.Q_drew)); exact HO_4.out) (Kd.S_typed (rs HO_193002)) (by decide) hg); have n1_ := am (blk_grown (g := gb185) (o := .cells #[.int .i64 x186000_2, .int .i64 x186001_2, .slice none 0 0] 29 (0, 0)) (rk BK185) hg (Kd.S_ne HO_193002.out BK185.out (by decide))); have n2_ := am (blk_grown (g := gb192) (o := .cells #[.int .i64 (rd t186 0), .int .i64 (rd t186 1), u193002] 29 (0, 0)) (rk BK192) hg (Kd.S_ne HO_193002.out BK192.out (by decide))); have n3_ := am (blk_grown (g := gb202) (o := .cells #[.int .i64 (rd x4_2 0), .int .i64 (rd x4_2 1), .slice Ao72 x203002_4.length co72] 40 (0, 0)) (rk BK202) hg (Kd.S_away HO_193002.out (fun _ hk => hk.2))); have n4_ := am (hb); have n5_ := am (ho); clear HO_4; clear BK185; clear BK192; clear BK202; clear HB; clear HO_193002; clear HO_203002; have HO_4 := n0_; have BK185 := n1_; have BK192 := n2_; have BK202 := n3_; have HB := n4_; have HO223 := n5_; clear n0_ n1_ n2_ n3_ n4_ n5_; clear ho hb hg hat; obtain ⟨Ao73, co73, eo73⟩ := Kd.S_slice HO223.out; subst eo73; have hcz74_0 : w71.cell? ⟨gb192, 0, none⟩ = some (.int .i64 (rd t186 0)) := (blk_cell BK192.out 0).trans rfl; have hcz74_1 : w71.cell? ⟨gb192, 1, none⟩ = some (.int .i64 (rd t186 1)) := (blk_cell BK192.out 1).trans rfl; have hcz74_2 : w71.cell? ⟨gb192, 2, none⟩ = some (u193002) := (blk_cell BK192.out 2).trans rfl; have hfz74_0 := blk_frozen BK192.out 0; have hfz74_1 := blk_frozen BK192.out 1; have hfz74_2 := blk_frozen BK192.out 2))
                     go_roundg k4
                     case measure => have := HJ2.out; have := HK2.out; have := HJ21.out; have := HK4.out; omega
                     case rel => exact ⟨(x4_4), (x186000_2), (x186001_2), (y221), (.slice Ao73 y221.length co73), H', ⟨by have := HJ2.out; have := HK2.out; have := HJ21.out; have := HK4.out; omega⟩, ⟨by (with_reducible repeat (first | apply Kd.Q_alloc | apply Kd.Q_drewN | apply Kd.Q_drew)); exact Kd.Q_mono (Kd.Q_far (p := ⟨gb192, 2, none⟩) (Kd.Q_types HO_4.out BK192.out (by decide)) (fun _ hk => hk.2) (.slice Ao73 y221.length co73)) (fun _ hk => trivial)⟩, ⟨by (with_reducible repeat (first | apply Kd.S_alloc | apply Kd.S_drewN | apply Kd.S_drew)); exact Kd.S_mono (Kd.S_far (p := ⟨gb192, 2, none⟩) (Kd.S_types HO223.out BK192.out (by decide)) (fun _ hk => hk.2) (.slice Ao73 y221.length co73)) (fun _ hk => trivial)⟩, ⟨by (with_reducible repeat (first | apply k1 | apply k2 | apply k3)); refine blk_far ?_ NB185_192.out _; (with_reducible repeat (first | apply k1 | apply k2 | apply k3)); exact BK185.out⟩, ⟨by (with_reducible repeat (first | apply k1 | apply k2 | apply k3)); refine blk_put (cs := #[.int .i64 (rd t186 0), .int .i64 (rd t186 1), u193002]) ?_ 2 _ rfl; (with_reducible repeat (first | apply k1 | apply k2 | apply k3)); exact BK192.out⟩, ⟨by repeat (first | (with_reducible first | exact HB.out | apply b1 | apply b2 | apply b3 | refine below_set ?_ GE185.out | refine below_set ?_ GE192.out | refine below_set ?_ GE202.out) | exact HB.out)⟩⟩
                    ·rw [if_neg c65] at H
                     exact absurd H (by simp)
                ·rw [if_neg c34] at H
                 exact absurd H (by simp)
               ·rw [if_neg c33] at H
                exact absurd H (by simp)
              ·rw [if_neg c32] at H
               exact absurd H (by simp)
             ·rw [if_neg c31] at H
              exact absurd H (by simp)
         ·rw [if_neg c21] at H
          have c21b0 : decide (0 < (x4_2.length : Int)) = false := decide_eq_false c21
          have c21b1 : decide (0 < x4_2.length) = false := decide_eq_false (by omega)
          clear c21
          replace H := Option.bind_eq_some_iff.mp H
          obtain ⟨t196, A750, H⟩ := H
          replace H : (if t196.toList = a0.toList then (some ((rd t186 0), (rd t186 1), x193002_2, true)) else (some (0, 0, ([] : List (S40)), false))) = some (r1, r2, r3, r4) := H
          have A75 := am A750
          clear A750
          by_cases c76 : t196.toList = a0.toList
          ·rw [if_pos c76] at H
           have c76b0 : (t196.toList == a0.toList) = true := beq_iff_eq.mpr c76
           have c76b1 : (t196.toList != a0.toList) = false := bne_eq_false_iff_eq.mpr c76
           clear c76
           simp only [Option.some.injEq, Prod.mk.injEq] at H
           obtain ⟨rfl, rfl, rfl, rfl⟩ := H
           obtain ⟨Ao77, co77, eo77, _⟩ := Kd.Q_slice HO_4.out
           subst eo77
           have hnb78 := NB192_185.out
           have hnc78 := NB185_192.out
           have hcz79_0 : wr.cell? ⟨gb192, 0, none⟩ = some (.int .i64 (rd t186 0)) := (blk_cell BK192.out 0).trans rfl
           have hcz79_1 : wr.cell? ⟨gb192, 1, none⟩ = some (.int .i64 (rd t186 1)) := (blk_cell BK192.out 1).trans rfl
           have hcz79_2 : wr.cell? ⟨gb192, 2, none⟩ = some (u193002) := (blk_cell BK192.out 2).trans rfl
           have hfz79_0 := blk_frozen BK192.out 0
           have hfz79_1 := blk_frozen BK192.out 1
           have hfz79_2 := blk_frozen BK192.out 2
           obtain ⟨Ao80, co80, eo80⟩ := Kd.S_slice HO_193002.out
           subst eo80
           go_wp2_with (first | ((with_reducible refine gate_callee (f := 6) rfl ?_); refine gl_ (some 118) Tryd.func6 #[.agg #[.int .i64 (rd t186 0), .int .i64 (rd t186 1), .slice Ao80 x193002_2.length co80]] ?_; (with_reducible refine (spec_ShowPatch.calls k2 (rd t186 0) (rd t186 1) _ _ x193002_2 t196 _ ?side1 ?side2 A75.out).mono ?_); (case side1 => repeat (first | exact (Kd.S_reads' HO_193002.out).2.2 | (with_reducible refine Kd.C_alloc ?_ _) | (with_reducible refine Kd.C_drewN ?_ _) | (with_reducible refine Kd.C_drew ?_))); (case side2 => exact (Kd.S_reads' HO_193002.out).2.1); rintro e w81 ⟨rfl, hb⟩; refine ⟨_, rfl, ?_⟩; have n0_ := am (Kd.Q_below (by (with_reducible repeat (first | apply Kd.Q_alloc | apply Kd.Q_drewN | apply Kd.Q_drew)); exact HO_4.out) hb); have n1_ := am (Kd.S_below (rs HO_193002) hb); have n2_ := am (blk_below (g := gb185) (o := .cells #[.int .i64 x186000_2, .int .i64 x186001_2, .slice none 0 0] 29 (0, 0)) (rk BK185) hb); have n3_ := am (blk_below (g := gb192) (o := .cells #[.int .i64 (rd t186 0), .int .i64 (rd t186 1), .slice Ao80 x193002_2.length co80] 29 (0, 0)) (rk BK192) hb); have n4_ := am (below_step (by repeat (first | (with_reducible first | exact HB.out | apply b1 | apply b2 | apply b3 | refine below_set ?_ GE185.out | refine below_set ?_ GE192.out) | exact HB.out)) hb); clear HO_4; clear HO_193002; clear BK185; clear BK192; clear HB; have HO_4 := n0_; have HO_193002 := n1_; have BK185 := n2_; have BK192 := n3_; have HB := n4_; clear n0_ n1_ n2_ n3_ n4_; (try clear hb); (try clear hb2); (try clear hk); (try clear hi); have hcz82_0 : w81.cell? ⟨gb192, 0, none⟩ = some (.int .i64 (rd t186 0)) := (blk_cell BK192.out 0).trans rfl; have hcz82_1 : w81.cell? ⟨gb192, 1, none⟩ = some (.int .i64 (rd t186 1)) := (blk_cell BK192.out 1).trans rfl; have hcz82_2 : w81.cell? ⟨gb192, 2, none⟩ = some (.slice Ao80 x193002_2.length co80) := (blk_cell BK192.out 2).trans rfl; have hfz82_0 := blk_frozen BK192.out 0; have hfz82_1 := blk_frozen BK192.out 1; have hfz82_2 := blk_frozen BK192.out 2; have hcz83_0 : w81.cell? ⟨gb185, 0, none⟩ = some (.int .i64 x186000_2) := (blk_cell BK185.out 0).trans rfl; have hcz83_1 : w81.cell? ⟨gb185, 1, none⟩ = some (.int .i64 x186001_2) := (blk_cell BK185.out 1).trans rfl; have hcz83_2 : w81.cell? ⟨gb185, 2, none⟩ = some (.slice none 0 0) := (blk_cell BK185.out 2).trans rfl; have hfz83_0 := blk_frozen BK185.out 0; have hfz83_1 := blk_frozen BK185.out 1; have hfz83_2 := blk_frozen BK185.out 2))
           refine bodyPost_ret (results_ct rfl _ _ gb185 29 #[.int .i64 (rd t186 0), .int .i64 (rd t186 1), .slice Ao80 x193002_2.length co80] (0, 0) _ rfl (by (with_reducible repeat (first | apply k1 | apply k2 | apply k3)); refine blk_put (cs := #[.int .i64 (rd t186 0), .int .i64 (rd t186 1), .slice none 0 0]) ?_ 2 _ rfl; (with_reducible repeat (first | apply k1 | apply k2 | apply k3)); refine blk_put (cs := #[.int .i64 (rd t186 0), .int .i64 x186001_2, .slice none 0 0]) ?_ 1 _ rfl; (with_reducible repeat (first | apply k1 | apply k2 | apply k3)); refine blk_put (cs := #[.int .i64 x186000_2, .int .i64 x186001_2, .slice none 0 0]) ?_ 0 _ rfl; (with_reducible repeat (first | apply k1 | apply k2 | apply k3)); exact BK185.out) Tryd.underlying29 rfl (by kernel_rfl)) rfl ?_
           exact ⟨_, by first | rfl | (simp [errW_none, errW_some] <;> rfl) | (simp [*, errW_none, errW_some] <;> rfl), by (with_reducible repeat (first | apply Kd.S_alloc | apply Kd.S_drewN | apply Kd.S_drew)); exact Kd.S_mono (Kd.S_far (p := ⟨gb185, 2, none⟩) (Kd.S_far (p := ⟨gb185, 1, none⟩) (Kd.S_far (p := ⟨gb185, 0, none⟩) (Kd.S_types HO_193002.out BK185.out (by decide)) (fun _ hk => hk.2) (.int .i64 (rd t186 0))) (fun _ hk => hk.2) (.int .i64 (rd t186 1))) (fun _ hk => hk.2) (.slice Ao80 x193002_2.length co80)) (fun _ hk => trivial), by repeat (first | (with_reducible first | exact HB.out | apply b1 | apply b2 | apply b3 | refine below_set ?_ GE185.out | refine below_set ?_ GE192.out) | exact HB.out)⟩
          ·rw [if_neg c76] at H
           have c76b0 : (t196.toList == a0.toList) = false := beq_eq_false_iff_ne.mpr c76
           have c76b1 : (t196.toList != a0.toList) = true := bne_iff_ne.mpr c76
           simp only [Option.some.injEq, Prod.mk.injEq] at H
           obtain ⟨rfl, rfl, rfl, rfl⟩ := H
           obtain ⟨Ao84, co84, eo84, _⟩ := Kd.Q_slice HO_4.out
           subst eo84
           have hnb85 := NB192_185.out
           have hnc85 := NB185_192.out
           have hcz86_0 : wr.cell? ⟨gb192, 0, none⟩ = some (.int .i64 (rd t186 0)) := (blk_cell BK192.out 0).trans rfl
           have hcz86_1 : wr.cell? ⟨gb192, 1, none⟩ = some (.int .i64 (rd t186 1)) := (blk_cell BK192.out 1).trans rfl
           have hcz86_2 : wr.cell? ⟨gb192, 2, none⟩ = some (u193002) := (blk_cell BK192.out 2).trans rfl
           have hfz86_0 := blk_frozen BK192.out 0
           have hfz86_1 := blk_frozen BK192.out 1
           have hfz86_2 := blk_frozen BK192.out 2
           obtain ⟨Ao87, co87, eo87⟩ := Kd.S_slice HO_193002.out
           subst eo87
           go_wp2_with (first | ((with_reducible refine gate_callee (f := 6) rfl ?_); refine gl_ (some 118) Tryd.func6 #[.agg #[.int .i64 (rd t186 0), .int .i64 (rd t186 1), .slice Ao87 x193002_2.length co87]] ?_; (with_reducible refine (spec_ShowPatch.calls k2 (rd t186 0) (rd t186 1) _ _ x193002_2 t196 _ ?side1 ?side2 A75.out).mono ?_); (case side1 => repeat (first | exact (Kd.S_reads' HO_193002.out).2.2 | (with_reducible refine Kd.C_alloc ?_ _) | (with_reducible refine Kd.C_drewN ?_ _) | (with_reducible refine Kd.C_drew ?_))); (case side2 => exact (Kd.S_reads' HO_193002.out).2.1); rintro e w88 ⟨rfl, hb⟩; refine ⟨_, rfl, ?_⟩; have n0_ := am (Kd.Q_below (by (with_reducible repeat (first | apply Kd.Q_alloc | apply Kd.Q_drewN | apply Kd.Q_drew)); exact HO_4.out) hb); have n1_ := am (Kd.S_below (rs HO_193002) hb); have n2_ := am (blk_below (g := gb185) (o := .cells #[.int .i64 x186000_2, .int .i64 x186001_2, .slice none 0 0] 29 (0, 0)) (rk BK185) hb); have n3_ := am (blk_below (g := gb192) (o := .cells #[.int .i64 (rd t186 0), .int .i64 (rd t186 1), .slice Ao87 x193002_2.length co87] 29 (0, 0)) (rk BK192) hb); have n4_ := am (below_step (by repeat (first | (with_reducible first | exact HB.out | apply b1 | apply b2 | apply b3 | refine below_set ?_ GE185.out | refine below_set ?_ GE192.out) | exact HB.out)) hb); clear HO_4; clear HO_193002; clear BK185; clear BK192; clear HB; have HO_4 := n0_; have HO_193002 := n1_; have BK185 := n2_; have BK192 := n3_; have HB := n4_; clear n0_ n1_ n2_ n3_ n4_; (try clear hb); (try clear hb2); (try clear hk); (try clear hi); have hcz89_0 : w88.cell? ⟨gb185, 0, none⟩ = some (.int .i64 x186000_2) := (blk_cell BK185.out 0).trans rfl; have hcz89_1 : w88.cell? ⟨gb185, 1, none⟩ = some (.int .i64 x186001_2) := (blk_cell BK185.out 1).trans rfl; have hcz89_2 : w88.cell? ⟨gb185, 2, none⟩ = some (.slice none 0 0) := (blk_cell BK185.out 2).trans rfl; have hfz89_0 := blk_frozen BK185.out 0; have hfz89_1 := blk_frozen BK185.out 1; have hfz89_2 := blk_frozen BK185.out 2))
           refine bodyPost_ret (results_ct rfl _ _ gb185 29 #[.int .i64 0, .int .i64 0, .slice none 0 0] (0, 0) _ rfl (by (with_reducible repeat (first | apply k1 | apply k2 | apply k3)); refine blk_put (cs := #[.int .i64 0, .int .i64 0, .slice none 0 0]) ?_ 2 _ rfl; (with_reducible repeat (first | apply k1 | apply k2 | apply k3)); refine blk_put (cs := #[.int .i64 0, .int .i64 x186001_2, .slice none 0 0]) ?_ 1 _ rfl; (with_reducible repeat (first | apply k1 | apply k2 | apply k3)); refine blk_put (cs := #[.int .i64 x186000_2, .int .i64 x186001_2, .slice none 0 0]) ?_ 0 _ rfl; (with_reducible repeat (first | apply k1 | apply k2 | apply k3)); exact BK185.out) Tryd.underlying29 rfl (by kernel_rfl)) rfl ?_
           exact ⟨_, by first | rfl | (simp [errW_none, errW_some] <;> rfl) | (simp [*, errW_none, errW_some] <;> rfl), by first | exact Kd.S_nil _ _ _ _ _ | exact Kd.N_nil _ _ _ _ _ | exact Kd.V_nil _ _ _ _ _ | exact Kd.Q_nil _ _ _ _ _ | exact Kd.R_nil _ _ _ _ _, by repeat (first | (with_reducible first | exact HB.out | apply b1 | apply b2 | apply b3 | refine below_set ?_ GE185.out | refine below_set ?_ GE192.out) | exact HB.out)⟩
      ·rw [if_neg c12] at H
       exact absurd H (by simp)
     ·rw [if_neg c11] at H
      exact absurd H (by simp)
    ·rw [if_neg c10] at H
     exact absurd H (by simp)

end Go.Proofs.YtalopdcephohgaaDoor.SB
