/- Contracts of Go functions that laws of this seat reach: each Lean function answers as its Go function does. No condition. Written by wip/tools/inj.py, over the kit's print. -/
import Derived.Test.YtalopdcephohgaaDoorSBx0
import Derived.Test.YtalopdcephohgaaDoorSBx1
import Derived.Test.YtalopdcephohgaaDoorSBx12
import Derived.Test.YtalopdcephohgaaDoorSBx14
import Derived.Test.YtalopdcephohgaaDoorSBx15
import Derived.Test.YtalopdcephohgaaDoorSBx16
import Derived.Test.YtalopdcephohgaaDoorSBx18
namespace Go.Proofs.YtalopdcephohgaaDoor.SB
open Go.RowKit Go.Proofs.YtalopdcephohgaaDoorW.PrintWords Go.Proofs.YtalopdcephohgaaDoorW.PrintLast Go.Proofs.YtalopdcephohgaaDoorW.PrintMore
attribute [local go_sem] max2_int min2_int max_two min_two max_three min_three max_four min_four   -- for this text's walks alone
set_option linter.unusedVariables false
set_option linter.unusedSimpArgs false

/-! ### impl_ReadPatch: function 11 -/
mutual
def impl_ReadPatch.l0 : Nat → ByteArray → List ByteArray → Int → Bool → Int → Int → List (S40) → Option (Int × Int × (List (S40)) × Bool)
 | 0, _, _, _, _, _, _, _ => none
 | k + 1, x0, x9, x340000, x340001, x344000, x344001, x344002 => if 0 ≤ x340000 then (if x340000 ≤ (x9.length : Int) then (if ((x9.drop (x340000 : Int).toNat).length : Int) > 0 then (impl_ReadPatch.j1 k x0 x9 (!x340001) x340000 x340001 x344000 x344001 x344002) else (impl_ReadPatch.j1 k x0 x9 false x340000 x340001 x344000 x344001 x344002)) else (none)) else (none)
def impl_ReadPatch.j1 : Nat → ByteArray → List ByteArray → Bool → Int → Bool → Int → Int → List (S40) → Option (Int × Int × (List (S40)) × Bool)
 | 0, _, _, _, _, _, _, _, _ => none
 | k + 1, x0, x9, x30, x340000, x340001, x344000, x344001, x344002 => if x30 = true then ((impl_taker_take.f x340000 x340001 x9).bind fun bt352 => ((impl_taker_take.f bt352.2.1 bt352.2.2 x9).bind fun bt356 => ((impl_taker_take.f bt356.2.1 bt356.2.2 x9).bind fun bt359 => (if bt359.2.2 = true then (impl_ReadPatch.j2 k x0 bt359.1 x9 bt359.2.1 true x344000 x344001 x344002 bt352.1 bt356.1) else ((impl_in.f bt359.1 1 60).bind fun t362 => (impl_ReadPatch.j2 k x0 bt359.1 x9 bt359.2.1 (!t362) x344000 x344001 x344002 bt352.1 bt356.1)))))) else (if x340001 = true then (some (0, 0, ([] : List (S40)), false)) else ((impl_ShowPatch.f k x344000 x344001 x344002).bind fun t351 => (if t351.toList = x0.toList then (some (x344000, x344001, x344002, true)) else (some (0, 0, ([] : List (S40)), false)))))
def impl_ReadPatch.j2 : Nat → ByteArray → Int → List ByteArray → Int → Bool → Int → Int → List (S40) → Int → Int → Option (Int × Int × (List (S40)) × Bool)
 | 0, _, _, _, _, _, _, _, _, _, _ => none
 | k + 1, x0, x7, x9, x340000, x340001, x344000, x344001, x344002, x356000, x356001 => impl_ReadPatch.l1 k x0 x7 x9 x340000 x340001 x344000 x344001 x344002 x356000 x356001 ([] : List (S45))
def impl_ReadPatch.l1 : Nat → ByteArray → Int → List ByteArray → Int → Bool → Int → Int → List (S40) → Int → Int → List (S45) → Option (Int × Int × (List (S40)) × Bool)
 | 0, _, _, _, _, _, _, _, _, _, _, _ => none
 | k + 1, x0, x7, x9, x340000, x340001, x344000, x344001, x344002, x356000, x356001, x356002 => if x7 > 0 then (if x340001 = true then (if x344002.length < 3518437208883 then (impl_ReadPatch.l0 k x0 x9 x340000 x340001 x344000 x344001 (x344002 ++ [(⟨x356000, x356001, x356002⟩ : S40)])) else (none)) else ((impl_taker_cell.f x340000 x340001 x9).bind fun bt366 => (if x356002.length < 3518437208883 then (impl_ReadPatch.l1 k x0 (wrap64 (x7 - 1)) x9 bt366.2.2.2.2.2.2.2.1 bt366.2.2.2.2.2.2.2.2 x344000 x344001 x344002 x356000 x356001 (x356002 ++ [(⟨bt366.1, (⟨bt366.2.1, bt366.2.2.1, bt366.2.2.2.1, bt366.2.2.2.2.1, bt366.2.2.2.2.2.1⟩ : S43), bt366.2.2.2.2.2.2.1⟩ : S45)])) else (none)))) else (if x344002.length < 3518437208883 then (impl_ReadPatch.l0 k x0 x9 x340000 x340001 x344000 x344001 (x344002 ++ [(⟨x356000, x356001, x356002⟩ : S40)])) else (none))
end
def impl_ReadPatch.f (k : Nat) (a0 : ByteArray) : Option (Int × Int × (List (S40)) × Bool) := (strings_Split.f a0 (⟨#[32]⟩ : ByteArray)).bind fun t334 => ((impl_newTaker.f).bind fun bt337 => ((impl_taker_take.f bt337.1 bt337.2 t334).bind fun bt340 => ((impl_taker_take.f bt340.2.1 bt340.2.2 t334).bind fun bt344 => (impl_ReadPatch.l0 k a0 t334 bt344.2.1 bt344.2.2 bt340.1 bt344.1 ([] : List (S40))))))
theorem impl_ReadPatch.mono_l : ∀ k, (∀ y0 y1 y2 y3 y4 y5 y6, LeO (impl_ReadPatch.l0 k y0 y1 y2 y3 y4 y5 y6) (impl_ReadPatch.l0 (k + 1) y0 y1 y2 y3 y4 y5 y6)) ∧ (∀ y0 y1 y2 y3 y4 y5 y6 y7, LeO (impl_ReadPatch.j1 k y0 y1 y2 y3 y4 y5 y6 y7) (impl_ReadPatch.j1 (k + 1) y0 y1 y2 y3 y4 y5 y6 y7)) ∧ (∀ y0 y1 y2 y3 y4 y5 y6 y7 y8 y9, LeO (impl_ReadPatch.j2 k y0 y1 y2 y3 y4 y5 y6 y7 y8 y9) (impl_ReadPatch.j2 (k + 1) y0 y1 y2 y3 y4 y5 y6 y7 y8 y9)) ∧ (∀ y0 y1 y2 y3 y4 y5 y6 y7 y8 y9 y10, LeO (impl_ReadPatch.l1 k y0 y1 y2 y3 y4 y5 y6 y7 y8 y9 y10) (impl_ReadPatch.l1 (k + 1) y0 y1 y2 y3 y4 y5 y6 y7 y8 y9 y10))
 | 0 => ⟨fun _ _ _ _ _ _ _ r h => by simp [impl_ReadPatch.l0] at h, fun _ _ _ _ _ _ _ _ r h => by simp [impl_ReadPatch.j1] at h, fun _ _ _ _ _ _ _ _ _ _ r h => by simp [impl_ReadPatch.j2] at h, fun _ _ _ _ _ _ _ _ _ _ _ r h => by simp [impl_ReadPatch.l1] at h⟩
 | k + 1 => by
  obtain ⟨ih0, ih1, ih2, ih3⟩ := impl_ReadPatch.mono_l k
  refine ⟨?_, ?_, ?_, ?_⟩
  ·intro y0 y1 y2 y3 y4 y5 y6
   unfold impl_ReadPatch.l0
   repeat' first
   | (with_reducible exact ih0 _ _ _ _ _ _ _)
   | (with_reducible exact ih1 _ _ _ _ _ _ _ _)
   | (with_reducible exact ih2 _ _ _ _ _ _ _ _ _ _)
   | (with_reducible exact ih3 _ _ _ _ _ _ _ _ _ _ _)
   | (with_reducible exact impl_ShowPatch.mono _ _ _ _)
   | (with_reducible exact LeO.refl _)
   | (with_reducible exact LeO.none _)
   | (with_reducible refine LeO.ite ?_ ?_)
   | (with_reducible refine LeO.bind ?_ (fun _ => ?_))
   | exact ih0 _ _ _ _ _ _ _
   | exact ih1 _ _ _ _ _ _ _ _
   | exact ih2 _ _ _ _ _ _ _ _ _ _
   | exact ih3 _ _ _ _ _ _ _ _ _ _ _
   | exact impl_ShowPatch.mono _ _ _ _
   | exact LeO.none _
   | refine LeO.ite ?_ ?_
   | refine LeO.bind ?_ (fun _ => ?_)
  ·intro y0 y1 y2 y3 y4 y5 y6 y7
   unfold impl_ReadPatch.j1
   repeat' first
   | (with_reducible exact ih0 _ _ _ _ _ _ _)
   | (with_reducible exact ih1 _ _ _ _ _ _ _ _)
   | (with_reducible exact ih2 _ _ _ _ _ _ _ _ _ _)
   | (with_reducible exact ih3 _ _ _ _ _ _ _ _ _ _ _)
   | (with_reducible exact impl_ShowPatch.mono _ _ _ _)
   | (with_reducible exact LeO.refl _)
   | (with_reducible exact LeO.none _)
   | (with_reducible refine LeO.ite ?_ ?_)
   | (with_reducible refine LeO.bind ?_ (fun _ => ?_))
   | exact ih0 _ _ _ _ _ _ _
   | exact ih1 _ _ _ _ _ _ _ _
   | exact ih2 _ _ _ _ _ _ _ _ _ _
   | exact ih3 _ _ _ _ _ _ _ _ _ _ _
   | exact impl_ShowPatch.mono _ _ _ _
   | exact LeO.none _
   | refine LeO.ite ?_ ?_
   | refine LeO.bind ?_ (fun _ => ?_)
  ·intro y0 y1 y2 y3 y4 y5 y6 y7 y8 y9
   unfold impl_ReadPatch.j2
   repeat' first
   | (with_reducible exact ih0 _ _ _ _ _ _ _)
   | (with_reducible exact ih1 _ _ _ _ _ _ _ _)
   | (with_reducible exact ih2 _ _ _ _ _ _ _ _ _ _)
   | (with_reducible exact ih3 _ _ _ _ _ _ _ _ _ _ _)
   | (with_reducible exact impl_ShowPatch.mono _ _ _ _)
   | (with_reducible exact LeO.refl _)
   | (with_reducible exact LeO.none _)
   | (with_reducible refine LeO.ite ?_ ?_)
   | (with_reducible refine LeO.bind ?_ (fun _ => ?_))
   | exact ih0 _ _ _ _ _ _ _
   | exact ih1 _ _ _ _ _ _ _ _
   | exact ih2 _ _ _ _ _ _ _ _ _ _
   | exact ih3 _ _ _ _ _ _ _ _ _ _ _
   | exact impl_ShowPatch.mono _ _ _ _
   | exact LeO.none _
   | refine LeO.ite ?_ ?_
   | refine LeO.bind ?_ (fun _ => ?_)
  ·intro y0 y1 y2 y3 y4 y5 y6 y7 y8 y9 y10
   unfold impl_ReadPatch.l1
   repeat' first
   | (with_reducible exact ih0 _ _ _ _ _ _ _)
   | (with_reducible exact ih1 _ _ _ _ _ _ _ _)
   | (with_reducible exact ih2 _ _ _ _ _ _ _ _ _ _)
   | (with_reducible exact ih3 _ _ _ _ _ _ _ _ _ _ _)
   | (with_reducible exact impl_ShowPatch.mono _ _ _ _)
   | (with_reducible exact LeO.refl _)
   | (with_reducible exact LeO.none _)
   | (with_reducible refine LeO.ite ?_ ?_)
   | (with_reducible refine LeO.bind ?_ (fun _ => ?_))
   | exact ih0 _ _ _ _ _ _ _
   | exact ih1 _ _ _ _ _ _ _ _
   | exact ih2 _ _ _ _ _ _ _ _ _ _
   | exact ih3 _ _ _ _ _ _ _ _ _ _ _
   | exact impl_ShowPatch.mono _ _ _ _
   | exact LeO.none _
   | refine LeO.ite ?_ ?_
   | refine LeO.bind ?_ (fun _ => ?_)
theorem impl_ReadPatch.mono : ∀ a0 k, LeO (impl_ReadPatch.f k a0) (impl_ReadPatch.f (k + 1) a0) := by
 intro a0 k
 obtain ⟨ih0, ih1, ih2, ih3⟩ := impl_ReadPatch.mono_l k
 unfold impl_ReadPatch.f
 repeat' first
   | (with_reducible exact ih0 _ _ _ _ _ _ _)
   | (with_reducible exact ih1 _ _ _ _ _ _ _ _)
   | (with_reducible exact ih2 _ _ _ _ _ _ _ _ _ _)
   | (with_reducible exact ih3 _ _ _ _ _ _ _ _ _ _ _)
   | (with_reducible exact impl_ShowPatch.mono _ _ _ _)
   | (with_reducible exact LeO.refl _)
   | (with_reducible exact LeO.none _)
   | (with_reducible refine LeO.ite ?_ ?_)
   | (with_reducible refine LeO.bind ?_ (fun _ => ?_))
   | exact ih0 _ _ _ _ _ _ _
   | exact ih1 _ _ _ _ _ _ _ _
   | exact ih2 _ _ _ _ _ _ _ _ _ _
   | exact ih3 _ _ _ _ _ _ _ _ _ _ _
   | exact impl_ShowPatch.mono _ _ _ _
   | exact LeO.none _
   | refine LeO.ite ?_ ?_
   | refine LeO.bind ?_ (fun _ => ?_)
def impl_ReadPatch.T11 : Bool × List (List Nat × List Nat) := (true, [([], []), ([0], [0]), ([], []), ([2], [2]), ([3], [3]), ([1, 4, 3], [1, 4]), ([0, 1, 2, 3, 4, 5], []), ([6, 5, 5, 0, 1, 2, 3, 4, 5], [5, 6])])
def impl_ReadPatch.B11 : List Nat := [0, 1, 0, 4, 12, 31, 63, 127]
theorem impl_ReadPatch.tab11 : rtab .any (opsOf Tryd.f11 11) = impl_ReadPatch.T11 := by kernel_rfl
theorem impl_ReadPatch.bits11 : waitsOk impl_ReadPatch.T11.2 impl_ReadPatch.B11 = true := by kernel_rfl
set_option maxHeartbeats 8000000 in
set_option maxRecDepth 100000 in
theorem impl_ReadPatch.calls (k : Nat) (a0 : ByteArray) (r1 : Int) (r2 : Int) (r3 : List (S40)) (r4 : Bool) (w : World) (h : impl_ReadPatch.f k a0 = some (r1, r2, r3, r4)) (hT : TB w) :
  Calls Tryd.prog 11 #[.string a0] w fun e w' => ∃ v2_ : Value, e = .returned (.tuple #[.agg #[.int .i64 r1, .int .i64 r2, v2_], .bool r4]) ∧ Kd.S k40 40 w' w.heap.size (fun _ => True) v2_ r3 ∧ Below w.heap.size w w' := by
 have HT := am hT
 clear hT
 have hu29 := Tryd.underlying29
 have hu61 := Tryd.underlying61
 have hu40 := Tryd.underlying40
 have HB := am (Below.refl w.heap.size w)
 have H : ((strings_Split.f a0 (⟨#[32]⟩ : ByteArray)).bind fun t334 => ((impl_newTaker.f).bind fun bt337 => ((impl_taker_take.f bt337.1 bt337.2 t334).bind fun bt340 => ((impl_taker_take.f bt340.2.1 bt340.2.2 t334).bind fun bt344 => (impl_ReadPatch.l0 k a0 t334 bt344.2.1 bt344.2.2 bt340.1 bt344.1 ([] : List (S40))))))) = some (r1, r2, r3, r4) := h
 clear h
 replace H := Option.bind_eq_some_iff.mp H
 obtain ⟨t334, A20, H⟩ := H
 replace H : ((impl_newTaker.f).bind fun bt337 => ((impl_taker_take.f bt337.1 bt337.2 t334).bind fun bt340 => ((impl_taker_take.f bt340.2.1 bt340.2.2 t334).bind fun bt344 => (impl_ReadPatch.l0 k a0 t334 bt344.2.1 bt344.2.2 bt340.1 bt344.1 ([] : List (S40)))))) = some (r1, r2, r3, r4) := H
 have A2 := am A20
 clear A20
 replace H := Option.bind_eq_some_iff.mp H
 obtain ⟨⟨t337, t338⟩, A30, H⟩ := H
 replace H : ((impl_taker_take.f t337 t338 t334).bind fun bt340 => ((impl_taker_take.f bt340.2.1 bt340.2.2 t334).bind fun bt344 => (impl_ReadPatch.l0 k a0 t334 bt344.2.1 bt344.2.2 bt340.1 bt344.1 ([] : List (S40))))) = some (r1, r2, r3, r4) := H
 have A3 := am A30
 clear A30
 replace H := Option.bind_eq_some_iff.mp H
 obtain ⟨⟨t340, t341, t342⟩, A40, H⟩ := H
 replace H : ((impl_taker_take.f t341 t342 t334).bind fun bt344 => (impl_ReadPatch.l0 k a0 t334 bt344.2.1 bt344.2.2 t340 bt344.1 ([] : List (S40)))) = some (r1, r2, r3, r4) := H
 have A4 := am A40
 clear A40
 replace H := Option.bind_eq_some_iff.mp H
 obtain ⟨⟨t344, t345, t346⟩, A50, H⟩ := H
 replace H : (impl_ReadPatch.l0 k a0 t334 t345 t346 t340 t344 ([] : List (S40))) = some (r1, r2, r3, r4) := H
 have A5 := am A50
 clear A50
 have H' := am H
 clear H
 go_enter Tryd.func11, Tryd.ntmps11
 go_wp2_with (first | ((with_reducible refine gate_dst (N := 2) rfl ?_); refine box_event ?hg (N := 2) ?hd (cs := #[.int .i64 0, .int .i64 0, .slice none 0 0]) (t := 29) ?hr ?_; (case hd => rfl); (case hg => rfl); (case hr => first | (go_simp; done) | (go_simp; rfl)); intro gb333 hg w6 hbox hb; have n0_ := am (below_step (rb HB) hb); have n1_ := am (hbox); have n2_ := am ((by rw [hg]; exact (below_size (rb HB)) : w.heap.size ≤ gb333)); have n3_ := am ((by rw [hg]; exact (below_size (rb HB)) : w.heap.size ≤ gb333)); clear HB; have HB := n0_; have BK333 := n1_; have GW333 := n2_; have GE333 := n3_; clear n0_ n1_ n2_ n3_; clear hb hbox hg) | ((with_reducible refine gate_callee (f := 24) rfl ?_); refine gl_ (some 9) Tryd.func24 #[.string a0, .string (⟨#[32]⟩ : ByteArray)] ?_; (with_reducible refine (strings_Split.calls a0 (⟨#[32]⟩ : ByteArray) t334 _ A2.out ?sideT).mono ?_); (case sideT => exact TB.below HT.out (rb1 HB GE333)); rintro e w7 ⟨v335, rfl, ho0, hb⟩; refine ⟨_, rfl, ?_⟩; have n0_ := am (Kd.R_lower ho0 (below_size (rb1 HB GE333))); have n1_ := am (blk_below (g := gb333) (o := .cells #[.int .i64 0, .int .i64 0, .slice none 0 0] 29 (0, 0)) (rk BK333) hb); have n2_ := am (below_step (rb1 HB GE333) hb); clear BK333; clear HB; have HO336 := n0_; have BK333 := n1_; have HB := n2_; clear n0_ n1_ n2_; (try clear hb); (try clear hb2); (try clear hk); (try clear hi); (try clear ho0); obtain ⟨Ao9, co9, eo_⟩ := Kd.R_slice HO336.out; subst eo_) | ((with_reducible refine gate_dst (N := 11) rfl ?_); refine box_event ?hg (N := 11) ?hd (cs := #[.slice Ao9 t334.length co9, .bool false]) (t := 61) ?hr ?_; (case hd => rfl); (case hg => rfl); (case hr => first | (go_simp; done) | (go_simp; rfl)); intro g339 hg_ w8 hbox hb2; have e0_ : t337 = 0 := (congrArg Prod.fst (Option.some.inj A3.out)).symm; have e1_ : t338 = false := (congrArg Prod.snd (Option.some.inj A3.out)).symm; have hi : IsS61 (.slice Ao9 t334.length co9) w w8 g339 t337 t338 := (by rw [e0_, e1_]; exact ⟨by rw [cwV_zero]; exact hbox, by rw [hg_]; exact below_size (rb1 HB GE333)⟩); have hb := below_step (rb1 HB GE333) hb2; clear hbox hg_ e0_ e1_; have n0_ := am (Kd.R_below (rr HO336) hb2); have n1_ := am (blk_below (g := gb333) (o := .cells #[.int .i64 0, .int .i64 0, .slice none 0 0] 29 (0, 0)) (rk BK333) hb2); have n2_ := am (hb); have n3_ := am (hi); have n4_ := am (IsS61.ne_blk hi (blk_below (g := gb333) (o := .cells #[.int .i64 0, .int .i64 0, .slice none 0 0] 29 (0, 0)) (rk BK333) hb2) (by decide)); have n5_ := am (Ne.symm (IsS61.ne_blk hi (blk_below (g := gb333) (o := .cells #[.int .i64 0, .int .i64 0, .slice none 0 0] 29 (0, 0)) (rk BK333) hb2) (by decide))); clear HO336; clear BK333; clear HB; have HO336 := n0_; have BK333 := n1_; have HB := n2_; have HI339 := n3_; have NB339_333 := n4_; have NB333_339 := n5_; clear n0_ n1_ n2_ n3_ n4_ n5_; (try clear hb); (try clear hb2); (try clear hk); (try clear hi)) | ((with_reducible refine gate_callee (f := 25) rfl ?_); refine gl_ (some 13) Tryd.func25 #[.pointer (some ⟨g339, 0, none⟩)] ?_; (with_reducible refine (impl_taker_take.calls g339 t337 t338 Ao9 co9 t334 t340 t341 t342 w _ ?side1 ?side2 ?side3 ?side4 ?side5 A4.out ?sideT).mono ?_); (case sideT => exact HT.out); (case side1 => repeat (first | (with_reducible first | exact HI339.out | apply IsS61.alloc | apply IsS61.drewN | apply IsS61.drew | apply IsS61.set_0 | apply IsS61.set_1 | refine IsS61.far ?_ NB339_333.out _) | exact HI339.out)); (case side2 => repeat (first | (with_reducible first | exact HB.out | apply b1 | apply b2 | apply b3 | refine below_set ?_ (IsS61.ge HI339.out) | refine below_set ?_ GE333.out) | exact HB.out)); (case side3 => repeat (first | exact (Kd.R_reads' HO336.out).2.2 | (with_reducible refine Kd.C_alloc ?_ _) | (with_reducible refine Kd.C_drewN ?_ _) | (with_reducible refine Kd.C_drew ?_))); (case side4 => exact (Kd.R_reads' HO336.out).2.1); (case side5 => exact far_slice (IsS61.own_ne HI339.out HO336.out (by decide))); rintro e w10 ⟨rfl, hi, hb, hk⟩; refine ⟨_, rfl, ?_⟩; have n0_ := am (KeepBut.blk hk (g' := gb333) (o := .cells #[.int .i64 0, .int .i64 0, .slice none 0 0] 29 (0, 0)) (rk BK333) NB333_339.out (by simp)); have n1_ := am (Kd.R_mono (Kd.R_keep (IsS61.apart (show IsS61 (.slice Ao9 t334.length co9) w _ g339 t337 t338 from by repeat (first | (with_reducible first | exact HI339.out | apply IsS61.alloc | apply IsS61.drewN | apply IsS61.drew | apply IsS61.set_0 | apply IsS61.set_1 | refine IsS61.far ?_ NB339_333.out _) | exact HI339.out)) (rr HO336) (by decide)) hk (fun _ h => h.2)) (fun _ h => h.1)); have n2_ := am (hb); have n3_ := am (hi); clear BK333; clear HO336; clear HB; clear HI339; have BK333 := n0_; have HO336 := n1_; have HB := n2_; have HI339 := n3_; clear n0_ n1_ n2_ n3_; (try clear hb); (try clear hb2); (try clear hk); (try clear hi)) | ((with_reducible refine gate_dst (N := 5) rfl ?_); refine box_event ?hg (N := 5) ?hd (cs := #[.int .i64 0, .int .i64 0, .slice none 0 0]) (t := 29) ?hr ?_; (case hd => rfl); (case hg => rfl); (case hr => first | (go_simp; done) | (go_simp; rfl)); intro gb343 hg w11 hbox hb; have n0_ := am (Kd.R_below (rr HO336) hb); have n1_ := am (blk_below (g := gb333) (o := .cells #[.int .i64 0, .int .i64 0, .slice none 0 0] 29 (0, 0)) (rk BK333) hb); have n2_ := am (IsS61.below (by repeat (first | (with_reducible first | exact HI339.out | apply IsS61.alloc | apply IsS61.drewN | apply IsS61.drew | apply IsS61.set_0 | apply IsS61.set_1 | refine IsS61.far ?_ NB339_333.out _) | exact HI339.out)) hb); have n3_ := am (below_step (by repeat (first | (with_reducible first | exact HB.out | apply b1 | apply b2 | apply b3 | refine below_set ?_ (IsS61.ge HI339.out) | refine below_set ?_ GE333.out) | exact HB.out)) hb); have n4_ := am (hbox); have n5_ := am ((by rw [hg]; exact (below_size (by repeat (first | (with_reducible first | exact HB.out | apply b1 | apply b2 | apply b3 | refine below_set ?_ (IsS61.ge HI339.out) | refine below_set ?_ GE333.out) | exact HB.out))) : w.heap.size ≤ gb343)); have n6_ := am ((by rw [hg]; exact (below_size (by repeat (first | (with_reducible first | exact HB.out | apply b1 | apply b2 | apply b3 | refine below_set ?_ (IsS61.ge HI339.out) | refine below_set ?_ GE333.out) | exact HB.out))) : w.heap.size ≤ gb343)); have n7_ := am ((by rw [hg]; exact Nat.ne_of_lt (blk_lt (g := gb333) (o := .cells #[.int .i64 0, .int .i64 0, .slice none 0 0] 29 (0, 0)) (rk BK333)) : gb333 ≠ gb343)); have n8_ := am ((by rw [hg]; exact Nat.ne_of_gt (blk_lt (g := gb333) (o := .cells #[.int .i64 0, .int .i64 0, .slice none 0 0] 29 (0, 0)) (rk BK333)) : gb343 ≠ gb333)); have n9_ := am ((by rw [hg]; exact Nat.ne_of_lt (IsS61.lt (show IsS61 (.slice Ao9 t334.length co9) w _ g339 t341 t342 from by repeat (first | (with_reducible first | exact HI339.out | apply IsS61.alloc | apply IsS61.drewN | apply IsS61.drew | apply IsS61.set_0 | apply IsS61.set_1 | refine IsS61.far ?_ NB339_333.out _) | exact HI339.out))) : g339 ≠ gb343)); have n10_ := am ((by rw [hg]; exact Nat.ne_of_gt (IsS61.lt (show IsS61 (.slice Ao9 t334.length co9) w _ g339 t341 t342 from by repeat (first | (with_reducible first | exact HI339.out | apply IsS61.alloc | apply IsS61.drewN | apply IsS61.drew | apply IsS61.set_0 | apply IsS61.set_1 | refine IsS61.far ?_ NB339_333.out _) | exact HI339.out))) : gb343 ≠ g339)); clear HO336; clear BK333; clear HI339; clear HB; have HO336 := n0_; have BK333 := n1_; have HI339 := n2_; have HB := n3_; have BK343 := n4_; have GW343 := n5_; have GE343 := n6_; have NB333_343 := n7_; have NB343_333 := n8_; have NB339_343 := n9_; have NB343_339 := n10_; clear n0_ n1_ n2_ n3_ n4_ n5_ n6_ n7_ n8_ n9_ n10_; clear hb hbox hg; have hnb12 := NB343_333.out; have hnc12 := NB333_343.out; have hnb13 := NB343_339.out; have hnc13 := NB339_343.out; have hcz14_0 : w11.cell? ⟨gb343, 0, none⟩ = some (.int .i64 0) := (blk_cell BK343.out 0).trans rfl; have hcz14_1 : w11.cell? ⟨gb343, 1, none⟩ = some (.int .i64 0) := (blk_cell BK343.out 1).trans rfl; have hcz14_2 : w11.cell? ⟨gb343, 2, none⟩ = some (.slice none 0 0) := (blk_cell BK343.out 2).trans rfl; have hfz14_0 := blk_frozen BK343.out 0; have hfz14_1 := blk_frozen BK343.out 1; have hfz14_2 := blk_frozen BK343.out 2) | ((with_reducible refine gate_callee (f := 25) rfl ?_); refine gl_ (some 16) Tryd.func25 #[.pointer (some ⟨g339, 0, none⟩)] ?_; (with_reducible refine (impl_taker_take.calls g339 t341 t342 Ao9 co9 t334 t344 t345 t346 w _ ?side1 ?side2 ?side3 ?side4 ?side5 A5.out ?sideT).mono ?_); (case sideT => exact HT.out); (case side1 => repeat (first | (with_reducible first | exact HI339.out | apply IsS61.alloc | apply IsS61.drewN | apply IsS61.drew | apply IsS61.set_0 | apply IsS61.set_1 | refine IsS61.far ?_ NB339_333.out _ | refine IsS61.far ?_ NB339_343.out _) | exact HI339.out)); (case side2 => repeat (first | (with_reducible first | exact HB.out | apply b1 | apply b2 | apply b3 | refine below_set ?_ (IsS61.ge HI339.out) | refine below_set ?_ GE333.out | refine below_set ?_ GE343.out) | exact HB.out)); (case side3 => refine (Kd.R_reads' (e := 9) (base := w.heap.size) (ok := fun k_ => True) (n := t334.length) (c := co9) ?_).2.2; exact (by (with_reducible repeat (first | apply r1 | apply r2 | apply r3)); exact (Kd.R_mono (Kd.R_far (p := ⟨gb343, 2, none⟩) (Kd.R_far (p := ⟨gb343, 1, none⟩) (Kd.R_far (p := ⟨gb343, 0, none⟩) (Kd.R_types HO336.out BK343.out (by decide)) (fun _ hk => hk.2) (.int .i64 t340)) (fun _ hk => hk.2) (.int .i64 0)) (fun _ hk => hk.2) (.slice none 0 0)) (fun _ h_ => h_.1)))); (case side4 => exact (Kd.R_reads' HO336.out).2.1); (case side5 => exact far_slice (IsS61.own_ne HI339.out HO336.out (by decide))); rintro e w15 ⟨rfl, hi, hb, hk⟩; refine ⟨_, rfl, ?_⟩; have n0_ := am (KeepBut.blk hk (g' := gb333) (o := .cells #[.int .i64 0, .int .i64 0, .slice none 0 0] 29 (0, 0)) (by (with_reducible repeat (first | apply k1 | apply k2 | apply k3)); refine blk_far ?_ NB333_343.out _; (with_reducible repeat (first | apply k1 | apply k2 | apply k3)); refine blk_far ?_ NB333_343.out _; (with_reducible repeat (first | apply k1 | apply k2 | apply k3)); refine blk_far ?_ NB333_343.out _; (with_reducible repeat (first | apply k1 | apply k2 | apply k3)); exact BK333.out) NB333_339.out (by simp)); have n1_ := am (Kd.R_mono (Kd.R_keep (IsS61.apart (show IsS61 (.slice Ao9 t334.length co9) w _ g339 t341 t342 from by repeat (first | (with_reducible first | exact HI339.out | apply IsS61.alloc | apply IsS61.drewN | apply IsS61.drew | apply IsS61.set_0 | apply IsS61.set_1 | refine IsS61.far ?_ NB339_333.out _ | refine IsS61.far ?_ NB339_343.out _) | exact HI339.out)) (by (with_reducible repeat (first | apply r1 | apply r2 | apply r3)); exact (Kd.R_mono (Kd.R_far (p := ⟨gb343, 2, none⟩) (Kd.R_far (p := ⟨gb343, 1, none⟩) (Kd.R_far (p := ⟨gb343, 0, none⟩) (Kd.R_types HO336.out BK343.out (by decide)) (fun _ hk => hk.2) (.int .i64 t340)) (fun _ hk => hk.2) (.int .i64 0)) (fun _ hk => hk.2) (.slice none 0 0)) (fun _ h_ => h_.1))) (by decide)) hk (fun _ h => h.2)) (fun _ h => h.1)); have n2_ := am (KeepBut.blk hk (g' := gb343) (o := .cells #[.int .i64 t340, .int .i64 0, .slice none 0 0] 29 (0, 0)) (by (with_reducible repeat (first | apply k1 | apply k2 | apply k3)); refine blk_put (cs := #[.int .i64 t340, .int .i64 0, .slice none 0 0]) ?_ 2 _ rfl; (with_reducible repeat (first | apply k1 | apply k2 | apply k3)); refine blk_put (cs := #[.int .i64 t340, .int .i64 0, .slice none 0 0]) ?_ 1 _ rfl; (with_reducible repeat (first | apply k1 | apply k2 | apply k3)); refine blk_put (cs := #[.int .i64 0, .int .i64 0, .slice none 0 0]) ?_ 0 _ rfl; (with_reducible repeat (first | apply k1 | apply k2 | apply k3)); exact BK343.out) NB343_339.out (by simp)); have n3_ := am (hb); have n4_ := am (hi); clear BK333; clear HO336; clear BK343; clear HB; clear HI339; have BK333 := n0_; have HO336 := n1_; have BK343 := n2_; have HB := n3_; have HI339 := n4_; clear n0_ n1_ n2_ n3_ n4_; (try clear hb); (try clear hb2); (try clear hk); (try clear hi); have hcz16_0 : w15.cell? ⟨gb343, 0, none⟩ = some (.int .i64 t340) := (blk_cell BK343.out 0).trans rfl; have hcz16_1 : w15.cell? ⟨gb343, 1, none⟩ = some (.int .i64 0) := (blk_cell BK343.out 1).trans rfl; have hcz16_2 : w15.cell? ⟨gb343, 2, none⟩ = some (.slice none 0 0) := (blk_cell BK343.out 2).trans rfl; have hfz16_0 := blk_frozen BK343.out 0; have hfz16_1 := blk_frozen BK343.out 1; have hfz16_2 := blk_frozen BK343.out 2))
 go_loopg [] k (fun kq w' => ∃ (x340000_1 : Int) (x340001_1 : Bool) (x344002_1 : List (S40)) (u344002 : Value), Aside0 (impl_ReadPatch.l0 kq a0 t334 x340000_1 x340001_1 t340 t344 x344002_1 = some (r1, r2, r3, r4)) ∧ Aside0 (kq ≤ k) ∧ Aside0 (Kd.R Kd.string 9 w' w.heap.size (fun _ => True) (.slice Ao9 t334.length co9) t334) ∧ Aside0 (Kd.S k40 40 w' w.heap.size (fun _ => True) u344002 x344002_1) ∧ Aside0 (w'.heap[gb333]? = some (.cells #[.int .i64 0, .int .i64 0, (.slice none 0 0)] 29 (0, 0))) ∧ Aside0 (w'.heap[gb343]? = some (.cells #[.int .i64 t340, .int .i64 t344, u344002] 29 (0, 0))) ∧ Aside0 (IsS61 (.slice Ao9 t334.length co9) w w' g339 x340000_1 x340001_1) ∧ Aside0 (Below w.heap.size w w'))
 case atStart => exact ⟨(t345), (t346), (([] : List (S40))), (.slice none 0 0), H', ⟨Nat.le_refl _⟩, ⟨by (with_reducible repeat (first | apply r1 | apply r2 | apply r3)); exact Kd.R_mono (Kd.R_far (p := ⟨gb343, 1, none⟩) (Kd.R_types HO336.out BK343.out (by decide)) (fun _ hk => hk.2) (.int .i64 t344)) (fun _ hk => trivial)⟩, ⟨by first | exact Kd.S_nil _ _ _ _ _ | exact Kd.N_nil _ _ _ _ _ | exact Kd.V_nil _ _ _ _ _ | exact Kd.Q_nil _ _ _ _ _ | exact Kd.R_nil _ _ _ _ _⟩, ⟨by (with_reducible repeat (first | apply k1 | apply k2 | apply k3)); refine blk_far ?_ NB333_343.out _; (with_reducible repeat (first | apply k1 | apply k2 | apply k3)); exact BK333.out⟩, ⟨by (with_reducible repeat (first | apply k1 | apply k2 | apply k3)); refine blk_put (cs := #[.int .i64 t340, .int .i64 0, .slice none 0 0]) ?_ 1 _ rfl; (with_reducible repeat (first | apply k1 | apply k2 | apply k3)); exact BK343.out⟩, ⟨by repeat (first | (with_reducible first | exact HI339.out | apply IsS61.alloc | apply IsS61.drewN | apply IsS61.drew | apply IsS61.set_0 | apply IsS61.set_1 | refine IsS61.far ?_ NB339_333.out _ | refine IsS61.far ?_ NB339_343.out _) | exact HI339.out)⟩, ⟨by repeat (first | (with_reducible first | exact HB.out | apply b1 | apply b2 | apply b3 | refine below_set ?_ (IsS61.ge HI339.out) | refine below_set ?_ GE333.out | refine below_set ?_ GE343.out) | exact HB.out)⟩⟩
 case round =>
  clear H'
  try clear c1
  try clear c2
  try clear p2
  try clear c11
  try clear c12
  try clear c13
  try clear hcz14_0
  try clear hcz14_1
  try clear hcz14_2
  try clear hcz16_0
  try clear hcz16_1
  try clear hcz16_2
  try clear hfz14_0
  try clear hfz14_1
  try clear hfz14_2
  try clear hfz16_0
  try clear hfz16_1
  try clear hfz16_2
  obtain ⟨x340000_1, x340001_1, x344002_1, u344002, HA, HK1, HO_9, HO_344002, BK333, BK343, HI339, HB⟩ := hrel
  cases gk with
  | zero => exact absurd HA.out (by simp [impl_ReadPatch.l0])
  | succ k1 =>
   have H := HA.out
   clear HA
   simp only [impl_ReadPatch.l0] at H
   have HC17 := am H
   clear H
   go_upto_region 4 with (fail)
   go_cut [30] (fun v30 wc => ∃ (kq : Nat) (x30_16 : Bool), v30 = .bool x30_16 ∧ Aside0 (impl_ReadPatch.j1 kq a0 t334 x30_16 x340000_1 x340001_1 t340 t344 x344002_1 = some (r1, r2, r3, r4)) ∧ Aside0 (kq ≤ k1) ∧ Aside0 (Kd.R Kd.string 9 wc w.heap.size (fun _ => True) (.slice Ao9 t334.length co9) t334) ∧ Aside0 (Kd.S k40 40 wc w.heap.size (fun _ => True) u344002 x344002_1) ∧ Aside0 (wc.heap[gb333]? = some (.cells #[.int .i64 0, .int .i64 0, (.slice none 0 0)] 29 (0, 0))) ∧ Aside0 (wc.heap[gb343]? = some (.cells #[.int .i64 t340, .int .i64 t344, u344002] 29 (0, 0))) ∧ Aside0 (IsS61 (.slice Ao9 t334.length co9) w wc g339 x340000_1 x340001_1) ∧ Aside0 (Below w.heap.size w wc))
   case first =>
    have H := HC17.out
    clear HC17
    by_cases c18 : 0 ≤ x340000_1
    ·rw [if_pos c18] at H
     have c18b0 := eq_true c18
     have c18b1 : decide (0 ≤ x340000_1) = true := decide_eq_true c18
     clear c18
     by_cases c19 : x340000_1 ≤ (t334.length : Int)
     ·rw [if_pos c19] at H
      have c19b0 := eq_true c19
      have c19b1 : decide (x340000_1 ≤ (t334.length : Int)) = true := decide_eq_true c19
      clear c19
      obtain ⟨y347, hy347⟩ : ∃ y_ : List ByteArray, y_ = (t334.drop (x340000_1 : Int).toNat) := ⟨_, rfl⟩
      replace H : (if (y347.length : Int) > 0 then (impl_ReadPatch.j1 k1 a0 t334 (!x340001_1) x340000_1 x340001_1 t340 t344 x344002_1) else (impl_ReadPatch.j1 k1 a0 t334 false x340000_1 x340001_1 t340 t344 x344002_1)) = some (r1, r2, r3, r4) := by first | (rw [hy347]; with_reducible exact H) | (rw [hy347]; exact H) | exact H
      have Ny347 := am hy347
      clear hy347
      by_cases c20 : (y347.length : Int) > 0
      ·rw [if_pos c20] at H
       have c20b0 : decide (0 < (y347.length : Int)) = true := decide_eq_true c20
       have c20b1 : decide (0 < y347.length) = true := decide_eq_true (by omega)
       clear c20
       (first | rw [c20b0] | rw [c20b1] | (simp only [i64_w, i32_w]; rw [c20b0]) | skip)
       have H' := am H
       clear H
       obtain ⟨HGz21, hgz21⟩ := HI339.out
       have hcz21_0 := cellS61_0 HGz21
       have hcz21_1 := cellS61_1 HGz21
       have hfz21_0 := blk_frozen HGz21 0
       have hfz21_1 := blk_frozen HGz21 1
       clear HGz21 hgz21
       have q22 : (x340000_1 : Int) ≤ ((t334.length : Int) : Int) := dt_
       obtain ⟨i022, hi022, _, hsz22, _⟩ := info_parts info9
       have hroom22 : t334.length ≤ co9 := (Kd.R_reads' HO_9.out).2.1
       have hC22 : Kd.C Kd.string _ Ao9 t334.length t334 := (Kd.R_reads' HO_9.out).2.2
       have q022 : (0 : Int) ≤ (x340000_1 : Int) := dt_
       have hcut22 := cut_from (P := Tryd.prog) 58 9 .i64 Tryd.underlying58 hi022 1 hsz22 Ao9 t334.length co9 x340000_1 q022 q22
       have hr22 := Kd.C_drop (m := (x340000_1 : Int).toNat) (c := co9) hC22 (by omega) hroom22
       obtain ⟨A22, hA22⟩ : ∃ A1, A1 = (if co9 = (x340000_1 : Int).toNat then Ao9 else (Ao9 : Option Addr).map (·.add ((x340000_1 : Int).toNat * 1))) := ⟨_, rfl⟩
       obtain ⟨c22, hc22⟩ : ∃ c1, c1 = co9 - (x340000_1 : Int).toNat := ⟨_, rfl⟩
       have hy22 : y347.length = t334.length - (x340000_1 : Int).toNat := (by rw [Ny347.out, List.length_drop] <;> omega)
       rw [show (t334).drop (x340000_1 : Int).toNat = y347 from Ny347.out.symm] at hr22
       replace hr22 : Kd.C Kd.string _ A22 y347.length y347 := (by rw [hA22]; exact hr22)
       rw [← hy22, ← hA22, ← hc22] at hcut22
       obtain ⟨Aw22, hAw22⟩ : ∃ A', cwV (.slice Ao9 t334.length co9) x340000_1 = .slice A' (t334.length - (x340000_1 : Int).toNat) (co9 - (x340000_1 : Int).toNat) := ⟨_, cwV_slice _ _ _ _⟩
       rw [hAw22, ← hy22] at hcz21_0
       clear hAw22
       have HR350 := am hr22
       have HC350 := am (show y347.length ≤ c22 from by rw [hy22, hc22]; exact Nat.sub_le_sub_right hroom22 _)
       clear hr22 hC22 hroom22 hi022 hsz22 hc22
       have KY22 := am hy22
       have KA22 := am hA22
       clear hy22 hA22
       have KL22 := am (show (x340000_1 : Int).toNat ≤ t334.length from by omega)
       replace q22 := eq_true q22
       go_wp2
       go_meet
       case rel => exact ⟨_, (!x340001_1), (by first | rfl | (simp; done) | (simp [*]; done)), H', ⟨by have := HK1.out; first | omega | exact Nat.le_refl _⟩, ⟨rr HO_9⟩, ⟨rs HO_344002⟩, ⟨rk BK333⟩, ⟨rk BK343⟩, ⟨by repeat (first | (with_reducible first | exact HI339.out | apply IsS61.alloc | apply IsS61.drewN | apply IsS61.drew | apply IsS61.set_0 | apply IsS61.set_1 | refine IsS61.far ?_ NB339_333.out _ | refine IsS61.far ?_ NB339_343.out _) | exact HI339.out)⟩, ⟨by repeat (first | (with_reducible first | exact HB.out | apply b1 | apply b2 | apply b3 | refine below_set ?_ (IsS61.ge HI339.out) | refine below_set ?_ GE333.out | refine below_set ?_ GE343.out) | exact HB.out)⟩⟩
      ·rw [if_neg c20] at H
       have c20b0 : decide (0 < (y347.length : Int)) = false := decide_eq_false c20
       have c20b1 : decide (0 < y347.length) = false := decide_eq_false (by omega)
       clear c20
       (first | rw [c20b0] | rw [c20b1] | (simp only [i64_w, i32_w]; rw [c20b0]) | skip)
       have H' := am H
       clear H
       obtain ⟨HGz23, hgz23⟩ := HI339.out
       have hcz23_0 := cellS61_0 HGz23
       have hcz23_1 := cellS61_1 HGz23
       have hfz23_0 := blk_frozen HGz23 0
       have hfz23_1 := blk_frozen HGz23 1
       clear HGz23 hgz23
       have q24 : (x340000_1 : Int) ≤ ((t334.length : Int) : Int) := dt_
       obtain ⟨i024, hi024, _, hsz24, _⟩ := info_parts info9
       have hroom24 : t334.length ≤ co9 := (Kd.R_reads' HO_9.out).2.1
       have hC24 : Kd.C Kd.string _ Ao9 t334.length t334 := (Kd.R_reads' HO_9.out).2.2
       have q024 : (0 : Int) ≤ (x340000_1 : Int) := dt_
       have hcut24 := cut_from (P := Tryd.prog) 58 9 .i64 Tryd.underlying58 hi024 1 hsz24 Ao9 t334.length co9 x340000_1 q024 q24
       have hr24 := Kd.C_drop (m := (x340000_1 : Int).toNat) (c := co9) hC24 (by omega) hroom24
       obtain ⟨A24, hA24⟩ : ∃ A1, A1 = (if co9 = (x340000_1 : Int).toNat then Ao9 else (Ao9 : Option Addr).map (·.add ((x340000_1 : Int).toNat * 1))) := ⟨_, rfl⟩
       obtain ⟨c24, hc24⟩ : ∃ c1, c1 = co9 - (x340000_1 : Int).toNat := ⟨_, rfl⟩
       have hy24 : y347.length = t334.length - (x340000_1 : Int).toNat := (by rw [Ny347.out, List.length_drop] <;> omega)
       rw [show (t334).drop (x340000_1 : Int).toNat = y347 from Ny347.out.symm] at hr24
       replace hr24 : Kd.C Kd.string _ A24 y347.length y347 := (by rw [hA24]; exact hr24)
       rw [← hy24, ← hA24, ← hc24] at hcut24
       obtain ⟨Aw24, hAw24⟩ : ∃ A', cwV (.slice Ao9 t334.length co9) x340000_1 = .slice A' (t334.length - (x340000_1 : Int).toNat) (co9 - (x340000_1 : Int).toNat) := ⟨_, cwV_slice _ _ _ _⟩
       rw [hAw24, ← hy24] at hcz23_0
       clear hAw24
       have HR350 := am hr24
       have HC350 := am (show y347.length ≤ c24 from by rw [hy24, hc24]; exact Nat.sub_le_sub_right hroom24 _)
       clear hr24 hC24 hroom24 hi024 hsz24 hc24
       have KY24 := am hy24
       have KA24 := am hA24
       clear hy24 hA24
       have KL24 := am (show (x340000_1 : Int).toNat ≤ t334.length from by omega)
       replace q24 := eq_true q24
       go_wp2
       go_meet
       case rel => exact ⟨_, (false), (by first | rfl | (simp; done) | (simp [*]; done)), H', ⟨by have := HK1.out; first | omega | exact Nat.le_refl _⟩, ⟨rr HO_9⟩, ⟨rs HO_344002⟩, ⟨rk BK333⟩, ⟨rk BK343⟩, ⟨by repeat (first | (with_reducible first | exact HI339.out | apply IsS61.alloc | apply IsS61.drewN | apply IsS61.drew | apply IsS61.set_0 | apply IsS61.set_1 | refine IsS61.far ?_ NB339_333.out _ | refine IsS61.far ?_ NB339_343.out _) | exact HI339.out)⟩, ⟨by repeat (first | (with_reducible first | exact HB.out | apply b1 | apply b2 | apply b3 | refine below_set ?_ (IsS61.ge HI339.out) | refine below_set ?_ GE333.out | refine below_set ?_ GE343.out) | exact HB.out)⟩⟩
     ·rw [if_neg c19] at H
      exact absurd H (by simp)
    ·rw [if_neg c18] at H
     exact absurd H (by simp)
   case rest =>
    clear HC17
    try clear c1
    try clear c2
    try clear p2
    try clear q2
    try clear c11
    try clear c12
    try clear c13
    try clear c18
    try clear c18b0
    try clear c18b1
    try clear c19
    try clear c19b0
    try clear c19b1
    try clear c20
    try clear c20b0
    try clear c20b1
    try clear c22
    try clear q22
    try clear c24
    try clear q24
    try clear hcz14_0
    try clear hcz14_1
    try clear hcz14_2
    try clear hcz16_0
    try clear hcz16_1
    try clear hcz16_2
    try clear hcz21_0
    try clear hcz21_1
    try clear hcz23_0
    try clear hcz23_1
    try clear hfz14_0
    try clear hfz14_1
    try clear hfz14_2
    try clear hfz16_0
    try clear hfz16_1
    try clear hfz16_2
    try clear hfz21_0
    try clear hfz21_1
    try clear hfz23_0
    try clear hfz23_1
    try clear p2
    try clear q022
    try clear q024
    try clear q22
    try clear q24
    obtain ⟨kq, x30_16, rfl, HA, HJ16, HO_9, HO_344002, BK333, BK343, HI339, HB⟩ := hcut
    cases kq with
    | zero => exact absurd HA.out (by simp [impl_ReadPatch.j1])
    | succ kj16 =>
     have H := HA.out
     clear HA
     simp only [impl_ReadPatch.j1] at H
     by_cases c25 : x30_16 = true
     ·subst c25
      have H1 : ((impl_taker_take.f x340000_1 x340001_1 t334).bind fun bt352 => ((impl_taker_take.f bt352.2.1 bt352.2.2 t334).bind fun bt356 => ((impl_taker_take.f bt356.2.1 bt356.2.2 t334).bind fun bt359 => (if bt359.2.2 = true then (impl_ReadPatch.j2 kj16 a0 bt359.1 t334 bt359.2.1 true t340 t344 x344002_1 bt352.1 bt356.1) else ((impl_in.f bt359.1 1 60).bind fun t362 => (impl_ReadPatch.j2 kj16 a0 bt359.1 t334 bt359.2.1 (!t362) t340 t344 x344002_1 bt352.1 bt356.1)))))) = some (r1, r2, r3, r4) := by rw [if_pos rfl] at H; exact H
      clear H
      have H := H1
      clear H1
      replace H := Option.bind_eq_some_iff.mp H
      obtain ⟨⟨t352, t353, t354⟩, A260, H⟩ := H
      replace H : ((impl_taker_take.f t353 t354 t334).bind fun bt356 => ((impl_taker_take.f bt356.2.1 bt356.2.2 t334).bind fun bt359 => (if bt359.2.2 = true then (impl_ReadPatch.j2 kj16 a0 bt359.1 t334 bt359.2.1 true t340 t344 x344002_1 t352 bt356.1) else ((impl_in.f bt359.1 1 60).bind fun t362 => (impl_ReadPatch.j2 kj16 a0 bt359.1 t334 bt359.2.1 (!t362) t340 t344 x344002_1 t352 bt356.1))))) = some (r1, r2, r3, r4) := H
      have A26 := am A260
      clear A260
      replace H := Option.bind_eq_some_iff.mp H
      obtain ⟨⟨t356, t357, t358⟩, A270, H⟩ := H
      replace H : ((impl_taker_take.f t357 t358 t334).bind fun bt359 => (if bt359.2.2 = true then (impl_ReadPatch.j2 kj16 a0 bt359.1 t334 bt359.2.1 true t340 t344 x344002_1 t352 t356) else ((impl_in.f bt359.1 1 60).bind fun t362 => (impl_ReadPatch.j2 kj16 a0 bt359.1 t334 bt359.2.1 (!t362) t340 t344 x344002_1 t352 t356)))) = some (r1, r2, r3, r4) := H
      have A27 := am A270
      clear A270
      replace H := Option.bind_eq_some_iff.mp H
      obtain ⟨⟨t359, t360, t361⟩, A280, H⟩ := H
      replace H : (if t361 = true then (impl_ReadPatch.j2 kj16 a0 t359 t334 t360 true t340 t344 x344002_1 t352 t356) else ((impl_in.f t359 1 60).bind fun t362 => (impl_ReadPatch.j2 kj16 a0 t359 t334 t360 (!t362) t340 t344 x344002_1 t352 t356))) = some (r1, r2, r3, r4) := H
      have A28 := am A280
      clear A280
      have HC29 := am H
      clear H
      go_upto_region 8 with (first | ((with_reducible refine gate_callee (f := 25) rfl ?_); refine gl_ (some 32) Tryd.func25 #[.pointer (some ⟨g339, 0, none⟩)] ?_; (with_reducible refine (impl_taker_take.calls g339 x340000_1 x340001_1 Ao9 co9 t334 t352 t353 t354 w _ ?side1 ?side2 ?side3 ?side4 ?side5 A26.out ?sideT).mono ?_); (case sideT => exact HT.out); (case side1 => repeat (first | (with_reducible first | exact HI339.out | apply IsS61.alloc | apply IsS61.drewN | apply IsS61.drew | apply IsS61.set_0 | apply IsS61.set_1 | refine IsS61.far ?_ NB339_333.out _ | refine IsS61.far ?_ NB339_343.out _) | exact HI339.out)); (case side2 => repeat (first | (with_reducible first | exact HB.out | apply b1 | apply b2 | apply b3 | refine below_set ?_ (IsS61.ge HI339.out) | refine below_set ?_ GE333.out | refine below_set ?_ GE343.out) | exact HB.out)); (case side3 => repeat (first | exact (Kd.R_reads' HO_9.out).2.2 | (with_reducible refine Kd.C_alloc ?_ _) | (with_reducible refine Kd.C_drewN ?_ _) | (with_reducible refine Kd.C_drew ?_))); (case side4 => exact (Kd.R_reads' HO_9.out).2.1); (case side5 => exact far_slice (IsS61.own_ne HI339.out HO_9.out (by decide))); rintro e w30 ⟨rfl, hi, hb, hk⟩; refine ⟨_, rfl, ?_⟩; have n0_ := am (Kd.R_mono (Kd.R_keep (IsS61.apart (show IsS61 (.slice Ao9 t334.length co9) w _ g339 x340000_1 x340001_1 from by repeat (first | (with_reducible first | exact HI339.out | apply IsS61.alloc | apply IsS61.drewN | apply IsS61.drew | apply IsS61.set_0 | apply IsS61.set_1 | refine IsS61.far ?_ NB339_333.out _ | refine IsS61.far ?_ NB339_343.out _) | exact HI339.out)) (rr HO_9) (by decide)) hk (fun _ h => h.2)) (fun _ h => h.1)); have n1_ := am (Kd.S_mono (Kd.S_keep (IsS61.apartS (show IsS61 (.slice Ao9 t334.length co9) w _ g339 x340000_1 x340001_1 from by repeat (first | (with_reducible first | exact HI339.out | apply IsS61.alloc | apply IsS61.drewN | apply IsS61.drew | apply IsS61.set_0 | apply IsS61.set_1 | refine IsS61.far ?_ NB339_333.out _ | refine IsS61.far ?_ NB339_343.out _) | exact HI339.out)) (rs HO_344002) (by decide)) hk (fun _ h => h.2)) (fun _ h => h.1)); have n2_ := am (KeepBut.blk hk (g' := gb333) (o := .cells #[.int .i64 0, .int .i64 0, .slice none 0 0] 29 (0, 0)) (rk BK333) NB333_339.out (by simp)); have n3_ := am (KeepBut.blk hk (g' := gb343) (o := .cells #[.int .i64 t340, .int .i64 t344, u344002] 29 (0, 0)) (rk BK343) NB343_339.out (by simp)); have n4_ := am (hb); have n5_ := am (hi); clear HO_9; clear HO_344002; clear BK333; clear BK343; clear HB; clear HI339; have HO_9 := n0_; have HO_344002 := n1_; have BK333 := n2_; have BK343 := n3_; have HB := n4_; have HI339 := n5_; clear n0_ n1_ n2_ n3_ n4_ n5_; (try clear hb); (try clear hb2); (try clear hk); (try clear hi)) | ((with_reducible refine gate_dst (N := 6) rfl ?_); refine box_event ?hg (N := 6) ?hd (cs := #[.int .i64 0, .int .i64 0, .slice none 0 0]) (t := 40) ?hr ?_; (case hd => rfl); (case hg => rfl); (case hr => first | (go_simp; done) | (go_simp; rfl)); intro gb355 hg w31 hbox hb; have n0_ := am (Kd.R_below (rr HO_9) hb); have n1_ := am (Kd.S_below (Kd.S_elderB (rs HO_344002) gb355 (Nat.le_of_eq hg.symm)) hb); have n2_ := am (blk_below (g := gb333) (o := .cells #[.int .i64 0, .int .i64 0, .slice none 0 0] 29 (0, 0)) (rk BK333) hb); have n3_ := am (blk_below (g := gb343) (o := .cells #[.int .i64 t340, .int .i64 t344, u344002] 29 (0, 0)) (rk BK343) hb); have n4_ := am (IsS61.below (by repeat (first | (with_reducible first | exact HI339.out | apply IsS61.alloc | apply IsS61.drewN | apply IsS61.drew | apply IsS61.set_0 | apply IsS61.set_1 | refine IsS61.far ?_ NB339_333.out _ | refine IsS61.far ?_ NB339_343.out _) | exact HI339.out)) hb); have n5_ := am (below_step (by repeat (first | (with_reducible first | exact HB.out | apply b1 | apply b2 | apply b3 | refine below_set ?_ (IsS61.ge HI339.out) | refine below_set ?_ GE333.out | refine below_set ?_ GE343.out) | exact HB.out)) hb); have n6_ := am (hbox); have n7_ := am ((by rw [hg]; exact (below_size (by repeat (first | (with_reducible first | exact HB.out | apply b1 | apply b2 | apply b3 | refine below_set ?_ (IsS61.ge HI339.out) | refine below_set ?_ GE333.out | refine below_set ?_ GE343.out) | exact HB.out))) : w.heap.size ≤ gb355)); have n8_ := am ((by rw [hg]; exact (below_size (by repeat (first | (with_reducible first | exact HB.out | apply b1 | apply b2 | apply b3 | refine below_set ?_ (IsS61.ge HI339.out) | refine below_set ?_ GE333.out | refine below_set ?_ GE343.out) | exact HB.out))) : w.heap.size ≤ gb355)); have n9_ := am ((by rw [hg]; exact Nat.ne_of_lt (blk_lt (g := gb333) (o := .cells #[.int .i64 0, .int .i64 0, .slice none 0 0] 29 (0, 0)) (rk BK333)) : gb333 ≠ gb355)); have n10_ := am ((by rw [hg]; exact Nat.ne_of_gt (blk_lt (g := gb333) (o := .cells #[.int .i64 0, .int .i64 0, .slice none 0 0] 29 (0, 0)) (rk BK333)) : gb355 ≠ gb333)); have n11_ := am ((by rw [hg]; exact Nat.ne_of_lt (blk_lt (g := gb343) (o := .cells #[.int .i64 t340, .int .i64 t344, u344002] 29 (0, 0)) (rk BK343)) : gb343 ≠ gb355)); have n12_ := am ((by rw [hg]; exact Nat.ne_of_gt (blk_lt (g := gb343) (o := .cells #[.int .i64 t340, .int .i64 t344, u344002] 29 (0, 0)) (rk BK343)) : gb355 ≠ gb343)); have n13_ := am ((by rw [hg]; exact Nat.ne_of_lt (IsS61.lt (show IsS61 (.slice Ao9 t334.length co9) w _ g339 t353 t354 from by repeat (first | (with_reducible first | exact HI339.out | apply IsS61.alloc | apply IsS61.drewN | apply IsS61.drew | apply IsS61.set_0 | apply IsS61.set_1 | refine IsS61.far ?_ NB339_333.out _ | refine IsS61.far ?_ NB339_343.out _) | exact HI339.out))) : g339 ≠ gb355)); have n14_ := am ((by rw [hg]; exact Nat.ne_of_gt (IsS61.lt (show IsS61 (.slice Ao9 t334.length co9) w _ g339 t353 t354 from by repeat (first | (with_reducible first | exact HI339.out | apply IsS61.alloc | apply IsS61.drewN | apply IsS61.drew | apply IsS61.set_0 | apply IsS61.set_1 | refine IsS61.far ?_ NB339_333.out _ | refine IsS61.far ?_ NB339_343.out _) | exact HI339.out))) : gb355 ≠ g339)); clear HO_9; clear HO_344002; clear BK333; clear BK343; clear HI339; clear HB; have HO_9 := n0_; have HO_344002 := n1_; have BK333 := n2_; have BK343 := n3_; have HI339 := n4_; have HB := n5_; have BK355 := n6_; have GW355 := n7_; have GE355 := n8_; have NB333_355 := n9_; have NB355_333 := n10_; have NB343_355 := n11_; have NB355_343 := n12_; have NB339_355 := n13_; have NB355_339 := n14_; clear n0_ n1_ n2_ n3_ n4_ n5_ n6_ n7_ n8_ n9_ n10_ n11_ n12_ n13_ n14_; clear hb hbox hg; have hnb32 := NB355_333.out; have hnc32 := NB333_355.out; have hnb33 := NB355_343.out; have hnc33 := NB343_355.out; have hnb34 := NB355_339.out; have hnc34 := NB339_355.out; have hcz35_0 : w31.cell? ⟨gb355, 0, none⟩ = some (.int .i64 0) := (blk_cell BK355.out 0).trans rfl; have hcz35_1 : w31.cell? ⟨gb355, 1, none⟩ = some (.int .i64 0) := (blk_cell BK355.out 1).trans rfl; have hcz35_2 : w31.cell? ⟨gb355, 2, none⟩ = some (.slice none 0 0) := (blk_cell BK355.out 2).trans rfl; have hfz35_0 := blk_frozen BK355.out 0; have hfz35_1 := blk_frozen BK355.out 1; have hfz35_2 := blk_frozen BK355.out 2) | ((with_reducible refine gate_callee (f := 25) rfl ?_); refine gl_ (some 35) Tryd.func25 #[.pointer (some ⟨g339, 0, none⟩)] ?_; (with_reducible refine (impl_taker_take.calls g339 t353 t354 Ao9 co9 t334 t356 t357 t358 w _ ?side1 ?side2 ?side3 ?side4 ?side5 A27.out ?sideT).mono ?_); (case sideT => exact HT.out); (case side1 => repeat (first | (with_reducible first | exact HI339.out | apply IsS61.alloc | apply IsS61.drewN | apply IsS61.drew | apply IsS61.set_0 | apply IsS61.set_1 | refine IsS61.far ?_ NB339_333.out _ | refine IsS61.far ?_ NB339_343.out _ | refine IsS61.far ?_ NB339_355.out _) | exact HI339.out)); (case side2 => repeat (first | (with_reducible first | exact HB.out | apply b1 | apply b2 | apply b3 | refine below_set ?_ (IsS61.ge HI339.out) | refine below_set ?_ GE333.out | refine below_set ?_ GE343.out | refine below_set ?_ GE355.out) | exact HB.out)); (case side3 => refine (Kd.R_reads' (e := 9) (base := w.heap.size) (ok := fun k_ => True) (n := t334.length) (c := co9) ?_).2.2; exact (by (with_reducible repeat (first | apply r1 | apply r2 | apply r3)); exact (Kd.R_mono (Kd.R_far (p := ⟨gb355, 2, none⟩) (Kd.R_far (p := ⟨gb355, 1, none⟩) (Kd.R_far (p := ⟨gb355, 0, none⟩) (Kd.R_types HO_9.out BK355.out (by decide)) (fun _ hk => hk.2) (.int .i64 t352)) (fun _ hk => hk.2) (.int .i64 0)) (fun _ hk => hk.2) (.slice none 0 0)) (fun _ h_ => h_.1)))); (case side4 => exact (Kd.R_reads' HO_9.out).2.1); (case side5 => exact far_slice (IsS61.own_ne HI339.out HO_9.out (by decide))); rintro e w36 ⟨rfl, hi, hb, hk⟩; refine ⟨_, rfl, ?_⟩; have n0_ := am (Kd.R_mono (Kd.R_keep (IsS61.apart (show IsS61 (.slice Ao9 t334.length co9) w _ g339 t353 t354 from by repeat (first | (with_reducible first | exact HI339.out | apply IsS61.alloc | apply IsS61.drewN | apply IsS61.drew | apply IsS61.set_0 | apply IsS61.set_1 | refine IsS61.far ?_ NB339_333.out _ | refine IsS61.far ?_ NB339_343.out _ | refine IsS61.far ?_ NB339_355.out _) | exact HI339.out)) (by (with_reducible repeat (first | apply r1 | apply r2 | apply r3)); exact (Kd.R_mono (Kd.R_far (p := ⟨gb355, 2, none⟩) (Kd.R_far (p := ⟨gb355, 1, none⟩) (Kd.R_far (p := ⟨gb355, 0, none⟩) (Kd.R_types HO_9.out BK355.out (by decide)) (fun _ hk => hk.2) (.int .i64 t352)) (fun _ hk => hk.2) (.int .i64 0)) (fun _ hk => hk.2) (.slice none 0 0)) (fun _ h_ => h_.1))) (by decide)) hk (fun _ h => h.2)) (fun _ h => h.1)); have n1_ := am (Kd.S_mono (Kd.S_keep (IsS61.apartS (show IsS61 (.slice Ao9 t334.length co9) w _ g339 t353 t354 from by repeat (first | (with_reducible first | exact HI339.out | apply IsS61.alloc | apply IsS61.drewN | apply IsS61.drew | apply IsS61.set_0 | apply IsS61.set_1 | refine IsS61.far ?_ NB339_333.out _ | refine IsS61.far ?_ NB339_343.out _ | refine IsS61.far ?_ NB339_355.out _) | exact HI339.out)) (by (with_reducible repeat (first | apply Kd.S_alloc | apply Kd.S_drewN | apply Kd.S_drew)); exact (Kd.S_mono (Kd.S_far (p := ⟨gb355, 2, none⟩) (Kd.S_far (p := ⟨gb355, 1, none⟩) (Kd.S_far (p := ⟨gb355, 0, none⟩) (Kd.S_mono HO_344002.out (fun k_ hk => (⟨hk, hk.2⟩ : _ ∧ k_ ≠ gb355))) (fun _ hk => hk.2) (.int .i64 t352)) (fun _ hk => hk.2) (.int .i64 0)) (fun _ hk => hk.2) (.slice none 0 0)) (fun _ h_ => h_.1))) (by decide)) hk (fun _ h => h.2)) (fun _ h => h.1)); have n2_ := am (KeepBut.blk hk (g' := gb333) (o := .cells #[.int .i64 0, .int .i64 0, .slice none 0 0] 29 (0, 0)) (by (with_reducible repeat (first | apply k1 | apply k2 | apply k3)); refine blk_far ?_ NB333_355.out _; (with_reducible repeat (first | apply k1 | apply k2 | apply k3)); refine blk_far ?_ NB333_355.out _; (with_reducible repeat (first | apply k1 | apply k2 | apply k3)); refine blk_far ?_ NB333_355.out _; (with_reducible repeat (first | apply k1 | apply k2 | apply k3)); exact BK333.out) NB333_339.out (by simp)); have n3_ := am (KeepBut.blk hk (g' := gb343) (o := .cells #[.int .i64 t340, .int .i64 t344, u344002] 29 (0, 0)) (by (with_reducible repeat (first | apply k1 | apply k2 | apply k3)); refine blk_far ?_ NB343_355.out _; (with_reducible repeat (first | apply k1 | apply k2 | apply k3)); refine blk_far ?_ NB343_355.out _; (with_reducible repeat (first | apply k1 | apply k2 | apply k3)); refine blk_far ?_ NB343_355.out _; (with_reducible repeat (first | apply k1 | apply k2 | apply k3)); exact BK343.out) NB343_339.out (by simp)); have n4_ := am (KeepBut.blk hk (g' := gb355) (o := .cells #[.int .i64 t352, .int .i64 0, .slice none 0 0] 40 (0, 0)) (by (with_reducible repeat (first | apply k1 | apply k2 | apply k3)); refine blk_put (cs := #[.int .i64 t352, .int .i64 0, .slice none 0 0]) ?_ 2 _ rfl; (with_reducible repeat (first | apply k1 | apply k2 | apply k3)); refine blk_put (cs := #[.int .i64 t352, .int .i64 0, .slice none 0 0]) ?_ 1 _ rfl; (with_reducible repeat (first | apply k1 | apply k2 | apply k3)); refine blk_put (cs := #[.int .i64 0, .int .i64 0, .slice none 0 0]) ?_ 0 _ rfl; (with_reducible repeat (first | apply k1 | apply k2 | apply k3)); exact BK355.out) NB355_339.out (by simp)); have n5_ := am (hb); have n6_ := am (hi); clear HO_9; clear HO_344002; clear BK333; clear BK343; clear BK355; clear HB; clear HI339; have HO_9 := n0_; have HO_344002 := n1_; have BK333 := n2_; have BK343 := n3_; have BK355 := n4_; have HB := n5_; have HI339 := n6_; clear n0_ n1_ n2_ n3_ n4_ n5_ n6_; (try clear hb); (try clear hb2); (try clear hk); (try clear hi); have hcz37_0 : w36.cell? ⟨gb355, 0, none⟩ = some (.int .i64 t352) := (blk_cell BK355.out 0).trans rfl; have hcz37_1 : w36.cell? ⟨gb355, 1, none⟩ = some (.int .i64 0) := (blk_cell BK355.out 1).trans rfl; have hcz37_2 : w36.cell? ⟨gb355, 2, none⟩ = some (.slice none 0 0) := (blk_cell BK355.out 2).trans rfl; have hfz37_0 := blk_frozen BK355.out 0; have hfz37_1 := blk_frozen BK355.out 1; have hfz37_2 := blk_frozen BK355.out 2) | ((with_reducible refine gate_callee (f := 25) rfl ?_); refine gl_ (some 38) Tryd.func25 #[.pointer (some ⟨g339, 0, none⟩)] ?_; (with_reducible refine (impl_taker_take.calls g339 t357 t358 Ao9 co9 t334 t359 t360 t361 w _ ?side1 ?side2 ?side3 ?side4 ?side5 A28.out ?sideT).mono ?_); (case sideT => exact HT.out); (case side1 => repeat (first | (with_reducible first | exact HI339.out | apply IsS61.alloc | apply IsS61.drewN | apply IsS61.drew | apply IsS61.set_0 | apply IsS61.set_1 | refine IsS61.far ?_ NB339_333.out _ | refine IsS61.far ?_ NB339_343.out _ | refine IsS61.far ?_ NB339_355.out _) | exact HI339.out)); (case side2 => repeat (first | (with_reducible first | exact HB.out | apply b1 | apply b2 | apply b3 | refine below_set ?_ (IsS61.ge HI339.out) | refine below_set ?_ GE333.out | refine below_set ?_ GE343.out | refine below_set ?_ GE355.out) | exact HB.out)); (case side3 => refine (Kd.R_reads' (e := 9) (base := w.heap.size) (ok := fun k_ => True) (n := t334.length) (c := co9) ?_).2.2; exact (by (with_reducible repeat (first | apply r1 | apply r2 | apply r3)); exact (Kd.R_mono (Kd.R_far (p := ⟨gb355, 1, none⟩) (Kd.R_types HO_9.out BK355.out (by decide)) (fun _ hk => hk.2) (.int .i64 t356)) (fun _ h_ => h_.1)))); (case side4 => exact (Kd.R_reads' HO_9.out).2.1); (case side5 => exact far_slice (IsS61.own_ne HI339.out HO_9.out (by decide))); rintro e w38 ⟨rfl, hi, hb, hk⟩; refine ⟨_, rfl, ?_⟩; have n0_ := am (Kd.R_mono (Kd.R_keep (IsS61.apart (show IsS61 (.slice Ao9 t334.length co9) w _ g339 t357 t358 from by repeat (first | (with_reducible first | exact HI339.out | apply IsS61.alloc | apply IsS61.drewN | apply IsS61.drew | apply IsS61.set_0 | apply IsS61.set_1 | refine IsS61.far ?_ NB339_333.out _ | refine IsS61.far ?_ NB339_343.out _ | refine IsS61.far ?_ NB339_355.out _) | exact HI339.out)) (by (with_reducible repeat (first | apply r1 | apply r2 | apply r3)); exact (Kd.R_mono (Kd.R_far (p := ⟨gb355, 1, none⟩) (Kd.R_types HO_9.out BK355.out (by decide)) (fun _ hk => hk.2) (.int .i64 t356)) (fun _ h_ => h_.1))) (by decide)) hk (fun _ h => h.2)) (fun _ h => h.1)); have n1_ := am (Kd.S_mono (Kd.S_keep (IsS61.apartS (show IsS61 (.slice Ao9 t334.length co9) w _ g339 t357 t358 from by repeat (first | (with_reducible first | exact HI339.out | apply IsS61.alloc | apply IsS61.drewN | apply IsS61.drew | apply IsS61.set_0 | apply IsS61.set_1 | refine IsS61.far ?_ NB339_333.out _ | refine IsS61.far ?_ NB339_343.out _ | refine IsS61.far ?_ NB339_355.out _) | exact HI339.out)) (by (with_reducible repeat (first | apply Kd.S_alloc | apply Kd.S_drewN | apply Kd.S_drew)); exact (Kd.S_mono (Kd.S_far (p := ⟨gb355, 1, none⟩) (Kd.S_mono HO_344002.out (fun k_ hk => (⟨hk, hk.2⟩ : _ ∧ k_ ≠ gb355))) (fun _ hk => hk.2) (.int .i64 t356)) (fun _ h_ => h_.1))) (by decide)) hk (fun _ h => h.2)) (fun _ h => h.1)); have n2_ := am (KeepBut.blk hk (g' := gb333) (o := .cells #[.int .i64 0, .int .i64 0, .slice none 0 0] 29 (0, 0)) (by (with_reducible repeat (first | apply k1 | apply k2 | apply k3)); refine blk_far ?_ NB333_355.out _; (with_reducible repeat (first | apply k1 | apply k2 | apply k3)); exact BK333.out) NB333_339.out (by simp)); have n3_ := am (KeepBut.blk hk (g' := gb343) (o := .cells #[.int .i64 t340, .int .i64 t344, u344002] 29 (0, 0)) (by (with_reducible repeat (first | apply k1 | apply k2 | apply k3)); refine blk_far ?_ NB343_355.out _; (with_reducible repeat (first | apply k1 | apply k2 | apply k3)); exact BK343.out) NB343_339.out (by simp)); have n4_ := am (KeepBut.blk hk (g' := gb355) (o := .cells #[.int .i64 t352, .int .i64 t356, .slice none 0 0] 40 (0, 0)) (by (with_reducible repeat (first | apply k1 | apply k2 | apply k3)); refine blk_put (cs := #[.int .i64 t352, .int .i64 0, .slice none 0 0]) ?_ 1 _ rfl; (with_reducible repeat (first | apply k1 | apply k2 | apply k3)); exact BK355.out) NB355_339.out (by simp)); have n5_ := am (hb); have n6_ := am (hi); clear HO_9; clear HO_344002; clear BK333; clear BK343; clear BK355; clear HB; clear HI339; have HO_9 := n0_; have HO_344002 := n1_; have BK333 := n2_; have BK343 := n3_; have BK355 := n4_; have HB := n5_; have HI339 := n6_; clear n0_ n1_ n2_ n3_ n4_ n5_ n6_; (try clear hb); (try clear hb2); (try clear hk); (try clear hi)))
      (try simp only [Act.put, List.setIfInBounds_toArray, List.set_cons_zero, List.set_cons_succ])
      go_cut [] (fun wc => ∃ (kq : Nat) (x340001_28 : Bool), Aside0 (impl_ReadPatch.j2 kq a0 t359 t334 t360 x340001_28 t340 t344 x344002_1 t352 t356 = some (r1, r2, r3, r4)) ∧ Aside0 (kq ≤ kj16) ∧ Aside0 (Kd.R Kd.string 9 wc w.heap.size (fun _ => True) (.slice Ao9 t334.length co9) t334) ∧ Aside0 (Kd.S k40 40 wc w.heap.size (fun k_ => k_ ≠ gb355) u344002 x344002_1) ∧ Aside0 (wc.heap[gb333]? = some (.cells #[.int .i64 0, .int .i64 0, (.slice none 0 0)] 29 (0, 0))) ∧ Aside0 (wc.heap[gb343]? = some (.cells #[.int .i64 t340, .int .i64 t344, u344002] 29 (0, 0))) ∧ Aside0 (wc.heap[gb355]? = some (.cells #[.int .i64 t352, .int .i64 t356, (.slice none 0 0)] 40 (0, 0))) ∧ Aside0 (IsS61 (.slice Ao9 t334.length co9) w wc g339 t360 x340001_28) ∧ Aside0 (Below w.heap.size w wc))
      case first =>
       have H := HC29.out
       clear HC29
       by_cases c39 : t361 = true
       ·subst c39
        have H1 : (impl_ReadPatch.j2 kj16 a0 t359 t334 t360 true t340 t344 x344002_1 t352 t356) = some (r1, r2, r3, r4) := by rw [if_pos rfl] at H; exact H
        clear H
        have H := H1
        clear H1
        have H' := am H
        clear H
        obtain ⟨HGz40, hgz40⟩ := HI339.out
        have hcz40_0 := cellS61_0 HGz40
        have hcz40_1 := cellS61_1 HGz40
        have hfz40_0 := blk_frozen HGz40 0
        have hfz40_1 := blk_frozen HGz40 1
        clear HGz40 hgz40
        go_wp2
        go_meet
        case rel => exact ⟨_, (true), H', ⟨by have := HK1.out; have := HJ16.out; first | omega | exact Nat.le_refl _⟩, ⟨by (with_reducible repeat (first | apply r1 | apply r2 | apply r3)); exact Kd.R_mono (Kd.R_far (p := ⟨g339, 1, none⟩) (IsS61.apart HI339.out HO_9.out (by decide)) (fun _ hk => hk.2) (.bool true)) (fun _ hk => trivial)⟩, ⟨by (with_reducible repeat (first | apply Kd.S_alloc | apply Kd.S_drewN | apply Kd.S_drew)); exact Kd.S_mono (Kd.S_far (p := ⟨g339, 1, none⟩) (IsS61.apartS HI339.out HO_344002.out (by decide)) (fun _ hk => hk.2) (.bool true)) (fun _ hk => (by first | exact hk.1.2 | exact hk.1))⟩, ⟨by (with_reducible repeat (first | apply k1 | apply k2 | apply k3)); refine blk_far ?_ NB333_339.out _; (with_reducible repeat (first | apply k1 | apply k2 | apply k3)); exact BK333.out⟩, ⟨by (with_reducible repeat (first | apply k1 | apply k2 | apply k3)); refine blk_far ?_ NB343_339.out _; (with_reducible repeat (first | apply k1 | apply k2 | apply k3)); exact BK343.out⟩, ⟨by (with_reducible repeat (first | apply k1 | apply k2 | apply k3)); refine blk_far ?_ NB355_339.out _; (with_reducible repeat (first | apply k1 | apply k2 | apply k3)); exact BK355.out⟩, ⟨by repeat (first | (with_reducible first | exact HI339.out | apply IsS61.alloc | apply IsS61.drewN | apply IsS61.drew | apply IsS61.set_0 | apply IsS61.set_1 | refine IsS61.far ?_ NB339_333.out _ | refine IsS61.far ?_ NB339_343.out _ | refine IsS61.far ?_ NB339_355.out _) | exact HI339.out)⟩, ⟨by repeat (first | (with_reducible first | exact HB.out | apply b1 | apply b2 | apply b3 | refine below_set ?_ (IsS61.ge HI339.out) | refine below_set ?_ GE333.out | refine below_set ?_ GE343.out | refine below_set ?_ GE355.out) | exact HB.out)⟩⟩
       ·replace c39 := Bool.eq_false_iff.mpr c39
        subst c39
        have H1 : ((impl_in.f t359 1 60).bind fun t362 => (impl_ReadPatch.j2 kj16 a0 t359 t334 t360 (!t362) t340 t344 x344002_1 t352 t356)) = some (r1, r2, r3, r4) := by rw [if_neg (show ¬ (false = true) by decide)] at H; exact H
        clear H
        have H := H1
        clear H1
        replace H := Option.bind_eq_some_iff.mp H
        obtain ⟨t362, A410, H⟩ := H
        replace H : (impl_ReadPatch.j2 kj16 a0 t359 t334 t360 (!t362) t340 t344 x344002_1 t352 t356) = some (r1, r2, r3, r4) := H
        have A41 := am A410
        clear A410
        have H' := am H
        clear H
        obtain ⟨HGz42, hgz42⟩ := HI339.out
        have hcz42_0 := cellS61_0 HGz42
        have hcz42_1 := cellS61_1 HGz42
        have hfz42_0 := blk_frozen HGz42 0
        have hfz42_1 := blk_frozen HGz42 1
        clear HGz42 hgz42
        go_wp2_with (first | (go_at_call 26; (with_reducible refine (impl_in.calls t359 1 60 t362 _ A41.out).mono ?_); rintro e w' ⟨rfl, ⟨nd, rfl⟩⟩; (try (rw [drewN_self w38]; generalize hq_ : World.drewN w38 _ = w38; have n0_ : Aside0 (Kd.S k40 40 w38 w.heap.size (fun k_ => k_ ≠ gb355) u344002 x344002_1) := ⟨by rw [← hq_]; exact (by (with_reducible repeat (first | apply Kd.S_alloc | apply Kd.S_drewN | apply Kd.S_drew)); exact Kd.S_mono HO_344002.out (fun _ hk => hk.2))⟩; have n1_ : Aside0 (Kd.R Kd.string 9 w38 w.heap.size (fun _ => True) (.slice Ao9 t334.length co9) t334) := ⟨by rw [← hq_]; exact (rr HO_9)⟩; have n2_ : Aside0 (w38.heap[gb333]? = some (.cells #[.int .i64 0, .int .i64 0, .slice none 0 0] 29 (0, 0))) := ⟨by rw [← hq_]; exact (rk BK333)⟩; have n3_ : Aside0 (w38.heap[gb343]? = some (.cells #[.int .i64 t340, .int .i64 t344, u344002] 29 (0, 0))) := ⟨by rw [← hq_]; exact (rk BK343)⟩; have n4_ : Aside0 (w38.heap[gb355]? = some (.cells #[.int .i64 t352, .int .i64 t356, .slice none 0 0] 40 (0, 0))) := ⟨by rw [← hq_]; exact (rk BK355)⟩; have n5_ : Aside0 (IsS61 (.slice Ao9 t334.length co9) w w38 g339 t360 false) := ⟨by rw [← hq_]; exact (by repeat (first | (with_reducible first | exact HI339.out | apply IsS61.alloc | apply IsS61.drewN | apply IsS61.drew | apply IsS61.set_0 | apply IsS61.set_1 | refine IsS61.far ?_ NB339_333.out _ | refine IsS61.far ?_ NB339_343.out _ | refine IsS61.far ?_ NB339_355.out _) | exact HI339.out))⟩; have n6_ : Aside0 (Below w.heap.size w w38) := ⟨by rw [← hq_]; exact (by repeat (first | (with_reducible first | exact HB.out | apply b1 | apply b2 | apply b3 | refine below_set ?_ (IsS61.ge HI339.out) | refine below_set ?_ GE333.out | refine below_set ?_ GE343.out | refine below_set ?_ GE355.out) | exact HB.out))⟩; clear HO_344002 HO_9 BK333 BK343 BK355 HI339 HB hq_; have HO_344002 := n0_; have HO_9 := n1_; have BK333 := n2_; have BK343 := n3_; have BK355 := n4_; have HI339 := n5_; have HB := n6_; clear n0_ n1_ n2_ n3_ n4_ n5_ n6_; have hczq_0 := cellS61_0 HI339.out.1; have hczq_1 := cellS61_1 HI339.out.1; have hfzq_0 := blk_frozen HI339.out.1 0; have hfzq_1 := blk_frozen HI339.out.1 1))))
        go_meet
        case rel => exact ⟨_, (!t362), H', ⟨by have := HK1.out; have := HJ16.out; first | omega | exact Nat.le_refl _⟩, ⟨by (with_reducible repeat (first | apply r1 | apply r2 | apply r3)); exact Kd.R_mono (Kd.R_far (p := ⟨g339, 1, none⟩) (IsS61.apart HI339.out HO_9.out (by decide)) (fun _ hk => hk.2) (.bool (!t362))) (fun _ hk => trivial)⟩, ⟨by (with_reducible repeat (first | apply Kd.S_alloc | apply Kd.S_drewN | apply Kd.S_drew)); exact Kd.S_mono (Kd.S_far (p := ⟨g339, 1, none⟩) (IsS61.apartS HI339.out HO_344002.out (by decide)) (fun _ hk => hk.2) (.bool (!t362))) (fun _ hk => (by first | exact hk.1.2 | exact hk.1))⟩, ⟨by (with_reducible repeat (first | apply k1 | apply k2 | apply k3)); refine blk_far ?_ NB333_339.out _; (with_reducible repeat (first | apply k1 | apply k2 | apply k3)); exact BK333.out⟩, ⟨by (with_reducible repeat (first | apply k1 | apply k2 | apply k3)); refine blk_far ?_ NB343_339.out _; (with_reducible repeat (first | apply k1 | apply k2 | apply k3)); exact BK343.out⟩, ⟨by (with_reducible repeat (first | apply k1 | apply k2 | apply k3)); refine blk_far ?_ NB355_339.out _; (with_reducible repeat (first | apply k1 | apply k2 | apply k3)); exact BK355.out⟩, ⟨by repeat (first | (with_reducible first | exact HI339.out | apply IsS61.alloc | apply IsS61.drewN | apply IsS61.drew | apply IsS61.set_0 | apply IsS61.set_1 | refine IsS61.far ?_ NB339_333.out _ | refine IsS61.far ?_ NB339_343.out _ | refine IsS61.far ?_ NB339_355.out _) | exact HI339.out)⟩, ⟨by repeat (first | (with_reducible first | exact HB.out | apply b1 | apply b2 | apply b3 | refine below_set ?_ (IsS61.ge HI339.out) | refine below_set ?_ GE333.out | refine below_set ?_ GE343.out | refine below_set ?_ GE355.out) | exact HB.out)⟩⟩
      case rest =>
       clear HC29
       try clear c1
       try clear c2
       try clear p2
       try clear q2
       try clear c3
       try clear c11
       try clear c12
       try clear c13
       try clear c18
       try clear c18b0
       try clear c18b1
       try clear c19
       try clear c19b0
       try clear c19b1
       try clear c20
       try clear c20b0
       try clear c20b1
       try clear c22
       try clear q22
       try clear c24
       try clear q24
       try clear c25
       try clear c32
       try clear c33
       try clear c34
       try clear c39
       try clear hcz14_0
       try clear hcz14_1
       try clear hcz14_2
       try clear hcz16_0
       try clear hcz16_1
       try clear hcz16_2
       try clear hcz21_0
       try clear hcz21_1
       try clear hcz23_0
       try clear hcz23_1
       try clear hcz35_0
       try clear hcz35_1
       try clear hcz35_2
       try clear hcz37_0
       try clear hcz37_1
       try clear hcz37_2
       try clear hcz40_0
       try clear hcz40_1
       try clear hcz42_0
       try clear hcz42_1
       try clear hfz14_0
       try clear hfz14_1
       try clear hfz14_2
       try clear hfz16_0
       try clear hfz16_1
       try clear hfz16_2
       try clear hfz21_0
       try clear hfz21_1
       try clear hfz23_0
       try clear hfz23_1
       try clear hfz35_0
       try clear hfz35_1
       try clear hfz35_2
       try clear hfz37_0
       try clear hfz37_1
       try clear hfz37_2
       try clear hfz40_0
       try clear hfz40_1
       try clear hfz42_0
       try clear hfz42_1
       try clear p2
       try clear q022
       try clear q024
       try clear q2
       try clear q22
       try clear q24
       obtain ⟨kq, x340001_28, HA, HJ28, HO_9, HO_344002, BK333, BK343, BK355, HI339, HB⟩ := hcut
       cases kq with
       | zero => exact absurd HA.out (by simp [impl_ReadPatch.j2])
       | succ kj28 =>
        have H := HA.out
        clear HA
        simp only [impl_ReadPatch.j2] at H
        have H' := am H
        clear H
        go_wp2
        go_loopg [7] kj28 (fun kq v7 w' => ∃ (x7_4 : Int) (x340000_4 : Int) (x340001_4 : Bool) (x356002_4 : List (S45)) (u356002 : Value), v7 = .int .i64 x7_4 ∧ Aside0 (impl_ReadPatch.l1 kq a0 x7_4 t334 x340000_4 x340001_4 t340 t344 x344002_1 t352 t356 x356002_4 = some (r1, r2, r3, r4)) ∧ Aside0 (kq ≤ kj28) ∧ Aside0 (Kd.R Kd.string 9 w' w.heap.size (fun _ => True) (.slice Ao9 t334.length co9) t334) ∧ Aside0 (Kd.S k40 40 w' w.heap.size (fun k_ => some k_ ≠ (u356002 : Value).ownBlock ∧ k_ ≠ gb355) u344002 x344002_1) ∧ Aside0 (Kd.R k45 45 w' w.heap.size (fun _ => True) u356002 x356002_4) ∧ Aside0 (w'.heap[gb333]? = some (.cells #[.int .i64 0, .int .i64 0, (.slice none 0 0)] 29 (0, 0))) ∧ Aside0 (w'.heap[gb343]? = some (.cells #[.int .i64 t340, .int .i64 t344, u344002] 29 (0, 0))) ∧ Aside0 (w'.heap[gb355]? = some (.cells #[.int .i64 t352, .int .i64 t356, u356002] 40 (0, 0))) ∧ Aside0 (IsS61 (.slice Ao9 t334.length co9) w w' g339 x340000_4 x340001_4) ∧ Aside0 (Below w.heap.size w w'))
        case atStart => exact ⟨(t359), (t360), (x340001_28), (([] : List (S45))), (.slice none 0 0), (by first | rfl | (simp; done) | (simp [*]; done)), H', ⟨Nat.le_refl _⟩, ⟨rr HO_9⟩, ⟨by (with_reducible repeat (first | apply Kd.S_alloc | apply Kd.S_drewN | apply Kd.S_drew)); exact Kd.S_mono HO_344002.out (fun _ hk => ⟨(by simp [Value.ownBlock]), hk⟩)⟩, ⟨by first | exact Kd.R_nil _ _ _ _ _ | exact Kd.N_nil _ _ _ _ _ | exact Kd.V_nil _ _ _ _ _ | exact Kd.Q_nil _ _ _ _ _ | exact Kd.S_nil _ _ _ _ _⟩, ⟨rk BK333⟩, ⟨rk BK343⟩, ⟨rk BK355⟩, ⟨by repeat (first | (with_reducible first | exact HI339.out | apply IsS61.alloc | apply IsS61.drewN | apply IsS61.drew | apply IsS61.set_0 | apply IsS61.set_1 | refine IsS61.far ?_ NB339_333.out _ | refine IsS61.far ?_ NB339_343.out _ | refine IsS61.far ?_ NB339_355.out _) | exact HI339.out)⟩, ⟨by repeat (first | (with_reducible first | exact HB.out | apply b1 | apply b2 | apply b3 | refine below_set ?_ (IsS61.ge HI339.out) | refine below_set ?_ GE333.out | refine below_set ?_ GE343.out | refine below_set ?_ GE355.out) | exact HB.out)⟩⟩
        case round =>
         clear H'
         try clear c1
         try clear c2
         try clear p2
         try clear q2
         try clear c3
         try clear c11
         try clear c12
         try clear c13
         try clear c18
         try clear c18b0
         try clear c18b1
         try clear c19
         try clear c19b0
         try clear c19b1
         try clear c20
         try clear c20b0
         try clear c20b1
         try clear c22
         try clear q22
         try clear c24
         try clear q24
         try clear c25
         try clear c32
         try clear c33
         try clear c34
         try clear c39
         try clear hcz14_0
         try clear hcz14_1
         try clear hcz14_2
         try clear hcz16_0
         try clear hcz16_1
         try clear hcz16_2
         try clear hcz21_0
         try clear hcz21_1
         try clear hcz23_0
         try clear hcz23_1
         try clear hcz35_0
         try clear hcz35_1
         try clear hcz35_2
         try clear hcz37_0
         try clear hcz37_1
         try clear hcz37_2
         try clear hcz40_0
         try clear hcz40_1
         try clear hcz42_0
         try clear hcz42_1
         try clear hfz14_0
         try clear hfz14_1
         try clear hfz14_2
         try clear hfz16_0
         try clear hfz16_1
         try clear hfz16_2
         try clear hfz21_0
         try clear hfz21_1
         try clear hfz23_0
         try clear hfz23_1
         try clear hfz35_0
         try clear hfz35_1
         try clear hfz35_2
         try clear hfz37_0
         try clear hfz37_1
         try clear hfz37_2
         try clear hfz40_0
         try clear hfz40_1
         try clear hfz42_0
         try clear hfz42_1
         try clear p2
         try clear q022
         try clear q024
         try clear q2
         try clear q22
         try clear q24
         obtain ⟨x7_4, x340000_4, x340001_4, x356002_4, u356002, rfl, HA, HK4, HO_9, HO_344002, HO_356002, BK333, BK343, BK355, HI339, HB⟩ := hrel
         cases gk with
         | zero => exact absurd HA.out (by simp [impl_ReadPatch.l1])
         | succ k4 =>
          have H := HA.out
          clear HA
          simp only [impl_ReadPatch.l1] at H
          by_cases c43 : x7_4 > 0
          ·rw [if_pos c43] at H
           have c43b0 : decide (0 < x7_4) = true := decide_eq_true c43
           clear c43
           by_cases c44 : x340001_4 = true
           ·subst c44
            have H1 : (if x344002_1.length < 3518437208883 then (impl_ReadPatch.l0 k4 a0 t334 x340000_4 true t340 t344 (x344002_1 ++ [(⟨t352, t356, x356002_4⟩ : S40)])) else (none)) = some (r1, r2, r3, r4) := by rw [if_pos rfl] at H; exact H
            clear H
            have H := H1
            clear H1
            by_cases c45 : x344002_1.length < 3518437208883
            ·rw [if_pos c45] at H
             have LMc45 := am c45
             clear c45
             obtain ⟨y363, hy363⟩ : ∃ y_ : List (S40), y_ = (x344002_1 ++ [(⟨t352, t356, x356002_4⟩ : S40)]) := ⟨_, rfl⟩
             replace H : (impl_ReadPatch.l0 k4 a0 t334 x340000_4 true t340 t344 y363) = some (r1, r2, r3, r4) := by first | (rw [hy363]; with_reducible exact H) | (rw [hy363]; exact H) | exact H
             have Ny363 := am hy363
             clear hy363
             have H' := am H
             clear H
             obtain ⟨HGz46, hgz46⟩ := HI339.out
             have hcz46_0 := cellS61_0 HGz46
             have hcz46_1 := cellS61_1 HGz46
             have hfz46_0 := blk_frozen HGz46 0
             have hfz46_1 := blk_frozen HGz46 1
             clear HGz46 hgz46
             have hnb47 := NB343_333.out
             have hnc47 := NB333_343.out
             have hnb48 := NB343_355.out
             have hnc48 := NB355_343.out
             have hnb49 := NB343_339.out
             have hnc49 := NB339_343.out
             have hcz50_0 : wr.cell? ⟨gb343, 0, none⟩ = some (.int .i64 t340) := (blk_cell BK343.out 0).trans rfl
             have hcz50_1 : wr.cell? ⟨gb343, 1, none⟩ = some (.int .i64 t344) := (blk_cell BK343.out 1).trans rfl
             have hcz50_2 : wr.cell? ⟨gb343, 2, none⟩ = some (u344002) := (blk_cell BK343.out 2).trans rfl
             have hfz50_0 := blk_frozen BK343.out 0
             have hfz50_1 := blk_frozen BK343.out 1
             have hfz50_2 := blk_frozen BK343.out 2
             have hnb51 := NB355_333.out
             have hnc51 := NB333_355.out
             have hnb52 := NB355_339.out
             have hnc52 := NB339_355.out
             have hcz53_0 : wr.cell? ⟨gb355, 0, none⟩ = some (.int .i64 t352) := (blk_cell BK355.out 0).trans rfl
             have hcz53_1 : wr.cell? ⟨gb355, 1, none⟩ = some (.int .i64 t356) := (blk_cell BK355.out 1).trans rfl
             have hcz53_2 : wr.cell? ⟨gb355, 2, none⟩ = some (u356002) := (blk_cell BK355.out 2).trans rfl
             have hfz53_0 := blk_frozen BK355.out 0
             have hfz53_1 := blk_frozen BK355.out 1
             have hfz53_2 := blk_frozen BK355.out 2
             obtain ⟨Ao55, co55, eo55⟩ := Kd.R_slice HO_356002.out
             subst eo55
             go_wp2_with (first | ((with_reducible refine gate_builtin (b := .append) (xs := #[.tmp 70, .tmp 72]) rfl ?_); at_builtin; refine Kd.S_append k40 (w0 := w) w.heap.size rfl (.tmp 70) (.tmp 72) 27 40 (.agg #[(.int .i64 0), (.int .i64 0), (.slice none 0 0)]) 40 rfl Tryd.underlying27 info40 rfl (by decide) (by omega) u344002 x344002_1 (⟨t352, t356, x356002_4⟩ : S40) [.int .i64 t352, .int .i64 t356, .slice Ao55 x356002_4.length co55] (fun k_ => k_ ≠ gb355) (fun k_ => some k_ = (.slice Ao55 x356002_4.length co55 : Value).ownBlock) rfl rfl ?aP (fun k_ hk_ => ((Kd.R_mono (ok' := fun k_ => ((fun k_ => k_ ≠ gb355)) k_ ∧ some k_ ≠ (u344002 : Value).ownBlock) (Kd.R_types (Kd.R_apart' (HO_356002.out) (Kd.S_typed HO_344002.out) (by decide)) BK355.out (by decide)) (fun k_ hk => ⟨hk.2, hk.1.2⟩))).1 k_ hk_.symm) ?aF ?aO ?aB ?aS ?aL ?_; (case aP => exact k40_mkM _ _ _ (⟨t352, t356, x356002_4⟩ : S40) (Kd.R_mono (Kd.R_tight rfl (Kd.R_mono (ok' := fun k_ => ((fun k_ => k_ ≠ gb355)) k_ ∧ some k_ ≠ (u344002 : Value).ownBlock) (Kd.R_types (Kd.R_apart' (HO_356002.out) (Kd.S_typed HO_344002.out) (by decide)) BK355.out (by decide)) (fun k_ hk => ⟨hk.2, hk.1.2⟩))) (fun _ h_ => h_))); (case aB => exact (by repeat (first | (with_reducible first | exact HB.out | apply b1 | apply b2 | apply b3 | refine below_set ?_ (IsS61.ge HI339.out) | refine below_set ?_ GE333.out | refine below_set ?_ GE343.out | refine below_set ?_ GE355.out) | exact HB.out))); (case aF => exact (fun k_ hk => Kd.freshB (g := gb355) (o := .cells #[.int .i64 t352, .int .i64 t356, .slice Ao55 x356002_4.length co55] 40 (0, 0)) (rk BK355) k_ hk)); (case aO => exact (by (with_reducible repeat (first | apply Kd.S_alloc | apply Kd.S_drewN | apply Kd.S_drew)); exact Kd.S_mono HO_344002.out (fun k_ hk => ⟨hk.2, fun e_ => hk.1 e_⟩))); (case aS => exact (below_size (by repeat (first | (with_reducible first | exact HB.out | apply b1 | apply b2 | apply b3 | refine below_set ?_ (IsS61.ge HI339.out) | refine below_set ?_ GE333.out | refine below_set ?_ GE343.out | refine below_set ?_ GE355.out) | exact HB.out)))); (case aL => have := LMc45.out; omega); intro v364 w54 ho hb hg hat; rw [← Ny363.out] at ho; have n0_ := am (Kd.R_over' (rr HO_9) (Kd.S_typed (rs HO_344002)) (by decide) hg); have n1_ := am (blk_grown (g := gb333) (o := .cells #[.int .i64 0, .int .i64 0, .slice none 0 0] 29 (0, 0)) (rk BK333) hg (Kd.S_ne HO_344002.out BK333.out (by decide))); have n2_ := am (blk_grown (g := gb343) (o := .cells #[.int .i64 t340, .int .i64 t344, u344002] 29 (0, 0)) (rk BK343) hg (Kd.S_ne HO_344002.out BK343.out (by decide))); have n3_ := am (blk_grown (g := gb355) (o := .cells #[.int .i64 t352, .int .i64 t356, .slice Ao55 x356002_4.length co55] 40 (0, 0)) (rk BK355) hg (Kd.S_away HO_344002.out (fun _ hk => hk.2))); have n4_ := am (IsS61.grown (by repeat (first | (with_reducible first | exact HI339.out | apply IsS61.alloc | apply IsS61.drewN | apply IsS61.drew | apply IsS61.set_0 | apply IsS61.set_1 | refine IsS61.far ?_ NB339_333.out _ | refine IsS61.far ?_ NB339_343.out _ | refine IsS61.far ?_ NB339_355.out _) | exact HI339.out)) hg (IsS61.own_neS HI339.out HO_344002.out (by decide))); have n5_ := am (hb); have n6_ := am (ho); clear HO_9; clear BK333; clear BK343; clear BK355; clear HI339; clear HB; clear HO_344002; clear HO_356002; have HO_9 := n0_; have BK333 := n1_; have BK343 := n2_; have BK355 := n3_; have HI339 := n4_; have HB := n5_; have HO365 := n6_; clear n0_ n1_ n2_ n3_ n4_ n5_ n6_; clear ho hb hg hat; obtain ⟨Ao56, co56, eo56⟩ := Kd.S_slice HO365.out; subst eo56; have hcz57_0 : w54.cell? ⟨gb343, 0, none⟩ = some (.int .i64 t340) := (blk_cell BK343.out 0).trans rfl; have hcz57_1 : w54.cell? ⟨gb343, 1, none⟩ = some (.int .i64 t344) := (blk_cell BK343.out 1).trans rfl; have hcz57_2 : w54.cell? ⟨gb343, 2, none⟩ = some (u344002) := (blk_cell BK343.out 2).trans rfl; have hfz57_0 := blk_frozen BK343.out 0; have hfz57_1 := blk_frozen BK343.out 1; have hfz57_2 := blk_frozen BK343.out 2))
             go_roundg k4
             case measure => have := HK1.out; have := HJ16.out; have := HJ28.out; have := HK4.out; omega
             case rel => exact ⟨(x340000_4), (true), (y363), (.slice Ao56 y363.length co56), H', ⟨by have := HK1.out; have := HJ16.out; have := HJ28.out; have := HK4.out; omega⟩, ⟨by (with_reducible repeat (first | apply r1 | apply r2 | apply r3)); exact Kd.R_mono (Kd.R_far (p := ⟨gb343, 2, none⟩) (Kd.R_types HO_9.out BK343.out (by decide)) (fun _ hk => hk.2) (.slice Ao56 y363.length co56)) (fun _ hk => trivial)⟩, ⟨by (with_reducible repeat (first | apply Kd.S_alloc | apply Kd.S_drewN | apply Kd.S_drew)); exact Kd.S_mono (Kd.S_far (p := ⟨gb343, 2, none⟩) (Kd.S_types HO365.out BK343.out (by decide)) (fun _ hk => hk.2) (.slice Ao56 y363.length co56)) (fun _ hk => trivial)⟩, ⟨by (with_reducible repeat (first | apply k1 | apply k2 | apply k3)); refine blk_far ?_ NB333_343.out _; (with_reducible repeat (first | apply k1 | apply k2 | apply k3)); exact BK333.out⟩, ⟨by (with_reducible repeat (first | apply k1 | apply k2 | apply k3)); refine blk_put (cs := #[.int .i64 t340, .int .i64 t344, u344002]) ?_ 2 _ rfl; (with_reducible repeat (first | apply k1 | apply k2 | apply k3)); exact BK343.out⟩, ⟨by repeat (first | (with_reducible first | exact HI339.out | apply IsS61.alloc | apply IsS61.drewN | apply IsS61.drew | apply IsS61.set_0 | apply IsS61.set_1 | refine IsS61.far ?_ NB339_333.out _ | refine IsS61.far ?_ NB339_343.out _ | refine IsS61.far ?_ NB339_355.out _) | exact HI339.out)⟩, ⟨by repeat (first | (with_reducible first | exact HB.out | apply b1 | apply b2 | apply b3 | refine below_set ?_ (IsS61.ge HI339.out) | refine below_set ?_ GE333.out | refine below_set ?_ GE343.out | refine below_set ?_ GE355.out) | exact HB.out)⟩⟩
            ·rw [if_neg c45] at H
             exact absurd H (by simp)
           ·replace c44 := Bool.eq_false_iff.mpr c44
            subst c44
            have H1 : ((impl_taker_cell.f x340000_4 false t334).bind fun bt366 => (if x356002_4.length < 3518437208883 then (impl_ReadPatch.l1 k4 a0 (wrap64 (x7_4 - 1)) t334 bt366.2.2.2.2.2.2.2.1 bt366.2.2.2.2.2.2.2.2 t340 t344 x344002_1 t352 t356 (x356002_4 ++ [(⟨bt366.1, (⟨bt366.2.1, bt366.2.2.1, bt366.2.2.2.1, bt366.2.2.2.2.1, bt366.2.2.2.2.2.1⟩ : S43), bt366.2.2.2.2.2.2.1⟩ : S45)])) else (none))) = some (r1, r2, r3, r4) := by rw [if_neg (show ¬ (false = true) by decide)] at H; exact H
            clear H
            have H := H1
            clear H1
            replace H := Option.bind_eq_some_iff.mp H
            obtain ⟨⟨t366, t367, t368, t369, t370, t371, t372, t373, t374⟩, A580, H⟩ := H
            replace H : (if x356002_4.length < 3518437208883 then (impl_ReadPatch.l1 k4 a0 (wrap64 (x7_4 - 1)) t334 t373 t374 t340 t344 x344002_1 t352 t356 (x356002_4 ++ [(⟨t366, (⟨t367, t368, t369, t370, t371⟩ : S43), t372⟩ : S45)])) else (none)) = some (r1, r2, r3, r4) := H
            have A58 := am A580
            clear A580
            by_cases c59 : x356002_4.length < 3518437208883
            ·rw [if_pos c59] at H
             have LMc59 := am c59
             clear c59
             obtain ⟨y375, hy375⟩ : ∃ y_ : List (S45), y_ = (x356002_4 ++ [(⟨t366, (⟨t367, t368, t369, t370, t371⟩ : S43), t372⟩ : S45)]) := ⟨_, rfl⟩
             replace H : (impl_ReadPatch.l1 k4 a0 (wrap64 (x7_4 - 1)) t334 t373 t374 t340 t344 x344002_1 t352 t356 y375) = some (r1, r2, r3, r4) := by first | (rw [hy375]; with_reducible exact H) | (rw [hy375]; exact H) | exact H
             have Ny375 := am hy375
             clear hy375
             have H' := am H
             clear H
             obtain ⟨HGz60, hgz60⟩ := HI339.out
             have hcz60_0 := cellS61_0 HGz60
             have hcz60_1 := cellS61_1 HGz60
             have hfz60_0 := blk_frozen HGz60 0
             have hfz60_1 := blk_frozen HGz60 1
             clear HGz60 hgz60
             try go_wp2
             have n0_ := am (Kd.R_drew HO_9.out)
             have n1_ := am (Kd.S_drew HO_344002.out)
             have n2_ := am (Kd.R_drew HO_356002.out)
             have n3_ := am (blk_drew BK333.out)
             have n4_ := am (blk_drew BK343.out)
             have n5_ := am (blk_drew BK355.out)
             have n6_ := am (IsS61.drew HI339.out)
             have n7_ := am (below_drew1 HB.out)
             clear HO_9
             clear HO_344002
             clear HO_356002
             clear BK333
             clear BK343
             clear BK355
             clear HI339
             clear HB
             have HO_9 := n0_
             have HO_344002 := n1_
             have HO_356002 := n2_
             have BK333 := n3_
             have BK343 := n4_
             have BK355 := n5_
             have HI339 := n6_
             have HB := n7_
             clear n0_ n1_ n2_ n3_ n4_ n5_ n6_ n7_
             refine start_ (n := 8) (S := fun w' => w'.cell? ⟨gb355, 0, none⟩ = some (.int .i64 t352) ∧ w'.cell? ⟨gb355, 1, none⟩ = some (.int .i64 t356) ∧ w'.cell? ⟨gb355, 2, none⟩ = some (u356002)) (ds := [7]) (bm 8 0) (by kernel_rfl) rfl rfl ⟨(blk_cell BK355.out 0).trans rfl, (blk_cell BK355.out 1).trans rfl, (blk_cell BK355.out 2).trans rfl⟩ (fun hHeld => ?_); refine with_tabW impl_ReadPatch.tab11 impl_ReadPatch.bits11 (fun HT_ HW_ => ?_)
             generalize wr.drew = w61 at HO_9 HO_344002 HO_356002 BK333 BK343 BK355 HI339 HB hHeld ⊢
             refine pu_ 0 62 (bm 8 1) HT_.out ?_
             refine pu_ 2 64 (bm 8 5) HT_.out ?_
             refine take_ (i := 1) (N := some 63) (v := ?_) (a' := ?_) (bm 8 7) rfl rfl (take_ofW HT_.out HW_.out (by kernel_rfl)) (fun _ _ _ h => h) (Or.inl ⟨by rfl, ?_⟩) hHeld ?_ ?_
             rotate_left
             ·rintro w' ⟨s0, s1, s2⟩
              go_simp
              with_reducible rfl
             rotate_left
             ·simp only [Act.put, List.setIfInBounds_toArray, List.set_cons_zero, List.set_cons_succ, i64_w, i32_w]
              rfl
             refine one_ (i := 3) (N := some 65) (bm 8 15) rfl rfl (one_of HT_.out (by kernel_rfl)) (by decide) (fun K hK => ?_)
             refine goes_ Tryd.func27 (by kernel_rfl) rfl #[.pointer (some ⟨g339, 0, none⟩)] (by rfl) rfl rfl (by (try simp only [List.map_toArray, List.map_cons, List.map_nil]); first | done | rfl | (simp only [List.length_drop, List.length_take]; rfl)) ?_
             with_reducible refine (impl_taker_cell.calls g339 x340000_4 false Ao9 co9 t334 t366 t367 t368 t369 t370 t371 t372 t373 t374 w _ ?side1 ?side2 ?side3 ?side4 ?side5 A58.out ?sideT).mono ?_
             case sideT => exact HT.out
             (case side1 => repeat (first | (with_reducible first | exact HI339.out | apply IsS61.alloc | apply IsS61.drewN | apply IsS61.drew | apply IsS61.set_0 | apply IsS61.set_1 | refine IsS61.far ?_ NB339_333.out _ | refine IsS61.far ?_ NB339_343.out _ | refine IsS61.far ?_ NB339_355.out _) | exact HI339.out))
             (case side2 => repeat (first | (with_reducible first | exact HB.out | apply b1 | apply b2 | apply b3 | refine below_set ?_ (IsS61.ge HI339.out) | refine below_set ?_ GE333.out | refine below_set ?_ GE343.out | refine below_set ?_ GE355.out) | exact HB.out))
             (case side3 => repeat (first | exact (Kd.R_reads' HO_9.out).2.2 | (with_reducible refine Kd.C_alloc ?_ _) | (with_reducible refine Kd.C_drewN ?_ _) | (with_reducible refine Kd.C_drew ?_)))
             (case side4 => exact (Kd.R_reads' HO_9.out).2.1)
             (case side5 => exact far_slice (IsS61.own_ne HI339.out HO_9.out (by decide)))
             rintro e w62 ⟨rfl, hi, hb, hk⟩
             refine ⟨_, rfl, ?_⟩
             have n0_ := am (Kd.R_mono (Kd.R_keep (IsS61.apart (show IsS61 (.slice Ao9 t334.length co9) w _ g339 x340000_4 false from by repeat (first | (with_reducible first | exact HI339.out | apply IsS61.alloc | apply IsS61.drewN | apply IsS61.drew | apply IsS61.set_0 | apply IsS61.set_1 | refine IsS61.far ?_ NB339_333.out _ | refine IsS61.far ?_ NB339_343.out _ | refine IsS61.far ?_ NB339_355.out _) | exact HI339.out)) (rr HO_9) (by decide)) hk (fun _ h => h.2)) (fun _ h => h.1))
             have n1_ := am (Kd.S_mono (Kd.S_keep (IsS61.apartS (show IsS61 (.slice Ao9 t334.length co9) w _ g339 x340000_4 false from by repeat (first | (with_reducible first | exact HI339.out | apply IsS61.alloc | apply IsS61.drewN | apply IsS61.drew | apply IsS61.set_0 | apply IsS61.set_1 | refine IsS61.far ?_ NB339_333.out _ | refine IsS61.far ?_ NB339_343.out _ | refine IsS61.far ?_ NB339_355.out _) | exact HI339.out)) (rs HO_344002) (by decide)) hk (fun _ h => h.2)) (fun _ h => h.1))
             have n2_ := am (Kd.R_mono (Kd.R_keep (IsS61.apart (show IsS61 (.slice Ao9 t334.length co9) w _ g339 x340000_4 false from by repeat (first | (with_reducible first | exact HI339.out | apply IsS61.alloc | apply IsS61.drewN | apply IsS61.drew | apply IsS61.set_0 | apply IsS61.set_1 | refine IsS61.far ?_ NB339_333.out _ | refine IsS61.far ?_ NB339_343.out _ | refine IsS61.far ?_ NB339_355.out _) | exact HI339.out)) (rr HO_356002) (by decide)) hk (fun _ h => h.2)) (fun _ h => h.1))
             have n3_ := am (KeepBut.blk hk (g' := gb333) (o := .cells #[.int .i64 0, .int .i64 0, .slice none 0 0] 29 (0, 0)) (rk BK333) NB333_339.out (by simp))
             have n4_ := am (KeepBut.blk hk (g' := gb343) (o := .cells #[.int .i64 t340, .int .i64 t344, u344002] 29 (0, 0)) (rk BK343) NB343_339.out (by simp))
             have n5_ := am (KeepBut.blk hk (g' := gb355) (o := .cells #[.int .i64 t352, .int .i64 t356, u356002] 40 (0, 0)) (rk BK355) NB355_339.out (by simp))
             have n6_ := am (hb)
             have n7_ := am (hi)
             clear HO_9
             clear HO_344002
             clear HO_356002
             clear BK333
             clear BK343
             clear BK355
             clear HB
             clear HI339
             have HO_9 := n0_
             have HO_344002 := n1_
             have HO_356002 := n2_
             have BK333 := n3_
             have BK343 := n4_
             have BK355 := n5_
             have HB := n6_
             have HI339 := n7_
             clear n0_ n1_ n2_ n3_ n4_ n5_ n6_ n7_
             (try clear hb)
             (try clear hb2)
             (try clear hk)
             (try clear hi)
             refine hK.out _ _ ⟨(blk_cell BK355.out 0).trans rfl, (blk_cell BK355.out 1).trans rfl, (blk_cell BK355.out 2).trans rfl⟩ (fun hHeld => ?_)
             clear hK K
             refine norm_ (a' := ?_) ?_ ?_
             rotate_left
             ·show Act.put _ (some 65) _ = _
              simp only [Act.put, List.setIfInBounds_toArray, List.set_cons_zero, List.set_cons_succ, i64_w, i32_w]
              rfl
             refine one_ (i := 4) (N := some 66) (bm 8 31) rfl rfl (one_of HT_.out (by kernel_rfl)) (by decide) (fun K hK => ?_)
             refine value_ (w1 := ?_) (v := ?_) (by rfl) rfl ?_ ?_
             rotate_left 2
             ·go_simp
              constructor
              ·rfl
              ·rfl
             refine hK.out _ _ ⟨(blk_cell (blk_alloc BK355.out _) 0).trans rfl, (blk_cell (blk_alloc BK355.out _) 1).trans rfl, (blk_cell (blk_alloc BK355.out _) 2).trans rfl⟩ (fun hHeld => ?_)
             clear hK K
             refine norm_ (a' := ?_) ?_ ?_
             rotate_left
             ·show Act.put _ (some 66) _ = _
              simp only [Act.put, List.setIfInBounds_toArray, List.set_cons_zero, List.set_cons_succ, i64_w, i32_w]
              rfl
             refine one_ (i := 5) (N := some 67) (bm 8 63) rfl rfl (one_of HT_.out (by kernel_rfl)) (by decide) (fun K hK => ?_)
             refine Kd.R_append_step k45 (w0 := w) w.heap.size (by rfl) (.tmp 63) (.tmp 66) 38 45 (.agg #[(.int .i64 0), (.int .i64 0), (.int .i64 0), (.bool false), (.bool false), (.bool false), (.int .i64 0)]) 40 rfl Tryd.underlying38 info45 rfl (by decide) (by omega) u356002 x356002_4 (⟨t366, (⟨t367, t368, t369, t370, t371⟩ : S43), t372⟩ : S45) [.int .i64 t366, .int .i64 t367, .int .i64 t368, .bool t369, .bool t370, .bool t371, .int .i64 t372] (fun _ => True) (fun _ => False) rfl rfl ?aP (fun _ hk => hk.elim) ?aF ?aO ?aB ?aS ?aL ?_
             (case aP => exact k45_mkM _ _ _ (⟨t366, (⟨t367, t368, t369, t370, t371⟩ : S43), t372⟩ : S45))
             (case aB => exact (by repeat (first | (with_reducible first | exact HB.out | apply b1 | apply b2 | apply b3 | refine below_set ?_ (IsS61.ge HI339.out) | refine below_set ?_ GE333.out | refine below_set ?_ GE343.out | refine below_set ?_ GE355.out) | exact HB.out)))
             (case aF => exact (fun _ _ => trivial))
             (case aO => exact (rr HO_356002))
             (case aS => exact (below_size (by repeat (first | (with_reducible first | exact HB.out | apply b1 | apply b2 | apply b3 | refine below_set ?_ (IsS61.ge HI339.out) | refine below_set ?_ GE333.out | refine below_set ?_ GE343.out | refine below_set ?_ GE355.out) | exact HB.out))))
             (case aL => have := LMc59.out; omega)
             intro v376 w63 ho hb hg hat
             rw [← Ny375.out] at ho
             have n0_ := am (Kd.R_over' (rr HO_9) (Kd.R_typed (rr HO_356002)) (by decide) hg)
             have n1_ := am (Kd.S_after (ok := (fun k_ => k_ ≠ gb355)) (by (with_reducible repeat (first | apply Kd.S_alloc | apply Kd.S_drewN | apply Kd.S_drew)); exact Kd.S_mono HO_344002.out (fun _ hk => ⟨hk.2, hk.1⟩)) hg hat)
             have n2_ := am (blk_grown (g := gb333) (o := .cells #[.int .i64 0, .int .i64 0, .slice none 0 0] 29 (0, 0)) (rk BK333) hg (Kd.R_ne HO_356002.out BK333.out (by decide)))
             have n3_ := am (blk_grown (g := gb343) (o := .cells #[.int .i64 t340, .int .i64 t344, u344002] 29 (0, 0)) (rk BK343) hg (Kd.R_ne HO_356002.out BK343.out (by decide)))
             have n4_ := am (blk_grown (g := gb355) (o := .cells #[.int .i64 t352, .int .i64 t356, u356002] 40 (0, 0)) (rk BK355) hg (Kd.R_ne HO_356002.out BK355.out (by decide)))
             have n5_ := am (IsS61.grown (by repeat (first | (with_reducible first | exact HI339.out | apply IsS61.alloc | apply IsS61.drewN | apply IsS61.drew | apply IsS61.set_0 | apply IsS61.set_1 | refine IsS61.far ?_ NB339_333.out _ | refine IsS61.far ?_ NB339_343.out _ | refine IsS61.far ?_ NB339_355.out _) | exact HI339.out)) hg (IsS61.own_ne HI339.out HO_356002.out (by decide)))
             have n6_ := am (hb)
             have n7_ := am (ho)
             clear HO_9
             clear HO_344002
             clear BK333
             clear BK343
             clear BK355
             clear HI339
             clear HB
             clear HO_356002
             have HO_9 := n0_
             have HO_344002 := n1_
             have BK333 := n2_
             have BK343 := n3_
             have BK355 := n4_
             have HI339 := n5_
             have HB := n6_
             have HO377 := n7_
             clear n0_ n1_ n2_ n3_ n4_ n5_ n6_ n7_
             clear ho hb hg hat
             obtain ⟨Ao64, co64, eo64⟩ := Kd.R_slice HO377.out
             (first | subst eo64 | (injection eo64 with f1_ f2_ f3_; have f4_ := f1_.symm; have f5_ := f3_.symm; clear f1_ f2_ f3_; subst f4_; subst f5_))
             refine hK.out _ _ ⟨(blk_cell BK355.out 0).trans rfl, (blk_cell BK355.out 1).trans rfl, (blk_cell BK355.out 2).trans rfl⟩ (fun hHeld => ?_)
             clear hK K
             refine norm_ (a' := ?_) ?_ ?_
             rotate_left
             ·show Act.put _ (some 67) _ = _
              simp only [Act.put, List.setIfInBounds_toArray, List.set_cons_zero, List.set_cons_succ, i64_w, i32_w]
              rfl
             refine pu_ 6 68 (bm 8 127) HT_.out ?_
             refine last_ (i := 7) (N := none) (bm 8 255) rfl rfl (one_of HT_.out (by kernel_rfl)) (by decide) (fun K hK => ?_)
             have hs65 : w63.cell? ⟨gb355, 2, none⟩ = some (u356002) := (blk_cell BK355.out 2).trans rfl
             have hfs65 := blk_frozen BK355.out 2
             have hns65_0 := NB333_355.out
             have hns65_1 := NB343_355.out
             have hms65_0 := NB355_333.out
             have hms65_1 := NB355_343.out
             refine skip_ (w1 := ?_) (by rfl) rfl ?_ ?_
             rotate_left
             ·go_simp
              rfl
             refine hK.out _ _ ?_
             clear hK K
             refine done_ (done_of HT_.out (by kernel_rfl)) ?_
             try go_wp2
             go_roundg k4
             case measure => have := HK1.out; have := HJ16.out; have := HJ28.out; have := HK4.out; omega
             case rel => exact ⟨(wrap64 (x7_4 - 1)), (t373), (t374), (y375), (.slice Ao64 y375.length co64), (by first | rfl | (simp; done) | (simp [*]; done)), H', ⟨by have := HK1.out; have := HJ16.out; have := HJ28.out; have := HK4.out; omega⟩, ⟨by (with_reducible repeat (first | apply r1 | apply r2 | apply r3)); exact Kd.R_mono (Kd.R_far (p := ⟨gb355, 2, none⟩) (Kd.R_types HO_9.out BK355.out (by decide)) (fun _ hk => hk.2) (.slice Ao64 y375.length co64)) (fun _ hk => trivial)⟩, ⟨by (with_reducible repeat (first | apply Kd.S_alloc | apply Kd.S_drewN | apply Kd.S_drew)); exact Kd.S_mono (Kd.S_far (p := ⟨gb355, 2, none⟩) (Kd.S_mono HO_344002.out (fun k_ hk => (⟨hk, hk.1⟩ : _ ∧ k_ ≠ gb355))) (fun _ hk => hk.2) (.slice Ao64 y375.length co64)) (fun _ hk => ⟨hk.1.2, hk.1.1⟩)⟩, ⟨by (with_reducible repeat (first | apply r1 | apply r2 | apply r3)); exact Kd.R_mono (Kd.R_far (p := ⟨gb355, 2, none⟩) (Kd.R_types HO377.out BK355.out (by decide)) (fun _ hk => hk.2) (.slice Ao64 y375.length co64)) (fun _ hk => trivial)⟩, ⟨by (with_reducible repeat (first | apply k1 | apply k2 | apply k3)); refine blk_far ?_ NB333_355.out _; (with_reducible repeat (first | apply k1 | apply k2 | apply k3)); exact BK333.out⟩, ⟨by (with_reducible repeat (first | apply k1 | apply k2 | apply k3)); refine blk_far ?_ NB343_355.out _; (with_reducible repeat (first | apply k1 | apply k2 | apply k3)); exact BK343.out⟩, ⟨by (with_reducible repeat (first | apply k1 | apply k2 | apply k3)); refine blk_put (cs := #[.int .i64 t352, .int .i64 t356, u356002]) ?_ 2 _ rfl; (with_reducible repeat (first | apply k1 | apply k2 | apply k3)); exact BK355.out⟩, ⟨by repeat (first | (with_reducible first | exact HI339.out | apply IsS61.alloc | apply IsS61.drewN | apply IsS61.drew | apply IsS61.set_0 | apply IsS61.set_1 | refine IsS61.far ?_ NB339_333.out _ | refine IsS61.far ?_ NB339_343.out _ | refine IsS61.far ?_ NB339_355.out _) | exact HI339.out)⟩, ⟨by repeat (first | (with_reducible first | exact HB.out | apply b1 | apply b2 | apply b3 | refine below_set ?_ (IsS61.ge HI339.out) | refine below_set ?_ GE333.out | refine below_set ?_ GE343.out | refine below_set ?_ GE355.out) | exact HB.out)⟩⟩
            ·rw [if_neg c59] at H
             exact absurd H (by simp)
          ·rw [if_neg c43] at H
           have c43b0 : decide (0 < x7_4) = false := decide_eq_false c43
           clear c43
           by_cases c66 : x344002_1.length < 3518437208883
           ·rw [if_pos c66] at H
            have LMc66 := am c66
            clear c66
            obtain ⟨y378, hy378⟩ : ∃ y_ : List (S40), y_ = (x344002_1 ++ [(⟨t352, t356, x356002_4⟩ : S40)]) := ⟨_, rfl⟩
            replace H : (impl_ReadPatch.l0 k4 a0 t334 x340000_4 x340001_4 t340 t344 y378) = some (r1, r2, r3, r4) := by first | (rw [hy378]; with_reducible exact H) | (rw [hy378]; exact H) | exact H
            have Ny378 := am hy378
            clear hy378
            have H' := am H
            clear H
            have hnb67 := NB343_333.out
            have hnc67 := NB333_343.out
            have hnb68 := NB343_355.out
            have hnc68 := NB355_343.out
            have hnb69 := NB343_339.out
            have hnc69 := NB339_343.out
            have hcz70_0 : wr.cell? ⟨gb343, 0, none⟩ = some (.int .i64 t340) := (blk_cell BK343.out 0).trans rfl
            have hcz70_1 : wr.cell? ⟨gb343, 1, none⟩ = some (.int .i64 t344) := (blk_cell BK343.out 1).trans rfl
            have hcz70_2 : wr.cell? ⟨gb343, 2, none⟩ = some (u344002) := (blk_cell BK343.out 2).trans rfl
            have hfz70_0 := blk_frozen BK343.out 0
            have hfz70_1 := blk_frozen BK343.out 1
            have hfz70_2 := blk_frozen BK343.out 2
            have hnb71 := NB355_333.out
            have hnc71 := NB333_355.out
            have hnb72 := NB355_339.out
            have hnc72 := NB339_355.out
            have hcz73_0 : wr.cell? ⟨gb355, 0, none⟩ = some (.int .i64 t352) := (blk_cell BK355.out 0).trans rfl
            have hcz73_1 : wr.cell? ⟨gb355, 1, none⟩ = some (.int .i64 t356) := (blk_cell BK355.out 1).trans rfl
            have hcz73_2 : wr.cell? ⟨gb355, 2, none⟩ = some (u356002) := (blk_cell BK355.out 2).trans rfl
            have hfz73_0 := blk_frozen BK355.out 0
            have hfz73_1 := blk_frozen BK355.out 1
            have hfz73_2 := blk_frozen BK355.out 2
            obtain ⟨Ao75, co75, eo75⟩ := Kd.R_slice HO_356002.out
            subst eo75
            go_wp2_with (first | ((with_reducible refine gate_builtin (b := .append) (xs := #[.tmp 70, .tmp 72]) rfl ?_); at_builtin; refine Kd.S_append k40 (w0 := w) w.heap.size rfl (.tmp 70) (.tmp 72) 27 40 (.agg #[(.int .i64 0), (.int .i64 0), (.slice none 0 0)]) 40 rfl Tryd.underlying27 info40 rfl (by decide) (by omega) u344002 x344002_1 (⟨t352, t356, x356002_4⟩ : S40) [.int .i64 t352, .int .i64 t356, .slice Ao75 x356002_4.length co75] (fun k_ => k_ ≠ gb355) (fun k_ => some k_ = (.slice Ao75 x356002_4.length co75 : Value).ownBlock) rfl rfl ?aP (fun k_ hk_ => ((Kd.R_mono (ok' := fun k_ => ((fun k_ => k_ ≠ gb355)) k_ ∧ some k_ ≠ (u344002 : Value).ownBlock) (Kd.R_types (Kd.R_apart' (HO_356002.out) (Kd.S_typed HO_344002.out) (by decide)) BK355.out (by decide)) (fun k_ hk => ⟨hk.2, hk.1.2⟩))).1 k_ hk_.symm) ?aF ?aO ?aB ?aS ?aL ?_; (case aP => exact k40_mkM _ _ _ (⟨t352, t356, x356002_4⟩ : S40) (Kd.R_mono (Kd.R_tight rfl (Kd.R_mono (ok' := fun k_ => ((fun k_ => k_ ≠ gb355)) k_ ∧ some k_ ≠ (u344002 : Value).ownBlock) (Kd.R_types (Kd.R_apart' (HO_356002.out) (Kd.S_typed HO_344002.out) (by decide)) BK355.out (by decide)) (fun k_ hk => ⟨hk.2, hk.1.2⟩))) (fun _ h_ => h_))); (case aB => exact (by repeat (first | (with_reducible first | exact HB.out | apply b1 | apply b2 | apply b3 | refine below_set ?_ (IsS61.ge HI339.out) | refine below_set ?_ GE333.out | refine below_set ?_ GE343.out | refine below_set ?_ GE355.out) | exact HB.out))); (case aF => exact (fun k_ hk => Kd.freshB (g := gb355) (o := .cells #[.int .i64 t352, .int .i64 t356, .slice Ao75 x356002_4.length co75] 40 (0, 0)) (rk BK355) k_ hk)); (case aO => exact (by (with_reducible repeat (first | apply Kd.S_alloc | apply Kd.S_drewN | apply Kd.S_drew)); exact Kd.S_mono HO_344002.out (fun k_ hk => ⟨hk.2, fun e_ => hk.1 e_⟩))); (case aS => exact (below_size (by repeat (first | (with_reducible first | exact HB.out | apply b1 | apply b2 | apply b3 | refine below_set ?_ (IsS61.ge HI339.out) | refine below_set ?_ GE333.out | refine below_set ?_ GE343.out | refine below_set ?_ GE355.out) | exact HB.out)))); (case aL => have := LMc66.out; omega); intro v379 w74 ho hb hg hat; rw [← Ny378.out] at ho; have n0_ := am (Kd.R_over' (rr HO_9) (Kd.S_typed (rs HO_344002)) (by decide) hg); have n1_ := am (blk_grown (g := gb333) (o := .cells #[.int .i64 0, .int .i64 0, .slice none 0 0] 29 (0, 0)) (rk BK333) hg (Kd.S_ne HO_344002.out BK333.out (by decide))); have n2_ := am (blk_grown (g := gb343) (o := .cells #[.int .i64 t340, .int .i64 t344, u344002] 29 (0, 0)) (rk BK343) hg (Kd.S_ne HO_344002.out BK343.out (by decide))); have n3_ := am (blk_grown (g := gb355) (o := .cells #[.int .i64 t352, .int .i64 t356, .slice Ao75 x356002_4.length co75] 40 (0, 0)) (rk BK355) hg (Kd.S_away HO_344002.out (fun _ hk => hk.2))); have n4_ := am (IsS61.grown (by repeat (first | (with_reducible first | exact HI339.out | apply IsS61.alloc | apply IsS61.drewN | apply IsS61.drew | apply IsS61.set_0 | apply IsS61.set_1 | refine IsS61.far ?_ NB339_333.out _ | refine IsS61.far ?_ NB339_343.out _ | refine IsS61.far ?_ NB339_355.out _) | exact HI339.out)) hg (IsS61.own_neS HI339.out HO_344002.out (by decide))); have n5_ := am (hb); have n6_ := am (ho); clear HO_9; clear BK333; clear BK343; clear BK355; clear HI339; clear HB; clear HO_344002; clear HO_356002; have HO_9 := n0_; have BK333 := n1_; have BK343 := n2_; have BK355 := n3_; have HI339 := n4_; have HB := n5_; have HO380 := n6_; clear n0_ n1_ n2_ n3_ n4_ n5_ n6_; clear ho hb hg hat; obtain ⟨Ao76, co76, eo76⟩ := Kd.S_slice HO380.out; subst eo76; have hcz77_0 : w74.cell? ⟨gb343, 0, none⟩ = some (.int .i64 t340) := (blk_cell BK343.out 0).trans rfl; have hcz77_1 : w74.cell? ⟨gb343, 1, none⟩ = some (.int .i64 t344) := (blk_cell BK343.out 1).trans rfl; have hcz77_2 : w74.cell? ⟨gb343, 2, none⟩ = some (u344002) := (blk_cell BK343.out 2).trans rfl; have hfz77_0 := blk_frozen BK343.out 0; have hfz77_1 := blk_frozen BK343.out 1; have hfz77_2 := blk_frozen BK343.out 2))
            go_roundg k4
            case measure => have := HK1.out; have := HJ16.out; have := HJ28.out; have := HK4.out; omega
            case rel => exact ⟨(x340000_4), (x340001_4), (y378), (.slice Ao76 y378.length co76), H', ⟨by have := HK1.out; have := HJ16.out; have := HJ28.out; have := HK4.out; omega⟩, ⟨by (with_reducible repeat (first | apply r1 | apply r2 | apply r3)); exact Kd.R_mono (Kd.R_far (p := ⟨gb343, 2, none⟩) (Kd.R_types HO_9.out BK343.out (by decide)) (fun _ hk => hk.2) (.slice Ao76 y378.length co76)) (fun _ hk => trivial)⟩, ⟨by (with_reducible repeat (first | apply Kd.S_alloc | apply Kd.S_drewN | apply Kd.S_drew)); exact Kd.S_mono (Kd.S_far (p := ⟨gb343, 2, none⟩) (Kd.S_types HO380.out BK343.out (by decide)) (fun _ hk => hk.2) (.slice Ao76 y378.length co76)) (fun _ hk => trivial)⟩, ⟨by (with_reducible repeat (first | apply k1 | apply k2 | apply k3)); refine blk_far ?_ NB333_343.out _; (with_reducible repeat (first | apply k1 | apply k2 | apply k3)); exact BK333.out⟩, ⟨by (with_reducible repeat (first | apply k1 | apply k2 | apply k3)); refine blk_put (cs := #[.int .i64 t340, .int .i64 t344, u344002]) ?_ 2 _ rfl; (with_reducible repeat (first | apply k1 | apply k2 | apply k3)); exact BK343.out⟩, ⟨by repeat (first | (with_reducible first | exact HI339.out | apply IsS61.alloc | apply IsS61.drewN | apply IsS61.drew | apply IsS61.set_0 | apply IsS61.set_1 | refine IsS61.far ?_ NB339_333.out _ | refine IsS61.far ?_ NB339_343.out _ | refine IsS61.far ?_ NB339_355.out _) | exact HI339.out)⟩, ⟨by repeat (first | (with_reducible first | exact HB.out | apply b1 | apply b2 | apply b3 | refine below_set ?_ (IsS61.ge HI339.out) | refine below_set ?_ GE333.out | refine below_set ?_ GE343.out | refine below_set ?_ GE355.out) | exact HB.out)⟩⟩
           ·rw [if_neg c66] at H
            exact absurd H (by simp)
     ·replace c25 := Bool.eq_false_iff.mpr c25
      subst c25
      have H1 : (if x340001_1 = true then (some (0, 0, ([] : List (S40)), false)) else ((impl_ShowPatch.f kj16 t340 t344 x344002_1).bind fun t351 => (if t351.toList = a0.toList then (some (t340, t344, x344002_1, true)) else (some (0, 0, ([] : List (S40)), false))))) = some (r1, r2, r3, r4) := by rw [if_neg (show ¬ (false = true) by decide)] at H; exact H
      clear H
      have H := H1
      clear H1
      by_cases c78 : x340001_1 = true
      ·subst c78
       have H1 : (some (0, 0, ([] : List (S40)), false)) = some (r1, r2, r3, r4) := by rw [if_pos rfl] at H; exact H
       clear H
       have H := H1
       clear H1
       simp only [Option.some.injEq, Prod.mk.injEq] at H
       obtain ⟨rfl, rfl, rfl, rfl⟩ := H
       obtain ⟨HGz79, hgz79⟩ := HI339.out
       have hcz79_0 := cellS61_0 HGz79
       have hcz79_1 := cellS61_1 HGz79
       have hfz79_0 := blk_frozen HGz79 0
       have hfz79_1 := blk_frozen HGz79 1
       clear HGz79 hgz79
       have hnb80 := NB333_343.out
       have hnc80 := NB343_333.out
       have hnb81 := NB333_339.out
       have hnc81 := NB339_333.out
       have hcz82_0 : wc.cell? ⟨gb333, 0, none⟩ = some (.int .i64 0) := (blk_cell BK333.out 0).trans rfl
       have hcz82_1 : wc.cell? ⟨gb333, 1, none⟩ = some (.int .i64 0) := (blk_cell BK333.out 1).trans rfl
       have hcz82_2 : wc.cell? ⟨gb333, 2, none⟩ = some (.slice none 0 0) := (blk_cell BK333.out 2).trans rfl
       have hfz82_0 := blk_frozen BK333.out 0
       have hfz82_1 := blk_frozen BK333.out 1
       have hfz82_2 := blk_frozen BK333.out 2
       go_wp2
       refine bodyPost_ret (results_ct rfl _ _ gb333 29 #[.int .i64 0, .int .i64 0, .slice none 0 0] (0, 0) _ rfl (by (with_reducible repeat (first | apply k1 | apply k2 | apply k3)); refine blk_put (cs := #[.int .i64 0, .int .i64 0, .slice none 0 0]) ?_ 2 _ rfl; (with_reducible repeat (first | apply k1 | apply k2 | apply k3)); refine blk_put (cs := #[.int .i64 0, .int .i64 0, .slice none 0 0]) ?_ 1 _ rfl; (with_reducible repeat (first | apply k1 | apply k2 | apply k3)); refine blk_put (cs := #[.int .i64 0, .int .i64 0, .slice none 0 0]) ?_ 0 _ rfl; (with_reducible repeat (first | apply k1 | apply k2 | apply k3)); exact BK333.out) Tryd.underlying29 rfl (by kernel_rfl)) rfl ?_
       exact ⟨_, by first | rfl | (simp [errW_none, errW_some] <;> rfl) | (simp [*, errW_none, errW_some] <;> rfl), by first | exact Kd.S_nil _ _ _ _ _ | exact Kd.N_nil _ _ _ _ _ | exact Kd.V_nil _ _ _ _ _ | exact Kd.Q_nil _ _ _ _ _ | exact Kd.R_nil _ _ _ _ _, by repeat (first | (with_reducible first | exact HB.out | apply b1 | apply b2 | apply b3 | refine below_set ?_ (IsS61.ge HI339.out) | refine below_set ?_ GE333.out | refine below_set ?_ GE343.out) | exact HB.out)⟩
      ·replace c78 := Bool.eq_false_iff.mpr c78
       subst c78
       have H1 : ((impl_ShowPatch.f kj16 t340 t344 x344002_1).bind fun t351 => (if t351.toList = a0.toList then (some (t340, t344, x344002_1, true)) else (some (0, 0, ([] : List (S40)), false)))) = some (r1, r2, r3, r4) := by rw [if_neg (show ¬ (false = true) by decide)] at H; exact H
       clear H
       have H := H1
       clear H1
       replace H := Option.bind_eq_some_iff.mp H
       obtain ⟨t351, A830, H⟩ := H
       replace H : (if t351.toList = a0.toList then (some (t340, t344, x344002_1, true)) else (some (0, 0, ([] : List (S40)), false))) = some (r1, r2, r3, r4) := H
       have A83 := am A830
       clear A830
       by_cases c84 : t351.toList = a0.toList
       ·rw [if_pos c84] at H
        have c84b0 : (t351.toList == a0.toList) = true := beq_iff_eq.mpr c84
        have c84b1 : (t351.toList != a0.toList) = false := bne_eq_false_iff_eq.mpr c84
        clear c84
        simp only [Option.some.injEq, Prod.mk.injEq] at H
        obtain ⟨rfl, rfl, rfl, rfl⟩ := H
        obtain ⟨HGz85, hgz85⟩ := HI339.out
        have hcz85_0 := cellS61_0 HGz85
        have hcz85_1 := cellS61_1 HGz85
        have hfz85_0 := blk_frozen HGz85 0
        have hfz85_1 := blk_frozen HGz85 1
        clear HGz85 hgz85
        have hnb86 := NB343_333.out
        have hnc86 := NB333_343.out
        have hnb87 := NB343_339.out
        have hnc87 := NB339_343.out
        have hcz88_0 : wc.cell? ⟨gb343, 0, none⟩ = some (.int .i64 t340) := (blk_cell BK343.out 0).trans rfl
        have hcz88_1 : wc.cell? ⟨gb343, 1, none⟩ = some (.int .i64 t344) := (blk_cell BK343.out 1).trans rfl
        have hcz88_2 : wc.cell? ⟨gb343, 2, none⟩ = some (u344002) := (blk_cell BK343.out 2).trans rfl
        have hfz88_0 := blk_frozen BK343.out 0
        have hfz88_1 := blk_frozen BK343.out 1
        have hfz88_2 := blk_frozen BK343.out 2
        obtain ⟨Ao89, co89, eo89⟩ := Kd.S_slice HO_344002.out
        subst eo89
        go_wp2_with (first | (go_at_call 8; (with_reducible refine (impl_ShowPatch.calls kj16 t340 t344 _ _ x344002_1 t351 _ ?side1 ?side2 A83.out ?sideT).mono ?_); (case sideT => exact TB.below HT.out (by repeat (first | (with_reducible first | exact HB.out | apply b1 | apply b2 | apply b3 | refine below_set ?_ (IsS61.ge HI339.out) | refine below_set ?_ GE333.out | refine below_set ?_ GE343.out) | exact HB.out))); (case side1 => repeat (first | exact (Kd.S_reads' HO_344002.out).2.2 | (with_reducible refine Kd.C_alloc ?_ _) | (with_reducible refine Kd.C_drewN ?_ _) | (with_reducible refine Kd.C_drew ?_))); (case side2 => exact (Kd.S_reads' HO_344002.out).2.1); rintro e w90 ⟨rfl, hb⟩; have n0_ := am (Kd.R_below (rr HO_9) hb); have n1_ := am (Kd.S_below (rs HO_344002) hb); have n2_ := am (blk_below (g := gb333) (o := .cells #[.int .i64 0, .int .i64 0, .slice none 0 0] 29 (0, 0)) (rk BK333) hb); have n3_ := am (blk_below (g := gb343) (o := .cells #[.int .i64 t340, .int .i64 t344, .slice Ao89 x344002_1.length co89] 29 (0, 0)) (rk BK343) hb); have n4_ := am (IsS61.below (by repeat (first | (with_reducible first | exact HI339.out | apply IsS61.alloc | apply IsS61.drewN | apply IsS61.drew | apply IsS61.set_0 | apply IsS61.set_1 | refine IsS61.far ?_ NB339_333.out _ | refine IsS61.far ?_ NB339_343.out _) | exact HI339.out)) hb); have n5_ := am (below_step (by repeat (first | (with_reducible first | exact HB.out | apply b1 | apply b2 | apply b3 | refine below_set ?_ (IsS61.ge HI339.out) | refine below_set ?_ GE333.out | refine below_set ?_ GE343.out) | exact HB.out)) hb); clear HO_9; clear HO_344002; clear BK333; clear BK343; clear HI339; clear HB; have HO_9 := n0_; have HO_344002 := n1_; have BK333 := n2_; have BK343 := n3_; have HI339 := n4_; have HB := n5_; clear n0_ n1_ n2_ n3_ n4_ n5_; (try clear hb); (try clear hb2); (try clear hk); (try clear hi); have hcz91_0 : w90.cell? ⟨gb343, 0, none⟩ = some (.int .i64 t340) := (blk_cell BK343.out 0).trans rfl; have hcz91_1 : w90.cell? ⟨gb343, 1, none⟩ = some (.int .i64 t344) := (blk_cell BK343.out 1).trans rfl; have hcz91_2 : w90.cell? ⟨gb343, 2, none⟩ = some (.slice Ao89 x344002_1.length co89) := (blk_cell BK343.out 2).trans rfl; have hfz91_0 := blk_frozen BK343.out 0; have hfz91_1 := blk_frozen BK343.out 1; have hfz91_2 := blk_frozen BK343.out 2; have hnb92 := NB333_339.out; have hnc92 := NB339_333.out; have hcz93_0 : w90.cell? ⟨gb333, 0, none⟩ = some (.int .i64 0) := (blk_cell BK333.out 0).trans rfl; have hcz93_1 : w90.cell? ⟨gb333, 1, none⟩ = some (.int .i64 0) := (blk_cell BK333.out 1).trans rfl; have hcz93_2 : w90.cell? ⟨gb333, 2, none⟩ = some (.slice none 0 0) := (blk_cell BK333.out 2).trans rfl; have hfz93_0 := blk_frozen BK333.out 0; have hfz93_1 := blk_frozen BK333.out 1; have hfz93_2 := blk_frozen BK333.out 2))
        refine bodyPost_ret (results_ct rfl _ _ gb333 29 #[.int .i64 t340, .int .i64 t344, .slice Ao89 x344002_1.length co89] (0, 0) _ rfl (by (with_reducible repeat (first | apply k1 | apply k2 | apply k3)); refine blk_put (cs := #[.int .i64 t340, .int .i64 t344, .slice none 0 0]) ?_ 2 _ rfl; (with_reducible repeat (first | apply k1 | apply k2 | apply k3)); refine blk_put (cs := #[.int .i64 t340, .int .i64 0, .slice none 0 0]) ?_ 1 _ rfl; (with_reducible repeat (first | apply k1 | apply k2 | apply k3)); refine blk_put (cs := #[.int .i64 0, .int .i64 0, .slice none 0 0]) ?_ 0 _ rfl; (with_reducible repeat (first | apply k1 | apply k2 | apply k3)); exact BK333.out) Tryd.underlying29 rfl (by kernel_rfl)) rfl ?_
        exact ⟨_, by first | rfl | (simp [errW_none, errW_some] <;> rfl) | (simp [*, errW_none, errW_some] <;> rfl), by (with_reducible repeat (first | apply Kd.S_alloc | apply Kd.S_drewN | apply Kd.S_drew)); exact Kd.S_mono (Kd.S_far (p := ⟨gb333, 2, none⟩) (Kd.S_far (p := ⟨gb333, 1, none⟩) (Kd.S_far (p := ⟨gb333, 0, none⟩) (Kd.S_types HO_344002.out BK333.out (by decide)) (fun _ hk => hk.2) (.int .i64 t340)) (fun _ hk => hk.2) (.int .i64 t344)) (fun _ hk => hk.2) (.slice Ao89 x344002_1.length co89)) (fun _ hk => trivial), by repeat (first | (with_reducible first | exact HB.out | apply b1 | apply b2 | apply b3 | refine below_set ?_ (IsS61.ge HI339.out) | refine below_set ?_ GE333.out | refine below_set ?_ GE343.out) | exact HB.out)⟩
       ·rw [if_neg c84] at H
        have c84b0 : (t351.toList == a0.toList) = false := beq_eq_false_iff_ne.mpr c84
        have c84b1 : (t351.toList != a0.toList) = true := bne_iff_ne.mpr c84
        simp only [Option.some.injEq, Prod.mk.injEq] at H
        obtain ⟨rfl, rfl, rfl, rfl⟩ := H
        obtain ⟨HGz94, hgz94⟩ := HI339.out
        have hcz94_0 := cellS61_0 HGz94
        have hcz94_1 := cellS61_1 HGz94
        have hfz94_0 := blk_frozen HGz94 0
        have hfz94_1 := blk_frozen HGz94 1
        clear HGz94 hgz94
        have hnb95 := NB343_333.out
        have hnc95 := NB333_343.out
        have hnb96 := NB343_339.out
        have hnc96 := NB339_343.out
        have hcz97_0 : wc.cell? ⟨gb343, 0, none⟩ = some (.int .i64 t340) := (blk_cell BK343.out 0).trans rfl
        have hcz97_1 : wc.cell? ⟨gb343, 1, none⟩ = some (.int .i64 t344) := (blk_cell BK343.out 1).trans rfl
        have hcz97_2 : wc.cell? ⟨gb343, 2, none⟩ = some (u344002) := (blk_cell BK343.out 2).trans rfl
        have hfz97_0 := blk_frozen BK343.out 0
        have hfz97_1 := blk_frozen BK343.out 1
        have hfz97_2 := blk_frozen BK343.out 2
        obtain ⟨Ao98, co98, eo98⟩ := Kd.S_slice HO_344002.out
        subst eo98
        go_wp2_with (first | (go_at_call 8; (with_reducible refine (impl_ShowPatch.calls kj16 t340 t344 _ _ x344002_1 t351 _ ?side1 ?side2 A83.out ?sideT).mono ?_); (case sideT => exact TB.below HT.out (by repeat (first | (with_reducible first | exact HB.out | apply b1 | apply b2 | apply b3 | refine below_set ?_ (IsS61.ge HI339.out) | refine below_set ?_ GE333.out | refine below_set ?_ GE343.out) | exact HB.out))); (case side1 => repeat (first | exact (Kd.S_reads' HO_344002.out).2.2 | (with_reducible refine Kd.C_alloc ?_ _) | (with_reducible refine Kd.C_drewN ?_ _) | (with_reducible refine Kd.C_drew ?_))); (case side2 => exact (Kd.S_reads' HO_344002.out).2.1); rintro e w99 ⟨rfl, hb⟩; have n0_ := am (Kd.R_below (rr HO_9) hb); have n1_ := am (Kd.S_below (rs HO_344002) hb); have n2_ := am (blk_below (g := gb333) (o := .cells #[.int .i64 0, .int .i64 0, .slice none 0 0] 29 (0, 0)) (rk BK333) hb); have n3_ := am (blk_below (g := gb343) (o := .cells #[.int .i64 t340, .int .i64 t344, .slice Ao98 x344002_1.length co98] 29 (0, 0)) (rk BK343) hb); have n4_ := am (IsS61.below (by repeat (first | (with_reducible first | exact HI339.out | apply IsS61.alloc | apply IsS61.drewN | apply IsS61.drew | apply IsS61.set_0 | apply IsS61.set_1 | refine IsS61.far ?_ NB339_333.out _ | refine IsS61.far ?_ NB339_343.out _) | exact HI339.out)) hb); have n5_ := am (below_step (by repeat (first | (with_reducible first | exact HB.out | apply b1 | apply b2 | apply b3 | refine below_set ?_ (IsS61.ge HI339.out) | refine below_set ?_ GE333.out | refine below_set ?_ GE343.out) | exact HB.out)) hb); clear HO_9; clear HO_344002; clear BK333; clear BK343; clear HI339; clear HB; have HO_9 := n0_; have HO_344002 := n1_; have BK333 := n2_; have BK343 := n3_; have HI339 := n4_; have HB := n5_; clear n0_ n1_ n2_ n3_ n4_ n5_; (try clear hb); (try clear hb2); (try clear hk); (try clear hi); have hnb100 := NB333_339.out; have hnc100 := NB339_333.out; have hcz101_0 : w99.cell? ⟨gb333, 0, none⟩ = some (.int .i64 0) := (blk_cell BK333.out 0).trans rfl; have hcz101_1 : w99.cell? ⟨gb333, 1, none⟩ = some (.int .i64 0) := (blk_cell BK333.out 1).trans rfl; have hcz101_2 : w99.cell? ⟨gb333, 2, none⟩ = some (.slice none 0 0) := (blk_cell BK333.out 2).trans rfl; have hfz101_0 := blk_frozen BK333.out 0; have hfz101_1 := blk_frozen BK333.out 1; have hfz101_2 := blk_frozen BK333.out 2))
        refine bodyPost_ret (results_ct rfl _ _ gb333 29 #[.int .i64 0, .int .i64 0, .slice none 0 0] (0, 0) _ rfl (by (with_reducible repeat (first | apply k1 | apply k2 | apply k3)); refine blk_put (cs := #[.int .i64 0, .int .i64 0, .slice none 0 0]) ?_ 2 _ rfl; (with_reducible repeat (first | apply k1 | apply k2 | apply k3)); refine blk_put (cs := #[.int .i64 0, .int .i64 0, .slice none 0 0]) ?_ 1 _ rfl; (with_reducible repeat (first | apply k1 | apply k2 | apply k3)); refine blk_put (cs := #[.int .i64 0, .int .i64 0, .slice none 0 0]) ?_ 0 _ rfl; (with_reducible repeat (first | apply k1 | apply k2 | apply k3)); exact BK333.out) Tryd.underlying29 rfl (by kernel_rfl)) rfl ?_
        exact ⟨_, by first | rfl | (simp [errW_none, errW_some] <;> rfl) | (simp [*, errW_none, errW_some] <;> rfl), by first | exact Kd.S_nil _ _ _ _ _ | exact Kd.N_nil _ _ _ _ _ | exact Kd.V_nil _ _ _ _ _ | exact Kd.Q_nil _ _ _ _ _ | exact Kd.R_nil _ _ _ _ _, by repeat (first | (with_reducible first | exact HB.out | apply b1 | apply b2 | apply b3 | refine below_set ?_ (IsS61.ge HI339.out) | refine below_set ?_ GE333.out | refine below_set ?_ GE343.out) | exact HB.out)⟩

end Go.Proofs.YtalopdcephohgaaDoor.SB
