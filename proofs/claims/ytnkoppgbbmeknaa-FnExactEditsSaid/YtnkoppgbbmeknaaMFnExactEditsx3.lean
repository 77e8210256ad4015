/- Contracts of Go functions that a law reaches: each Lean function answers as its Go function does. No condition. Written by wip/tools/inj.py, over the kit's print. -/
import Derived.Test.YtnkoppgbbmeknaaPFnExactEditsx0
import Derived.Test.YtnkoppgbbmeknaaPFnExactEditsx1
import Derived.Test.YtnkoppgbbmeknaaMFnExactEditsx2
namespace Go.Proofs.Ytnkoppgbbmeknaa.PFnExactEdits
open Go.RowKit Go.Proofs.YtnkoppgbbmeknaaW.PrintWords Go.Proofs.YtnkoppgbbmeknaaW.PrintLast Go.Proofs.YtnkoppgbbmeknaaW.PrintMore
attribute [local go_sem] max2_int min2_int max_two min_two max_three min_three max_four min_four   -- for this text's walks alone
set_option linter.unusedVariables false
set_option linter.unusedSimpArgs false

/-! ### spec_Edits: function 61 -/
mutual
def spec_Edits.l0 : Nat → List Int → List Int → List (S126) → List Int → Int → Int → Int → Option ((List (S126)) × Bool)
  | 0, _, _, _, _, _, _, _ => none
  | k + 1, x0, x1, x6, x7, x8, x9, x10 => if x9 > 0 then (spec_Edits.j1 k x0 x1 x6 x7 x8 x9 x10 true) else (spec_Edits.j1 k x0 x1 x6 x7 x8 x9 x10 (decide (x10 > 0)))
def spec_Edits.j1 : Nat → List Int → List Int → List (S126) → List Int → Int → Int → Int → Bool → Option ((List (S126)) × Bool)
  | 0, _, _, _, _, _, _, _, _ => none
  | k + 1, x0, x1, x6, x7, x8, x9, x10, x35 => if x35 = true then (if x10 = 0 then (if x6.length < 5864062014805 then (spec_Edits.l0 k x0 x1 (x6 ++ [(⟨1, wrap64 (x9 - 1), 0⟩ : S126)]) x7 x8 (wrap64 (x9 - 1)) x10) else (none)) else (if x9 = 0 then (if 0 ≤ (wrap64 (x10 - 1)) then (if (wrap64 (x10 - 1)) < (x1.length : Int) then (if x6.length < 5864062014805 then (spec_Edits.l0 k x0 x1 (x6 ++ [(⟨2, 0, rd x1 (wrap64 (x10 - 1))⟩ : S126)]) x7 x8 x9 (wrap64 (x10 - 1))) else (none)) else (none)) else (none)) else (if 0 ≤ (wrap64 (x9 - 1)) then (if (wrap64 (x9 - 1)) < (x0.length : Int) then (if 0 ≤ (wrap64 (x10 - 1)) then (if (wrap64 (x10 - 1)) < (x1.length : Int) then (if (rd x0 (wrap64 (x9 - 1))) = (rd x1 (wrap64 (x10 - 1))) then (spec_Edits.l0 k x0 x1 x6 x7 x8 (wrap64 (x9 - 1)) (wrap64 (x10 - 1))) else (if 0 ≤ (wrap64 ((wrap64 ((wrap64 ((wrap64 (x9 - 1)) * x8)) + x10)) - 1)) then (if (wrap64 ((wrap64 ((wrap64 ((wrap64 (x9 - 1)) * x8)) + x10)) - 1)) < (x7.length : Int) then (if 0 ≤ (wrap64 ((wrap64 ((wrap64 (x9 - 1)) * x8)) + x10)) then (if (wrap64 ((wrap64 ((wrap64 (x9 - 1)) * x8)) + x10)) < (x7.length : Int) then (if 0 ≤ (wrap64 ((wrap64 ((wrap64 (x9 * x8)) + x10)) - 1)) then (if (wrap64 ((wrap64 ((wrap64 (x9 * x8)) + x10)) - 1)) < (x7.length : Int) then (if (rd x7 (wrap64 ((wrap64 ((wrap64 ((wrap64 (x9 - 1)) * x8)) + x10)) - 1))) ≤ (rd x7 (wrap64 ((wrap64 ((wrap64 (x9 - 1)) * x8)) + x10))) then (spec_Edits.j2 k x0 x1 x6 x7 x8 x9 x10 (rd x7 (wrap64 ((wrap64 ((wrap64 (x9 - 1)) * x8)) + x10))) (rd x7 (wrap64 ((wrap64 ((wrap64 (x9 * x8)) + x10)) - 1))) (decide ((rd x7 (wrap64 ((wrap64 ((wrap64 ((wrap64 (x9 - 1)) * x8)) + x10)) - 1))) ≤ (rd x7 (wrap64 ((wrap64 ((wrap64 (x9 * x8)) + x10)) - 1)))))) else (spec_Edits.j2 k x0 x1 x6 x7 x8 x9 x10 (rd x7 (wrap64 ((wrap64 ((wrap64 (x9 - 1)) * x8)) + x10))) (rd x7 (wrap64 ((wrap64 ((wrap64 (x9 * x8)) + x10)) - 1))) false)) else (none)) else (none)) else (none)) else (none)) else (none)) else (none))) else (none)) else (none)) else (none)) else (none)))) else (some (x6, true))
def spec_Edits.j2 : Nat → List Int → List Int → List (S126) → List Int → Int → Int → Int → Int → Int → Bool → Option ((List (S126)) × Bool)
  | 0, _, _, _, _, _, _, _, _, _, _ => none
  | k + 1, x0, x1, x6, x7, x8, x9, x10, x12, x13, x75 => if x75 = true then (if 0 ≤ (wrap64 (x10 - 1)) then (if (wrap64 (x10 - 1)) < (x1.length : Int) then (if x6.length < 5864062014805 then (spec_Edits.l0 k x0 x1 (x6 ++ [(⟨3, wrap64 (x9 - 1), rd x1 (wrap64 (x10 - 1))⟩ : S126)]) x7 x8 (wrap64 (x9 - 1)) (wrap64 (x10 - 1))) else (none)) else (none)) else (none)) else (if x12 ≤ x13 then (if x6.length < 5864062014805 then (spec_Edits.l0 k x0 x1 (x6 ++ [(⟨1, wrap64 (x9 - 1), 0⟩ : S126)]) x7 x8 (wrap64 (x9 - 1)) x10) else (none)) else (if 0 ≤ (wrap64 (x10 - 1)) then (if (wrap64 (x10 - 1)) < (x1.length : Int) then (if x6.length < 5864062014805 then (spec_Edits.l0 k x0 x1 (x6 ++ [(⟨2, x9, rd x1 (wrap64 (x10 - 1))⟩ : S126)]) x7 x8 x9 (wrap64 (x10 - 1))) else (none)) else (none)) else (none)))
end
def spec_Edits.f (k : Nat) (l0 : List Int) (l1 : List Int) : Option ((List (S126)) × Bool) := (some (([] : List (S126)) : List (S126))).bind fun y124 => ((spec_l9Two.f l0 l1).bind fun t127 => (if t127 = true then ((spec_l9Table.f k l0 l1).bind fun t128 => (spec_Edits.l0 k l0 l1 y124 t128 (wrap64 ((l1.length : Int) + 1)) (l0.length : Int) (l1.length : Int))) else (some (y124, false))))
theorem spec_Edits.mono_l : ∀ k, (∀ y0 y1 y2 y3 y4 y5 y6, LeO (spec_Edits.l0 k y0 y1 y2 y3 y4 y5 y6) (spec_Edits.l0 (k + 1) y0 y1 y2 y3 y4 y5 y6)) ∧ (∀ y0 y1 y2 y3 y4 y5 y6 y7, LeO (spec_Edits.j1 k y0 y1 y2 y3 y4 y5 y6 y7) (spec_Edits.j1 (k + 1) y0 y1 y2 y3 y4 y5 y6 y7)) ∧ (∀ y0 y1 y2 y3 y4 y5 y6 y7 y8 y9, LeO (spec_Edits.j2 k y0 y1 y2 y3 y4 y5 y6 y7 y8 y9) (spec_Edits.j2 (k + 1) y0 y1 y2 y3 y4 y5 y6 y7 y8 y9))
  | 0 => ⟨fun _ _ _ _ _ _ _ r h => by simp [spec_Edits.l0] at h, fun _ _ _ _ _ _ _ _ r h => by simp [spec_Edits.j1] at h, fun _ _ _ _ _ _ _ _ _ _ r h => by simp [spec_Edits.j2] at h⟩
  | k + 1 => by
    obtain ⟨ih0, ih1, ih2⟩ := spec_Edits.mono_l k
    refine ⟨?_, ?_, ?_⟩
    · intro y0 y1 y2 y3 y4 y5 y6
      unfold spec_Edits.l0
      repeat' first
      | (with_reducible exact ih0 _ _ _ _ _ _ _)
      | (with_reducible exact ih1 _ _ _ _ _ _ _ _)
      | (with_reducible exact ih2 _ _ _ _ _ _ _ _ _ _)
      | (with_reducible exact spec_l9Table.mono _ _ _)
      | (with_reducible exact LeO.refl _)
      | (with_reducible exact LeO.none _)
      | (with_reducible refine LeO.ite ?_ ?_)
      | (with_reducible refine LeO.bind ?_ (fun _ => ?_))
      | exact ih0 _ _ _ _ _ _ _
      | exact ih1 _ _ _ _ _ _ _ _
      | exact ih2 _ _ _ _ _ _ _ _ _ _
      | exact spec_l9Table.mono _ _ _
      | exact LeO.none _
      | refine LeO.ite ?_ ?_
      | refine LeO.bind ?_ (fun _ => ?_)
    · intro y0 y1 y2 y3 y4 y5 y6 y7
      unfold spec_Edits.j1
      repeat' first
      | (with_reducible exact ih0 _ _ _ _ _ _ _)
      | (with_reducible exact ih1 _ _ _ _ _ _ _ _)
      | (with_reducible exact ih2 _ _ _ _ _ _ _ _ _ _)
      | (with_reducible exact spec_l9Table.mono _ _ _)
      | (with_reducible exact LeO.refl _)
      | (with_reducible exact LeO.none _)
      | (with_reducible refine LeO.ite ?_ ?_)
      | (with_reducible refine LeO.bind ?_ (fun _ => ?_))
      | exact ih0 _ _ _ _ _ _ _
      | exact ih1 _ _ _ _ _ _ _ _
      | exact ih2 _ _ _ _ _ _ _ _ _ _
      | exact spec_l9Table.mono _ _ _
      | exact LeO.none _
      | refine LeO.ite ?_ ?_
      | refine LeO.bind ?_ (fun _ => ?_)
    · intro y0 y1 y2 y3 y4 y5 y6 y7 y8 y9
      unfold spec_Edits.j2
      repeat' first
      | (with_reducible exact ih0 _ _ _ _ _ _ _)
      | (with_reducible exact ih1 _ _ _ _ _ _ _ _)
      | (with_reducible exact ih2 _ _ _ _ _ _ _ _ _ _)
      | (with_reducible exact spec_l9Table.mono _ _ _)
      | (with_reducible exact LeO.refl _)
      | (with_reducible exact LeO.none _)
      | (with_reducible refine LeO.ite ?_ ?_)
      | (with_reducible refine LeO.bind ?_ (fun _ => ?_))
      | exact ih0 _ _ _ _ _ _ _
      | exact ih1 _ _ _ _ _ _ _ _
      | exact ih2 _ _ _ _ _ _ _ _ _ _
      | exact spec_l9Table.mono _ _ _
      | exact LeO.none _
      | refine LeO.ite ?_ ?_
      | refine LeO.bind ?_ (fun _ => ?_)
theorem spec_Edits.mono : ∀ a0 a1 k, LeO (spec_Edits.f k a0 a1) (spec_Edits.f (k + 1) a0 a1) := by
  intro a0 a1 k
  obtain ⟨ih0, ih1, ih2⟩ := spec_Edits.mono_l k
  unfold spec_Edits.f
  repeat' first
      | (with_reducible exact ih0 _ _ _ _ _ _ _)
      | (with_reducible exact ih1 _ _ _ _ _ _ _ _)
      | (with_reducible exact ih2 _ _ _ _ _ _ _ _ _ _)
      | (with_reducible exact spec_l9Table.mono _ _ _)
      | (with_reducible exact LeO.refl _)
      | (with_reducible exact LeO.none _)
      | (with_reducible refine LeO.ite ?_ ?_)
      | (with_reducible refine LeO.bind ?_ (fun _ => ?_))
      | exact ih0 _ _ _ _ _ _ _
      | exact ih1 _ _ _ _ _ _ _ _
      | exact ih2 _ _ _ _ _ _ _ _ _ _
      | exact spec_l9Table.mono _ _ _
      | exact LeO.none _
      | refine LeO.ite ?_ ?_
      | refine LeO.bind ?_ (fun _ => ?_)
set_option maxHeartbeats 8000000 in
set_option maxRecDepth 100000 in
theorem spec_Edits.calls (k : Nat) (A0 : Option Addr) (c0 : Nat) (l0 : List Int) (A1 : Option Addr) (c1 : Nat) (l1 : List Int) (r1 : List (S126)) (r2 : Bool) (w : World) (hr0 : Kd.C (Kd.int .i64) w A0 l0.length l0) (hc0 : l0.length ≤ c0) (hr1 : Kd.C (Kd.int .i64) w A1 l1.length l1) (hc1 : l1.length ≤ c1) (h : spec_Edits.f k l0 l1 = some (r1, r2)) :
    Calls Try.prog 61 #[.slice A0 l0.length c0, .slice A1 l1.length c1] w fun e w' => ∃ v0_ : Value, e = .returned (.tuple #[v0_, .bool r2]) ∧ Kd.R k126 126 w' w.heap.size (fun _ => True) v0_ r1 ∧ Below w.heap.size w w' := by
  have hu126 := Try.underlying126
  have HR0 := Aside0.mk hr0
  have HC0 := Aside0.mk hc0
  clear hr0 hc0
  have HR1 := Aside0.mk hr1
  have HC1 := Aside0.mk hc1
  clear hr1 hc1
  have HB := Aside0.mk (Below.refl w.heap.size w)
  have H : ((some (([] : List (S126)) : List (S126))).bind fun y124 => ((spec_l9Two.f l0 l1).bind fun t127 => (if t127 = true then ((spec_l9Table.f k l0 l1).bind fun t128 => (spec_Edits.l0 k l0 l1 y124 t128 (wrap64 ((l1.length : Int) + 1)) (l0.length : Int) (l1.length : Int))) else (some (y124, false))))) = some (r1, r2) := h
  clear h
  obtain ⟨y124, hy124⟩ : ∃ y_ : List (S126), y_ = (([] : List (S126))) := ⟨_, rfl⟩
  replace H : ((spec_l9Two.f l0 l1).bind fun t127 => (if t127 = true then ((spec_l9Table.f k l0 l1).bind fun t128 => (spec_Edits.l0 k l0 l1 y124 t128 (wrap64 ((l1.length : Int) + 1)) (l0.length : Int) (l1.length : Int))) else (some (y124, false)))) = some (r1, r2) := by first | (rw [hy124]; with_reducible exact H) | (have H2_ := (Option.bind_some _ _).symm.trans H; rw [hy124]; with_reducible exact H2_) | (have H2_ := (Option.bind_some _ _).symm.trans H; with_reducible exact H2_) | with_reducible exact H | (rw [hy124]; exact H) | exact H
  have Ny124 := Aside0.mk hy124
  clear hy124
  replace H := Option.bind_eq_some_iff.mp H
  obtain ⟨t127, A30, H⟩ := H
  replace H : (if t127 = true then ((spec_l9Table.f k l0 l1).bind fun t128 => (spec_Edits.l0 k l0 l1 y124 t128 (wrap64 ((l1.length : Int) + 1)) (l0.length : Int) (l1.length : Int))) else (some (y124, false))) = some (r1, r2) := H
  have A3 := Aside0.mk A30
  clear A30
  by_cases c4 : t127 = true
  · subst c4
    have H1 : ((spec_l9Table.f k l0 l1).bind fun t128 => (spec_Edits.l0 k l0 l1 y124 t128 (wrap64 ((l1.length : Int) + 1)) (l0.length : Int) (l1.length : Int))) = some (r1, r2) := by rw [if_pos rfl] at H; exact H
    clear H
    have H := H1
    clear H1
    replace H := Option.bind_eq_some_iff.mp H
    obtain ⟨t128, A50, H⟩ := H
    replace H : (spec_Edits.l0 k l0 l1 y124 t128 (wrap64 ((l1.length : Int) + 1)) (l0.length : Int) (l1.length : Int)) = some (r1, r2) := H
    have A5 := Aside0.mk A50
    clear A50
    have H' := Aside0.mk H
    clear H
    go_enter Try.func61, Try.ntmps61
    go_wp2_with (first | ((with_reducible refine gate_dst (N := 14) rfl ?_); refine Kd.R_lit k126 _ 126 ?hg (N := 14) ?hd (xs := ([] : List (S126))) (inner := []) (ok := fun _ => True) (okp := fun _ => True) ?hr ?hp (fun _ hk => hk) trivial (Below.refl _ _) (Nat.le_refl _) (by simp) ?_; (case hd => rfl); (case hg => rfl); (case hr => first | (go_simp; done) | (go_simp; rfl)); (case hp => exact (Reps.none _ _)); intro v125 w6 ho7 hb hg_ hnew_; clear hg_ hnew_; (first | rw [← Ny124.out] at ho7 | (simp only [Int.reduceToNat] at ho7; rw [← Ny124.out] at ho7)); have n0_ := Aside0.mk (Kd.R_lower ho7 (below_size (by repeat (first | (with_reducible first | exact HB.out | apply below_alloc | apply pw_below_drewN | apply below_drew1) | exact HB.out)))); have n1_ := Aside0.mk (below_step (by repeat (first | (with_reducible first | exact HB.out | apply below_alloc | apply pw_below_drewN | apply below_drew1) | exact HB.out)) hb); clear HB; have HO126 := n0_; have HB := n1_; clear n0_ n1_; clear hb ho7) | (go_at_call 75; (with_reducible refine (spec_l9Two.calls _ _ l0 _ _ l1 true _ ?side1 ?side2 ?side3 ?side4 A3.out).mono ?_); (case side1 => repeat (first | exact (Kd.C_below HR0.out HB.out) | (with_reducible refine Kd.C_alloc ?_ _) | (with_reducible refine Kd.C_drewN ?_ _) | (with_reducible refine Kd.C_drew ?_))); (case side2 => exact HC0.out); (case side3 => repeat (first | exact (Kd.C_below HR1.out HB.out) | (with_reducible refine Kd.C_alloc ?_ _) | (with_reducible refine Kd.C_drewN ?_ _) | (with_reducible refine Kd.C_drew ?_))); (case side4 => exact HC1.out); rintro e w' ⟨rfl, ⟨nd, rfl⟩⟩; (try first | exact ⟨rfl, _, World.drewN_drewN _ _ _⟩ | exact ⟨rfl, _, Eq.trans (World.drewN_drewN _ _ _) (congrArg (World.drewN _) (Nat.add_assoc _ _ _))⟩)) | (go_at_call 76; (with_reducible refine (spec_l9Table.calls k _ _ l0 _ _ l1 t128 _ ?side1 ?side2 ?side3 ?side4 A5.out).mono ?_); (case side1 => repeat (first | exact (Kd.C_below HR0.out (by repeat (first | (with_reducible first | exact HB.out | apply below_alloc | apply pw_below_drewN | apply below_drew1) | exact HB.out))) | (with_reducible refine Kd.C_alloc ?_ _) | (with_reducible refine Kd.C_drewN ?_ _) | (with_reducible refine Kd.C_drew ?_))); (case side2 => exact HC0.out); (case side3 => repeat (first | exact (Kd.C_below HR1.out (by repeat (first | (with_reducible first | exact HB.out | apply below_alloc | apply pw_below_drewN | apply below_drew1) | exact HB.out))) | (with_reducible refine Kd.C_alloc ?_ _) | (with_reducible refine Kd.C_drewN ?_ _) | (with_reducible refine Kd.C_drew ?_))); (case side4 => exact HC1.out); rintro e w8 ⟨v129, rfl, ho0, hb⟩; have n0_ := Aside0.mk (Kd.R_below (by (with_reducible repeat (first | apply Kd.R_alloc | apply Kd.R_drewN | apply Kd.R_drew)); exact HO126.out) hb); have n1_ := Aside0.mk (Kd.R_lower ho0 (below_size (by repeat (first | (with_reducible first | exact HB.out | apply below_alloc | apply pw_below_drewN | apply below_drew1) | exact HB.out)))); have n2_ := Aside0.mk (below_step (by repeat (first | (with_reducible first | exact HB.out | apply below_alloc | apply pw_below_drewN | apply below_drew1) | exact HB.out)) hb); clear HO126; clear HB; have HO126 := n0_; have HO130 := n1_; have HB := n2_; clear n0_ n1_ n2_; (try clear hb); (try clear hb2); (try clear hk); (try clear hi); (try clear ho0)))
    repeat (go_quiet (first | ((with_reducible refine gate_dst (N := 14) rfl ?_); refine Kd.R_lit k126 _ 126 ?hg (N := 14) ?hd (xs := ([] : List (S126))) (inner := []) (ok := fun _ => True) (okp := fun _ => True) ?hr ?hp (fun _ hk => hk) trivial (Below.refl _ _) (Nat.le_refl _) (by simp) ?_; (case hd => rfl); (case hg => rfl); (case hr => first | (go_simp; done) | (go_simp; rfl)); (case hp => exact (Reps.none _ _)); intro v125 w6 ho7 hb hg_ hnew_; clear hg_ hnew_; (first | rw [← Ny124.out] at ho7 | (simp only [Int.reduceToNat] at ho7; rw [← Ny124.out] at ho7)); have n0_ := Aside0.mk (Kd.R_lower ho7 (below_size (by repeat (first | (with_reducible first | exact HB.out | apply below_alloc | apply pw_below_drewN | apply below_drew1) | exact HB.out)))); have n1_ := Aside0.mk (below_step (by repeat (first | (with_reducible first | exact HB.out | apply below_alloc | apply pw_below_drewN | apply below_drew1) | exact HB.out)) hb); clear HB; have HO126 := n0_; have HB := n1_; clear n0_ n1_; clear hb ho7) | (go_at_call 75; (with_reducible refine (spec_l9Two.calls _ _ l0 _ _ l1 true _ ?side1 ?side2 ?side3 ?side4 A3.out).mono ?_); (case side1 => repeat (first | exact (Kd.C_below HR0.out HB.out) | (with_reducible refine Kd.C_alloc ?_ _) | (with_reducible refine Kd.C_drewN ?_ _) | (with_reducible refine Kd.C_drew ?_))); (case side2 => exact HC0.out); (case side3 => repeat (first | exact (Kd.C_below HR1.out HB.out) | (with_reducible refine Kd.C_alloc ?_ _) | (with_reducible refine Kd.C_drewN ?_ _) | (with_reducible refine Kd.C_drew ?_))); (case side4 => exact HC1.out); rintro e w' ⟨rfl, ⟨nd, rfl⟩⟩; (try first | exact ⟨rfl, _, World.drewN_drewN _ _ _⟩ | exact ⟨rfl, _, Eq.trans (World.drewN_drewN _ _ _) (congrArg (World.drewN _) (Nat.add_assoc _ _ _))⟩)) | (go_at_call 76; (with_reducible refine (spec_l9Table.calls k _ _ l0 _ _ l1 t128 _ ?side1 ?side2 ?side3 ?side4 A5.out).mono ?_); (case side1 => repeat (first | exact (Kd.C_below HR0.out (by repeat (first | (with_reducible first | exact HB.out | apply below_alloc | apply pw_below_drewN | apply below_drew1) | exact HB.out))) | (with_reducible refine Kd.C_alloc ?_ _) | (with_reducible refine Kd.C_drewN ?_ _) | (with_reducible refine Kd.C_drew ?_))); (case side2 => exact HC0.out); (case side3 => repeat (first | exact (Kd.C_below HR1.out (by repeat (first | (with_reducible first | exact HB.out | apply below_alloc | apply pw_below_drewN | apply below_drew1) | exact HB.out))) | (with_reducible refine Kd.C_alloc ?_ _) | (with_reducible refine Kd.C_drewN ?_ _) | (with_reducible refine Kd.C_drew ?_))); (case side4 => exact HC1.out); rintro e w8 ⟨v129, rfl, ho0, hb⟩; have n0_ := Aside0.mk (Kd.R_below (by (with_reducible repeat (first | apply Kd.R_alloc | apply Kd.R_drewN | apply Kd.R_drew)); exact HO126.out) hb); have n1_ := Aside0.mk (Kd.R_lower ho0 (below_size (by repeat (first | (with_reducible first | exact HB.out | apply below_alloc | apply pw_below_drewN | apply below_drew1) | exact HB.out)))); have n2_ := Aside0.mk (below_step (by repeat (first | (with_reducible first | exact HB.out | apply below_alloc | apply pw_below_drewN | apply below_drew1) | exact HB.out)) hb); clear HO126; clear HB; have HO126 := n0_; have HO130 := n1_; have HB := n2_; clear n0_ n1_ n2_; (try clear hb); (try clear hb2); (try clear hk); (try clear hi); (try clear ho0))); try go_wp2_with (first | ((with_reducible refine gate_dst (N := 14) rfl ?_); refine Kd.R_lit k126 _ 126 ?hg (N := 14) ?hd (xs := ([] : List (S126))) (inner := []) (ok := fun _ => True) (okp := fun _ => True) ?hr ?hp (fun _ hk => hk) trivial (Below.refl _ _) (Nat.le_refl _) (by simp) ?_; (case hd => rfl); (case hg => rfl); (case hr => first | (go_simp; done) | (go_simp; rfl)); (case hp => exact (Reps.none _ _)); intro v125 w6 ho7 hb hg_ hnew_; clear hg_ hnew_; (first | rw [← Ny124.out] at ho7 | (simp only [Int.reduceToNat] at ho7; rw [← Ny124.out] at ho7)); have n0_ := Aside0.mk (Kd.R_lower ho7 (below_size (by repeat (first | (with_reducible first | exact HB.out | apply below_alloc | apply pw_below_drewN | apply below_drew1) | exact HB.out)))); have n1_ := Aside0.mk (below_step (by repeat (first | (with_reducible first | exact HB.out | apply below_alloc | apply pw_below_drewN | apply below_drew1) | exact HB.out)) hb); clear HB; have HO126 := n0_; have HB := n1_; clear n0_ n1_; clear hb ho7) | (go_at_call 75; (with_reducible refine (spec_l9Two.calls _ _ l0 _ _ l1 true _ ?side1 ?side2 ?side3 ?side4 A3.out).mono ?_); (case side1 => repeat (first | exact (Kd.C_below HR0.out HB.out) | (with_reducible refine Kd.C_alloc ?_ _) | (with_reducible refine Kd.C_drewN ?_ _) | (with_reducible refine Kd.C_drew ?_))); (case side2 => exact HC0.out); (case side3 => repeat (first | exact (Kd.C_below HR1.out HB.out) | (with_reducible refine Kd.C_alloc ?_ _) | (with_reducible refine Kd.C_drewN ?_ _) | (with_reducible refine Kd.C_drew ?_))); (case side4 => exact HC1.out); rintro e w' ⟨rfl, ⟨nd, rfl⟩⟩; (try first | exact ⟨rfl, _, World.drewN_drewN _ _ _⟩ | exact ⟨rfl, _, Eq.trans (World.drewN_drewN _ _ _) (congrArg (World.drewN _) (Nat.add_assoc _ _ _))⟩)) | (go_at_call 76; (with_reducible refine (spec_l9Table.calls k _ _ l0 _ _ l1 t128 _ ?side1 ?side2 ?side3 ?side4 A5.out).mono ?_); (case side1 => repeat (first | exact (Kd.C_below HR0.out (by repeat (first | (with_reducible first | exact HB.out | apply below_alloc | apply pw_below_drewN | apply below_drew1) | exact HB.out))) | (with_reducible refine Kd.C_alloc ?_ _) | (with_reducible refine Kd.C_drewN ?_ _) | (with_reducible refine Kd.C_drew ?_))); (case side2 => exact HC0.out); (case side3 => repeat (first | exact (Kd.C_below HR1.out (by repeat (first | (with_reducible first | exact HB.out | apply below_alloc | apply pw_below_drewN | apply below_drew1) | exact HB.out))) | (with_reducible refine Kd.C_alloc ?_ _) | (with_reducible refine Kd.C_drewN ?_ _) | (with_reducible refine Kd.C_drew ?_))); (case side4 => exact HC1.out); rintro e w8 ⟨v129, rfl, ho0, hb⟩; have n0_ := Aside0.mk (Kd.R_below (by (with_reducible repeat (first | apply Kd.R_alloc | apply Kd.R_drewN | apply Kd.R_drew)); exact HO126.out) hb); have n1_ := Aside0.mk (Kd.R_lower ho0 (below_size (by repeat (first | (with_reducible first | exact HB.out | apply below_alloc | apply pw_below_drewN | apply below_drew1) | exact HB.out)))); have n2_ := Aside0.mk (below_step (by repeat (first | (with_reducible first | exact HB.out | apply below_alloc | apply pw_below_drewN | apply below_drew1) | exact HB.out)) hb); clear HO126; clear HB; have HO126 := n0_; have HO130 := n1_; have HB := n2_; clear n0_ n1_ n2_; (try clear hb); (try clear hb2); (try clear hk); (try clear hi); (try clear ho0))))
    go_loopg [6, 9, 10] k (fun kq v6 v9 v10 w' => ∃ (x6_1 : List (S126)) (x9_1 : Int) (x10_1 : Int), v9 = .int .i64 x9_1 ∧ v10 = .int .i64 x10_1 ∧ Aside0 (spec_Edits.l0 kq l0 l1 x6_1 t128 (wrap64 ((l1.length : Int) + 1)) x9_1 x10_1 = some (r1, r2)) ∧ Aside0 (kq ≤ k) ∧ Aside0 (Kd.R k126 126 w' w.heap.size (fun _ => True) v6 x6_1) ∧ Aside0 (Kd.R (Kd.int .i64) 2 w' w.heap.size (fun _ => True) v129 t128) ∧ Aside0 (Below w.heap.size w w'))
    case atStart => exact ⟨(y124), ((l0.length : Int)), ((l1.length : Int)), (by first | rfl | (simp; done) | (simp [*]; done)), (by first | rfl | (simp; done) | (simp [*]; done)), H', ⟨Nat.le_refl _⟩, ⟨by (with_reducible repeat (first | apply Kd.R_alloc | apply Kd.R_drewN | apply Kd.R_drew)); exact HO126.out⟩, ⟨by (with_reducible repeat (first | apply Kd.R_alloc | apply Kd.R_drewN | apply Kd.R_drew)); exact HO130.out⟩, ⟨by repeat (first | (with_reducible first | exact HB.out | apply below_alloc | apply pw_below_drewN | apply below_drew1) | exact HB.out)⟩⟩
    case round =>
      clear H'
      try clear c1
      try clear p2
      try clear c4
      try clear c6
      try clear p6
      obtain ⟨x6_1, x9_1, x10_1, rfl, rfl, HA, HK1, HO_6, HO_7, HB⟩ := hrel
      cases gk with
      | zero => exact absurd HA.out (by simp [spec_Edits.l0])
      | succ k1 =>
        have H := HA.out
        clear HA
        simp only [spec_Edits.l0] at H
        have HC9 := Aside0.mk H
        clear H
        go_upto_region 8 with (fail)
        repeat (go_quiet (fail); go_upto_region 8 with (fail))
        go_cut [35] (fun v35 wc => ∃ (kq : Nat) (x35_8 : Bool), v35 = .bool x35_8 ∧ Aside0 (spec_Edits.j1 kq l0 l1 x6_1 t128 (wrap64 ((l1.length : Int) + 1)) x9_1 x10_1 x35_8 = some (r1, r2)) ∧ Aside0 (kq ≤ k1) ∧ Aside0 (Kd.R k126 126 wc w.heap.size (fun _ => True) u6 x6_1) ∧ Aside0 (Kd.R (Kd.int .i64) 2 wc w.heap.size (fun _ => True) v129 t128) ∧ Aside0 (Below w.heap.size w wc))
        case first =>
          have H := HC9.out
          clear HC9
          by_cases c10 : x9_1 > 0
          · rw [if_pos c10] at H
            have c10b0 : decide (0 < x9_1) = true := decide_eq_true c10
            clear c10
            (first | rw [c10b0] | (simp only [i64_w, i32_w]; rw [c10b0]) | skip)
            have H' := Aside0.mk H
            clear H
            go_wp2
            repeat (go_quiet (fail); try go_wp2)
            go_meet
            case rel => exact ⟨_, (true), (by first | rfl | (simp; done) | (simp [*]; done)), H', ⟨by have := HK1.out; first | omega | exact Nat.le_refl _⟩, ⟨by (with_reducible repeat (first | apply Kd.R_alloc | apply Kd.R_drewN | apply Kd.R_drew)); exact HO_6.out⟩, ⟨by (with_reducible repeat (first | apply Kd.R_alloc | apply Kd.R_drewN | apply Kd.R_drew)); exact HO_7.out⟩, ⟨by repeat (first | (with_reducible first | exact HB.out | apply below_alloc | apply pw_below_drewN | apply below_drew1) | exact HB.out)⟩⟩
          · rw [if_neg c10] at H
            have c10b0 : decide (0 < x9_1) = false := decide_eq_false c10
            clear c10
            (first | rw [c10b0] | (simp only [i64_w, i32_w]; rw [c10b0]) | skip)
            have H' := Aside0.mk H
            clear H
            go_wp2
            repeat (go_quiet (fail); try go_wp2)
            go_meet
            case rel => exact ⟨_, (decide (x10_1 > 0)), (by first | rfl | (simp; done) | (simp [*]; done)), H', ⟨by have := HK1.out; first | omega | exact Nat.le_refl _⟩, ⟨by (with_reducible repeat (first | apply Kd.R_alloc | apply Kd.R_drewN | apply Kd.R_drew)); exact HO_6.out⟩, ⟨by (with_reducible repeat (first | apply Kd.R_alloc | apply Kd.R_drewN | apply Kd.R_drew)); exact HO_7.out⟩, ⟨by repeat (first | (with_reducible first | exact HB.out | apply below_alloc | apply pw_below_drewN | apply below_drew1) | exact HB.out)⟩⟩
        case rest =>
          clear HC9
          try clear c1
          try clear p2
          try clear c4
          try clear c6
          try clear p6
          try clear c10
          try clear c10b0
          try clear p2
          try clear p6
          obtain ⟨kq, x35_8, rfl, HA, HJ8, HO_6, HO_7, HB⟩ := hcut
          cases kq with
          | zero => exact absurd HA.out (by simp [spec_Edits.j1])
          | succ kj8 =>
            have H := HA.out
            clear HA
            simp only [spec_Edits.j1] at H
            by_cases c11 : x35_8 = true
            · subst c11
              have H1 : (if x10_1 = 0 then (if x6_1.length < 5864062014805 then (spec_Edits.l0 kj8 l0 l1 (x6_1 ++ [(⟨1, wrap64 (x9_1 - 1), 0⟩ : S126)]) t128 (wrap64 ((l1.length : Int) + 1)) (wrap64 (x9_1 - 1)) x10_1) else (none)) else (if x9_1 = 0 then (if 0 ≤ (wrap64 (x10_1 - 1)) then (if (wrap64 (x10_1 - 1)) < (l1.length : Int) then (if x6_1.length < 5864062014805 then (spec_Edits.l0 kj8 l0 l1 (x6_1 ++ [(⟨2, 0, rd l1 (wrap64 (x10_1 - 1))⟩ : S126)]) t128 (wrap64 ((l1.length : Int) + 1)) x9_1 (wrap64 (x10_1 - 1))) else (none)) else (none)) else (none)) else (if 0 ≤ (wrap64 (x9_1 - 1)) then (if (wrap64 (x9_1 - 1)) < (l0.length : Int) then (if 0 ≤ (wrap64 (x10_1 - 1)) then (if (wrap64 (x10_1 - 1)) < (l1.length : Int) then (if (rd l0 (wrap64 (x9_1 - 1))) = (rd l1 (wrap64 (x10_1 - 1))) then (spec_Edits.l0 kj8 l0 l1 x6_1 t128 (wrap64 ((l1.length : Int) + 1)) (wrap64 (x9_1 - 1)) (wrap64 (x10_1 - 1))) else (if 0 ≤ (wrap64 ((wrap64 ((wrap64 ((wrap64 (x9_1 - 1)) * (wrap64 ((l1.length : Int) + 1)))) + x10_1)) - 1)) then (if (wrap64 ((wrap64 ((wrap64 ((wrap64 (x9_1 - 1)) * (wrap64 ((l1.length : Int) + 1)))) + x10_1)) - 1)) < (t128.length : Int) then (if 0 ≤ (wrap64 ((wrap64 ((wrap64 (x9_1 - 1)) * (wrap64 ((l1.length : Int) + 1)))) + x10_1)) then (if (wrap64 ((wrap64 ((wrap64 (x9_1 - 1)) * (wrap64 ((l1.length : Int) + 1)))) + x10_1)) < (t128.length : Int) then (if 0 ≤ (wrap64 ((wrap64 ((wrap64 (x9_1 * (wrap64 ((l1.length : Int) + 1)))) + x10_1)) - 1)) then (if (wrap64 ((wrap64 ((wrap64 (x9_1 * (wrap64 ((l1.length : Int) + 1)))) + x10_1)) - 1)) < (t128.length : Int) then (if (rd t128 (wrap64 ((wrap64 ((wrap64 ((wrap64 (x9_1 - 1)) * (wrap64 ((l1.length : Int) + 1)))) + x10_1)) - 1))) ≤ (rd t128 (wrap64 ((wrap64 ((wrap64 (x9_1 - 1)) * (wrap64 ((l1.length : Int) + 1)))) + x10_1))) then (spec_Edits.j2 kj8 l0 l1 x6_1 t128 (wrap64 ((l1.length : Int) + 1)) x9_1 x10_1 (rd t128 (wrap64 ((wrap64 ((wrap64 (x9_1 - 1)) * (wrap64 ((l1.length : Int) + 1)))) + x10_1))) (rd t128 (wrap64 ((wrap64 ((wrap64 (x9_1 * (wrap64 ((l1.length : Int) + 1)))) + x10_1)) - 1))) (decide ((rd t128 (wrap64 ((wrap64 ((wrap64 ((wrap64 (x9_1 - 1)) * (wrap64 ((l1.length : Int) + 1)))) + x10_1)) - 1))) ≤ (rd t128 (wrap64 ((wrap64 ((wrap64 (x9_1 * (wrap64 ((l1.length : Int) + 1)))) + x10_1)) - 1)))))) else (spec_Edits.j2 kj8 l0 l1 x6_1 t128 (wrap64 ((l1.length : Int) + 1)) x9_1 x10_1 (rd t128 (wrap64 ((wrap64 ((wrap64 (x9_1 - 1)) * (wrap64 ((l1.length : Int) + 1)))) + x10_1))) (rd t128 (wrap64 ((wrap64 ((wrap64 (x9_1 * (wrap64 ((l1.length : Int) + 1)))) + x10_1)) - 1))) false)) else (none)) else (none)) else (none)) else (none)) else (none)) else (none))) else (none)) else (none)) else (none)) else (none)))) = some (r1, r2) := by rw [if_pos rfl] at H; exact H
              clear H
              have H := H1
              clear H1
              by_cases c12 : x10_1 = 0
              · rw [if_pos c12] at H
                have c12b0 : (x10_1 == 0) = true := beq_iff_eq.mpr c12
                have c12b1 : (x10_1 != 0) = false := bne_eq_false_iff_eq.mpr c12
                clear c12
                by_cases c13 : x6_1.length < 5864062014805
                · rw [if_pos c13] at H
                  have LMc13 := Aside0.mk c13
                  clear c13
                  obtain ⟨y131, hy131⟩ : ∃ y_ : List (S126), y_ = (x6_1 ++ [(⟨1, wrap64 (x9_1 - 1), 0⟩ : S126)]) := ⟨_, rfl⟩
                  replace H : (spec_Edits.l0 kj8 l0 l1 y131 t128 (wrap64 ((l1.length : Int) + 1)) (wrap64 (x9_1 - 1)) x10_1) = some (r1, r2) := by first | (rw [hy131]; with_reducible exact H) | (have H2_ := (Option.bind_some _ _).symm.trans H; rw [hy131]; with_reducible exact H2_) | (have H2_ := (Option.bind_some _ _).symm.trans H; with_reducible exact H2_) | with_reducible exact H | (rw [hy131]; exact H) | exact H
                  have Ny131 := Aside0.mk hy131
                  clear hy131
                  have H' := Aside0.mk H
                  clear H
                  go_wp2_with (first | ((with_reducible refine gate_builtin (b := .append) (xs := #[.tmp 113, .tmp 116]) rfl ?_); at_builtin; refine Kd.R_append k126 (w0 := w) w.heap.size rfl (.tmp 113) (.tmp 116) 81 126 (.agg #[(.int .i64 0), (.int .i64 0), (.int .i64 0)]) 24 rfl Try.underlying81 info126 rfl (by decide) (by omega) u6 x6_1 (⟨1, wrap64 (x9_1 - 1), 0⟩ : S126) [.int .i64 1, .int .i64 (wrap64 (x9_1 - 1)), .int .i64 0] (fun _ => True) (fun _ => False) rfl rfl ?aP (fun _ hk => hk.elim) ?aF ?aO ?aB ?aS ?aL ?_; (case aP => exact k126_mkM _ _ _ (⟨1, wrap64 (x9_1 - 1), 0⟩ : S126)); (case aB => exact (by repeat (first | (with_reducible first | exact HB.out | apply below_alloc | apply pw_below_drewN | apply below_drew1) | exact HB.out))); (case aF => exact (fun _ _ => trivial)); (case aO => exact (by (with_reducible repeat (first | apply Kd.R_alloc | apply Kd.R_drewN | apply Kd.R_drew)); exact HO_6.out)); (case aS => exact (below_size (by repeat (first | (with_reducible first | exact HB.out | apply below_alloc | apply pw_below_drewN | apply below_drew1) | exact HB.out)))); (case aL => have := LMc13.out; omega); intro v132 w14 ho hb hg hat; rw [← Ny131.out] at ho; have n0_ := Aside0.mk (Kd.R_over' (by (with_reducible repeat (first | apply Kd.R_alloc | apply Kd.R_drewN | apply Kd.R_drew)); exact HO_7.out) (Kd.R_typed (by (with_reducible repeat (first | apply Kd.R_alloc | apply Kd.R_drewN | apply Kd.R_drew)); exact HO_6.out)) (by decide) hg); have n1_ := Aside0.mk (hb); have n2_ := Aside0.mk (ho); clear HO_7; clear HB; clear HO_6; have HO_7 := n0_; have HB := n1_; have HO133 := n2_; clear n0_ n1_ n2_; clear ho hb hg hat))
                  repeat (go_quiet (first | ((with_reducible refine gate_builtin (b := .append) (xs := #[.tmp 113, .tmp 116]) rfl ?_); at_builtin; refine Kd.R_append k126 (w0 := w) w.heap.size rfl (.tmp 113) (.tmp 116) 81 126 (.agg #[(.int .i64 0), (.int .i64 0), (.int .i64 0)]) 24 rfl Try.underlying81 info126 rfl (by decide) (by omega) u6 x6_1 (⟨1, wrap64 (x9_1 - 1), 0⟩ : S126) [.int .i64 1, .int .i64 (wrap64 (x9_1 - 1)), .int .i64 0] (fun _ => True) (fun _ => False) rfl rfl ?aP (fun _ hk => hk.elim) ?aF ?aO ?aB ?aS ?aL ?_; (case aP => exact k126_mkM _ _ _ (⟨1, wrap64 (x9_1 - 1), 0⟩ : S126)); (case aB => exact (by repeat (first | (with_reducible first | exact HB.out | apply below_alloc | apply pw_below_drewN | apply below_drew1) | exact HB.out))); (case aF => exact (fun _ _ => trivial)); (case aO => exact (by (with_reducible repeat (first | apply Kd.R_alloc | apply Kd.R_drewN | apply Kd.R_drew)); exact HO_6.out)); (case aS => exact (below_size (by repeat (first | (with_reducible first | exact HB.out | apply below_alloc | apply pw_below_drewN | apply below_drew1) | exact HB.out)))); (case aL => have := LMc13.out; omega); intro v132 w14 ho hb hg hat; rw [← Ny131.out] at ho; have n0_ := Aside0.mk (Kd.R_over' (by (with_reducible repeat (first | apply Kd.R_alloc | apply Kd.R_drewN | apply Kd.R_drew)); exact HO_7.out) (Kd.R_typed (by (with_reducible repeat (first | apply Kd.R_alloc | apply Kd.R_drewN | apply Kd.R_drew)); exact HO_6.out)) (by decide) hg); have n1_ := Aside0.mk (hb); have n2_ := Aside0.mk (ho); clear HO_7; clear HB; clear HO_6; have HO_7 := n0_; have HB := n1_; have HO133 := n2_; clear n0_ n1_ n2_; clear ho hb hg hat)); try go_wp2_with (first | ((with_reducible refine gate_builtin (b := .append) (xs := #[.tmp 113, .tmp 116]) rfl ?_); at_builtin; refine Kd.R_append k126 (w0 := w) w.heap.size rfl (.tmp 113) (.tmp 116) 81 126 (.agg #[(.int .i64 0), (.int .i64 0), (.int .i64 0)]) 24 rfl Try.underlying81 info126 rfl (by decide) (by omega) u6 x6_1 (⟨1, wrap64 (x9_1 - 1), 0⟩ : S126) [.int .i64 1, .int .i64 (wrap64 (x9_1 - 1)), .int .i64 0] (fun _ => True) (fun _ => False) rfl rfl ?aP (fun _ hk => hk.elim) ?aF ?aO ?aB ?aS ?aL ?_; (case aP => exact k126_mkM _ _ _ (⟨1, wrap64 (x9_1 - 1), 0⟩ : S126)); (case aB => exact (by repeat (first | (with_reducible first | exact HB.out | apply below_alloc | apply pw_below_drewN | apply below_drew1) | exact HB.out))); (case aF => exact (fun _ _ => trivial)); (case aO => exact (by (with_reducible repeat (first | apply Kd.R_alloc | apply Kd.R_drewN | apply Kd.R_drew)); exact HO_6.out)); (case aS => exact (below_size (by repeat (first | (with_reducible first | exact HB.out | apply below_alloc | apply pw_below_drewN | apply below_drew1) | exact HB.out)))); (case aL => have := LMc13.out; omega); intro v132 w14 ho hb hg hat; rw [← Ny131.out] at ho; have n0_ := Aside0.mk (Kd.R_over' (by (with_reducible repeat (first | apply Kd.R_alloc | apply Kd.R_drewN | apply Kd.R_drew)); exact HO_7.out) (Kd.R_typed (by (with_reducible repeat (first | apply Kd.R_alloc | apply Kd.R_drewN | apply Kd.R_drew)); exact HO_6.out)) (by decide) hg); have n1_ := Aside0.mk (hb); have n2_ := Aside0.mk (ho); clear HO_7; clear HB; clear HO_6; have HO_7 := n0_; have HB := n1_; have HO133 := n2_; clear n0_ n1_ n2_; clear ho hb hg hat)))
                  go_roundg kj8
                  case measure => have := HK1.out; have := HJ8.out; omega
                  case rel => exact ⟨(y131), (wrap64 (x9_1 - 1)), (x10_1), (by first | rfl | (simp; done) | (simp [*]; done)), (by first | rfl | (simp; done) | (simp [*]; done)), H', ⟨by have := HK1.out; have := HJ8.out; omega⟩, ⟨by (with_reducible repeat (first | apply Kd.R_alloc | apply Kd.R_drewN | apply Kd.R_drew)); exact HO133.out⟩, ⟨by (with_reducible repeat (first | apply Kd.R_alloc | apply Kd.R_drewN | apply Kd.R_drew)); exact HO_7.out⟩, ⟨by repeat (first | (with_reducible first | exact HB.out | apply below_alloc | apply pw_below_drewN | apply below_drew1) | exact HB.out)⟩⟩
                · rw [if_neg c13] at H
                  exact absurd H (by simp)
              · rw [if_neg c12] at H
                have c12b0 : (x10_1 == 0) = false := beq_eq_false_iff_ne.mpr c12
                have c12b1 : (x10_1 != 0) = true := bne_iff_ne.mpr c12
                by_cases c15 : x9_1 = 0
                · rw [if_pos c15] at H
                  have c15b0 : (x9_1 == 0) = true := beq_iff_eq.mpr c15
                  have c15b1 : (x9_1 != 0) = false := bne_eq_false_iff_eq.mpr c15
                  clear c15
                  obtain ⟨ji16, hji16⟩ : ∃ j_ : Int, (wrap64 (x10_1 - 1)) = j_ := ⟨_, rfl⟩
                  replace H : (if 0 ≤ (ji16) then (if (ji16) < (l1.length : Int) then (if x6_1.length < 5864062014805 then (spec_Edits.l0 kj8 l0 l1 (x6_1 ++ [(⟨2, 0, rd l1 (ji16)⟩ : S126)]) t128 (wrap64 ((l1.length : Int) + 1)) x9_1 ji16) else (none)) else (none)) else (none)) = some (r1, r2) := by first | (rw [hji16] at H; exact H) | (simp only [hji16] at H ⊢; exact H)
                  have hji16w : (IntKind.i64.wrap (x10_1 - 1)) = ji16 := (i64_w _).trans hji16
                  by_cases c17 : 0 ≤ (ji16)
                  · rw [if_pos c17] at H
                    have c17b0 : decide (0 ≤ (ji16)) = true := decide_eq_true c17
                    clear c17
                    by_cases c18 : (ji16) < (l1.length : Int)
                    · rw [if_pos c18] at H
                      have c18b0 : decide ((ji16) < (l1.length : Int)) = true := decide_eq_true c18
                      clear c18
                      by_cases c19 : x6_1.length < 5864062014805
                      · rw [if_pos c19] at H
                        have LMc19 := Aside0.mk c19
                        clear c19
                        obtain ⟨y135, hy135⟩ : ∃ y_ : List (S126), y_ = (x6_1 ++ [(⟨2, 0, rd l1 (ji16)⟩ : S126)]) := ⟨_, rfl⟩
                        replace H : (spec_Edits.l0 kj8 l0 l1 y135 t128 (wrap64 ((l1.length : Int) + 1)) x9_1 ji16) = some (r1, r2) := by first | (rw [hy135]; with_reducible exact H) | (have H2_ := (Option.bind_some _ _).symm.trans H; rw [hy135]; with_reducible exact H2_) | (have H2_ := (Option.bind_some _ _).symm.trans H; with_reducible exact H2_) | with_reducible exact H | (rw [hy135]; exact H) | exact H
                        have Ny135 := Aside0.mk hy135
                        clear hy135
                        have H' := Aside0.mk H
                        clear H
                        have p134 : 0 ≤ ((ji16) : Int) := of_decide_eq_true (by first | (with_reducible assumption) | assumption)
                        have q134 : (ji16) < (l1.length : Int) := of_decide_eq_true (by first | (with_reducible assumption) | assumption)
                        obtain ⟨ad134, e134, hx134_0⟩ := Kd.at_int HR1.out (ji16) p134 q134
                        cases e134
                        replace hx134_0 := (HB.out.cell (World.block_lt_of_cell? w _ hx134_0)).trans hx134_0
                        replace p134 := eq_true p134
                        replace q134 := eq_true q134
                        go_wp2_with (first | ((with_reducible refine gate_builtin (b := .append) (xs := #[.tmp 123, .tmp 129]) rfl ?_); at_builtin; refine Kd.R_append k126 (w0 := w) w.heap.size rfl (.tmp 123) (.tmp 129) 81 126 (.agg #[(.int .i64 0), (.int .i64 0), (.int .i64 0)]) 24 rfl Try.underlying81 info126 rfl (by decide) (by omega) u6 x6_1 (⟨2, 0, rd l1 (ji16)⟩ : S126) [.int .i64 2, .int .i64 0, .int .i64 (rd l1 (ji16))] (fun _ => True) (fun _ => False) rfl rfl ?aP (fun _ hk => hk.elim) ?aF ?aO ?aB ?aS ?aL ?_; (case aP => exact k126_mkM _ _ _ (⟨2, 0, rd l1 (ji16)⟩ : S126)); (case aB => exact (by repeat (first | (with_reducible first | exact HB.out | apply below_alloc | apply pw_below_drewN | apply below_drew1) | exact HB.out))); (case aF => exact (fun _ _ => trivial)); (case aO => exact (by (with_reducible repeat (first | apply Kd.R_alloc | apply Kd.R_drewN | apply Kd.R_drew)); exact HO_6.out)); (case aS => exact (below_size (by repeat (first | (with_reducible first | exact HB.out | apply below_alloc | apply pw_below_drewN | apply below_drew1) | exact HB.out)))); (case aL => have := LMc19.out; omega); intro v136 w20 ho hb hg hat; rw [← Ny135.out] at ho; have n0_ := Aside0.mk (Kd.R_over' (by (with_reducible repeat (first | apply Kd.R_alloc | apply Kd.R_drewN | apply Kd.R_drew)); exact HO_7.out) (Kd.R_typed (by (with_reducible repeat (first | apply Kd.R_alloc | apply Kd.R_drewN | apply Kd.R_drew)); exact HO_6.out)) (by decide) hg); have n1_ := Aside0.mk (hb); have n2_ := Aside0.mk (ho); clear HO_7; clear HB; clear HO_6; have HO_7 := n0_; have HB := n1_; have HO137 := n2_; clear n0_ n1_ n2_; clear ho hb hg hat))
                        repeat (go_quiet (first | ((with_reducible refine gate_builtin (b := .append) (xs := #[.tmp 123, .tmp 129]) rfl ?_); at_builtin; refine Kd.R_append k126 (w0 := w) w.heap.size rfl (.tmp 123) (.tmp 129) 81 126 (.agg #[(.int .i64 0), (.int .i64 0), (.int .i64 0)]) 24 rfl Try.underlying81 info126 rfl (by decide) (by omega) u6 x6_1 (⟨2, 0, rd l1 (ji16)⟩ : S126) [.int .i64 2, .int .i64 0, .int .i64 (rd l1 (ji16))] (fun _ => True) (fun _ => False) rfl rfl ?aP (fun _ hk => hk.elim) ?aF ?aO ?aB ?aS ?aL ?_; (case aP => exact k126_mkM _ _ _ (⟨2, 0, rd l1 (ji16)⟩ : S126)); (case aB => exact (by repeat (first | (with_reducible first | exact HB.out | apply below_alloc | apply pw_below_drewN | apply below_drew1) | exact HB.out))); (case aF => exact (fun _ _ => trivial)); (case aO => exact (by (with_reducible repeat (first | apply Kd.R_alloc | apply Kd.R_drewN | apply Kd.R_drew)); exact HO_6.out)); (case aS => exact (below_size (by repeat (first | (with_reducible first | exact HB.out | apply below_alloc | apply pw_below_drewN | apply below_drew1) | exact HB.out)))); (case aL => have := LMc19.out; omega); intro v136 w20 ho hb hg hat; rw [← Ny135.out] at ho; have n0_ := Aside0.mk (Kd.R_over' (by (with_reducible repeat (first | apply Kd.R_alloc | apply Kd.R_drewN | apply Kd.R_drew)); exact HO_7.out) (Kd.R_typed (by (with_reducible repeat (first | apply Kd.R_alloc | apply Kd.R_drewN | apply Kd.R_drew)); exact HO_6.out)) (by decide) hg); have n1_ := Aside0.mk (hb); have n2_ := Aside0.mk (ho); clear HO_7; clear HB; clear HO_6; have HO_7 := n0_; have HB := n1_; have HO137 := n2_; clear n0_ n1_ n2_; clear ho hb hg hat)); try go_wp2_with (first | ((with_reducible refine gate_builtin (b := .append) (xs := #[.tmp 123, .tmp 129]) rfl ?_); at_builtin; refine Kd.R_append k126 (w0 := w) w.heap.size rfl (.tmp 123) (.tmp 129) 81 126 (.agg #[(.int .i64 0), (.int .i64 0), (.int .i64 0)]) 24 rfl Try.underlying81 info126 rfl (by decide) (by omega) u6 x6_1 (⟨2, 0, rd l1 (ji16)⟩ : S126) [.int .i64 2, .int .i64 0, .int .i64 (rd l1 (ji16))] (fun _ => True) (fun _ => False) rfl rfl ?aP (fun _ hk => hk.elim) ?aF ?aO ?aB ?aS ?aL ?_; (case aP => exact k126_mkM _ _ _ (⟨2, 0, rd l1 (ji16)⟩ : S126)); (case aB => exact (by repeat (first | (with_reducible first | exact HB.out | apply below_alloc | apply pw_below_drewN | apply below_drew1) | exact HB.out))); (case aF => exact (fun _ _ => trivial)); (case aO => exact (by (with_reducible repeat (first | apply Kd.R_alloc | apply Kd.R_drewN | apply Kd.R_drew)); exact HO_6.out)); (case aS => exact (below_size (by repeat (first | (with_reducible first | exact HB.out | apply below_alloc | apply pw_below_drewN | apply below_drew1) | exact HB.out)))); (case aL => have := LMc19.out; omega); intro v136 w20 ho hb hg hat; rw [← Ny135.out] at ho; have n0_ := Aside0.mk (Kd.R_over' (by (with_reducible repeat (first | apply Kd.R_alloc | apply Kd.R_drewN | apply Kd.R_drew)); exact HO_7.out) (Kd.R_typed (by (with_reducible repeat (first | apply Kd.R_alloc | apply Kd.R_drewN | apply Kd.R_drew)); exact HO_6.out)) (by decide) hg); have n1_ := Aside0.mk (hb); have n2_ := Aside0.mk (ho); clear HO_7; clear HB; clear HO_6; have HO_7 := n0_; have HB := n1_; have HO137 := n2_; clear n0_ n1_ n2_; clear ho hb hg hat)))
                        go_roundg kj8
                        case measure => have := HK1.out; have := HJ8.out; omega
                        case rel => exact ⟨(y135), (x9_1), (ji16), (by first | rfl | (simp; done) | (simp [*]; done)), (by first | rfl | (simp; done) | (simp only [← hji16] <;> (first | rfl | simp)) | (simp [*]; done)), H', ⟨by have := HK1.out; have := HJ8.out; omega⟩, ⟨by (with_reducible repeat (first | apply Kd.R_alloc | apply Kd.R_drewN | apply Kd.R_drew)); exact HO137.out⟩, ⟨by (with_reducible repeat (first | apply Kd.R_alloc | apply Kd.R_drewN | apply Kd.R_drew)); exact HO_7.out⟩, ⟨by repeat (first | (with_reducible first | exact HB.out | apply below_alloc | apply pw_below_drewN | apply below_drew1) | exact HB.out)⟩⟩
                      · rw [if_neg c19] at H
                        exact absurd H (by simp)
                    · rw [if_neg c18] at H
                      exact absurd H (by simp)
                  · rw [if_neg c17] at H
                    exact absurd H (by simp)
                · rw [if_neg c15] at H
                  have c15b0 : (x9_1 == 0) = false := beq_eq_false_iff_ne.mpr c15
                  have c15b1 : (x9_1 != 0) = true := bne_iff_ne.mpr c15
                  obtain ⟨ji21, hji21⟩ : ∃ j_ : Int, (wrap64 (x9_1 - 1)) = j_ := ⟨_, rfl⟩
                  replace H : (if 0 ≤ (ji21) then (if (ji21) < (l0.length : Int) then (if 0 ≤ (wrap64 (x10_1 - 1)) then (if (wrap64 (x10_1 - 1)) < (l1.length : Int) then (if (rd l0 (ji21)) = (rd l1 (wrap64 (x10_1 - 1))) then (spec_Edits.l0 kj8 l0 l1 x6_1 t128 (wrap64 ((l1.length : Int) + 1)) ji21 (wrap64 (x10_1 - 1))) else (if 0 ≤ (wrap64 ((wrap64 ((wrap64 ((ji21) * (wrap64 ((l1.length : Int) + 1)))) + x10_1)) - 1)) then (if (wrap64 ((wrap64 ((wrap64 ((ji21) * (wrap64 ((l1.length : Int) + 1)))) + x10_1)) - 1)) < (t128.length : Int) then (if 0 ≤ (wrap64 ((wrap64 ((ji21) * (wrap64 ((l1.length : Int) + 1)))) + x10_1)) then (if (wrap64 ((wrap64 ((ji21) * (wrap64 ((l1.length : Int) + 1)))) + x10_1)) < (t128.length : Int) then (if 0 ≤ (wrap64 ((wrap64 ((wrap64 (x9_1 * (wrap64 ((l1.length : Int) + 1)))) + x10_1)) - 1)) then (if (wrap64 ((wrap64 ((wrap64 (x9_1 * (wrap64 ((l1.length : Int) + 1)))) + x10_1)) - 1)) < (t128.length : Int) then (if (rd t128 (wrap64 ((wrap64 ((wrap64 ((ji21) * (wrap64 ((l1.length : Int) + 1)))) + x10_1)) - 1))) ≤ (rd t128 (wrap64 ((wrap64 ((ji21) * (wrap64 ((l1.length : Int) + 1)))) + x10_1))) then (spec_Edits.j2 kj8 l0 l1 x6_1 t128 (wrap64 ((l1.length : Int) + 1)) x9_1 x10_1 (rd t128 (wrap64 ((wrap64 ((ji21) * (wrap64 ((l1.length : Int) + 1)))) + x10_1))) (rd t128 (wrap64 ((wrap64 ((wrap64 (x9_1 * (wrap64 ((l1.length : Int) + 1)))) + x10_1)) - 1))) (decide ((rd t128 (wrap64 ((wrap64 ((wrap64 ((ji21) * (wrap64 ((l1.length : Int) + 1)))) + x10_1)) - 1))) ≤ (rd t128 (wrap64 ((wrap64 ((wrap64 (x9_1 * (wrap64 ((l1.length : Int) + 1)))) + x10_1)) - 1)))))) else (spec_Edits.j2 kj8 l0 l1 x6_1 t128 (wrap64 ((l1.length : Int) + 1)) x9_1 x10_1 (rd t128 (wrap64 ((wrap64 ((ji21) * (wrap64 ((l1.length : Int) + 1)))) + x10_1))) (rd t128 (wrap64 ((wrap64 ((wrap64 (x9_1 * (wrap64 ((l1.length : Int) + 1)))) + x10_1)) - 1))) false)) else (none)) else (none)) else (none)) else (none)) else (none)) else (none))) else (none)) else (none)) else (none)) else (none)) = some (r1, r2) := by first | (rw [hji21] at H; exact H) | (simp only [hji21] at H ⊢; exact H)
                  have hji21w : (IntKind.i64.wrap (x9_1 - 1)) = ji21 := (i64_w _).trans hji21
                  (try (have hji16_hji21 := hji16; rw [hji21] at hji16_hji21))
                  (try (have hji16w_hji21 := hji16w; rw [hji21] at hji16w_hji21))
                  by_cases c22 : 0 ≤ (ji21)
                  · rw [if_pos c22] at H
                    have c22b0 : decide (0 ≤ (ji21)) = true := decide_eq_true c22
                    clear c22
                    by_cases c23 : (ji21) < (l0.length : Int)
                    · rw [if_pos c23] at H
                      have c23b0 : decide ((ji21) < (l0.length : Int)) = true := decide_eq_true c23
                      clear c23
                      obtain ⟨ji24, hji24⟩ : ∃ j_ : Int, (wrap64 (x10_1 - 1)) = j_ := ⟨_, rfl⟩
                      replace H : (if 0 ≤ (ji24) then (if (ji24) < (l1.length : Int) then (if (rd l0 (ji21)) = (rd l1 (ji24)) then (spec_Edits.l0 kj8 l0 l1 x6_1 t128 (wrap64 ((l1.length : Int) + 1)) ji21 ji24) else (if 0 ≤ (wrap64 ((wrap64 ((wrap64 ((ji21) * (wrap64 ((l1.length : Int) + 1)))) + x10_1)) - 1)) then (if (wrap64 ((wrap64 ((wrap64 ((ji21) * (wrap64 ((l1.length : Int) + 1)))) + x10_1)) - 1)) < (t128.length : Int) then (if 0 ≤ (wrap64 ((wrap64 ((ji21) * (wrap64 ((l1.length : Int) + 1)))) + x10_1)) then (if (wrap64 ((wrap64 ((ji21) * (wrap64 ((l1.length : Int) + 1)))) + x10_1)) < (t128.length : Int) then (if 0 ≤ (wrap64 ((wrap64 ((wrap64 (x9_1 * (wrap64 ((l1.length : Int) + 1)))) + x10_1)) - 1)) then (if (wrap64 ((wrap64 ((wrap64 (x9_1 * (wrap64 ((l1.length : Int) + 1)))) + x10_1)) - 1)) < (t128.length : Int) then (if (rd t128 (wrap64 ((wrap64 ((wrap64 ((ji21) * (wrap64 ((l1.length : Int) + 1)))) + x10_1)) - 1))) ≤ (rd t128 (wrap64 ((wrap64 ((ji21) * (wrap64 ((l1.length : Int) + 1)))) + x10_1))) then (spec_Edits.j2 kj8 l0 l1 x6_1 t128 (wrap64 ((l1.length : Int) + 1)) x9_1 x10_1 (rd t128 (wrap64 ((wrap64 ((ji21) * (wrap64 ((l1.length : Int) + 1)))) + x10_1))) (rd t128 (wrap64 ((wrap64 ((wrap64 (x9_1 * (wrap64 ((l1.length : Int) + 1)))) + x10_1)) - 1))) (decide ((rd t128 (wrap64 ((wrap64 ((wrap64 ((ji21) * (wrap64 ((l1.length : Int) + 1)))) + x10_1)) - 1))) ≤ (rd t128 (wrap64 ((wrap64 ((wrap64 (x9_1 * (wrap64 ((l1.length : Int) + 1)))) + x10_1)) - 1)))))) else (spec_Edits.j2 kj8 l0 l1 x6_1 t128 (wrap64 ((l1.length : Int) + 1)) x9_1 x10_1 (rd t128 (wrap64 ((wrap64 ((ji21) * (wrap64 ((l1.length : Int) + 1)))) + x10_1))) (rd t128 (wrap64 ((wrap64 ((wrap64 (x9_1 * (wrap64 ((l1.length : Int) + 1)))) + x10_1)) - 1))) false)) else (none)) else (none)) else (none)) else (none)) else (none)) else (none))) else (none)) else (none)) = some (r1, r2) := by first | (rw [hji24] at H; exact H) | (simp only [hji24] at H ⊢; exact H)
                      have hji24w : (IntKind.i64.wrap (x10_1 - 1)) = ji24 := (i64_w _).trans hji24
                      (try (have hji16_hji24 := hji16; rw [hji24] at hji16_hji24))
                      (try (have hji16w_hji24 := hji16w; rw [hji24] at hji16w_hji24))
                      (try (have hji21_hji24 := hji21; rw [hji24] at hji21_hji24))
                      (try (have hji21w_hji24 := hji21w; rw [hji24] at hji21w_hji24))
                      by_cases c25 : 0 ≤ (ji24)
                      · rw [if_pos c25] at H
                        have c25b0 : decide (0 ≤ (ji24)) = true := decide_eq_true c25
                        clear c25
                        by_cases c26 : (ji24) < (l1.length : Int)
                        · rw [if_pos c26] at H
                          have c26b0 : decide ((ji24) < (l1.length : Int)) = true := decide_eq_true c26
                          clear c26
                          by_cases c27 : (rd l0 (ji21)) = (rd l1 (ji24))
                          · rw [if_pos c27] at H
                            have c27b0 : ((rd l0 (ji21)) == (rd l1 (ji24))) = true := beq_iff_eq.mpr c27
                            have c27b1 : ((rd l0 (ji21)) != (rd l1 (ji24))) = false := bne_eq_false_iff_eq.mpr c27
                            clear c27
                            have H' := Aside0.mk H
                            clear H
                            have p138 : 0 ≤ ((ji21) : Int) := of_decide_eq_true (by first | (with_reducible assumption) | assumption)
                            have q138 : (ji21) < (l0.length : Int) := of_decide_eq_true (by first | (with_reducible assumption) | assumption)
                            obtain ⟨ad138, e138, hx138_0⟩ := Kd.at_int HR0.out (ji21) p138 q138
                            cases e138
                            replace hx138_0 := (HB.out.cell (World.block_lt_of_cell? w _ hx138_0)).trans hx138_0
                            replace p138 := eq_true p138
                            replace q138 := eq_true q138
                            have p139 : 0 ≤ ((ji24) : Int) := of_decide_eq_true (by first | (with_reducible assumption) | assumption)
                            have q139 : (ji24) < (l1.length : Int) := of_decide_eq_true (by first | (with_reducible assumption) | assumption)
                            obtain ⟨ad139, e139, hx139_0⟩ := Kd.at_int HR1.out (ji24) p139 q139
                            cases e139
                            replace hx139_0 := (HB.out.cell (World.block_lt_of_cell? w _ hx139_0)).trans hx139_0
                            replace p139 := eq_true p139
                            replace q139 := eq_true q139
                            go_wp2
                            repeat (go_quiet (fail); try go_wp2)
                            go_roundg kj8
                            case measure => have := HK1.out; have := HJ8.out; omega
                            case rel => exact ⟨(x6_1), (ji21), (ji24), (by first | rfl | (simp; done) | (simp only [← hji21] <;> (first | rfl | simp)) | (simp [*]; done)), (by first | rfl | (simp; done) | (simp only [← hji24] <;> (first | rfl | simp)) | (simp [*]; done)), H', ⟨by have := HK1.out; have := HJ8.out; omega⟩, ⟨by (with_reducible repeat (first | apply Kd.R_alloc | apply Kd.R_drewN | apply Kd.R_drew)); exact HO_6.out⟩, ⟨by (with_reducible repeat (first | apply Kd.R_alloc | apply Kd.R_drewN | apply Kd.R_drew)); exact HO_7.out⟩, ⟨by repeat (first | (with_reducible first | exact HB.out | apply below_alloc | apply pw_below_drewN | apply below_drew1) | exact HB.out)⟩⟩
                          · rw [if_neg c27] at H
                            have c27b0 : ((rd l0 (ji21)) == (rd l1 (ji24))) = false := beq_eq_false_iff_ne.mpr c27
                            have c27b1 : ((rd l0 (ji21)) != (rd l1 (ji24))) = true := bne_iff_ne.mpr c27
                            obtain ⟨ji28, hji28⟩ : ∃ j_ : Int, (wrap64 ((wrap64 ((wrap64 ((ji21) * (wrap64 ((l1.length : Int) + 1)))) + x10_1)) - 1)) = j_ := ⟨_, rfl⟩
                            replace H : (if 0 ≤ (ji28) then (if (ji28) < (t128.length : Int) then (if 0 ≤ (wrap64 ((wrap64 ((ji21) * (wrap64 ((l1.length : Int) + 1)))) + x10_1)) then (if (wrap64 ((wrap64 ((ji21) * (wrap64 ((l1.length : Int) + 1)))) + x10_1)) < (t128.length : Int) then (if 0 ≤ (wrap64 ((wrap64 ((wrap64 (x9_1 * (wrap64 ((l1.length : Int) + 1)))) + x10_1)) - 1)) then (if (wrap64 ((wrap64 ((wrap64 (x9_1 * (wrap64 ((l1.length : Int) + 1)))) + x10_1)) - 1)) < (t128.length : Int) then (if (rd t128 (ji28)) ≤ (rd t128 (wrap64 ((wrap64 ((ji21) * (wrap64 ((l1.length : Int) + 1)))) + x10_1))) then (spec_Edits.j2 kj8 l0 l1 x6_1 t128 (wrap64 ((l1.length : Int) + 1)) x9_1 x10_1 (rd t128 (wrap64 ((wrap64 ((ji21) * (wrap64 ((l1.length : Int) + 1)))) + x10_1))) (rd t128 (wrap64 ((wrap64 ((wrap64 (x9_1 * (wrap64 ((l1.length : Int) + 1)))) + x10_1)) - 1))) (decide ((rd t128 (ji28)) ≤ (rd t128 (wrap64 ((wrap64 ((wrap64 (x9_1 * (wrap64 ((l1.length : Int) + 1)))) + x10_1)) - 1)))))) else (spec_Edits.j2 kj8 l0 l1 x6_1 t128 (wrap64 ((l1.length : Int) + 1)) x9_1 x10_1 (rd t128 (wrap64 ((wrap64 ((ji21) * (wrap64 ((l1.length : Int) + 1)))) + x10_1))) (rd t128 (wrap64 ((wrap64 ((wrap64 (x9_1 * (wrap64 ((l1.length : Int) + 1)))) + x10_1)) - 1))) false)) else (none)) else (none)) else (none)) else (none)) else (none)) else (none)) = some (r1, r2) := by first | (rw [hji28] at H; exact H) | (simp only [hji28] at H ⊢; exact H)
                            have hji28w : (IntKind.i64.wrap ((wrap64 ((wrap64 ((ji21) * (wrap64 ((l1.length : Int) + 1)))) + x10_1)) - 1)) = ji28 := (i64_w _).trans hji28
                            (try (have hji21_hji28 := hji21; rw [hji28] at hji21_hji28))
                            (try (have hji21w_hji28 := hji21w; rw [hji28] at hji21w_hji28))
                            (try (have hji24_hji28 := hji24; rw [hji28] at hji24_hji28))
                            (try (have hji24w_hji28 := hji24w; rw [hji28] at hji24w_hji28))
                            by_cases c29 : 0 ≤ (ji28)
                            · rw [if_pos c29] at H
                              have c29b0 : decide (0 ≤ (ji28)) = true := decide_eq_true c29
                              clear c29
                              by_cases c30 : (ji28) < (t128.length : Int)
                              · rw [if_pos c30] at H
                                have c30b0 : decide ((ji28) < (t128.length : Int)) = true := decide_eq_true c30
                                clear c30
                                obtain ⟨ji31, hji31⟩ : ∃ j_ : Int, (wrap64 ((wrap64 ((ji21) * (wrap64 ((l1.length : Int) + 1)))) + x10_1)) = j_ := ⟨_, rfl⟩
                                replace H : (if 0 ≤ (ji31) then (if (ji31) < (t128.length : Int) then (if 0 ≤ (wrap64 ((wrap64 ((wrap64 (x9_1 * (wrap64 ((l1.length : Int) + 1)))) + x10_1)) - 1)) then (if (wrap64 ((wrap64 ((wrap64 (x9_1 * (wrap64 ((l1.length : Int) + 1)))) + x10_1)) - 1)) < (t128.length : Int) then (if (rd t128 (ji28)) ≤ (rd t128 (ji31)) then (spec_Edits.j2 kj8 l0 l1 x6_1 t128 (wrap64 ((l1.length : Int) + 1)) x9_1 x10_1 (rd t128 (ji31)) (rd t128 (wrap64 ((wrap64 ((wrap64 (x9_1 * (wrap64 ((l1.length : Int) + 1)))) + x10_1)) - 1))) (decide ((rd t128 (ji28)) ≤ (rd t128 (wrap64 ((wrap64 ((wrap64 (x9_1 * (wrap64 ((l1.length : Int) + 1)))) + x10_1)) - 1)))))) else (spec_Edits.j2 kj8 l0 l1 x6_1 t128 (wrap64 ((l1.length : Int) + 1)) x9_1 x10_1 (rd t128 (ji31)) (rd t128 (wrap64 ((wrap64 ((wrap64 (x9_1 * (wrap64 ((l1.length : Int) + 1)))) + x10_1)) - 1))) false)) else (none)) else (none)) else (none)) else (none)) = some (r1, r2) := by first | (rw [hji31] at H; exact H) | (simp only [hji31] at H ⊢; exact H)
                                have hji31w : (IntKind.i64.wrap ((wrap64 ((ji21) * (wrap64 ((l1.length : Int) + 1)))) + x10_1)) = ji31 := (i64_w _).trans hji31
                                (try (have hji21_hji31 := hji21; rw [hji31] at hji21_hji31))
                                (try (have hji21w_hji31 := hji21w; rw [hji31] at hji21w_hji31))
                                (try (have hji24_hji31 := hji24; rw [hji31] at hji24_hji31))
                                (try (have hji24w_hji31 := hji24w; rw [hji31] at hji24w_hji31))
                                (try (have hji28_hji31 := hji28; rw [hji31] at hji28_hji31))
                                (try (have hji28w_hji31 := hji28w; rw [hji31] at hji28w_hji31))
                                by_cases c32 : 0 ≤ (ji31)
                                · rw [if_pos c32] at H
                                  have c32b0 : decide (0 ≤ (ji31)) = true := decide_eq_true c32
                                  clear c32
                                  by_cases c33 : (ji31) < (t128.length : Int)
                                  · rw [if_pos c33] at H
                                    have c33b0 : decide ((ji31) < (t128.length : Int)) = true := decide_eq_true c33
                                    clear c33
                                    obtain ⟨ji34, hji34⟩ : ∃ j_ : Int, (wrap64 ((wrap64 ((wrap64 (x9_1 * (wrap64 ((l1.length : Int) + 1)))) + x10_1)) - 1)) = j_ := ⟨_, rfl⟩
                                    replace H : (if 0 ≤ (ji34) then (if (ji34) < (t128.length : Int) then (if (rd t128 (ji28)) ≤ (rd t128 (ji31)) then (spec_Edits.j2 kj8 l0 l1 x6_1 t128 (wrap64 ((l1.length : Int) + 1)) x9_1 x10_1 (rd t128 (ji31)) (rd t128 (ji34)) (decide ((rd t128 (ji28)) ≤ (rd t128 (ji34))))) else (spec_Edits.j2 kj8 l0 l1 x6_1 t128 (wrap64 ((l1.length : Int) + 1)) x9_1 x10_1 (rd t128 (ji31)) (rd t128 (ji34)) false)) else (none)) else (none)) = some (r1, r2) := by first | (rw [hji34] at H; exact H) | (simp only [hji34] at H ⊢; exact H)
                                    have hji34w : (IntKind.i64.wrap ((wrap64 ((wrap64 (x9_1 * (wrap64 ((l1.length : Int) + 1)))) + x10_1)) - 1)) = ji34 := (i64_w _).trans hji34
                                    (try (have hji21_hji34 := hji21; rw [hji34] at hji21_hji34))
                                    (try (have hji21w_hji34 := hji21w; rw [hji34] at hji21w_hji34))
                                    (try (have hji24_hji34 := hji24; rw [hji34] at hji24_hji34))
                                    (try (have hji24w_hji34 := hji24w; rw [hji34] at hji24w_hji34))
                                    (try (have hji28_hji34 := hji28; rw [hji34] at hji28_hji34))
                                    (try (have hji28w_hji34 := hji28w; rw [hji34] at hji28w_hji34))
                                    (try (have hji31_hji34 := hji31; rw [hji34] at hji31_hji34))
                                    (try (have hji31w_hji34 := hji31w; rw [hji34] at hji31w_hji34))
                                    by_cases c35 : 0 ≤ (ji34)
                                    · rw [if_pos c35] at H
                                      have c35b0 : decide (0 ≤ (ji34)) = true := decide_eq_true c35
                                      clear c35
                                      by_cases c36 : (ji34) < (t128.length : Int)
                                      · rw [if_pos c36] at H
                                        have c36b0 : decide ((ji34) < (t128.length : Int)) = true := decide_eq_true c36
                                        clear c36
                                        have HC37 := Aside0.mk H
                                        clear H
                                        have p138 : 0 ≤ ((ji21) : Int) := of_decide_eq_true (by first | (with_reducible assumption) | assumption)
                                        have q138 : (ji21) < (l0.length : Int) := of_decide_eq_true (by first | (with_reducible assumption) | assumption)
                                        obtain ⟨ad138, e138, hx138_0⟩ := Kd.at_int HR0.out (ji21) p138 q138
                                        cases e138
                                        replace hx138_0 := (HB.out.cell (World.block_lt_of_cell? w _ hx138_0)).trans hx138_0
                                        replace p138 := eq_true p138
                                        replace q138 := eq_true q138
                                        have p139 : 0 ≤ ((ji24) : Int) := of_decide_eq_true (by first | (with_reducible assumption) | assumption)
                                        have q139 : (ji24) < (l1.length : Int) := of_decide_eq_true (by first | (with_reducible assumption) | assumption)
                                        obtain ⟨ad139, e139, hx139_0⟩ := Kd.at_int HR1.out (ji24) p139 q139
                                        cases e139
                                        replace hx139_0 := (HB.out.cell (World.block_lt_of_cell? w _ hx139_0)).trans hx139_0
                                        replace p139 := eq_true p139
                                        replace q139 := eq_true q139
                                        obtain ⟨Ao38, co38, eo38⟩ := Kd.R_slice HO_7.out
                                        subst eo38
                                        have p140 : 0 ≤ ((ji28) : Int) := of_decide_eq_true (by first | (with_reducible assumption) | assumption)
                                        have q140 : (ji28) < (t128.length : Int) := of_decide_eq_true (by first | (with_reducible assumption) | assumption)
                                        obtain ⟨ad140, e140, hx140_0⟩ := Kd.at_int (Kd.R_reads' HO_7.out).2.2 (ji28) p140 q140
                                        cases e140
                                        replace p140 := eq_true p140
                                        replace q140 := eq_true q140
                                        have p141 : 0 ≤ ((ji31) : Int) := of_decide_eq_true (by first | (with_reducible assumption) | assumption)
                                        have q141 : (ji31) < (t128.length : Int) := of_decide_eq_true (by first | (with_reducible assumption) | assumption)
                                        obtain ⟨ad141, e141, hx141_0⟩ := Kd.at_int (Kd.R_reads' HO_7.out).2.2 (ji31) p141 q141
                                        obtain rfl : ad140 = ad141 := (by injection e141)
                                        replace p141 := eq_true p141
                                        replace q141 := eq_true q141
                                        have p142 : 0 ≤ ((ji34) : Int) := of_decide_eq_true (by first | (with_reducible assumption) | assumption)
                                        have q142 : (ji34) < (t128.length : Int) := of_decide_eq_true (by first | (with_reducible assumption) | assumption)
                                        obtain ⟨ad142, e142, hx142_0⟩ := Kd.at_int (Kd.R_reads' HO_7.out).2.2 (ji34) p142 q142
                                        obtain rfl : ad140 = ad142 := (by injection e142)
                                        replace p142 := eq_true p142
                                        replace q142 := eq_true q142
                                        go_upto_region 14 with (fail)
                                        repeat (go_quiet (fail); go_upto_region 14 with (fail))
                                        go_cut [75] (fun v75 wc => ∃ (kq : Nat) (x75_36 : Bool), v75 = .bool x75_36 ∧ Aside0 (spec_Edits.j2 kq l0 l1 x6_1 t128 (wrap64 ((l1.length : Int) + 1)) x9_1 x10_1 (rd t128 (ji31)) (rd t128 (ji34)) x75_36 = some (r1, r2)) ∧ Aside0 (kq ≤ kj8) ∧ Aside0 (Kd.R k126 126 wc w.heap.size (fun _ => True) u6 x6_1) ∧ Aside0 (Kd.R (Kd.int .i64) 2 wc w.heap.size (fun _ => True) (.slice (some ad140) t128.length co38) t128) ∧ Aside0 (Below w.heap.size w wc))
                                        case first =>
                                          have H := HC37.out
                                          clear HC37
                                          by_cases c39 : (rd t128 (ji28)) ≤ (rd t128 (ji31))
                                          · rw [if_pos c39] at H
                                            have c39b0 : decide ((rd t128 (ji28)) ≤ (rd t128 (ji31))) = true := decide_eq_true c39
                                            clear c39
                                            (first | rw [c39b0] | (simp only [i64_w, i32_w]; rw [c39b0]) | skip)
                                            have H' := Aside0.mk H
                                            clear H
                                            go_wp2
                                            repeat (go_quiet (fail); try go_wp2)
                                            go_meet
                                            case rel => exact ⟨_, (decide ((rd t128 (ji28)) ≤ (rd t128 (ji34)))), (by first | rfl | (simp; done) | (simp only [← hji28, ← hji34] <;> (first | rfl | simp)) | (simp [*]; done)), H', ⟨by have := HK1.out; have := HJ8.out; first | omega | exact Nat.le_refl _⟩, ⟨by (with_reducible repeat (first | apply Kd.R_alloc | apply Kd.R_drewN | apply Kd.R_drew)); exact HO_6.out⟩, ⟨by (with_reducible repeat (first | apply Kd.R_alloc | apply Kd.R_drewN | apply Kd.R_drew)); exact HO_7.out⟩, ⟨by repeat (first | (with_reducible first | exact HB.out | apply below_alloc | apply pw_below_drewN | apply below_drew1) | exact HB.out)⟩⟩
                                          · rw [if_neg c39] at H
                                            have c39b0 : decide ((rd t128 (ji28)) ≤ (rd t128 (ji31))) = false := decide_eq_false c39
                                            clear c39
                                            (first | rw [c39b0] | (simp only [i64_w, i32_w]; rw [c39b0]) | skip)
                                            have H' := Aside0.mk H
                                            clear H
                                            go_wp2
                                            repeat (go_quiet (fail); try go_wp2)
                                            go_meet
                                            case rel => exact ⟨_, (false), (by first | rfl | (simp; done) | (simp [*]; done)), H', ⟨by have := HK1.out; have := HJ8.out; first | omega | exact Nat.le_refl _⟩, ⟨by (with_reducible repeat (first | apply Kd.R_alloc | apply Kd.R_drewN | apply Kd.R_drew)); exact HO_6.out⟩, ⟨by (with_reducible repeat (first | apply Kd.R_alloc | apply Kd.R_drewN | apply Kd.R_drew)); exact HO_7.out⟩, ⟨by repeat (first | (with_reducible first | exact HB.out | apply below_alloc | apply pw_below_drewN | apply below_drew1) | exact HB.out)⟩⟩
                                        case rest =>
                                          try clear hji21
                                          try clear hji21w
                                          try clear hji21_hji21
                                          try clear hji21w_hji21
                                          try clear hji21_hji24
                                          try clear hji21w_hji24
                                          try clear hji21_hji28
                                          try clear hji21w_hji28
                                          try clear hji21_hji31
                                          try clear hji21w_hji31
                                          try clear hji21_hji34
                                          try clear hji21w_hji34
                                          try clear hji24
                                          try clear hji24w
                                          try clear hji24_hji21
                                          try clear hji24w_hji21
                                          try clear hji24_hji24
                                          try clear hji24w_hji24
                                          try clear hji24_hji28
                                          try clear hji24w_hji28
                                          try clear hji24_hji31
                                          try clear hji24w_hji31
                                          try clear hji24_hji34
                                          try clear hji24w_hji34
                                          try clear hji28
                                          try clear hji28w
                                          try clear hji28_hji21
                                          try clear hji28w_hji21
                                          try clear hji28_hji24
                                          try clear hji28w_hji24
                                          try clear hji28_hji28
                                          try clear hji28w_hji28
                                          try clear hji28_hji31
                                          try clear hji28w_hji31
                                          try clear hji28_hji34
                                          try clear hji28w_hji34
                                          try clear hji31
                                          try clear hji31w
                                          try clear hji31_hji21
                                          try clear hji31w_hji21
                                          try clear hji31_hji24
                                          try clear hji31w_hji24
                                          try clear hji31_hji28
                                          try clear hji31w_hji28
                                          try clear hji31_hji31
                                          try clear hji31w_hji31
                                          try clear hji31_hji34
                                          try clear hji31w_hji34
                                          try clear hji34
                                          try clear hji34w
                                          try clear hji34_hji21
                                          try clear hji34w_hji21
                                          try clear hji34_hji24
                                          try clear hji34w_hji24
                                          try clear hji34_hji28
                                          try clear hji34w_hji28
                                          try clear hji34_hji31
                                          try clear hji34w_hji31
                                          try clear hji34_hji34
                                          try clear hji34w_hji34
                                          clear HC37
                                          try clear c1
                                          try clear p1
                                          try clear q1
                                          try clear hx1
                                          try clear c2
                                          try clear p2
                                          try clear c3
                                          try clear c4
                                          try clear c6
                                          try clear p6
                                          try clear c10
                                          try clear c10b0
                                          try clear c11
                                          try clear c12
                                          try clear c12b0
                                          try clear c12b1
                                          try clear c13
                                          try clear p13
                                          try clear q13
                                          try clear hx13
                                          try clear p14
                                          try clear q14
                                          try clear hx14
                                          try clear c15
                                          try clear c15b0
                                          try clear c15b1
                                          try clear c17
                                          try clear c17b0
                                          try clear c18
                                          try clear c18b0
                                          try clear c19
                                          try clear c22
                                          try clear c22b0
                                          try clear c23
                                          try clear c23b0
                                          try clear c25
                                          try clear c25b0
                                          try clear c26
                                          try clear c26b0
                                          try clear c27
                                          try clear c27b0
                                          try clear c27b1
                                          try clear c29
                                          try clear c29b0
                                          try clear c30
                                          try clear c30b0
                                          try clear c32
                                          try clear c32b0
                                          try clear c33
                                          try clear c33b0
                                          try clear c35
                                          try clear c35b0
                                          try clear c36
                                          try clear c36b0
                                          try clear c39
                                          try clear c39b0
                                          try clear hx134_0
                                          try clear hx138_0
                                          try clear hx139_0
                                          try clear hx140_0
                                          try clear hx141_0
                                          try clear hx142_0
                                          try clear p134
                                          try clear p138
                                          try clear p139
                                          try clear p140
                                          try clear p141
                                          try clear p142
                                          try clear p2
                                          try clear p6
                                          try clear q134
                                          try clear q138
                                          try clear q139
                                          try clear q140
                                          try clear q141
                                          try clear q142
                                          obtain ⟨kq, x75_36, rfl, HA, HJ36, HO_6, HO_7, HB⟩ := hcut
                                          cases kq with
                                          | zero => exact absurd HA.out (by simp [spec_Edits.j2])
                                          | succ kj36 =>
                                            have H := HA.out
                                            clear HA
                                            simp only [spec_Edits.j2] at H
                                            by_cases c40 : x75_36 = true
                                            · subst c40
                                              have H1 : (if 0 ≤ (wrap64 (x10_1 - 1)) then (if (wrap64 (x10_1 - 1)) < (l1.length : Int) then (if x6_1.length < 5864062014805 then (spec_Edits.l0 kj36 l0 l1 (x6_1 ++ [(⟨3, wrap64 (x9_1 - 1), rd l1 (wrap64 (x10_1 - 1))⟩ : S126)]) t128 (wrap64 ((l1.length : Int) + 1)) (wrap64 (x9_1 - 1)) (wrap64 (x10_1 - 1))) else (none)) else (none)) else (none)) = some (r1, r2) := by rw [if_pos rfl] at H; exact H
                                              clear H
                                              have H := H1
                                              clear H1
                                              obtain ⟨ji41, hji41⟩ : ∃ j_ : Int, (wrap64 (x10_1 - 1)) = j_ := ⟨_, rfl⟩
                                              (try (have hji41_hji24 : ji24 = ji41 := hji24.symm.trans hji41))
                                              replace H : (if 0 ≤ (ji41) then (if (ji41) < (l1.length : Int) then (if x6_1.length < 5864062014805 then (spec_Edits.l0 kj36 l0 l1 (x6_1 ++ [(⟨3, wrap64 (x9_1 - 1), rd l1 (ji41)⟩ : S126)]) t128 (wrap64 ((l1.length : Int) + 1)) (wrap64 (x9_1 - 1)) ji41) else (none)) else (none)) else (none)) = some (r1, r2) := by first | (rw [hji41] at H; exact H) | (simp only [hji41] at H ⊢; exact H)
                                              have hji41w : (IntKind.i64.wrap (x10_1 - 1)) = ji41 := (i64_w _).trans hji41
                                              by_cases c42 : 0 ≤ (ji41)
                                              · rw [if_pos c42] at H
                                                have c42b0 : decide (0 ≤ (ji41)) = true := decide_eq_true c42
                                                clear c42
                                                by_cases c43 : (ji41) < (l1.length : Int)
                                                · rw [if_pos c43] at H
                                                  have c43b0 : decide ((ji41) < (l1.length : Int)) = true := decide_eq_true c43
                                                  clear c43
                                                  by_cases c44 : x6_1.length < 5864062014805
                                                  · rw [if_pos c44] at H
                                                    have LMc44 := Aside0.mk c44
                                                    clear c44
                                                    obtain ⟨y144, hy144⟩ : ∃ y_ : List (S126), y_ = (x6_1 ++ [(⟨3, wrap64 (x9_1 - 1), rd l1 (ji41)⟩ : S126)]) := ⟨_, rfl⟩
                                                    replace H : (spec_Edits.l0 kj36 l0 l1 y144 t128 (wrap64 ((l1.length : Int) + 1)) (wrap64 (x9_1 - 1)) ji41) = some (r1, r2) := by first | (rw [hy144]; with_reducible exact H) | (have H2_ := (Option.bind_some _ _).symm.trans H; rw [hy144]; with_reducible exact H2_) | (have H2_ := (Option.bind_some _ _).symm.trans H; with_reducible exact H2_) | with_reducible exact H | (rw [hy144]; exact H) | exact H
                                                    have Ny144 := Aside0.mk hy144
                                                    clear hy144
                                                    have H' := Aside0.mk H
                                                    clear H
                                                    have p143 : 0 ≤ ((ji41) : Int) := of_decide_eq_true (by first | (with_reducible assumption) | assumption)
                                                    have q143 : (ji41) < (l1.length : Int) := of_decide_eq_true (by first | (with_reducible assumption) | assumption)
                                                    obtain ⟨ad143, e143, hx143_0⟩ := Kd.at_int HR1.out (ji41) p143 q143
                                                    obtain rfl : ad139 = ad143 := (by injection e143)
                                                    replace hx143_0 := (HB.out.cell (World.block_lt_of_cell? w _ hx143_0)).trans hx143_0
                                                    replace p143 := eq_true p143
                                                    replace q143 := eq_true q143
                                                    go_wp2_with (first | ((with_reducible refine gate_builtin (b := .append) (xs := #[.tmp 88, .tmp 95]) rfl ?_); at_builtin; refine Kd.R_append k126 (w0 := w) w.heap.size rfl (.tmp 88) (.tmp 95) 81 126 (.agg #[(.int .i64 0), (.int .i64 0), (.int .i64 0)]) 24 rfl Try.underlying81 info126 rfl (by decide) (by omega) u6 x6_1 (⟨3, wrap64 (x9_1 - 1), rd l1 (ji41)⟩ : S126) [.int .i64 3, .int .i64 (wrap64 (x9_1 - 1)), .int .i64 (rd l1 (ji41))] (fun _ => True) (fun _ => False) rfl rfl ?aP (fun _ hk => hk.elim) ?aF ?aO ?aB ?aS ?aL ?_; (case aP => exact k126_mkM _ _ _ (⟨3, wrap64 (x9_1 - 1), rd l1 (ji41)⟩ : S126)); (case aB => exact (by repeat (first | (with_reducible first | exact HB.out | apply below_alloc | apply pw_below_drewN | apply below_drew1) | exact HB.out))); (case aF => exact (fun _ _ => trivial)); (case aO => exact (by (with_reducible repeat (first | apply Kd.R_alloc | apply Kd.R_drewN | apply Kd.R_drew)); exact HO_6.out)); (case aS => exact (below_size (by repeat (first | (with_reducible first | exact HB.out | apply below_alloc | apply pw_below_drewN | apply below_drew1) | exact HB.out)))); (case aL => have := LMc44.out; omega); intro v145 w45 ho hb hg hat; rw [← Ny144.out] at ho; have n0_ := Aside0.mk (Kd.R_over' (by (with_reducible repeat (first | apply Kd.R_alloc | apply Kd.R_drewN | apply Kd.R_drew)); exact HO_7.out) (Kd.R_typed (by (with_reducible repeat (first | apply Kd.R_alloc | apply Kd.R_drewN | apply Kd.R_drew)); exact HO_6.out)) (by decide) hg); have n1_ := Aside0.mk (hb); have n2_ := Aside0.mk (ho); clear HO_7; clear HB; clear HO_6; have HO_7 := n0_; have HB := n1_; have HO146 := n2_; clear n0_ n1_ n2_; clear ho hb hg hat))
                                                    repeat (go_quiet (first | ((with_reducible refine gate_builtin (b := .append) (xs := #[.tmp 88, .tmp 95]) rfl ?_); at_builtin; refine Kd.R_append k126 (w0 := w) w.heap.size rfl (.tmp 88) (.tmp 95) 81 126 (.agg #[(.int .i64 0), (.int .i64 0), (.int .i64 0)]) 24 rfl Try.underlying81 info126 rfl (by decide) (by omega) u6 x6_1 (⟨3, wrap64 (x9_1 - 1), rd l1 (ji41)⟩ : S126) [.int .i64 3, .int .i64 (wrap64 (x9_1 - 1)), .int .i64 (rd l1 (ji41))] (fun _ => True) (fun _ => False) rfl rfl ?aP (fun _ hk => hk.elim) ?aF ?aO ?aB ?aS ?aL ?_; (case aP => exact k126_mkM _ _ _ (⟨3, wrap64 (x9_1 - 1), rd l1 (ji41)⟩ : S126)); (case aB => exact (by repeat (first | (with_reducible first | exact HB.out | apply below_alloc | apply pw_below_drewN | apply below_drew1) | exact HB.out))); (case aF => exact (fun _ _ => trivial)); (case aO => exact (by (with_reducible repeat (first | apply Kd.R_alloc | apply Kd.R_drewN | apply Kd.R_drew)); exact HO_6.out)); (case aS => exact (below_size (by repeat (first | (with_reducible first | exact HB.out | apply below_alloc | apply pw_below_drewN | apply below_drew1) | exact HB.out)))); (case aL => have := LMc44.out; omega); intro v145 w45 ho hb hg hat; rw [← Ny144.out] at ho; have n0_ := Aside0.mk (Kd.R_over' (by (with_reducible repeat (first | apply Kd.R_alloc | apply Kd.R_drewN | apply Kd.R_drew)); exact HO_7.out) (Kd.R_typed (by (with_reducible repeat (first | apply Kd.R_alloc | apply Kd.R_drewN | apply Kd.R_drew)); exact HO_6.out)) (by decide) hg); have n1_ := Aside0.mk (hb); have n2_ := Aside0.mk (ho); clear HO_7; clear HB; clear HO_6; have HO_7 := n0_; have HB := n1_; have HO146 := n2_; clear n0_ n1_ n2_; clear ho hb hg hat)); try go_wp2_with (first | ((with_reducible refine gate_builtin (b := .append) (xs := #[.tmp 88, .tmp 95]) rfl ?_); at_builtin; refine Kd.R_append k126 (w0 := w) w.heap.size rfl (.tmp 88) (.tmp 95) 81 126 (.agg #[(.int .i64 0), (.int .i64 0), (.int .i64 0)]) 24 rfl Try.underlying81 info126 rfl (by decide) (by omega) u6 x6_1 (⟨3, wrap64 (x9_1 - 1), rd l1 (ji41)⟩ : S126) [.int .i64 3, .int .i64 (wrap64 (x9_1 - 1)), .int .i64 (rd l1 (ji41))] (fun _ => True) (fun _ => False) rfl rfl ?aP (fun _ hk => hk.elim) ?aF ?aO ?aB ?aS ?aL ?_; (case aP => exact k126_mkM _ _ _ (⟨3, wrap64 (x9_1 - 1), rd l1 (ji41)⟩ : S126)); (case aB => exact (by repeat (first | (with_reducible first | exact HB.out | apply below_alloc | apply pw_below_drewN | apply below_drew1) | exact HB.out))); (case aF => exact (fun _ _ => trivial)); (case aO => exact (by (with_reducible repeat (first | apply Kd.R_alloc | apply Kd.R_drewN | apply Kd.R_drew)); exact HO_6.out)); (case aS => exact (below_size (by repeat (first | (with_reducible first | exact HB.out | apply below_alloc | apply pw_below_drewN | apply below_drew1) | exact HB.out)))); (case aL => have := LMc44.out; omega); intro v145 w45 ho hb hg hat; rw [← Ny144.out] at ho; have n0_ := Aside0.mk (Kd.R_over' (by (with_reducible repeat (first | apply Kd.R_alloc | apply Kd.R_drewN | apply Kd.R_drew)); exact HO_7.out) (Kd.R_typed (by (with_reducible repeat (first | apply Kd.R_alloc | apply Kd.R_drewN | apply Kd.R_drew)); exact HO_6.out)) (by decide) hg); have n1_ := Aside0.mk (hb); have n2_ := Aside0.mk (ho); clear HO_7; clear HB; clear HO_6; have HO_7 := n0_; have HB := n1_; have HO146 := n2_; clear n0_ n1_ n2_; clear ho hb hg hat)))
                                                    go_roundg kj36
                                                    case measure => have := HK1.out; have := HJ8.out; have := HJ36.out; omega
                                                    case rel => exact ⟨(y144), (wrap64 (x9_1 - 1)), (ji41), (by first | rfl | (simp; done) | (simp [*]; done)), (by first | rfl | (simp; done) | (simp only [← hji41] <;> (first | rfl | simp)) | (simp [*]; done)), H', ⟨by have := HK1.out; have := HJ8.out; have := HJ36.out; omega⟩, ⟨by (with_reducible repeat (first | apply Kd.R_alloc | apply Kd.R_drewN | apply Kd.R_drew)); exact HO146.out⟩, ⟨by (with_reducible repeat (first | apply Kd.R_alloc | apply Kd.R_drewN | apply Kd.R_drew)); exact HO_7.out⟩, ⟨by repeat (first | (with_reducible first | exact HB.out | apply below_alloc | apply pw_below_drewN | apply below_drew1) | exact HB.out)⟩⟩
                                                  · rw [if_neg c44] at H
                                                    exact absurd H (by simp)
                                                · rw [if_neg c43] at H
                                                  exact absurd H (by simp)
                                              · rw [if_neg c42] at H
                                                exact absurd H (by simp)
                                            · replace c40 := Bool.eq_false_iff.mpr c40
                                              subst c40
                                              have H1 : (if (rd t128 (ji31)) ≤ (rd t128 (ji34)) then (if x6_1.length < 5864062014805 then (spec_Edits.l0 kj36 l0 l1 (x6_1 ++ [(⟨1, wrap64 (x9_1 - 1), 0⟩ : S126)]) t128 (wrap64 ((l1.length : Int) + 1)) (wrap64 (x9_1 - 1)) x10_1) else (none)) else (if 0 ≤ (wrap64 (x10_1 - 1)) then (if (wrap64 (x10_1 - 1)) < (l1.length : Int) then (if x6_1.length < 5864062014805 then (spec_Edits.l0 kj36 l0 l1 (x6_1 ++ [(⟨2, x9_1, rd l1 (wrap64 (x10_1 - 1))⟩ : S126)]) t128 (wrap64 ((l1.length : Int) + 1)) x9_1 (wrap64 (x10_1 - 1))) else (none)) else (none)) else (none))) = some (r1, r2) := by rw [if_neg (show ¬ (false = true) by decide)] at H; exact H
                                              clear H
                                              have H := H1
                                              clear H1
                                              by_cases c46 : (rd t128 (ji31)) ≤ (rd t128 (ji34))
                                              · rw [if_pos c46] at H
                                                have c46b0 : decide ((rd t128 (ji31)) ≤ (rd t128 (ji34))) = true := decide_eq_true c46
                                                clear c46
                                                by_cases c47 : x6_1.length < 5864062014805
                                                · rw [if_pos c47] at H
                                                  have LMc47 := Aside0.mk c47
                                                  clear c47
                                                  obtain ⟨y147, hy147⟩ : ∃ y_ : List (S126), y_ = (x6_1 ++ [(⟨1, wrap64 (x9_1 - 1), 0⟩ : S126)]) := ⟨_, rfl⟩
                                                  replace H : (spec_Edits.l0 kj36 l0 l1 y147 t128 (wrap64 ((l1.length : Int) + 1)) (wrap64 (x9_1 - 1)) x10_1) = some (r1, r2) := by first | (rw [hy147]; with_reducible exact H) | (have H2_ := (Option.bind_some _ _).symm.trans H; rw [hy147]; with_reducible exact H2_) | (have H2_ := (Option.bind_some _ _).symm.trans H; with_reducible exact H2_) | with_reducible exact H | (rw [hy147]; exact H) | exact H
                                                  have Ny147 := Aside0.mk hy147
                                                  clear hy147
                                                  have H' := Aside0.mk H
                                                  clear H
                                                  go_wp2_with (first | ((with_reducible refine gate_builtin (b := .append) (xs := #[.tmp 103, .tmp 106]) rfl ?_); at_builtin; refine Kd.R_append k126 (w0 := w) w.heap.size rfl (.tmp 103) (.tmp 106) 81 126 (.agg #[(.int .i64 0), (.int .i64 0), (.int .i64 0)]) 24 rfl Try.underlying81 info126 rfl (by decide) (by omega) u6 x6_1 (⟨1, wrap64 (x9_1 - 1), 0⟩ : S126) [.int .i64 1, .int .i64 (wrap64 (x9_1 - 1)), .int .i64 0] (fun _ => True) (fun _ => False) rfl rfl ?aP (fun _ hk => hk.elim) ?aF ?aO ?aB ?aS ?aL ?_; (case aP => exact k126_mkM _ _ _ (⟨1, wrap64 (x9_1 - 1), 0⟩ : S126)); (case aB => exact (by repeat (first | (with_reducible first | exact HB.out | apply below_alloc | apply pw_below_drewN | apply below_drew1) | exact HB.out))); (case aF => exact (fun _ _ => trivial)); (case aO => exact (by (with_reducible repeat (first | apply Kd.R_alloc | apply Kd.R_drewN | apply Kd.R_drew)); exact HO_6.out)); (case aS => exact (below_size (by repeat (first | (with_reducible first | exact HB.out | apply below_alloc | apply pw_below_drewN | apply below_drew1) | exact HB.out)))); (case aL => have := LMc47.out; omega); intro v148 w48 ho hb hg hat; rw [← Ny147.out] at ho; have n0_ := Aside0.mk (Kd.R_over' (by (with_reducible repeat (first | apply Kd.R_alloc | apply Kd.R_drewN | apply Kd.R_drew)); exact HO_7.out) (Kd.R_typed (by (with_reducible repeat (first | apply Kd.R_alloc | apply Kd.R_drewN | apply Kd.R_drew)); exact HO_6.out)) (by decide) hg); have n1_ := Aside0.mk (hb); have n2_ := Aside0.mk (ho); clear HO_7; clear HB; clear HO_6; have HO_7 := n0_; have HB := n1_; have HO149 := n2_; clear n0_ n1_ n2_; clear ho hb hg hat))
                                                  repeat (go_quiet (first | ((with_reducible refine gate_builtin (b := .append) (xs := #[.tmp 103, .tmp 106]) rfl ?_); at_builtin; refine Kd.R_append k126 (w0 := w) w.heap.size rfl (.tmp 103) (.tmp 106) 81 126 (.agg #[(.int .i64 0), (.int .i64 0), (.int .i64 0)]) 24 rfl Try.underlying81 info126 rfl (by decide) (by omega) u6 x6_1 (⟨1, wrap64 (x9_1 - 1), 0⟩ : S126) [.int .i64 1, .int .i64 (wrap64 (x9_1 - 1)), .int .i64 0] (fun _ => True) (fun _ => False) rfl rfl ?aP (fun _ hk => hk.elim) ?aF ?aO ?aB ?aS ?aL ?_; (case aP => exact k126_mkM _ _ _ (⟨1, wrap64 (x9_1 - 1), 0⟩ : S126)); (case aB => exact (by repeat (first | (with_reducible first | exact HB.out | apply below_alloc | apply pw_below_drewN | apply below_drew1) | exact HB.out))); (case aF => exact (fun _ _ => trivial)); (case aO => exact (by (with_reducible repeat (first | apply Kd.R_alloc | apply Kd.R_drewN | apply Kd.R_drew)); exact HO_6.out)); (case aS => exact (below_size (by repeat (first | (with_reducible first | exact HB.out | apply below_alloc | apply pw_below_drewN | apply below_drew1) | exact HB.out)))); (case aL => have := LMc47.out; omega); intro v148 w48 ho hb hg hat; rw [← Ny147.out] at ho; have n0_ := Aside0.mk (Kd.R_over' (by (with_reducible repeat (first | apply Kd.R_alloc | apply Kd.R_drewN | apply Kd.R_drew)); exact HO_7.out) (Kd.R_typed (by (with_reducible repeat (first | apply Kd.R_alloc | apply Kd.R_drewN | apply Kd.R_drew)); exact HO_6.out)) (by decide) hg); have n1_ := Aside0.mk (hb); have n2_ := Aside0.mk (ho); clear HO_7; clear HB; clear HO_6; have HO_7 := n0_; have HB := n1_; have HO149 := n2_; clear n0_ n1_ n2_; clear ho hb hg hat)); try go_wp2_with (first | ((with_reducible refine gate_builtin (b := .append) (xs := #[.tmp 103, .tmp 106]) rfl ?_); at_builtin; refine Kd.R_append k126 (w0 := w) w.heap.size rfl (.tmp 103) (.tmp 106) 81 126 (.agg #[(.int .i64 0), (.int .i64 0), (.int .i64 0)]) 24 rfl Try.underlying81 info126 rfl (by decide) (by omega) u6 x6_1 (⟨1, wrap64 (x9_1 - 1), 0⟩ : S126) [.int .i64 1, .int .i64 (wrap64 (x9_1 - 1)), .int .i64 0] (fun _ => True) (fun _ => False) rfl rfl ?aP (fun _ hk => hk.elim) ?aF ?aO ?aB ?aS ?aL ?_; (case aP => exact k126_mkM _ _ _ (⟨1, wrap64 (x9_1 - 1), 0⟩ : S126)); (case aB => exact (by repeat (first | (with_reducible first | exact HB.out | apply below_alloc | apply pw_below_drewN | apply below_drew1) | exact HB.out))); (case aF => exact (fun _ _ => trivial)); (case aO => exact (by (with_reducible repeat (first | apply Kd.R_alloc | apply Kd.R_drewN | apply Kd.R_drew)); exact HO_6.out)); (case aS => exact (below_size (by repeat (first | (with_reducible first | exact HB.out | apply below_alloc | apply pw_below_drewN | apply below_drew1) | exact HB.out)))); (case aL => have := LMc47.out; omega); intro v148 w48 ho hb hg hat; rw [← Ny147.out] at ho; have n0_ := Aside0.mk (Kd.R_over' (by (with_reducible repeat (first | apply Kd.R_alloc | apply Kd.R_drewN | apply Kd.R_drew)); exact HO_7.out) (Kd.R_typed (by (with_reducible repeat (first | apply Kd.R_alloc | apply Kd.R_drewN | apply Kd.R_drew)); exact HO_6.out)) (by decide) hg); have n1_ := Aside0.mk (hb); have n2_ := Aside0.mk (ho); clear HO_7; clear HB; clear HO_6; have HO_7 := n0_; have HB := n1_; have HO149 := n2_; clear n0_ n1_ n2_; clear ho hb hg hat)))
                                                  go_roundg kj36
                                                  case measure => have := HK1.out; have := HJ8.out; have := HJ36.out; omega
                                                  case rel => exact ⟨(y147), (wrap64 (x9_1 - 1)), (x10_1), (by first | rfl | (simp; done) | (simp [*]; done)), (by first | rfl | (simp; done) | (simp [*]; done)), H', ⟨by have := HK1.out; have := HJ8.out; have := HJ36.out; omega⟩, ⟨by (with_reducible repeat (first | apply Kd.R_alloc | apply Kd.R_drewN | apply Kd.R_drew)); exact HO149.out⟩, ⟨by (with_reducible repeat (first | apply Kd.R_alloc | apply Kd.R_drewN | apply Kd.R_drew)); exact HO_7.out⟩, ⟨by repeat (first | (with_reducible first | exact HB.out | apply below_alloc | apply pw_below_drewN | apply below_drew1) | exact HB.out)⟩⟩
                                                · rw [if_neg c47] at H
                                                  exact absurd H (by simp)
                                              · rw [if_neg c46] at H
                                                have c46b0 : decide ((rd t128 (ji31)) ≤ (rd t128 (ji34))) = false := decide_eq_false c46
                                                clear c46
                                                obtain ⟨ji49, hji49⟩ : ∃ j_ : Int, (wrap64 (x10_1 - 1)) = j_ := ⟨_, rfl⟩
                                                (try (have hji49_hji24 : ji24 = ji49 := hji24.symm.trans hji49))
                                                replace H : (if 0 ≤ (ji49) then (if (ji49) < (l1.length : Int) then (if x6_1.length < 5864062014805 then (spec_Edits.l0 kj36 l0 l1 (x6_1 ++ [(⟨2, x9_1, rd l1 (ji49)⟩ : S126)]) t128 (wrap64 ((l1.length : Int) + 1)) x9_1 ji49) else (none)) else (none)) else (none)) = some (r1, r2) := by first | (rw [hji49] at H; exact H) | (simp only [hji49] at H ⊢; exact H)
                                                have hji49w : (IntKind.i64.wrap (x10_1 - 1)) = ji49 := (i64_w _).trans hji49
                                                (try (have hji41_hji49 := hji41; rw [hji49] at hji41_hji49))
                                                (try (have hji41w_hji49 := hji41w; rw [hji49] at hji41w_hji49))
                                                by_cases c50 : 0 ≤ (ji49)
                                                · rw [if_pos c50] at H
                                                  have c50b0 : decide (0 ≤ (ji49)) = true := decide_eq_true c50
                                                  clear c50
                                                  by_cases c51 : (ji49) < (l1.length : Int)
                                                  · rw [if_pos c51] at H
                                                    have c51b0 : decide ((ji49) < (l1.length : Int)) = true := decide_eq_true c51
                                                    clear c51
                                                    by_cases c52 : x6_1.length < 5864062014805
                                                    · rw [if_pos c52] at H
                                                      have LMc52 := Aside0.mk c52
                                                      clear c52
                                                      obtain ⟨y151, hy151⟩ : ∃ y_ : List (S126), y_ = (x6_1 ++ [(⟨2, x9_1, rd l1 (ji49)⟩ : S126)]) := ⟨_, rfl⟩
                                                      replace H : (spec_Edits.l0 kj36 l0 l1 y151 t128 (wrap64 ((l1.length : Int) + 1)) x9_1 ji49) = some (r1, r2) := by first | (rw [hy151]; with_reducible exact H) | (have H2_ := (Option.bind_some _ _).symm.trans H; rw [hy151]; with_reducible exact H2_) | (have H2_ := (Option.bind_some _ _).symm.trans H; with_reducible exact H2_) | with_reducible exact H | (rw [hy151]; exact H) | exact H
                                                      have Ny151 := Aside0.mk hy151
                                                      clear hy151
                                                      have H' := Aside0.mk H
                                                      clear H
                                                      have p150 : 0 ≤ ((ji49) : Int) := of_decide_eq_true (by first | (with_reducible assumption) | assumption)
                                                      have q150 : (ji49) < (l1.length : Int) := of_decide_eq_true (by first | (with_reducible assumption) | assumption)
                                                      obtain ⟨ad150, e150, hx150_0⟩ := Kd.at_int HR1.out (ji49) p150 q150
                                                      obtain rfl : ad139 = ad150 := (by injection e150)
                                                      replace hx150_0 := (HB.out.cell (World.block_lt_of_cell? w _ hx150_0)).trans hx150_0
                                                      replace p150 := eq_true p150
                                                      replace q150 := eq_true q150
                                                      go_wp2_with (first | ((with_reducible refine gate_builtin (b := .append) (xs := #[.tmp 66, .tmp 73]) rfl ?_); at_builtin; refine Kd.R_append k126 (w0 := w) w.heap.size rfl (.tmp 66) (.tmp 73) 81 126 (.agg #[(.int .i64 0), (.int .i64 0), (.int .i64 0)]) 24 rfl Try.underlying81 info126 rfl (by decide) (by omega) u6 x6_1 (⟨2, x9_1, rd l1 (ji49)⟩ : S126) [.int .i64 2, .int .i64 x9_1, .int .i64 (rd l1 (ji49))] (fun _ => True) (fun _ => False) rfl rfl ?aP (fun _ hk => hk.elim) ?aF ?aO ?aB ?aS ?aL ?_; (case aP => exact k126_mkM _ _ _ (⟨2, x9_1, rd l1 (ji49)⟩ : S126)); (case aB => exact (by repeat (first | (with_reducible first | exact HB.out | apply below_alloc | apply pw_below_drewN | apply below_drew1) | exact HB.out))); (case aF => exact (fun _ _ => trivial)); (case aO => exact (by (with_reducible repeat (first | apply Kd.R_alloc | apply Kd.R_drewN | apply Kd.R_drew)); exact HO_6.out)); (case aS => exact (below_size (by repeat (first | (with_reducible first | exact HB.out | apply below_alloc | apply pw_below_drewN | apply below_drew1) | exact HB.out)))); (case aL => have := LMc52.out; omega); intro v152 w53 ho hb hg hat; rw [← Ny151.out] at ho; have n0_ := Aside0.mk (Kd.R_over' (by (with_reducible repeat (first | apply Kd.R_alloc | apply Kd.R_drewN | apply Kd.R_drew)); exact HO_7.out) (Kd.R_typed (by (with_reducible repeat (first | apply Kd.R_alloc | apply Kd.R_drewN | apply Kd.R_drew)); exact HO_6.out)) (by decide) hg); have n1_ := Aside0.mk (hb); have n2_ := Aside0.mk (ho); clear HO_7; clear HB; clear HO_6; have HO_7 := n0_; have HB := n1_; have HO153 := n2_; clear n0_ n1_ n2_; clear ho hb hg hat))
                                                      repeat (go_quiet (first | ((with_reducible refine gate_builtin (b := .append) (xs := #[.tmp 66, .tmp 73]) rfl ?_); at_builtin; refine Kd.R_append k126 (w0 := w) w.heap.size rfl (.tmp 66) (.tmp 73) 81 126 (.agg #[(.int .i64 0), (.int .i64 0), (.int .i64 0)]) 24 rfl Try.underlying81 info126 rfl (by decide) (by omega) u6 x6_1 (⟨2, x9_1, rd l1 (ji49)⟩ : S126) [.int .i64 2, .int .i64 x9_1, .int .i64 (rd l1 (ji49))] (fun _ => True) (fun _ => False) rfl rfl ?aP (fun _ hk => hk.elim) ?aF ?aO ?aB ?aS ?aL ?_; (case aP => exact k126_mkM _ _ _ (⟨2, x9_1, rd l1 (ji49)⟩ : S126)); (case aB => exact (by repeat (first | (with_reducible first | exact HB.out | apply below_alloc | apply pw_below_drewN | apply below_drew1) | exact HB.out))); (case aF => exact (fun _ _ => trivial)); (case aO => exact (by (with_reducible repeat (first | apply Kd.R_alloc | apply Kd.R_drewN | apply Kd.R_drew)); exact HO_6.out)); (case aS => exact (below_size (by repeat (first | (with_reducible first | exact HB.out | apply below_alloc | apply pw_below_drewN | apply below_drew1) | exact HB.out)))); (case aL => have := LMc52.out; omega); intro v152 w53 ho hb hg hat; rw [← Ny151.out] at ho; have n0_ := Aside0.mk (Kd.R_over' (by (with_reducible repeat (first | apply Kd.R_alloc | apply Kd.R_drewN | apply Kd.R_drew)); exact HO_7.out) (Kd.R_typed (by (with_reducible repeat (first | apply Kd.R_alloc | apply Kd.R_drewN | apply Kd.R_drew)); exact HO_6.out)) (by decide) hg); have n1_ := Aside0.mk (hb); have n2_ := Aside0.mk (ho); clear HO_7; clear HB; clear HO_6; have HO_7 := n0_; have HB := n1_; have HO153 := n2_; clear n0_ n1_ n2_; clear ho hb hg hat)); try go_wp2_with (first | ((with_reducible refine gate_builtin (b := .append) (xs := #[.tmp 66, .tmp 73]) rfl ?_); at_builtin; refine Kd.R_append k126 (w0 := w) w.heap.size rfl (.tmp 66) (.tmp 73) 81 126 (.agg #[(.int .i64 0), (.int .i64 0), (.int .i64 0)]) 24 rfl Try.underlying81 info126 rfl (by decide) (by omega) u6 x6_1 (⟨2, x9_1, rd l1 (ji49)⟩ : S126) [.int .i64 2, .int .i64 x9_1, .int .i64 (rd l1 (ji49))] (fun _ => True) (fun _ => False) rfl rfl ?aP (fun _ hk => hk.elim) ?aF ?aO ?aB ?aS ?aL ?_; (case aP => exact k126_mkM _ _ _ (⟨2, x9_1, rd l1 (ji49)⟩ : S126)); (case aB => exact (by repeat (first | (with_reducible first | exact HB.out | apply below_alloc | apply pw_below_drewN | apply below_drew1) | exact HB.out))); (case aF => exact (fun _ _ => trivial)); (case aO => exact (by (with_reducible repeat (first | apply Kd.R_alloc | apply Kd.R_drewN | apply Kd.R_drew)); exact HO_6.out)); (case aS => exact (below_size (by repeat (first | (with_reducible first | exact HB.out | apply below_alloc | apply pw_below_drewN | apply below_drew1) | exact HB.out)))); (case aL => have := LMc52.out; omega); intro v152 w53 ho hb hg hat; rw [← Ny151.out] at ho; have n0_ := Aside0.mk (Kd.R_over' (by (with_reducible repeat (first | apply Kd.R_alloc | apply Kd.R_drewN | apply Kd.R_drew)); exact HO_7.out) (Kd.R_typed (by (with_reducible repeat (first | apply Kd.R_alloc | apply Kd.R_drewN | apply Kd.R_drew)); exact HO_6.out)) (by decide) hg); have n1_ := Aside0.mk (hb); have n2_ := Aside0.mk (ho); clear HO_7; clear HB; clear HO_6; have HO_7 := n0_; have HB := n1_; have HO153 := n2_; clear n0_ n1_ n2_; clear ho hb hg hat)))
                                                      go_roundg kj36
                                                      case measure => have := HK1.out; have := HJ8.out; have := HJ36.out; omega
                                                      case rel => exact ⟨(y151), (x9_1), (ji49), (by first | rfl | (simp; done) | (simp [*]; done)), (by first | rfl | (simp; done) | (simp only [← hji49] <;> (first | rfl | simp)) | (simp [*]; done)), H', ⟨by have := HK1.out; have := HJ8.out; have := HJ36.out; omega⟩, ⟨by (with_reducible repeat (first | apply Kd.R_alloc | apply Kd.R_drewN | apply Kd.R_drew)); exact HO153.out⟩, ⟨by (with_reducible repeat (first | apply Kd.R_alloc | apply Kd.R_drewN | apply Kd.R_drew)); exact HO_7.out⟩, ⟨by repeat (first | (with_reducible first | exact HB.out | apply below_alloc | apply pw_below_drewN | apply below_drew1) | exact HB.out)⟩⟩
                                                    · rw [if_neg c52] at H
                                                      exact absurd H (by simp)
                                                  · rw [if_neg c51] at H
                                                    exact absurd H (by simp)
                                                · rw [if_neg c50] at H
                                                  exact absurd H (by simp)
                                      · rw [if_neg c36] at H
                                        exact absurd H (by simp)
                                    · rw [if_neg c35] at H
                                      exact absurd H (by simp)
                                  · rw [if_neg c33] at H
                                    exact absurd H (by simp)
                                · rw [if_neg c32] at H
                                  exact absurd H (by simp)
                              · rw [if_neg c30] at H
                                exact absurd H (by simp)
                            · rw [if_neg c29] at H
                              exact absurd H (by simp)
                        · rw [if_neg c26] at H
                          exact absurd H (by simp)
                      · rw [if_neg c25] at H
                        exact absurd H (by simp)
                    · rw [if_neg c23] at H
                      exact absurd H (by simp)
                  · rw [if_neg c22] at H
                    exact absurd H (by simp)
            · replace c11 := Bool.eq_false_iff.mpr c11
              subst c11
              have H1 : (some (x6_1, true)) = some (r1, r2) := by rw [if_neg (show ¬ (false = true) by decide)] at H; exact H
              clear H
              have H := H1
              clear H1
              simp only [Option.some.injEq, Prod.mk.injEq] at H
              obtain ⟨rfl, rfl⟩ := H
              go_wp2
              repeat (go_quiet (fail); try go_wp2)
              go_ret2
              exact ⟨_, by first | rfl | (simp [errW_none, errW_some] <;> rfl) | (simp [*, errW_none, errW_some] <;> rfl), by (with_reducible repeat (first | apply Kd.R_alloc | apply Kd.R_drewN | apply Kd.R_drew)); exact HO_6.out, by repeat (first | (with_reducible first | exact HB.out | apply below_alloc | apply pw_below_drewN | apply below_drew1) | exact HB.out)⟩
  · replace c4 := Bool.eq_false_iff.mpr c4
    subst c4
    have H1 : (some (y124, false)) = some (r1, r2) := by rw [if_neg (show ¬ (false = true) by decide)] at H; exact H
    clear H
    have H := H1
    clear H1
    simp only [Option.some.injEq, Prod.mk.injEq] at H
    obtain ⟨rfl, rfl⟩ := H
    go_enter Try.func61, Try.ntmps61
    go_wp2_with (first | ((with_reducible refine gate_dst (N := 14) rfl ?_); refine Kd.R_lit k126 _ 126 ?hg (N := 14) ?hd (xs := ([] : List (S126))) (inner := []) (ok := fun _ => True) (okp := fun _ => True) ?hr ?hp (fun _ hk => hk) trivial (Below.refl _ _) (Nat.le_refl _) (by simp) ?_; (case hd => rfl); (case hg => rfl); (case hr => first | (go_simp; done) | (go_simp; rfl)); (case hp => exact (Reps.none _ _)); intro v125 w54 ho55 hb hg_ hnew_; clear hg_ hnew_; (first | rw [← Ny124.out] at ho55 | (simp only [Int.reduceToNat] at ho55; rw [← Ny124.out] at ho55)); have n0_ := Aside0.mk (Kd.R_lower ho55 (below_size (by repeat (first | (with_reducible first | exact HB.out | apply below_alloc | apply pw_below_drewN | apply below_drew1) | exact HB.out)))); have n1_ := Aside0.mk (below_step (by repeat (first | (with_reducible first | exact HB.out | apply below_alloc | apply pw_below_drewN | apply below_drew1) | exact HB.out)) hb); clear HB; have HO126 := n0_; have HB := n1_; clear n0_ n1_; clear hb ho55) | (go_at_call 75; (with_reducible refine (spec_l9Two.calls _ _ l0 _ _ l1 false _ ?side1 ?side2 ?side3 ?side4 A3.out).mono ?_); (case side1 => repeat (first | exact (Kd.C_below HR0.out HB.out) | (with_reducible refine Kd.C_alloc ?_ _) | (with_reducible refine Kd.C_drewN ?_ _) | (with_reducible refine Kd.C_drew ?_))); (case side2 => exact HC0.out); (case side3 => repeat (first | exact (Kd.C_below HR1.out HB.out) | (with_reducible refine Kd.C_alloc ?_ _) | (with_reducible refine Kd.C_drewN ?_ _) | (with_reducible refine Kd.C_drew ?_))); (case side4 => exact HC1.out); rintro e w' ⟨rfl, ⟨nd, rfl⟩⟩; (try first | exact ⟨rfl, _, World.drewN_drewN _ _ _⟩ | exact ⟨rfl, _, Eq.trans (World.drewN_drewN _ _ _) (congrArg (World.drewN _) (Nat.add_assoc _ _ _))⟩)))
    repeat (go_quiet (first | ((with_reducible refine gate_dst (N := 14) rfl ?_); refine Kd.R_lit k126 _ 126 ?hg (N := 14) ?hd (xs := ([] : List (S126))) (inner := []) (ok := fun _ => True) (okp := fun _ => True) ?hr ?hp (fun _ hk => hk) trivial (Below.refl _ _) (Nat.le_refl _) (by simp) ?_; (case hd => rfl); (case hg => rfl); (case hr => first | (go_simp; done) | (go_simp; rfl)); (case hp => exact (Reps.none _ _)); intro v125 w54 ho55 hb hg_ hnew_; clear hg_ hnew_; (first | rw [← Ny124.out] at ho55 | (simp only [Int.reduceToNat] at ho55; rw [← Ny124.out] at ho55)); have n0_ := Aside0.mk (Kd.R_lower ho55 (below_size (by repeat (first | (with_reducible first | exact HB.out | apply below_alloc | apply pw_below_drewN | apply below_drew1) | exact HB.out)))); have n1_ := Aside0.mk (below_step (by repeat (first | (with_reducible first | exact HB.out | apply below_alloc | apply pw_below_drewN | apply below_drew1) | exact HB.out)) hb); clear HB; have HO126 := n0_; have HB := n1_; clear n0_ n1_; clear hb ho55) | (go_at_call 75; (with_reducible refine (spec_l9Two.calls _ _ l0 _ _ l1 false _ ?side1 ?side2 ?side3 ?side4 A3.out).mono ?_); (case side1 => repeat (first | exact (Kd.C_below HR0.out HB.out) | (with_reducible refine Kd.C_alloc ?_ _) | (with_reducible refine Kd.C_drewN ?_ _) | (with_reducible refine Kd.C_drew ?_))); (case side2 => exact HC0.out); (case side3 => repeat (first | exact (Kd.C_below HR1.out HB.out) | (with_reducible refine Kd.C_alloc ?_ _) | (with_reducible refine Kd.C_drewN ?_ _) | (with_reducible refine Kd.C_drew ?_))); (case side4 => exact HC1.out); rintro e w' ⟨rfl, ⟨nd, rfl⟩⟩; (try first | exact ⟨rfl, _, World.drewN_drewN _ _ _⟩ | exact ⟨rfl, _, Eq.trans (World.drewN_drewN _ _ _) (congrArg (World.drewN _) (Nat.add_assoc _ _ _))⟩))); try go_wp2_with (first | ((with_reducible refine gate_dst (N := 14) rfl ?_); refine Kd.R_lit k126 _ 126 ?hg (N := 14) ?hd (xs := ([] : List (S126))) (inner := []) (ok := fun _ => True) (okp := fun _ => True) ?hr ?hp (fun _ hk => hk) trivial (Below.refl _ _) (Nat.le_refl _) (by simp) ?_; (case hd => rfl); (case hg => rfl); (case hr => first | (go_simp; done) | (go_simp; rfl)); (case hp => exact (Reps.none _ _)); intro v125 w54 ho55 hb hg_ hnew_; clear hg_ hnew_; (first | rw [← Ny124.out] at ho55 | (simp only [Int.reduceToNat] at ho55; rw [← Ny124.out] at ho55)); have n0_ := Aside0.mk (Kd.R_lower ho55 (below_size (by repeat (first | (with_reducible first | exact HB.out | apply below_alloc | apply pw_below_drewN | apply below_drew1) | exact HB.out)))); have n1_ := Aside0.mk (below_step (by repeat (first | (with_reducible first | exact HB.out | apply below_alloc | apply pw_below_drewN | apply below_drew1) | exact HB.out)) hb); clear HB; have HO126 := n0_; have HB := n1_; clear n0_ n1_; clear hb ho55) | (go_at_call 75; (with_reducible refine (spec_l9Two.calls _ _ l0 _ _ l1 false _ ?side1 ?side2 ?side3 ?side4 A3.out).mono ?_); (case side1 => repeat (first | exact (Kd.C_below HR0.out HB.out) | (with_reducible refine Kd.C_alloc ?_ _) | (with_reducible refine Kd.C_drewN ?_ _) | (with_reducible refine Kd.C_drew ?_))); (case side2 => exact HC0.out); (case side3 => repeat (first | exact (Kd.C_below HR1.out HB.out) | (with_reducible refine Kd.C_alloc ?_ _) | (with_reducible refine Kd.C_drewN ?_ _) | (with_reducible refine Kd.C_drew ?_))); (case side4 => exact HC1.out); rintro e w' ⟨rfl, ⟨nd, rfl⟩⟩; (try first | exact ⟨rfl, _, World.drewN_drewN _ _ _⟩ | exact ⟨rfl, _, Eq.trans (World.drewN_drewN _ _ _) (congrArg (World.drewN _) (Nat.add_assoc _ _ _))⟩))))
    go_ret2
    exact ⟨_, by first | rfl | (simp [errW_none, errW_some] <;> rfl) | (simp [*, errW_none, errW_some] <;> rfl), by (with_reducible repeat (first | apply Kd.R_alloc | apply Kd.R_drewN | apply Kd.R_drew)); exact HO126.out, by repeat (first | (with_reducible first | exact HB.out | apply below_alloc | apply pw_below_drewN | apply below_drew1) | exact HB.out)⟩

/-! ### impl_areLists: function 73 -/
def impl_areLists.f (l0 : List Int) (l1 : List Int) : Option (Bool) := if (l0.length : Int) ≤ 40 then (some (decide ((l1.length : Int) ≤ 40))) else (some false)
set_option maxHeartbeats 8000000 in
set_option maxRecDepth 100000 in
theorem impl_areLists.calls (A0 : Option Addr) (c0 : Nat) (l0 : List Int) (A1 : Option Addr) (c1 : Nat) (l1 : List Int) (r : Bool) (w : World) (hr0 : Kd.C (Kd.int .i64) w A0 l0.length l0) (hc0 : l0.length ≤ c0) (hr1 : Kd.C (Kd.int .i64) w A1 l1.length l1) (hc1 : l1.length ≤ c1) (h : impl_areLists.f l0 l1 = some r) :
    Calls Try.prog 73 #[.slice A0 l0.length c0, .slice A1 l1.length c1] w fun e w' => e = .returned (.bool r) ∧ Drawn0 w w' := by
  have HR0 := Aside0.mk hr0
  have HC0 := Aside0.mk hc0
  clear hr0 hc0
  have HR1 := Aside0.mk hr1
  have HC1 := Aside0.mk hc1
  clear hr1 hc1
  have H : (if (l0.length : Int) ≤ 40 then (some (decide ((l1.length : Int) ≤ 40))) else (some false)) = some r := h
  clear h
  by_cases c3 : (l0.length : Int) ≤ 40
  · rw [if_pos c3] at H
    have c3b0 : decide ((l0.length : Int) ≤ 40) = true := decide_eq_true c3
    have c3b1 : decide (l0.length ≤ 40) = true := decide_eq_true (by omega)
    clear c3
    obtain rfl := Option.some.inj H
    go_enter Try.func73, Try.ntmps73
    go_wp2
    go_ret
    exact ⟨by first | rfl | (simp; done) | (simp [*]; done), by repeat (first | exact Drawn0.refl _ | apply Drawn0.step)⟩
  · rw [if_neg c3] at H
    have c3b0 : decide ((l0.length : Int) ≤ 40) = false := decide_eq_false c3
    have c3b1 : decide (l0.length ≤ 40) = false := decide_eq_false (by omega)
    clear c3
    obtain rfl := Option.some.inj H
    go_enter Try.func73, Try.ntmps73
    go_wp2
    go_ret
    exact ⟨by first | rfl | (simp; done) | (simp [*]; done), by repeat (first | exact Drawn0.refl _ | apply Drawn0.step)⟩

end Go.Proofs.Ytnkoppgbbmeknaa.PFnExactEdits
