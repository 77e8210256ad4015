/- Contracts of Go functions that laws of this seat reach: each Lean function answers as its Go function does. No condition. Written by wip/tools/inj.py, over the kit's print. -/
import Derived.Test.YtalopdcephohgaaRCx0
import Derived.Test.YtalopdcephohgaaRCx8
namespace Go.Proofs.Ytalopdcephohgaa.RC
open Go.RowKit Go.Proofs.YtalopdcephohgaaW.PrintWords Go.Proofs.YtalopdcephohgaaW.PrintLast Go.Proofs.YtalopdcephohgaaW.PrintMore
attribute [local go_sem] max2_int min2_int max_two min_two max_three min_three max_four min_four   -- for this text's walks alone
set_option linter.unusedVariables false
set_option linter.unusedSimpArgs false

/-! ### laws_eqGrid: function 35 -/
def laws_eqGrid.f (k : Nat) (a0_0 : Int) (l0_1 : List (List (S98))) (a1_0 : Int) (l1_1 : List (List (S98))) : Option (Bool) := if a0_0 = a1_0 then ((laws_eqCellSS.f k l0_1 l1_1).bind fun t164 => (if t164 = true then (some true) else (some false))) else (some false)
theorem laws_eqGrid.mono : ∀ a0 a1 a2 a3 k, LeO (laws_eqGrid.f k a0 a1 a2 a3) (laws_eqGrid.f (k + 1) a0 a1 a2 a3) := by
 intro a0 a1 a2 a3 k
 unfold laws_eqGrid.f
 repeat' first
   | (with_reducible exact laws_eqCellSS.mono _ _ _)
   | (with_reducible exact LeO.refl _)
   | (with_reducible exact LeO.none _)
   | (with_reducible refine LeO.ite ?_ ?_)
   | (with_reducible refine LeO.bind ?_ (fun _ => ?_))
set_option maxHeartbeats 8000000 in
set_option maxRecDepth 100000 in
theorem laws_eqGrid.calls (k : Nat) (a0_0 : Int) (A0_1 : Option Addr) (c0_1 : Nat) (l0_1 : List (List (S98))) (a1_0 : Int) (A1_1 : Option Addr) (c1_1 : Nat) (l1_1 : List (List (S98))) (r : Bool) (w : World) (hr0_1 : Kd.C (Kd.slice 98 k98) w A0_1 l0_1.length l0_1) (hc0_1 : l0_1.length ≤ c0_1) (hr1_1 : Kd.C (Kd.slice 98 k98) w A1_1 l1_1.length l1_1) (hc1_1 : l1_1.length ≤ c1_1) (h : laws_eqGrid.f k a0_0 l0_1 a1_0 l1_1 = some r) :
  Calls Try.prog 35 #[.agg #[.int .i64 a0_0, .slice A0_1 l0_1.length c0_1], .agg #[.int .i64 a1_0, .slice A1_1 l1_1.length c1_1]] w fun e w' => e = .returned (.bool r) ∧ Below w.heap.size w w' := by
 (
have hu58 := Try.underlying58
have HR0_1 := am hr0_1
have HC0_1 := am hc0_1
clear hr0_1 hc0_1
have HR1_1 := am hr1_1
have HC1_1 := am hc1_1
clear hr1_1 hc1_1
have HB := am (Below.refl w.heap.size w)
have H := h
unfold laws_eqGrid.f at H
clear h
refine em_ (p := a0_0 = a1_0) (fun c3 => ?g1p) (fun c3 => ?g1n)
case' g1p => (
rw [if_pos c3] at H
have c3b0 : (a0_0 == a1_0) = true := beq_iff_eq.mpr c3
have c3b1 : (a0_0 != a1_0) = false := bne_eq_false_iff_eq.mpr c3
clear c3
replace H := Option.bind_eq_some_iff.mp H
obtain ⟨t164, A40, H⟩ := H
(try dsimp only at H)
have A4 := am A40
clear A40
refine em_ (p := t164 = true) (fun c5 => ?g0p) (fun c5 => ?g0n)
case' g0p => (
subst c5
have H1 : (some true) = some r := by rw [if_pos rfl] at H; exact H
clear H
have H := H1
clear H1
obtain rfl := Option.some.inj H
have lf1_ := trivial
)
case' g0n => (
replace c5 := Bool.eq_false_iff.mpr c5
subst c5
have H1 : (some false) = some r := by rw [if_neg (show ¬ (false = true) by decide)] at H; exact H
clear H
have H := H1
clear H1
obtain rfl := Option.some.inj H
have lf2_ := trivial
)
)
case' g1n => (
rw [if_neg c3] at H
have c3b0 : (a0_0 == a1_0) = false := beq_eq_false_iff_ne.mpr c3
have c3b1 : (a0_0 != a1_0) = true := bne_iff_ne.mpr c3
obtain rfl := Option.some.inj H
have lf3_ := trivial
)
all_goals (
go_enter Try.func35, Try.ntmps35
go_wp2_with (first | ((with_reducible refine gate_dst (N := 3) rfl ?_); refine box_event ?hg (N := 3) ?hd (cs := #[.int .i64 a1_0, .slice A1_1 l1_1.length c1_1]) (t := 58) ?hr ?_; (case hd => rfl); (case hg => rfl); (case hr => first | (go_simp; done) | (go_simp; rfl)); intro gb163 hg w7 hbox hb; have BK163 := am (hbox); have GW163 := am (gw hg (rb1 HB GE162)); have GE163 := GW163; replace HB := am (below_step (rb1 HB GE162) hb); have NB162_163 := am (nl hg (rk BK162)); have NB163_162 := am (ng hg (rk BK162)); replace BK162 := am (blk_below (rk BK162) hb); clear hb hbox hg; have hnb8 := NB162_163.out; have hnc8 := NB163_162.out; have hcz9_0 : w7.cell? ⟨gb162, 0, none⟩ = some (.int .i64 a0_0) := (blk_cell BK162.out 0).trans rfl; have hcz9_1 : w7.cell? ⟨gb162, 1, none⟩ = some (.slice A0_1 l0_1.length c0_1) := (blk_cell BK162.out 1).trans rfl; have hfz9_0 := blk_frozen BK162.out 0; have hfz9_1 := blk_frozen BK162.out 1; have hcz10_0 : w7.cell? ⟨gb163, 0, none⟩ = some (.int .i64 a1_0) := (blk_cell BK163.out 0).trans rfl; have hcz10_1 : w7.cell? ⟨gb163, 1, none⟩ = some (.slice A1_1 l1_1.length c1_1) := (blk_cell BK163.out 1).trans rfl; have hfz10_0 := blk_frozen BK163.out 0; have hfz10_1 := blk_frozen BK163.out 1) | ((with_reducible refine gate_callee (f := 75) rfl ?_); refine gl_ (some 14) Try.func75 #[.slice A0_1 l0_1.length c0_1, .slice A1_1 l1_1.length c1_1] ?_; (with_reducible refine (laws_eqCellSS.calls k _ _ l0_1 _ _ l1_1 false _ ?side1 ?side2 ?side3 ?side4 A4.out).mono ?_); (case side1 => exact rc ((Kd.C_below HR0_1.out HB.out))); (case side2 => exact HC0_1.out); (case side3 => exact rc ((Kd.C_below HR1_1.out HB.out))); (case side4 => exact HC1_1.out); rintro e w17 ⟨rfl, hb⟩; refine ⟨_, rfl, ?_⟩; replace BK162 := am (blk_below (rk BK162) hb); replace BK163 := am (blk_below (rk BK163) hb); replace HB := am (below_step (rb2 HB GE162 GE163) hb); (try clear hb); (try clear hb2); (try clear hk); (try clear hi)) | ((with_reducible refine gate_callee (f := 75) rfl ?_); refine gl_ (some 14) Try.func75 #[.slice A0_1 l0_1.length c0_1, .slice A1_1 l1_1.length c1_1] ?_; (with_reducible refine (laws_eqCellSS.calls k _ _ l0_1 _ _ l1_1 true _ ?side1 ?side2 ?side3 ?side4 A4.out).mono ?_); (case side1 => exact rc ((Kd.C_below HR0_1.out HB.out))); (case side2 => exact HC0_1.out); (case side3 => exact rc ((Kd.C_below HR1_1.out HB.out))); (case side4 => exact HC1_1.out); rintro e w11 ⟨rfl, hb⟩; refine ⟨_, rfl, ?_⟩; replace BK162 := am (blk_below (rk BK162) hb); replace BK163 := am (blk_below (rk BK163) hb); replace HB := am (below_step (rb2 HB GE162 GE163) hb); (try clear hb); (try clear hb2); (try clear hk); (try clear hi)) | ((with_reducible refine gate_dst (N := 2) rfl ?_); refine box_event ?hg (N := 2) ?hd (cs := #[.int .i64 a0_0, .slice A0_1 l0_1.length c0_1]) (t := 58) ?hr ?_; (case hd => rfl); (case hg => rfl); (case hr => first | (go_simp; done) | (go_simp; rfl)); intro gb162 hg w6 hbox hb; have BK162 := am (hbox); have GW162 := am (gw hg (rb HB)); have GE162 := GW162; replace HB := am (below_step (rb HB) hb); clear hb hbox hg))
go_ret
exact ⟨by first | rfl | (simp [errW_none, errW_some] <;> rfl) | (simp [*, errW_none, errW_some] <;> rfl), rb2 HB GE162 GE163⟩
)
)

/-! ### laws_markCellS: function 108 -/
def laws_markCellS.l0 : Nat → List (S98) → Int → Int → Option (Int × (List (S98)))
 | 0, _, _, _ => none
 | k + 1, x0, x1, x5 => if x5 < (x0.length : Int) then (if 0 ≤ x5 then ((some (x0.set (x5 : Int).toNat (⟨x1, (⟨(rd_T98 x0 x5).f1.f0, (rd_T98 x0 x5).f1.f1, (rd_T98 x0 x5).f1.f2, (rd_T98 x0 x5).f1.f3, (rd_T98 x0 x5).f1.f4⟩ : S96), (rd_T98 x0 x5).f2⟩ : S98) : List (S98))).bind fun y165 => ((some (y165.set (x5 : Int).toNat (⟨(rd_T98 y165 x5).f0, (⟨wrap64 (x1 + 1), (rd_T98 y165 x5).f1.f1, (rd_T98 y165 x5).f1.f2, (rd_T98 y165 x5).f1.f3, (rd_T98 y165 x5).f1.f4⟩ : S96), (rd_T98 y165 x5).f2⟩ : S98) : List (S98))).bind fun y166 => ((some (y166.set (x5 : Int).toNat (⟨(rd_T98 y166 x5).f0, (⟨(rd_T98 y166 x5).f1.f0, wrap64 ((wrap64 (x1 + 1)) + 1), (rd_T98 y166 x5).f1.f2, (rd_T98 y166 x5).f1.f3, (rd_T98 y166 x5).f1.f4⟩ : S96), (rd_T98 y166 x5).f2⟩ : S98) : List (S98))).bind fun y167 => ((some (y167.set (x5 : Int).toNat (⟨(rd_T98 y167 x5).f0, (⟨(rd_T98 y167 x5).f1.f0, (rd_T98 y167 x5).f1.f1, ((Int.tmod (wrap64 ((wrap64 ((wrap64 (x1 + 1)) + 1)) + 1)) 3) == 0), (rd_T98 y167 x5).f1.f3, (rd_T98 y167 x5).f1.f4⟩ : S96), (rd_T98 y167 x5).f2⟩ : S98) : List (S98))).bind fun y168 => ((some (y168.set (x5 : Int).toNat (⟨(rd_T98 y168 x5).f0, (⟨(rd_T98 y168 x5).f1.f0, (rd_T98 y168 x5).f1.f1, (rd_T98 y168 x5).f1.f2, ((Int.tmod (wrap64 ((wrap64 ((wrap64 ((wrap64 (x1 + 1)) + 1)) + 1)) + 1)) 3) == 0), (rd_T98 y168 x5).f1.f4⟩ : S96), (rd_T98 y168 x5).f2⟩ : S98) : List (S98))).bind fun y169 => ((some (y169.set (x5 : Int).toNat (⟨(rd_T98 y169 x5).f0, (⟨(rd_T98 y169 x5).f1.f0, (rd_T98 y169 x5).f1.f1, (rd_T98 y169 x5).f1.f2, (rd_T98 y169 x5).f1.f3, ((Int.tmod (wrap64 ((wrap64 ((wrap64 ((wrap64 ((wrap64 (x1 + 1)) + 1)) + 1)) + 1)) + 1)) 3) == 0)⟩ : S96), (rd_T98 y169 x5).f2⟩ : S98) : List (S98))).bind fun y170 => (laws_markCellS.l0 k (y170.set (x5 : Int).toNat (⟨(rd_T98 y170 x5).f0, (⟨(rd_T98 y170 x5).f1.f0, (rd_T98 y170 x5).f1.f1, (rd_T98 y170 x5).f1.f2, (rd_T98 y170 x5).f1.f3, (rd_T98 y170 x5).f1.f4⟩ : S96), wrap64 ((wrap64 ((wrap64 ((wrap64 ((wrap64 ((wrap64 (x1 + 1)) + 1)) + 1)) + 1)) + 1)) + 1)⟩ : S98)) (wrap64 ((wrap64 ((wrap64 ((wrap64 ((wrap64 ((wrap64 ((wrap64 (x1 + 1)) + 1)) + 1)) + 1)) + 1)) + 1)) + 1)) (wrap64 (x5 + 1))))))))) else (none)) else (some (x1, x0))
def laws_markCellS.f (k : Nat) (l0 : List (S98)) (a1 : Int) : Option (Int × (List (S98))) := laws_markCellS.l0 k l0 a1 0
theorem laws_markCellS.mono_l : ∀ k, (∀ y0 y1 y2, LeO (laws_markCellS.l0 k y0 y1 y2) (laws_markCellS.l0 (k + 1) y0 y1 y2))
 | 0 => fun _ _ _ r h => by simp [laws_markCellS.l0] at h
 | k + 1 => by
  have ih0 := laws_markCellS.mono_l k
  ·intro y0 y1 y2
   unfold laws_markCellS.l0
   repeat' first
   | (with_reducible exact ih0 _ _ _)
   | (with_reducible exact LeO.refl _)
   | (with_reducible exact LeO.none _)
   | (with_reducible refine LeO.ite ?_ ?_)
   | (with_reducible refine LeO.bind ?_ (fun _ => ?_))
theorem laws_markCellS.mono : ∀ a0 a1 k, LeO (laws_markCellS.f k a0 a1) (laws_markCellS.f (k + 1) a0 a1) := by
 intro a0 a1 k
 have ih0 := laws_markCellS.mono_l k
 unfold laws_markCellS.f
 repeat' first
   | (with_reducible exact ih0 _ _ _)
   | (with_reducible exact LeO.refl _)
   | (with_reducible exact LeO.none _)
   | (with_reducible refine LeO.ite ?_ ?_)
   | (with_reducible refine LeO.bind ?_ (fun _ => ?_))
set_option maxHeartbeats 8000000 in
set_option maxRecDepth 100000 in
theorem laws_markCellS.calls (k : Nat) (P0_ : Nat → Prop) (u9000_ : Value) (l0 : List (S98)) (a1 : Int) (r1 : Int) (r2 : List (S98)) (w0 w : World) (hB : Below w0.heap.size w0 w) (ho0 : Kd.R k98 98 w w0.heap.size P0_ u9000_ l0) (h : laws_markCellS.f k l0 a1 = some (r1, r2)) :
  Calls Try.prog 108 #[u9000_, .int .i64 a1] w fun e w' => e = .returned (.int .i64 r1) ∧ Kd.R k98 98 w' w0.heap.size (fun k_ => (P0_ k_ ∨ w.heap.size ≤ k_)) u9000_ r2 ∧ Below w0.heap.size w0 w' ∧ Kept w w' (fun k_ => P0_ k_) := by
 (
have HO0 := am (show Kd.R k98 98 w w0.heap.size (fun k_ => (P0_ k_ ∨ w.heap.size ≤ k_)) u9000_ l0 from Kd.R_mono ho0 (fun k_ hk => (.inl hk)))
have HK := am (Kept.refl w (fun k_ => P0_ k_))
have HW0 := am hB.size
have HB := am hB
clear hB
have H : (laws_markCellS.l0 k l0 a1 0) = some (r1, r2) := h
clear h
have H' := am H
clear H
go_enter Try.func108, Try.ntmps108
go_wp2
go_loopg [1, 5] k (fun kq v1 v5 w' => ∃ (x0_1 : List (S98)) (x1_1 : Int) (x5_1 : Int), v1 = .int .i64 x1_1 ∧ v5 = .int .i64 x5_1 ∧ Aside0 (laws_markCellS.l0 kq x0_1 x1_1 x5_1 = some (r1, r2)) ∧ Aside0 (kq ≤ k) ∧ Aside0 (Kd.R k98 98 w' w0.heap.size (fun k_ => (P0_ k_ ∨ w.heap.size ≤ k_)) u9000_ x0_1) ∧ Aside0 (Kept w w' (fun k_ => P0_ k_)) ∧ Aside0 (Below w0.heap.size w0 w'))
case atStart => exact ⟨(l0), (a1), (0), (by first | rfl | (simp; done) | (simp [*]; done)), (by first | rfl | (simp; done) | (simp [*]; done)), H', ⟨Nat.le_refl _⟩, ⟨rr HO0⟩, ⟨by repeat (first | (with_reducible first | exact HK.out | apply Kept.alloc | apply Kept.drewN | apply Kept.drew) | exact HK.out)⟩, ⟨rb HB⟩⟩
case round => (
clear H'
try clear c1
try clear p2
obtain ⟨x0_1, x1_1, x5_1, rfl, rfl, HA, HK1, HO_0, HK, HB⟩ := hrel
cases gk with
| zero => exact absurd HA.out (by simp [laws_markCellS.l0])
| succ k1 => (
have H := HA.out
clear HA
simp only [laws_markCellS.l0] at H
by_cases c3 : x5_1 < (x0_1.length : Int)
·(
rw [if_pos c3] at H
have c3b0 : decide (x5_1 < (x0_1.length : Int)) = true := decide_eq_true c3
clear c3
refine em_ (p := 0 ≤ x5_1) (fun c4 => ?g2p) (fun c4 => ?g2n)
case' g2p => (
rw [if_pos c4] at H
have c4b0 : decide (0 ≤ x5_1) = true := decide_eq_true c4
clear c4
obtain ⟨y165, hy165⟩ : ∃ y_ : List (S98), y_ = (x0_1.set (x5_1 : Int).toNat (⟨x1_1, (⟨(rd_T98 x0_1 x5_1).f1.f0, (rd_T98 x0_1 x5_1).f1.f1, (rd_T98 x0_1 x5_1).f1.f2, (rd_T98 x0_1 x5_1).f1.f3, (rd_T98 x0_1 x5_1).f1.f4⟩ : S96), (rd_T98 x0_1 x5_1).f2⟩ : S98)) := ⟨_, rfl⟩
replace H : ((some (y165.set (x5_1 : Int).toNat (⟨(rd_T98 y165 x5_1).f0, (⟨wrap64 (x1_1 + 1), (rd_T98 y165 x5_1).f1.f1, (rd_T98 y165 x5_1).f1.f2, (rd_T98 y165 x5_1).f1.f3, (rd_T98 y165 x5_1).f1.f4⟩ : S96), (rd_T98 y165 x5_1).f2⟩ : S98) : List (S98))).bind fun y166 => ((some (y166.set (x5_1 : Int).toNat (⟨(rd_T98 y166 x5_1).f0, (⟨(rd_T98 y166 x5_1).f1.f0, wrap64 ((wrap64 (x1_1 + 1)) + 1), (rd_T98 y166 x5_1).f1.f2, (rd_T98 y166 x5_1).f1.f3, (rd_T98 y166 x5_1).f1.f4⟩ : S96), (rd_T98 y166 x5_1).f2⟩ : S98) : List (S98))).bind fun y167 => ((some (y167.set (x5_1 : Int).toNat (⟨(rd_T98 y167 x5_1).f0, (⟨(rd_T98 y167 x5_1).f1.f0, (rd_T98 y167 x5_1).f1.f1, ((Int.tmod (wrap64 ((wrap64 ((wrap64 (x1_1 + 1)) + 1)) + 1)) 3) == 0), (rd_T98 y167 x5_1).f1.f3, (rd_T98 y167 x5_1).f1.f4⟩ : S96), (rd_T98 y167 x5_1).f2⟩ : S98) : List (S98))).bind fun y168 => ((some (y168.set (x5_1 : Int).toNat (⟨(rd_T98 y168 x5_1).f0, (⟨(rd_T98 y168 x5_1).f1.f0, (rd_T98 y168 x5_1).f1.f1, (rd_T98 y168 x5_1).f1.f2, ((Int.tmod (wrap64 ((wrap64 ((wrap64 ((wrap64 (x1_1 + 1)) + 1)) + 1)) + 1)) 3) == 0), (rd_T98 y168 x5_1).f1.f4⟩ : S96), (rd_T98 y168 x5_1).f2⟩ : S98) : List (S98))).bind fun y169 => ((some (y169.set (x5_1 : Int).toNat (⟨(rd_T98 y169 x5_1).f0, (⟨(rd_T98 y169 x5_1).f1.f0, (rd_T98 y169 x5_1).f1.f1, (rd_T98 y169 x5_1).f1.f2, (rd_T98 y169 x5_1).f1.f3, ((Int.tmod (wrap64 ((wrap64 ((wrap64 ((wrap64 ((wrap64 (x1_1 + 1)) + 1)) + 1)) + 1)) + 1)) 3) == 0)⟩ : S96), (rd_T98 y169 x5_1).f2⟩ : S98) : List (S98))).bind fun y170 => (laws_markCellS.l0 k1 (y170.set (x5_1 : Int).toNat (⟨(rd_T98 y170 x5_1).f0, (⟨(rd_T98 y170 x5_1).f1.f0, (rd_T98 y170 x5_1).f1.f1, (rd_T98 y170 x5_1).f1.f2, (rd_T98 y170 x5_1).f1.f3, (rd_T98 y170 x5_1).f1.f4⟩ : S96), wrap64 ((wrap64 ((wrap64 ((wrap64 ((wrap64 ((wrap64 (x1_1 + 1)) + 1)) + 1)) + 1)) + 1)) + 1)⟩ : S98)) (wrap64 ((wrap64 ((wrap64 ((wrap64 ((wrap64 ((wrap64 ((wrap64 (x1_1 + 1)) + 1)) + 1)) + 1)) + 1)) + 1)) + 1)) (wrap64 (x5_1 + 1)))))))) = some (r1, r2) := by first | (rw [hy165]; with_reducible exact H) | (rw [hy165]; exact H) | exact H
have Ny165 := am hy165
clear hy165
obtain ⟨y166, hy166⟩ : ∃ y_ : List (S98), y_ = (y165.set (x5_1 : Int).toNat (⟨(rd_T98 y165 x5_1).f0, (⟨wrap64 (x1_1 + 1), (rd_T98 y165 x5_1).f1.f1, (rd_T98 y165 x5_1).f1.f2, (rd_T98 y165 x5_1).f1.f3, (rd_T98 y165 x5_1).f1.f4⟩ : S96), (rd_T98 y165 x5_1).f2⟩ : S98)) := ⟨_, rfl⟩
replace H : ((some (y166.set (x5_1 : Int).toNat (⟨(rd_T98 y166 x5_1).f0, (⟨(rd_T98 y166 x5_1).f1.f0, wrap64 ((wrap64 (x1_1 + 1)) + 1), (rd_T98 y166 x5_1).f1.f2, (rd_T98 y166 x5_1).f1.f3, (rd_T98 y166 x5_1).f1.f4⟩ : S96), (rd_T98 y166 x5_1).f2⟩ : S98) : List (S98))).bind fun y167 => ((some (y167.set (x5_1 : Int).toNat (⟨(rd_T98 y167 x5_1).f0, (⟨(rd_T98 y167 x5_1).f1.f0, (rd_T98 y167 x5_1).f1.f1, ((Int.tmod (wrap64 ((wrap64 ((wrap64 (x1_1 + 1)) + 1)) + 1)) 3) == 0), (rd_T98 y167 x5_1).f1.f3, (rd_T98 y167 x5_1).f1.f4⟩ : S96), (rd_T98 y167 x5_1).f2⟩ : S98) : List (S98))).bind fun y168 => ((some (y168.set (x5_1 : Int).toNat (⟨(rd_T98 y168 x5_1).f0, (⟨(rd_T98 y168 x5_1).f1.f0, (rd_T98 y168 x5_1).f1.f1, (rd_T98 y168 x5_1).f1.f2, ((Int.tmod (wrap64 ((wrap64 ((wrap64 ((wrap64 (x1_1 + 1)) + 1)) + 1)) + 1)) 3) == 0), (rd_T98 y168 x5_1).f1.f4⟩ : S96), (rd_T98 y168 x5_1).f2⟩ : S98) : List (S98))).bind fun y169 => ((some (y169.set (x5_1 : Int).toNat (⟨(rd_T98 y169 x5_1).f0, (⟨(rd_T98 y169 x5_1).f1.f0, (rd_T98 y169 x5_1).f1.f1, (rd_T98 y169 x5_1).f1.f2, (rd_T98 y169 x5_1).f1.f3, ((Int.tmod (wrap64 ((wrap64 ((wrap64 ((wrap64 ((wrap64 (x1_1 + 1)) + 1)) + 1)) + 1)) + 1)) 3) == 0)⟩ : S96), (rd_T98 y169 x5_1).f2⟩ : S98) : List (S98))).bind fun y170 => (laws_markCellS.l0 k1 (y170.set (x5_1 : Int).toNat (⟨(rd_T98 y170 x5_1).f0, (⟨(rd_T98 y170 x5_1).f1.f0, (rd_T98 y170 x5_1).f1.f1, (rd_T98 y170 x5_1).f1.f2, (rd_T98 y170 x5_1).f1.f3, (rd_T98 y170 x5_1).f1.f4⟩ : S96), wrap64 ((wrap64 ((wrap64 ((wrap64 ((wrap64 ((wrap64 (x1_1 + 1)) + 1)) + 1)) + 1)) + 1)) + 1)⟩ : S98)) (wrap64 ((wrap64 ((wrap64 ((wrap64 ((wrap64 ((wrap64 ((wrap64 (x1_1 + 1)) + 1)) + 1)) + 1)) + 1)) + 1)) + 1)) (wrap64 (x5_1 + 1))))))) = some (r1, r2) := by first | (rw [hy166]; with_reducible exact H) | (rw [hy166]; exact H) | exact H
have Ny166 := am hy166
clear hy166
obtain ⟨y167, hy167⟩ : ∃ y_ : List (S98), y_ = (y166.set (x5_1 : Int).toNat (⟨(rd_T98 y166 x5_1).f0, (⟨(rd_T98 y166 x5_1).f1.f0, wrap64 ((wrap64 (x1_1 + 1)) + 1), (rd_T98 y166 x5_1).f1.f2, (rd_T98 y166 x5_1).f1.f3, (rd_T98 y166 x5_1).f1.f4⟩ : S96), (rd_T98 y166 x5_1).f2⟩ : S98)) := ⟨_, rfl⟩
replace H : ((some (y167.set (x5_1 : Int).toNat (⟨(rd_T98 y167 x5_1).f0, (⟨(rd_T98 y167 x5_1).f1.f0, (rd_T98 y167 x5_1).f1.f1, ((Int.tmod (wrap64 ((wrap64 ((wrap64 (x1_1 + 1)) + 1)) + 1)) 3) == 0), (rd_T98 y167 x5_1).f1.f3, (rd_T98 y167 x5_1).f1.f4⟩ : S96), (rd_T98 y167 x5_1).f2⟩ : S98) : List (S98))).bind fun y168 => ((some (y168.set (x5_1 : Int).toNat (⟨(rd_T98 y168 x5_1).f0, (⟨(rd_T98 y168 x5_1).f1.f0, (rd_T98 y168 x5_1).f1.f1, (rd_T98 y168 x5_1).f1.f2, ((Int.tmod (wrap64 ((wrap64 ((wrap64 ((wrap64 (x1_1 + 1)) + 1)) + 1)) + 1)) 3) == 0), (rd_T98 y168 x5_1).f1.f4⟩ : S96), (rd_T98 y168 x5_1).f2⟩ : S98) : List (S98))).bind fun y169 => ((some (y169.set (x5_1 : Int).toNat (⟨(rd_T98 y169 x5_1).f0, (⟨(rd_T98 y169 x5_1).f1.f0, (rd_T98 y169 x5_1).f1.f1, (rd_T98 y169 x5_1).f1.f2, (rd_T98 y169 x5_1).f1.f3, ((Int.tmod (wrap64 ((wrap64 ((wrap64 ((wrap64 ((wrap64 (x1_1 + 1)) + 1)) + 1)) + 1)) + 1)) 3) == 0)⟩ : S96), (rd_T98 y169 x5_1).f2⟩ : S98) : List (S98))).bind fun y170 => (laws_markCellS.l0 k1 (y170.set (x5_1 : Int).toNat (⟨(rd_T98 y170 x5_1).f0, (⟨(rd_T98 y170 x5_1).f1.f0, (rd_T98 y170 x5_1).f1.f1, (rd_T98 y170 x5_1).f1.f2, (rd_T98 y170 x5_1).f1.f3, (rd_T98 y170 x5_1).f1.f4⟩ : S96), wrap64 ((wrap64 ((wrap64 ((wrap64 ((wrap64 ((wrap64 (x1_1 + 1)) + 1)) + 1)) + 1)) + 1)) + 1)⟩ : S98)) (wrap64 ((wrap64 ((wrap64 ((wrap64 ((wrap64 ((wrap64 ((wrap64 (x1_1 + 1)) + 1)) + 1)) + 1)) + 1)) + 1)) + 1)) (wrap64 (x5_1 + 1)))))) = some (r1, r2) := by first | (rw [hy167]; with_reducible exact H) | (rw [hy167]; exact H) | exact H
have Ny167 := am hy167
clear hy167
obtain ⟨y168, hy168⟩ : ∃ y_ : List (S98), y_ = (y167.set (x5_1 : Int).toNat (⟨(rd_T98 y167 x5_1).f0, (⟨(rd_T98 y167 x5_1).f1.f0, (rd_T98 y167 x5_1).f1.f1, ((Int.tmod (wrap64 ((wrap64 ((wrap64 (x1_1 + 1)) + 1)) + 1)) 3) == 0), (rd_T98 y167 x5_1).f1.f3, (rd_T98 y167 x5_1).f1.f4⟩ : S96), (rd_T98 y167 x5_1).f2⟩ : S98)) := ⟨_, rfl⟩
replace H : ((some (y168.set (x5_1 : Int).toNat (⟨(rd_T98 y168 x5_1).f0, (⟨(rd_T98 y168 x5_1).f1.f0, (rd_T98 y168 x5_1).f1.f1, (rd_T98 y168 x5_1).f1.f2, ((Int.tmod (wrap64 ((wrap64 ((wrap64 ((wrap64 (x1_1 + 1)) + 1)) + 1)) + 1)) 3) == 0), (rd_T98 y168 x5_1).f1.f4⟩ : S96), (rd_T98 y168 x5_1).f2⟩ : S98) : List (S98))).bind fun y169 => ((some (y169.set (x5_1 : Int).toNat (⟨(rd_T98 y169 x5_1).f0, (⟨(rd_T98 y169 x5_1).f1.f0, (rd_T98 y169 x5_1).f1.f1, (rd_T98 y169 x5_1).f1.f2, (rd_T98 y169 x5_1).f1.f3, ((Int.tmod (wrap64 ((wrap64 ((wrap64 ((wrap64 ((wrap64 (x1_1 + 1)) + 1)) + 1)) + 1)) + 1)) 3) == 0)⟩ : S96), (rd_T98 y169 x5_1).f2⟩ : S98) : List (S98))).bind fun y170 => (laws_markCellS.l0 k1 (y170.set (x5_1 : Int).toNat (⟨(rd_T98 y170 x5_1).f0, (⟨(rd_T98 y170 x5_1).f1.f0, (rd_T98 y170 x5_1).f1.f1, (rd_T98 y170 x5_1).f1.f2, (rd_T98 y170 x5_1).f1.f3, (rd_T98 y170 x5_1).f1.f4⟩ : S96), wrap64 ((wrap64 ((wrap64 ((wrap64 ((wrap64 ((wrap64 (x1_1 + 1)) + 1)) + 1)) + 1)) + 1)) + 1)⟩ : S98)) (wrap64 ((wrap64 ((wrap64 ((wrap64 ((wrap64 ((wrap64 ((wrap64 (x1_1 + 1)) + 1)) + 1)) + 1)) + 1)) + 1)) + 1)) (wrap64 (x5_1 + 1))))) = some (r1, r2) := by first | (rw [hy168]; with_reducible exact H) | (rw [hy168]; exact H) | exact H
have Ny168 := am hy168
clear hy168
obtain ⟨y169, hy169⟩ : ∃ y_ : List (S98), y_ = (y168.set (x5_1 : Int).toNat (⟨(rd_T98 y168 x5_1).f0, (⟨(rd_T98 y168 x5_1).f1.f0, (rd_T98 y168 x5_1).f1.f1, (rd_T98 y168 x5_1).f1.f2, ((Int.tmod (wrap64 ((wrap64 ((wrap64 ((wrap64 (x1_1 + 1)) + 1)) + 1)) + 1)) 3) == 0), (rd_T98 y168 x5_1).f1.f4⟩ : S96), (rd_T98 y168 x5_1).f2⟩ : S98)) := ⟨_, rfl⟩
replace H : ((some (y169.set (x5_1 : Int).toNat (⟨(rd_T98 y169 x5_1).f0, (⟨(rd_T98 y169 x5_1).f1.f0, (rd_T98 y169 x5_1).f1.f1, (rd_T98 y169 x5_1).f1.f2, (rd_T98 y169 x5_1).f1.f3, ((Int.tmod (wrap64 ((wrap64 ((wrap64 ((wrap64 ((wrap64 (x1_1 + 1)) + 1)) + 1)) + 1)) + 1)) 3) == 0)⟩ : S96), (rd_T98 y169 x5_1).f2⟩ : S98) : List (S98))).bind fun y170 => (laws_markCellS.l0 k1 (y170.set (x5_1 : Int).toNat (⟨(rd_T98 y170 x5_1).f0, (⟨(rd_T98 y170 x5_1).f1.f0, (rd_T98 y170 x5_1).f1.f1, (rd_T98 y170 x5_1).f1.f2, (rd_T98 y170 x5_1).f1.f3, (rd_T98 y170 x5_1).f1.f4⟩ : S96), wrap64 ((wrap64 ((wrap64 ((wrap64 ((wrap64 ((wrap64 (x1_1 + 1)) + 1)) + 1)) + 1)) + 1)) + 1)⟩ : S98)) (wrap64 ((wrap64 ((wrap64 ((wrap64 ((wrap64 ((wrap64 ((wrap64 (x1_1 + 1)) + 1)) + 1)) + 1)) + 1)) + 1)) + 1)) (wrap64 (x5_1 + 1)))) = some (r1, r2) := by first | (rw [hy169]; with_reducible exact H) | (rw [hy169]; exact H) | exact H
have Ny169 := am hy169
clear hy169
obtain ⟨y170, hy170⟩ : ∃ y_ : List (S98), y_ = (y169.set (x5_1 : Int).toNat (⟨(rd_T98 y169 x5_1).f0, (⟨(rd_T98 y169 x5_1).f1.f0, (rd_T98 y169 x5_1).f1.f1, (rd_T98 y169 x5_1).f1.f2, (rd_T98 y169 x5_1).f1.f3, ((Int.tmod (wrap64 ((wrap64 ((wrap64 ((wrap64 ((wrap64 (x1_1 + 1)) + 1)) + 1)) + 1)) + 1)) 3) == 0)⟩ : S96), (rd_T98 y169 x5_1).f2⟩ : S98)) := ⟨_, rfl⟩
replace H : (laws_markCellS.l0 k1 (y170.set (x5_1 : Int).toNat (⟨(rd_T98 y170 x5_1).f0, (⟨(rd_T98 y170 x5_1).f1.f0, (rd_T98 y170 x5_1).f1.f1, (rd_T98 y170 x5_1).f1.f2, (rd_T98 y170 x5_1).f1.f3, (rd_T98 y170 x5_1).f1.f4⟩ : S96), wrap64 ((wrap64 ((wrap64 ((wrap64 ((wrap64 ((wrap64 (x1_1 + 1)) + 1)) + 1)) + 1)) + 1)) + 1)⟩ : S98)) (wrap64 ((wrap64 ((wrap64 ((wrap64 ((wrap64 ((wrap64 ((wrap64 (x1_1 + 1)) + 1)) + 1)) + 1)) + 1)) + 1)) + 1)) (wrap64 (x5_1 + 1))) = some (r1, r2) := by first | (rw [hy170]; with_reducible exact H) | (rw [hy170]; exact H) | exact H
have Ny170 := am hy170
clear hy170
obtain ⟨y171, hy171⟩ : ∃ y_ : List (S98), y_ = (y170.set (x5_1 : Int).toNat (⟨(rd_T98 y170 x5_1).f0, (⟨(rd_T98 y170 x5_1).f1.f0, (rd_T98 y170 x5_1).f1.f1, (rd_T98 y170 x5_1).f1.f2, (rd_T98 y170 x5_1).f1.f3, (rd_T98 y170 x5_1).f1.f4⟩ : S96), wrap64 ((wrap64 ((wrap64 ((wrap64 ((wrap64 ((wrap64 (x1_1 + 1)) + 1)) + 1)) + 1)) + 1)) + 1)⟩ : S98)) := ⟨_, rfl⟩
replace H : (laws_markCellS.l0 k1 y171 (wrap64 ((wrap64 ((wrap64 ((wrap64 ((wrap64 ((wrap64 ((wrap64 (x1_1 + 1)) + 1)) + 1)) + 1)) + 1)) + 1)) + 1)) (wrap64 (x5_1 + 1))) = some (r1, r2) := by first | (rw [hy171]; with_reducible exact H) | (rw [hy171]; exact H) | exact H
have Ny171 := am hy171
clear hy171
have H' := am H
clear H
obtain ⟨Ao12, co12, eo12⟩ := Kd.R_slice HO_0.out
subst eo12
have lf4_ := trivial
)
case g2n => (
rw [if_neg c4] at H
exact absurd H (by simp)
)
all_goals (
have p5 : 0 ≤ (x5_1 : Int) := dt_
have q5 : (x5_1 : Int) < ((x0_1.length : Int) : Int) := dt_
obtain ⟨go5, co5, eo5, gb5, gl5, cl5, HG5⟩ := Kd.R_form HO_0.out (by omega)
(first | cases eo5 | (injection eo5 with ea_ en_ ec_; (first | subst ea_ | (injection ea_ with ea_; subst ea_)); subst ec_; clear en_))
have GB5 := am gb5
have GG5 := am HG5
clear gb5 gl5 HG5
have HMgo5 := am (show (P0_ go5 ∨ w.heap.size ≤ go5) from (HO_0.out.1 _ rfl))
obtain ⟨ce5, hcl5, hM5, hcc5, hfr5⟩ := Kd.R_elem HO_0.out z98 (x5_1 : Int) p5 q5
obtain rfl := k98_openM hM5
have hx5_0 : wr.cell? ⟨go5, (x5_1 : Int).toNat * 7, none⟩ = some (.int .i64 ((rd_T98 x0_1 x5_1).f0)) := hcc5 0 _ rfl
have hx5_1 : wr.cell? ⟨go5, (x5_1 : Int).toNat * 7 + 1, none⟩ = some (.int .i64 ((rd_T98 x0_1 x5_1).f1.f0)) := hcc5 1 _ rfl
have hx5_2 : wr.cell? ⟨go5, (x5_1 : Int).toNat * 7 + 2, none⟩ = some (.int .i64 ((rd_T98 x0_1 x5_1).f1.f1)) := hcc5 2 _ rfl
have hx5_3 : wr.cell? ⟨go5, (x5_1 : Int).toNat * 7 + 3, none⟩ = some (.bool ((rd_T98 x0_1 x5_1).f1.f2)) := hcc5 3 _ rfl
have hx5_4 : wr.cell? ⟨go5, (x5_1 : Int).toNat * 7 + 4, none⟩ = some (.bool ((rd_T98 x0_1 x5_1).f1.f3)) := hcc5 4 _ rfl
have hx5_5 : wr.cell? ⟨go5, (x5_1 : Int).toNat * 7 + 5, none⟩ = some (.bool ((rd_T98 x0_1 x5_1).f1.f4)) := hcc5 5 _ rfl
have hx5_6 : wr.cell? ⟨go5, (x5_1 : Int).toNat * 7 + 6, none⟩ = some (.int .i64 ((rd_T98 x0_1 x5_1).f2)) := hcc5 6 _ rfl
have hf5_0 : wr.frozen? ⟨go5, (x5_1 : Int).toNat * 7, none⟩ = false := hfr5 0
have hf5_1 : wr.frozen? ⟨go5, (x5_1 : Int).toNat * 7 + 1, none⟩ = false := hfr5 1
have hf5_2 : wr.frozen? ⟨go5, (x5_1 : Int).toNat * 7 + 2, none⟩ = false := hfr5 2
have hf5_3 : wr.frozen? ⟨go5, (x5_1 : Int).toNat * 7 + 3, none⟩ = false := hfr5 3
have hf5_4 : wr.frozen? ⟨go5, (x5_1 : Int).toNat * 7 + 4, none⟩ = false := hfr5 4
have hf5_5 : wr.frozen? ⟨go5, (x5_1 : Int).toNat * 7 + 5, none⟩ = false := hfr5 5
have hf5_6 : wr.frozen? ⟨go5, (x5_1 : Int).toNat * 7 + 6, none⟩ = false := hfr5 6
clear hcl5 hcc5 hfr5 hM5
replace p5 := eq_true p5
replace q5 := eq_true q5
have HX13 := am (show Kd.R k98 98 wr w0.heap.size (fun k_ => (P0_ k_ ∨ w.heap.size ≤ k_)) (.slice (some ⟨go5, 0, none⟩) x0_1.length co12) x0_1 from (rr HO_0))
obtain ⟨ce13, hcl13, hM13, hcc13, hfr13⟩ := Kd.R_elem HX13.out z98 (x5_1 : Int) dt_ (by have h_ : (x5_1 : Int) < ((x0_1.length : Int) : Int) := dt_; first | exact h_ | (have e_ := (Kd.R_reads' HO_0.out).1; omega) | simpa using h_)
obtain rfl := k98_openM hM13
have HP13 := Kd.R_seg HX13.out (x5_1 : Int) dt_ (by have h_ : (x5_1 : Int) < ((x0_1.length : Int) : Int) := dt_; first | exact h_ | (have e_ := (Kd.R_reads' HO_0.out).1; omega) | simpa using h_) (seg := [.int .i64 x1_1]) (j := 0) hcl13 hcc13 (show 1 ≤ 7 from by decide) (x' := (⟨x1_1, (⟨(rd_T98 x0_1 x5_1).f1.f0, (rd_T98 x0_1 x5_1).f1.f1, (rd_T98 x0_1 x5_1).f1.f2, (rd_T98 x0_1 x5_1).f1.f3, (rd_T98 x0_1 x5_1).f1.f4⟩ : S96), (rd_T98 x0_1 x5_1).f2⟩ : S98)) (k98_mkM _ _ _ (⟨x1_1, (⟨(rd_T98 x0_1 x5_1).f1.f0, (rd_T98 x0_1 x5_1).f1.f1, (rd_T98 x0_1 x5_1).f1.f2, (rd_T98 x0_1 x5_1).f1.f3, (rd_T98 x0_1 x5_1).f1.f4⟩ : S96), (rd_T98 x0_1 x5_1).f2⟩ : S98) ) (fun _ hk => hk)
have hx13_0 := hcc13 0 _ rfl
(try simp only [show (k98).sz = 7 from rfl, Nat.mul_one, Nat.add_zero] at hx13_0)
have hf13_0 := hfr13 0
(try simp only [show (k98).sz = 7 from rfl, Nat.mul_one, Nat.add_zero] at hf13_0)
clear hcl13 hcc13 hfr13 hM13
go_wp2_with (first | ((with_reducible refine gate_store (t := 2) (p := 16) rfl ?_); refine store_event (t := 2) (p := 16) (v := ?vo_w14) (w1 := (wr.setCell ⟨go5, (x5_1 : Int).toNat * 7, none⟩ (.int .i64 x1_1))) ?hg ?ho ?hn ?hr ?_; (case ho => rfl); (case hg => rfl); (case hn => rfl); (case hr => first | (go_simp; done) | (go_simp; rfl)); intro w14 hw; have hg : wr.grownBy w14 (some go5) := (by rw [hw]; exact HP13.2); have hp_ : Kd.R k98 98 w14 w0.heap.size (fun k_ => (P0_ k_ ∨ w.heap.size ≤ k_)) (.slice (some ⟨go5, 0, none⟩) x0_1.length co12) y165 := (by rw [hw, Ny165.out]; exact HP13.1); clear HP13; replace HB := am ((by rw [hw]; exact below_set (HB.out) GB5.out : Below w0.heap.size w0 w14)); replace HK := am (Kept.of_grown (S := (fun k_ => P0_ k_)) hg (by repeat (first | (with_reducible first | exact HK.out | apply Kept.alloc | apply Kept.drewN | apply Kept.drew) | exact HK.out)) (fun k_ e_ => (HO_0.out.1 k_ e_))); replace HO_0 := am (hp_); clear hg hw hp_; have p6 : 0 ≤ (x5_1 : Int) := dt_; have q6 : (x5_1 : Int) < ((x0_1.length : Int) : Int) := dt_; obtain ⟨ce6, hcl6, hM6, hcc6, hfr6⟩ := Kd.R_elem HO_0.out z98 (x5_1 : Int) p6 q6; obtain rfl := k98_openM hM6; have hx6_0 : w14.cell? ⟨go5, (x5_1 : Int).toNat * 7, none⟩ = some (.int .i64 ((rd_T98 y165 x5_1).f0)) := hcc6 0 _ rfl; have hx6_1 : w14.cell? ⟨go5, (x5_1 : Int).toNat * 7 + 1, none⟩ = some (.int .i64 ((rd_T98 y165 x5_1).f1.f0)) := hcc6 1 _ rfl; have hx6_2 : w14.cell? ⟨go5, (x5_1 : Int).toNat * 7 + 2, none⟩ = some (.int .i64 ((rd_T98 y165 x5_1).f1.f1)) := hcc6 2 _ rfl; have hx6_3 : w14.cell? ⟨go5, (x5_1 : Int).toNat * 7 + 3, none⟩ = some (.bool ((rd_T98 y165 x5_1).f1.f2)) := hcc6 3 _ rfl; have hx6_4 : w14.cell? ⟨go5, (x5_1 : Int).toNat * 7 + 4, none⟩ = some (.bool ((rd_T98 y165 x5_1).f1.f3)) := hcc6 4 _ rfl; have hx6_5 : w14.cell? ⟨go5, (x5_1 : Int).toNat * 7 + 5, none⟩ = some (.bool ((rd_T98 y165 x5_1).f1.f4)) := hcc6 5 _ rfl; have hx6_6 : w14.cell? ⟨go5, (x5_1 : Int).toNat * 7 + 6, none⟩ = some (.int .i64 ((rd_T98 y165 x5_1).f2)) := hcc6 6 _ rfl; have hf6_0 : w14.frozen? ⟨go5, (x5_1 : Int).toNat * 7, none⟩ = false := hfr6 0; have hf6_1 : w14.frozen? ⟨go5, (x5_1 : Int).toNat * 7 + 1, none⟩ = false := hfr6 1; have hf6_2 : w14.frozen? ⟨go5, (x5_1 : Int).toNat * 7 + 2, none⟩ = false := hfr6 2; have hf6_3 : w14.frozen? ⟨go5, (x5_1 : Int).toNat * 7 + 3, none⟩ = false := hfr6 3; have hf6_4 : w14.frozen? ⟨go5, (x5_1 : Int).toNat * 7 + 4, none⟩ = false := hfr6 4; have hf6_5 : w14.frozen? ⟨go5, (x5_1 : Int).toNat * 7 + 5, none⟩ = false := hfr6 5; have hf6_6 : w14.frozen? ⟨go5, (x5_1 : Int).toNat * 7 + 6, none⟩ = false := hfr6 6; clear hcl6 hcc6 hfr6 hM6; replace p6 := eq_true p6; replace q6 := eq_true q6; have HX15 := am (show Kd.R k98 98 w14 w0.heap.size (fun k_ => (P0_ k_ ∨ w.heap.size ≤ k_)) (.slice (some ⟨go5, 0, none⟩) x0_1.length co12) y165 from (rr HO_0)); obtain ⟨ce15, hcl15, hM15, hcc15, hfr15⟩ := Kd.R_elem HX15.out z98 (x5_1 : Int) dt_ (by have h_ : (x5_1 : Int) < ((x0_1.length : Int) : Int) := dt_; first | exact h_ | (have e_ := (Kd.R_reads' HO_0.out).1; omega) | simpa using h_); obtain rfl := k98_openM hM15; have HP15 := Kd.R_seg HX15.out (x5_1 : Int) dt_ (by have h_ : (x5_1 : Int) < ((x0_1.length : Int) : Int) := dt_; first | exact h_ | (have e_ := (Kd.R_reads' HO_0.out).1; omega) | simpa using h_) (seg := [.int .i64 (wrap64 (x1_1 + 1))]) (j := 1) hcl15 hcc15 (show 2 ≤ 7 from by decide) (x' := (⟨(rd_T98 y165 x5_1).f0, (⟨wrap64 (x1_1 + 1), (rd_T98 y165 x5_1).f1.f1, (rd_T98 y165 x5_1).f1.f2, (rd_T98 y165 x5_1).f1.f3, (rd_T98 y165 x5_1).f1.f4⟩ : S96), (rd_T98 y165 x5_1).f2⟩ : S98)) (k98_mkM _ _ _ (⟨(rd_T98 y165 x5_1).f0, (⟨wrap64 (x1_1 + 1), (rd_T98 y165 x5_1).f1.f1, (rd_T98 y165 x5_1).f1.f2, (rd_T98 y165 x5_1).f1.f3, (rd_T98 y165 x5_1).f1.f4⟩ : S96), (rd_T98 y165 x5_1).f2⟩ : S98) ) (fun _ hk => hk); have hx15_1 := hcc15 1 _ rfl; (try simp only [show (k98).sz = 7 from rfl, Nat.mul_one, Nat.add_zero] at hx15_1); have hf15_1 := hfr15 1; (try simp only [show (k98).sz = 7 from rfl, Nat.mul_one, Nat.add_zero] at hf15_1); clear hcl15 hcc15 hfr15 hM15) | ((with_reducible refine gate_store (t := 2) (p := 24) rfl ?_); refine store_event (t := 2) (p := 24) (v := ?vo_w16) (w1 := (w14.setCell ⟨go5, (x5_1 : Int).toNat * 7 + 1, none⟩ (.int .i64 (wrap64 (x1_1 + 1))))) ?hg ?ho ?hn ?hr ?_; (case ho => rfl); (case hg => rfl); (case hn => rfl); (case hr => first | (go_simp; done) | (go_simp; rfl)); intro w16 hw; have hg : w14.grownBy w16 (some go5) := (by rw [hw]; exact HP15.2); have hp_ : Kd.R k98 98 w16 w0.heap.size (fun k_ => (P0_ k_ ∨ w.heap.size ≤ k_)) (.slice (some ⟨go5, 0, none⟩) x0_1.length co12) y166 := (by rw [hw, Ny166.out]; exact HP15.1); clear HP15; replace HB := am ((by rw [hw]; exact below_set (HB.out) GB5.out : Below w0.heap.size w0 w16)); replace HK := am (Kept.of_grown (S := (fun k_ => P0_ k_)) hg (by repeat (first | (with_reducible first | exact HK.out | apply Kept.alloc | apply Kept.drewN | apply Kept.drew) | exact HK.out)) (fun k_ e_ => (HO_0.out.1 k_ e_))); replace HO_0 := am (hp_); clear hg hw hp_; have p7 : 0 ≤ (x5_1 : Int) := dt_; have q7 : (x5_1 : Int) < ((x0_1.length : Int) : Int) := dt_; obtain ⟨ce7, hcl7, hM7, hcc7, hfr7⟩ := Kd.R_elem HO_0.out z98 (x5_1 : Int) p7 q7; obtain rfl := k98_openM hM7; have hx7_0 : w16.cell? ⟨go5, (x5_1 : Int).toNat * 7, none⟩ = some (.int .i64 ((rd_T98 y166 x5_1).f0)) := hcc7 0 _ rfl; have hx7_1 : w16.cell? ⟨go5, (x5_1 : Int).toNat * 7 + 1, none⟩ = some (.int .i64 ((rd_T98 y166 x5_1).f1.f0)) := hcc7 1 _ rfl; have hx7_2 : w16.cell? ⟨go5, (x5_1 : Int).toNat * 7 + 2, none⟩ = some (.int .i64 ((rd_T98 y166 x5_1).f1.f1)) := hcc7 2 _ rfl; have hx7_3 : w16.cell? ⟨go5, (x5_1 : Int).toNat * 7 + 3, none⟩ = some (.bool ((rd_T98 y166 x5_1).f1.f2)) := hcc7 3 _ rfl; have hx7_4 : w16.cell? ⟨go5, (x5_1 : Int).toNat * 7 + 4, none⟩ = some (.bool ((rd_T98 y166 x5_1).f1.f3)) := hcc7 4 _ rfl; have hx7_5 : w16.cell? ⟨go5, (x5_1 : Int).toNat * 7 + 5, none⟩ = some (.bool ((rd_T98 y166 x5_1).f1.f4)) := hcc7 5 _ rfl; have hx7_6 : w16.cell? ⟨go5, (x5_1 : Int).toNat * 7 + 6, none⟩ = some (.int .i64 ((rd_T98 y166 x5_1).f2)) := hcc7 6 _ rfl; have hf7_0 : w16.frozen? ⟨go5, (x5_1 : Int).toNat * 7, none⟩ = false := hfr7 0; have hf7_1 : w16.frozen? ⟨go5, (x5_1 : Int).toNat * 7 + 1, none⟩ = false := hfr7 1; have hf7_2 : w16.frozen? ⟨go5, (x5_1 : Int).toNat * 7 + 2, none⟩ = false := hfr7 2; have hf7_3 : w16.frozen? ⟨go5, (x5_1 : Int).toNat * 7 + 3, none⟩ = false := hfr7 3; have hf7_4 : w16.frozen? ⟨go5, (x5_1 : Int).toNat * 7 + 4, none⟩ = false := hfr7 4; have hf7_5 : w16.frozen? ⟨go5, (x5_1 : Int).toNat * 7 + 5, none⟩ = false := hfr7 5; have hf7_6 : w16.frozen? ⟨go5, (x5_1 : Int).toNat * 7 + 6, none⟩ = false := hfr7 6; clear hcl7 hcc7 hfr7 hM7; replace p7 := eq_true p7; replace q7 := eq_true q7; have HX17 := am (show Kd.R k98 98 w16 w0.heap.size (fun k_ => (P0_ k_ ∨ w.heap.size ≤ k_)) (.slice (some ⟨go5, 0, none⟩) x0_1.length co12) y166 from (rr HO_0)); obtain ⟨ce17, hcl17, hM17, hcc17, hfr17⟩ := Kd.R_elem HX17.out z98 (x5_1 : Int) dt_ (by have h_ : (x5_1 : Int) < ((x0_1.length : Int) : Int) := dt_; first | exact h_ | (have e_ := (Kd.R_reads' HO_0.out).1; omega) | simpa using h_); obtain rfl := k98_openM hM17; have HP17 := Kd.R_seg HX17.out (x5_1 : Int) dt_ (by have h_ : (x5_1 : Int) < ((x0_1.length : Int) : Int) := dt_; first | exact h_ | (have e_ := (Kd.R_reads' HO_0.out).1; omega) | simpa using h_) (seg := [.int .i64 (wrap64 ((wrap64 (x1_1 + 1)) + 1))]) (j := 2) hcl17 hcc17 (show 3 ≤ 7 from by decide) (x' := (⟨(rd_T98 y166 x5_1).f0, (⟨(rd_T98 y166 x5_1).f1.f0, wrap64 ((wrap64 (x1_1 + 1)) + 1), (rd_T98 y166 x5_1).f1.f2, (rd_T98 y166 x5_1).f1.f3, (rd_T98 y166 x5_1).f1.f4⟩ : S96), (rd_T98 y166 x5_1).f2⟩ : S98)) (k98_mkM _ _ _ (⟨(rd_T98 y166 x5_1).f0, (⟨(rd_T98 y166 x5_1).f1.f0, wrap64 ((wrap64 (x1_1 + 1)) + 1), (rd_T98 y166 x5_1).f1.f2, (rd_T98 y166 x5_1).f1.f3, (rd_T98 y166 x5_1).f1.f4⟩ : S96), (rd_T98 y166 x5_1).f2⟩ : S98) ) (fun _ hk => hk); have hx17_2 := hcc17 2 _ rfl; (try simp only [show (k98).sz = 7 from rfl, Nat.mul_one, Nat.add_zero] at hx17_2); have hf17_2 := hfr17 2; (try simp only [show (k98).sz = 7 from rfl, Nat.mul_one, Nat.add_zero] at hf17_2); clear hcl17 hcc17 hfr17 hM17) | ((with_reducible refine gate_store (t := 2) (p := 32) rfl ?_); refine store_event (t := 2) (p := 32) (v := ?vo_w18) (w1 := (w16.setCell ⟨go5, (x5_1 : Int).toNat * 7 + 2, none⟩ (.int .i64 (wrap64 ((wrap64 (x1_1 + 1)) + 1))))) ?hg ?ho ?hn ?hr ?_; (case ho => rfl); (case hg => rfl); (case hn => rfl); (case hr => first | (go_simp; done) | (go_simp; rfl)); intro w18 hw; have hg : w16.grownBy w18 (some go5) := (by rw [hw]; exact HP17.2); have hp_ : Kd.R k98 98 w18 w0.heap.size (fun k_ => (P0_ k_ ∨ w.heap.size ≤ k_)) (.slice (some ⟨go5, 0, none⟩) x0_1.length co12) y167 := (by rw [hw, Ny167.out]; exact HP17.1); clear HP17; replace HB := am ((by rw [hw]; exact below_set (HB.out) GB5.out : Below w0.heap.size w0 w18)); replace HK := am (Kept.of_grown (S := (fun k_ => P0_ k_)) hg (by repeat (first | (with_reducible first | exact HK.out | apply Kept.alloc | apply Kept.drewN | apply Kept.drew) | exact HK.out)) (fun k_ e_ => (HO_0.out.1 k_ e_))); replace HO_0 := am (hp_); clear hg hw hp_; have p8 : 0 ≤ (x5_1 : Int) := dt_; have q8 : (x5_1 : Int) < ((x0_1.length : Int) : Int) := dt_; obtain ⟨ce8, hcl8, hM8, hcc8, hfr8⟩ := Kd.R_elem HO_0.out z98 (x5_1 : Int) p8 q8; obtain rfl := k98_openM hM8; have hx8_0 : w18.cell? ⟨go5, (x5_1 : Int).toNat * 7, none⟩ = some (.int .i64 ((rd_T98 y167 x5_1).f0)) := hcc8 0 _ rfl; have hx8_1 : w18.cell? ⟨go5, (x5_1 : Int).toNat * 7 + 1, none⟩ = some (.int .i64 ((rd_T98 y167 x5_1).f1.f0)) := hcc8 1 _ rfl; have hx8_2 : w18.cell? ⟨go5, (x5_1 : Int).toNat * 7 + 2, none⟩ = some (.int .i64 ((rd_T98 y167 x5_1).f1.f1)) := hcc8 2 _ rfl; have hx8_3 : w18.cell? ⟨go5, (x5_1 : Int).toNat * 7 + 3, none⟩ = some (.bool ((rd_T98 y167 x5_1).f1.f2)) := hcc8 3 _ rfl; have hx8_4 : w18.cell? ⟨go5, (x5_1 : Int).toNat * 7 + 4, none⟩ = some (.bool ((rd_T98 y167 x5_1).f1.f3)) := hcc8 4 _ rfl; have hx8_5 : w18.cell? ⟨go5, (x5_1 : Int).toNat * 7 + 5, none⟩ = some (.bool ((rd_T98 y167 x5_1).f1.f4)) := hcc8 5 _ rfl; have hx8_6 : w18.cell? ⟨go5, (x5_1 : Int).toNat * 7 + 6, none⟩ = some (.int .i64 ((rd_T98 y167 x5_1).f2)) := hcc8 6 _ rfl; have hf8_0 : w18.frozen? ⟨go5, (x5_1 : Int).toNat * 7, none⟩ = false := hfr8 0; have hf8_1 : w18.frozen? ⟨go5, (x5_1 : Int).toNat * 7 + 1, none⟩ = false := hfr8 1; have hf8_2 : w18.frozen? ⟨go5, (x5_1 : Int).toNat * 7 + 2, none⟩ = false := hfr8 2; have hf8_3 : w18.frozen? ⟨go5, (x5_1 : Int).toNat * 7 + 3, none⟩ = false := hfr8 3; have hf8_4 : w18.frozen? ⟨go5, (x5_1 : Int).toNat * 7 + 4, none⟩ = false := hfr8 4; have hf8_5 : w18.frozen? ⟨go5, (x5_1 : Int).toNat * 7 + 5, none⟩ = false := hfr8 5; have hf8_6 : w18.frozen? ⟨go5, (x5_1 : Int).toNat * 7 + 6, none⟩ = false := hfr8 6; clear hcl8 hcc8 hfr8 hM8; replace p8 := eq_true p8; replace q8 := eq_true q8; have HX19 := am (show Kd.R k98 98 w18 w0.heap.size (fun k_ => (P0_ k_ ∨ w.heap.size ≤ k_)) (.slice (some ⟨go5, 0, none⟩) x0_1.length co12) y167 from (rr HO_0)); obtain ⟨ce19, hcl19, hM19, hcc19, hfr19⟩ := Kd.R_elem HX19.out z98 (x5_1 : Int) dt_ (by have h_ : (x5_1 : Int) < ((x0_1.length : Int) : Int) := dt_; first | exact h_ | (have e_ := (Kd.R_reads' HO_0.out).1; omega) | simpa using h_); obtain rfl := k98_openM hM19; have HP19 := Kd.R_seg HX19.out (x5_1 : Int) dt_ (by have h_ : (x5_1 : Int) < ((x0_1.length : Int) : Int) := dt_; first | exact h_ | (have e_ := (Kd.R_reads' HO_0.out).1; omega) | simpa using h_) (seg := [.bool ((Int.tmod (wrap64 ((wrap64 ((wrap64 (x1_1 + 1)) + 1)) + 1)) 3) == 0)]) (j := 3) hcl19 hcc19 (show 4 ≤ 7 from by decide) (x' := (⟨(rd_T98 y167 x5_1).f0, (⟨(rd_T98 y167 x5_1).f1.f0, (rd_T98 y167 x5_1).f1.f1, ((Int.tmod (wrap64 ((wrap64 ((wrap64 (x1_1 + 1)) + 1)) + 1)) 3) == 0), (rd_T98 y167 x5_1).f1.f3, (rd_T98 y167 x5_1).f1.f4⟩ : S96), (rd_T98 y167 x5_1).f2⟩ : S98)) (k98_mkM _ _ _ (⟨(rd_T98 y167 x5_1).f0, (⟨(rd_T98 y167 x5_1).f1.f0, (rd_T98 y167 x5_1).f1.f1, ((Int.tmod (wrap64 ((wrap64 ((wrap64 (x1_1 + 1)) + 1)) + 1)) 3) == 0), (rd_T98 y167 x5_1).f1.f3, (rd_T98 y167 x5_1).f1.f4⟩ : S96), (rd_T98 y167 x5_1).f2⟩ : S98) ) (fun _ hk => hk); have hx19_3 := hcc19 3 _ rfl; (try simp only [show (k98).sz = 7 from rfl, Nat.mul_one, Nat.add_zero] at hx19_3); have hf19_3 := hfr19 3; (try simp only [show (k98).sz = 7 from rfl, Nat.mul_one, Nat.add_zero] at hf19_3); clear hcl19 hcc19 hfr19 hM19) | ((with_reducible refine gate_store (t := 4) (p := 42) rfl ?_); refine store_event (t := 4) (p := 42) (v := ?vo_w20) (w1 := (w18.setCell ⟨go5, (x5_1 : Int).toNat * 7 + 3, none⟩ (.bool ((Int.tmod (wrap64 ((wrap64 ((wrap64 (x1_1 + 1)) + 1)) + 1)) 3) == 0)))) ?hg ?ho ?hn ?hr ?_; (case ho => rfl); (case hg => rfl); (case hn => rfl); (case hr => first | (go_simp; done) | (go_simp; rfl)); intro w20 hw; have hg : w18.grownBy w20 (some go5) := (by rw [hw]; exact HP19.2); have hp_ : Kd.R k98 98 w20 w0.heap.size (fun k_ => (P0_ k_ ∨ w.heap.size ≤ k_)) (.slice (some ⟨go5, 0, none⟩) x0_1.length co12) y168 := (by rw [hw, Ny168.out]; exact HP19.1); clear HP19; replace HB := am ((by rw [hw]; exact below_set (HB.out) GB5.out : Below w0.heap.size w0 w20)); replace HK := am (Kept.of_grown (S := (fun k_ => P0_ k_)) hg (by repeat (first | (with_reducible first | exact HK.out | apply Kept.alloc | apply Kept.drewN | apply Kept.drew) | exact HK.out)) (fun k_ e_ => (HO_0.out.1 k_ e_))); replace HO_0 := am (hp_); clear hg hw hp_; have p9 : 0 ≤ (x5_1 : Int) := dt_; have q9 : (x5_1 : Int) < ((x0_1.length : Int) : Int) := dt_; obtain ⟨ce9, hcl9, hM9, hcc9, hfr9⟩ := Kd.R_elem HO_0.out z98 (x5_1 : Int) p9 q9; obtain rfl := k98_openM hM9; have hx9_0 : w20.cell? ⟨go5, (x5_1 : Int).toNat * 7, none⟩ = some (.int .i64 ((rd_T98 y168 x5_1).f0)) := hcc9 0 _ rfl; have hx9_1 : w20.cell? ⟨go5, (x5_1 : Int).toNat * 7 + 1, none⟩ = some (.int .i64 ((rd_T98 y168 x5_1).f1.f0)) := hcc9 1 _ rfl; have hx9_2 : w20.cell? ⟨go5, (x5_1 : Int).toNat * 7 + 2, none⟩ = some (.int .i64 ((rd_T98 y168 x5_1).f1.f1)) := hcc9 2 _ rfl; have hx9_3 : w20.cell? ⟨go5, (x5_1 : Int).toNat * 7 + 3, none⟩ = some (.bool ((rd_T98 y168 x5_1).f1.f2)) := hcc9 3 _ rfl; have hx9_4 : w20.cell? ⟨go5, (x5_1 : Int).toNat * 7 + 4, none⟩ = some (.bool ((rd_T98 y168 x5_1).f1.f3)) := hcc9 4 _ rfl; have hx9_5 : w20.cell? ⟨go5, (x5_1 : Int).toNat * 7 + 5, none⟩ = some (.bool ((rd_T98 y168 x5_1).f1.f4)) := hcc9 5 _ rfl; have hx9_6 : w20.cell? ⟨go5, (x5_1 : Int).toNat * 7 + 6, none⟩ = some (.int .i64 ((rd_T98 y168 x5_1).f2)) := hcc9 6 _ rfl; have hf9_0 : w20.frozen? ⟨go5, (x5_1 : Int).toNat * 7, none⟩ = false := hfr9 0; have hf9_1 : w20.frozen? ⟨go5, (x5_1 : Int).toNat * 7 + 1, none⟩ = false := hfr9 1; have hf9_2 : w20.frozen? ⟨go5, (x5_1 : Int).toNat * 7 + 2, none⟩ = false := hfr9 2; have hf9_3 : w20.frozen? ⟨go5, (x5_1 : Int).toNat * 7 + 3, none⟩ = false := hfr9 3; have hf9_4 : w20.frozen? ⟨go5, (x5_1 : Int).toNat * 7 + 4, none⟩ = false := hfr9 4; have hf9_5 : w20.frozen? ⟨go5, (x5_1 : Int).toNat * 7 + 5, none⟩ = false := hfr9 5; have hf9_6 : w20.frozen? ⟨go5, (x5_1 : Int).toNat * 7 + 6, none⟩ = false := hfr9 6; clear hcl9 hcc9 hfr9 hM9; replace p9 := eq_true p9; replace q9 := eq_true q9; have HX21 := am (show Kd.R k98 98 w20 w0.heap.size (fun k_ => (P0_ k_ ∨ w.heap.size ≤ k_)) (.slice (some ⟨go5, 0, none⟩) x0_1.length co12) y168 from (rr HO_0)); obtain ⟨ce21, hcl21, hM21, hcc21, hfr21⟩ := Kd.R_elem HX21.out z98 (x5_1 : Int) dt_ (by have h_ : (x5_1 : Int) < ((x0_1.length : Int) : Int) := dt_; first | exact h_ | (have e_ := (Kd.R_reads' HO_0.out).1; omega) | simpa using h_); obtain rfl := k98_openM hM21; have HP21 := Kd.R_seg HX21.out (x5_1 : Int) dt_ (by have h_ : (x5_1 : Int) < ((x0_1.length : Int) : Int) := dt_; first | exact h_ | (have e_ := (Kd.R_reads' HO_0.out).1; omega) | simpa using h_) (seg := [.bool ((Int.tmod (wrap64 ((wrap64 ((wrap64 ((wrap64 (x1_1 + 1)) + 1)) + 1)) + 1)) 3) == 0)]) (j := 4) hcl21 hcc21 (show 5 ≤ 7 from by decide) (x' := (⟨(rd_T98 y168 x5_1).f0, (⟨(rd_T98 y168 x5_1).f1.f0, (rd_T98 y168 x5_1).f1.f1, (rd_T98 y168 x5_1).f1.f2, ((Int.tmod (wrap64 ((wrap64 ((wrap64 ((wrap64 (x1_1 + 1)) + 1)) + 1)) + 1)) 3) == 0), (rd_T98 y168 x5_1).f1.f4⟩ : S96), (rd_T98 y168 x5_1).f2⟩ : S98)) (k98_mkM _ _ _ (⟨(rd_T98 y168 x5_1).f0, (⟨(rd_T98 y168 x5_1).f1.f0, (rd_T98 y168 x5_1).f1.f1, (rd_T98 y168 x5_1).f1.f2, ((Int.tmod (wrap64 ((wrap64 ((wrap64 ((wrap64 (x1_1 + 1)) + 1)) + 1)) + 1)) 3) == 0), (rd_T98 y168 x5_1).f1.f4⟩ : S96), (rd_T98 y168 x5_1).f2⟩ : S98) ) (fun _ hk => hk); have hx21_4 := hcc21 4 _ rfl; (try simp only [show (k98).sz = 7 from rfl, Nat.mul_one, Nat.add_zero] at hx21_4); have hf21_4 := hfr21 4; (try simp only [show (k98).sz = 7 from rfl, Nat.mul_one, Nat.add_zero] at hf21_4); clear hcl21 hcc21 hfr21 hM21) | ((with_reducible refine gate_store (t := 4) (p := 52) rfl ?_); refine store_event (t := 4) (p := 52) (v := ?vo_w22) (w1 := (w20.setCell ⟨go5, (x5_1 : Int).toNat * 7 + 4, none⟩ (.bool ((Int.tmod (wrap64 ((wrap64 ((wrap64 ((wrap64 (x1_1 + 1)) + 1)) + 1)) + 1)) 3) == 0)))) ?hg ?ho ?hn ?hr ?_; (case ho => rfl); (case hg => rfl); (case hn => rfl); (case hr => first | (go_simp; done) | (go_simp; rfl)); intro w22 hw; have hg : w20.grownBy w22 (some go5) := (by rw [hw]; exact HP21.2); have hp_ : Kd.R k98 98 w22 w0.heap.size (fun k_ => (P0_ k_ ∨ w.heap.size ≤ k_)) (.slice (some ⟨go5, 0, none⟩) x0_1.length co12) y169 := (by rw [hw, Ny169.out]; exact HP21.1); clear HP21; replace HB := am ((by rw [hw]; exact below_set (HB.out) GB5.out : Below w0.heap.size w0 w22)); replace HK := am (Kept.of_grown (S := (fun k_ => P0_ k_)) hg (by repeat (first | (with_reducible first | exact HK.out | apply Kept.alloc | apply Kept.drewN | apply Kept.drew) | exact HK.out)) (fun k_ e_ => (HO_0.out.1 k_ e_))); replace HO_0 := am (hp_); clear hg hw hp_; have p10 : 0 ≤ (x5_1 : Int) := dt_; have q10 : (x5_1 : Int) < ((x0_1.length : Int) : Int) := dt_; obtain ⟨ce10, hcl10, hM10, hcc10, hfr10⟩ := Kd.R_elem HO_0.out z98 (x5_1 : Int) p10 q10; obtain rfl := k98_openM hM10; have hx10_0 : w22.cell? ⟨go5, (x5_1 : Int).toNat * 7, none⟩ = some (.int .i64 ((rd_T98 y169 x5_1).f0)) := hcc10 0 _ rfl; have hx10_1 : w22.cell? ⟨go5, (x5_1 : Int).toNat * 7 + 1, none⟩ = some (.int .i64 ((rd_T98 y169 x5_1).f1.f0)) := hcc10 1 _ rfl; have hx10_2 : w22.cell? ⟨go5, (x5_1 : Int).toNat * 7 + 2, none⟩ = some (.int .i64 ((rd_T98 y169 x5_1).f1.f1)) := hcc10 2 _ rfl; have hx10_3 : w22.cell? ⟨go5, (x5_1 : Int).toNat * 7 + 3, none⟩ = some (.bool ((rd_T98 y169 x5_1).f1.f2)) := hcc10 3 _ rfl; have hx10_4 : w22.cell? ⟨go5, (x5_1 : Int).toNat * 7 + 4, none⟩ = some (.bool ((rd_T98 y169 x5_1).f1.f3)) := hcc10 4 _ rfl; have hx10_5 : w22.cell? ⟨go5, (x5_1 : Int).toNat * 7 + 5, none⟩ = some (.bool ((rd_T98 y169 x5_1).f1.f4)) := hcc10 5 _ rfl; have hx10_6 : w22.cell? ⟨go5, (x5_1 : Int).toNat * 7 + 6, none⟩ = some (.int .i64 ((rd_T98 y169 x5_1).f2)) := hcc10 6 _ rfl; have hf10_0 : w22.frozen? ⟨go5, (x5_1 : Int).toNat * 7, none⟩ = false := hfr10 0; have hf10_1 : w22.frozen? ⟨go5, (x5_1 : Int).toNat * 7 + 1, none⟩ = false := hfr10 1; have hf10_2 : w22.frozen? ⟨go5, (x5_1 : Int).toNat * 7 + 2, none⟩ = false := hfr10 2; have hf10_3 : w22.frozen? ⟨go5, (x5_1 : Int).toNat * 7 + 3, none⟩ = false := hfr10 3; have hf10_4 : w22.frozen? ⟨go5, (x5_1 : Int).toNat * 7 + 4, none⟩ = false := hfr10 4; have hf10_5 : w22.frozen? ⟨go5, (x5_1 : Int).toNat * 7 + 5, none⟩ = false := hfr10 5; have hf10_6 : w22.frozen? ⟨go5, (x5_1 : Int).toNat * 7 + 6, none⟩ = false := hfr10 6; clear hcl10 hcc10 hfr10 hM10; replace p10 := eq_true p10; replace q10 := eq_true q10; have HX23 := am (show Kd.R k98 98 w22 w0.heap.size (fun k_ => (P0_ k_ ∨ w.heap.size ≤ k_)) (.slice (some ⟨go5, 0, none⟩) x0_1.length co12) y169 from (rr HO_0)); obtain ⟨ce23, hcl23, hM23, hcc23, hfr23⟩ := Kd.R_elem HX23.out z98 (x5_1 : Int) dt_ (by have h_ : (x5_1 : Int) < ((x0_1.length : Int) : Int) := dt_; first | exact h_ | (have e_ := (Kd.R_reads' HO_0.out).1; omega) | simpa using h_); obtain rfl := k98_openM hM23; have HP23 := Kd.R_seg HX23.out (x5_1 : Int) dt_ (by have h_ : (x5_1 : Int) < ((x0_1.length : Int) : Int) := dt_; first | exact h_ | (have e_ := (Kd.R_reads' HO_0.out).1; omega) | simpa using h_) (seg := [.bool ((Int.tmod (wrap64 ((wrap64 ((wrap64 ((wrap64 ((wrap64 (x1_1 + 1)) + 1)) + 1)) + 1)) + 1)) 3) == 0)]) (j := 5) hcl23 hcc23 (show 6 ≤ 7 from by decide) (x' := (⟨(rd_T98 y169 x5_1).f0, (⟨(rd_T98 y169 x5_1).f1.f0, (rd_T98 y169 x5_1).f1.f1, (rd_T98 y169 x5_1).f1.f2, (rd_T98 y169 x5_1).f1.f3, ((Int.tmod (wrap64 ((wrap64 ((wrap64 ((wrap64 ((wrap64 (x1_1 + 1)) + 1)) + 1)) + 1)) + 1)) 3) == 0)⟩ : S96), (rd_T98 y169 x5_1).f2⟩ : S98)) (k98_mkM _ _ _ (⟨(rd_T98 y169 x5_1).f0, (⟨(rd_T98 y169 x5_1).f1.f0, (rd_T98 y169 x5_1).f1.f1, (rd_T98 y169 x5_1).f1.f2, (rd_T98 y169 x5_1).f1.f3, ((Int.tmod (wrap64 ((wrap64 ((wrap64 ((wrap64 ((wrap64 (x1_1 + 1)) + 1)) + 1)) + 1)) + 1)) 3) == 0)⟩ : S96), (rd_T98 y169 x5_1).f2⟩ : S98) ) (fun _ hk => hk); have hx23_5 := hcc23 5 _ rfl; (try simp only [show (k98).sz = 7 from rfl, Nat.mul_one, Nat.add_zero] at hx23_5); have hf23_5 := hfr23 5; (try simp only [show (k98).sz = 7 from rfl, Nat.mul_one, Nat.add_zero] at hf23_5); clear hcl23 hcc23 hfr23 hM23) | ((with_reducible refine gate_store (t := 4) (p := 62) rfl ?_); refine store_event (t := 4) (p := 62) (v := ?vo_w24) (w1 := (w22.setCell ⟨go5, (x5_1 : Int).toNat * 7 + 5, none⟩ (.bool ((Int.tmod (wrap64 ((wrap64 ((wrap64 ((wrap64 ((wrap64 (x1_1 + 1)) + 1)) + 1)) + 1)) + 1)) 3) == 0)))) ?hg ?ho ?hn ?hr ?_; (case ho => rfl); (case hg => rfl); (case hn => rfl); (case hr => first | (go_simp; done) | (go_simp; rfl)); intro w24 hw; have hg : w22.grownBy w24 (some go5) := (by rw [hw]; exact HP23.2); have hp_ : Kd.R k98 98 w24 w0.heap.size (fun k_ => (P0_ k_ ∨ w.heap.size ≤ k_)) (.slice (some ⟨go5, 0, none⟩) x0_1.length co12) y170 := (by rw [hw, Ny170.out]; exact HP23.1); clear HP23; replace HB := am ((by rw [hw]; exact below_set (HB.out) GB5.out : Below w0.heap.size w0 w24)); replace HK := am (Kept.of_grown (S := (fun k_ => P0_ k_)) hg (by repeat (first | (with_reducible first | exact HK.out | apply Kept.alloc | apply Kept.drewN | apply Kept.drew) | exact HK.out)) (fun k_ e_ => (HO_0.out.1 k_ e_))); replace HO_0 := am (hp_); clear hg hw hp_; have p11 : 0 ≤ (x5_1 : Int) := dt_; have q11 : (x5_1 : Int) < ((x0_1.length : Int) : Int) := dt_; obtain ⟨ce11, hcl11, hM11, hcc11, hfr11⟩ := Kd.R_elem HO_0.out z98 (x5_1 : Int) p11 q11; obtain rfl := k98_openM hM11; have hx11_0 : w24.cell? ⟨go5, (x5_1 : Int).toNat * 7, none⟩ = some (.int .i64 ((rd_T98 y170 x5_1).f0)) := hcc11 0 _ rfl; have hx11_1 : w24.cell? ⟨go5, (x5_1 : Int).toNat * 7 + 1, none⟩ = some (.int .i64 ((rd_T98 y170 x5_1).f1.f0)) := hcc11 1 _ rfl; have hx11_2 : w24.cell? ⟨go5, (x5_1 : Int).toNat * 7 + 2, none⟩ = some (.int .i64 ((rd_T98 y170 x5_1).f1.f1)) := hcc11 2 _ rfl; have hx11_3 : w24.cell? ⟨go5, (x5_1 : Int).toNat * 7 + 3, none⟩ = some (.bool ((rd_T98 y170 x5_1).f1.f2)) := hcc11 3 _ rfl; have hx11_4 : w24.cell? ⟨go5, (x5_1 : Int).toNat * 7 + 4, none⟩ = some (.bool ((rd_T98 y170 x5_1).f1.f3)) := hcc11 4 _ rfl; have hx11_5 : w24.cell? ⟨go5, (x5_1 : Int).toNat * 7 + 5, none⟩ = some (.bool ((rd_T98 y170 x5_1).f1.f4)) := hcc11 5 _ rfl; have hx11_6 : w24.cell? ⟨go5, (x5_1 : Int).toNat * 7 + 6, none⟩ = some (.int .i64 ((rd_T98 y170 x5_1).f2)) := hcc11 6 _ rfl; have hf11_0 : w24.frozen? ⟨go5, (x5_1 : Int).toNat * 7, none⟩ = false := hfr11 0; have hf11_1 : w24.frozen? ⟨go5, (x5_1 : Int).toNat * 7 + 1, none⟩ = false := hfr11 1; have hf11_2 : w24.frozen? ⟨go5, (x5_1 : Int).toNat * 7 + 2, none⟩ = false := hfr11 2; have hf11_3 : w24.frozen? ⟨go5, (x5_1 : Int).toNat * 7 + 3, none⟩ = false := hfr11 3; have hf11_4 : w24.frozen? ⟨go5, (x5_1 : Int).toNat * 7 + 4, none⟩ = false := hfr11 4; have hf11_5 : w24.frozen? ⟨go5, (x5_1 : Int).toNat * 7 + 5, none⟩ = false := hfr11 5; have hf11_6 : w24.frozen? ⟨go5, (x5_1 : Int).toNat * 7 + 6, none⟩ = false := hfr11 6; clear hcl11 hcc11 hfr11 hM11; replace p11 := eq_true p11; replace q11 := eq_true q11; have HX25 := am (show Kd.R k98 98 w24 w0.heap.size (fun k_ => (P0_ k_ ∨ w.heap.size ≤ k_)) (.slice (some ⟨go5, 0, none⟩) x0_1.length co12) y170 from (rr HO_0)); obtain ⟨ce25, hcl25, hM25, hcc25, hfr25⟩ := Kd.R_elem HX25.out z98 (x5_1 : Int) dt_ (by have h_ : (x5_1 : Int) < ((x0_1.length : Int) : Int) := dt_; first | exact h_ | (have e_ := (Kd.R_reads' HO_0.out).1; omega) | simpa using h_); obtain rfl := k98_openM hM25; have HP25 := Kd.R_seg HX25.out (x5_1 : Int) dt_ (by have h_ : (x5_1 : Int) < ((x0_1.length : Int) : Int) := dt_; first | exact h_ | (have e_ := (Kd.R_reads' HO_0.out).1; omega) | simpa using h_) (seg := [.int .i64 (wrap64 ((wrap64 ((wrap64 ((wrap64 ((wrap64 ((wrap64 (x1_1 + 1)) + 1)) + 1)) + 1)) + 1)) + 1))]) (j := 6) hcl25 hcc25 (show 7 ≤ 7 from by decide) (x' := (⟨(rd_T98 y170 x5_1).f0, (⟨(rd_T98 y170 x5_1).f1.f0, (rd_T98 y170 x5_1).f1.f1, (rd_T98 y170 x5_1).f1.f2, (rd_T98 y170 x5_1).f1.f3, (rd_T98 y170 x5_1).f1.f4⟩ : S96), wrap64 ((wrap64 ((wrap64 ((wrap64 ((wrap64 ((wrap64 (x1_1 + 1)) + 1)) + 1)) + 1)) + 1)) + 1)⟩ : S98)) (k98_mkM _ _ _ (⟨(rd_T98 y170 x5_1).f0, (⟨(rd_T98 y170 x5_1).f1.f0, (rd_T98 y170 x5_1).f1.f1, (rd_T98 y170 x5_1).f1.f2, (rd_T98 y170 x5_1).f1.f3, (rd_T98 y170 x5_1).f1.f4⟩ : S96), wrap64 ((wrap64 ((wrap64 ((wrap64 ((wrap64 ((wrap64 (x1_1 + 1)) + 1)) + 1)) + 1)) + 1)) + 1)⟩ : S98) ) (fun _ hk => hk); have hx25_6 := hcc25 6 _ rfl; (try simp only [show (k98).sz = 7 from rfl, Nat.mul_one, Nat.add_zero] at hx25_6); have hf25_6 := hfr25 6; (try simp only [show (k98).sz = 7 from rfl, Nat.mul_one, Nat.add_zero] at hf25_6); clear hcl25 hcc25 hfr25 hM25) | ((with_reducible refine gate_store (t := 2) (p := 69) rfl ?_); refine store_event (t := 2) (p := 69) (v := ?vo_w26) (w1 := (w24.setCell ⟨go5, (x5_1 : Int).toNat * 7 + 6, none⟩ (.int .i64 (wrap64 ((wrap64 ((wrap64 ((wrap64 ((wrap64 ((wrap64 (x1_1 + 1)) + 1)) + 1)) + 1)) + 1)) + 1))))) ?hg ?ho ?hn ?hr ?_; (case ho => rfl); (case hg => rfl); (case hn => rfl); (case hr => first | (go_simp; done) | (go_simp; rfl)); intro w26 hw; have hg : w24.grownBy w26 (some go5) := (by rw [hw]; exact HP25.2); have hp_ : Kd.R k98 98 w26 w0.heap.size (fun k_ => (P0_ k_ ∨ w.heap.size ≤ k_)) (.slice (some ⟨go5, 0, none⟩) x0_1.length co12) y171 := (by rw [hw, Ny171.out]; exact HP25.1); clear HP25; replace HB := am ((by rw [hw]; exact below_set (HB.out) GB5.out : Below w0.heap.size w0 w26)); replace HK := am (Kept.of_grown (S := (fun k_ => P0_ k_)) hg (by repeat (first | (with_reducible first | exact HK.out | apply Kept.alloc | apply Kept.drewN | apply Kept.drew) | exact HK.out)) (fun k_ e_ => (HO_0.out.1 k_ e_))); replace HO_0 := am (hp_); clear hg hw hp_))
go_roundg k1
case measure => have := HK1.out; omega
case rel => exact ⟨(y171), (wrap64 ((wrap64 ((wrap64 ((wrap64 ((wrap64 ((wrap64 ((wrap64 (x1_1 + 1)) + 1)) + 1)) + 1)) + 1)) + 1)) + 1)), (wrap64 (x5_1 + 1)), (by first | rfl | (simp; done) | (simp [*]; done)), (by first | rfl | (simp; done) | (simp [*]; done)), H', ⟨by have := HK1.out; omega⟩, ⟨rr HO_0⟩, ⟨by repeat (first | (with_reducible first | exact HK.out | apply Kept.alloc | apply Kept.drewN | apply Kept.drew) | exact HK.out)⟩, ⟨rb HB⟩⟩
)
)
·(
rw [if_neg c3] at H
have c3b0 : decide (x5_1 < (x0_1.length : Int)) = false := decide_eq_false c3
clear c3
simp only [Option.some.injEq, Prod.mk.injEq] at H
obtain ⟨rfl, rfl⟩ := H
obtain ⟨Ao27, co27, eo27⟩ := Kd.R_slice HO_0.out
subst eo27
go_wp2
go_ret
exact ⟨by first | rfl | (simp [errW_none, errW_some] <;> rfl) | (simp [*, errW_none, errW_some] <;> rfl), by (with_reducible repeat (first | apply r1 | apply r2 | apply r3)); exact HO_0.out, by repeat (first | (with_reducible first | exact HB.out | apply b1 | apply b2 | apply b3) | exact HB.out), by repeat (first | (with_reducible first | exact HK.out | apply Kept.alloc | apply Kept.drewN | apply Kept.drew) | exact HK.out)⟩
)
)
)
)

/-! ### laws_markCellSS: function 76 -/
theorem Sx_cap {α : Type} {d : Kd α} {e : Nat} {w : World} {base : Nat} {ok : Nat → Prop} {v : Value} {xs : List α} (h : Kd.S d e w base ok v xs) : Kd.S d e w base (fun k => ok k ∧ k < w.heap.size) v xs := Kd.S_mono (Kd.S_bound h) (fun k hk => ⟨hk.1, hk.2.2.1⟩)
theorem Sx_floor {α : Type} {d : Kd α} {e : Nat} {w : World} {base : Nat} {ok : Nat → Prop} {v : Value} {xs : List α} (h : Kd.S d e w base ok v xs) : Kd.S d e w base (fun k => ok k ∧ base ≤ k) v xs := Kd.S_mono (Kd.S_bound h) (fun k hk => ⟨hk.1, hk.2.1⟩)
theorem Sx_named {α : Type} {d : Kd α} {e : Nat} {w : World} {base : Nat} {ok : Nat → Prop} {v : Value} {xs : List α} (h : Kd.S d e w base ok v xs) : ∃ P : Nat → Prop, Kd.S d e w base P v xs ∧ ∀ k, P k → ok k := ⟨ok, h, fun _ hk => hk⟩
theorem Sx_box {W : World} {b : Nat} {cs : Array Value} {T : TypeId} {L : List Nat} (hb : W.heap[b]? = some (.cells cs T (0, 0))) (ht : ∀ q, q ∈ L → q ≠ T) (h : ∃ q, q ∈ L ∧ ∃ cells, W.heap[b]? = some (.cells cells q (0, 0))) : False := by
 obtain ⟨q, hq, cells, hc⟩ := h
 rw [hb] at hc
 simp only [Option.some.injEq, Obj.cells.injEq] at hc
 exact ht q hq hc.2.1.symm
def laws_markCellSS.l0 : Nat → List (List S98) → Int → Int → Option (Int × List (List S98))
 | 0, _, _, _ => none
 | k + 1, x0, x1, x5 => if x5 < (x0.length : Int) then (if 0 ≤ x5 then ((laws_markCellS.f k (x0.getD x5.toNat []) x1).bind fun bt => laws_markCellSS.l0 k (x0.set x5.toNat bt.2) bt.1 (wrap64 (x5 + 1))) else none) else some (x1, x0)
def laws_markCellSS.f (k : Nat) (l0 : List (List S98)) (a1 : Int) : Option (Int × List (List S98)) := laws_markCellSS.l0 k l0 a1 0
theorem laws_markCellSS.mono_l : ∀ k y0 y1 y2, LeO (laws_markCellSS.l0 k y0 y1 y2) (laws_markCellSS.l0 (k + 1) y0 y1 y2)
 | 0, _, _, _ => fun r h => by simp [laws_markCellSS.l0] at h
 | k + 1, y0, y1, y2 => by
  have ih := laws_markCellSS.mono_l k
  unfold laws_markCellSS.l0
  exact LeO.ite (LeO.ite (LeO.bind (laws_markCellS.mono _ _ _) (fun _ => ih _ _ _)) (LeO.refl _)) (LeO.refl _)
theorem laws_markCellSS.mono : ∀ a0 a1 k, LeO (laws_markCellSS.f k a0 a1) (laws_markCellSS.f (k + 1) a0 a1) := by
 intro a0 a1 k
 unfold laws_markCellSS.f
 exact laws_markCellSS.mono_l k _ _ _
set_option maxHeartbeats 8000000 in
set_option maxRecDepth 100000 in
theorem laws_markCellSS.calls (k : Nat) (P0_ : Nat → Prop) (u9000_ : Value) (l0 : List (List S98)) (a1 : Int) (r1 : Int) (r2 : List (List S98)) (w0 w : World) (hB : Below w0.heap.size w0 w) (ho0 : Kd.S (Kd.slice 98 k98) 99 w w0.heap.size P0_ u9000_ l0) (h : laws_markCellSS.f k l0 a1 = some (r1, r2)) :
  Calls Try.prog 76 #[u9000_, .int .i64 a1] w fun e w' => e = .returned (.int .i64 r1) ∧ Kd.S (Kd.slice 98 k98) 99 w' w0.heap.size P0_ u9000_ r2 ∧ Below w0.heap.size w0 w' ∧ Kept w w' (fun k_ => P0_ k_) := by
 (
obtain ⟨A0, c0, eu⟩ := Kd.S_slice ho0
subst eu
have HL0 := am (rfl : l0.length = l0.length)
have HO0 := am ho0
have HK := am (Kept.refl w (fun k_ => P0_ k_))
have HW0 := am hB.size
have HB := am hB
clear hB ho0
have H' := am (show laws_markCellSS.l0 k l0 a1 0 = some (r1, r2) from h)
clear h
go_enter Try.func76, Try.ntmps76
go_wp2
go_loopg [1, 5] k (fun kq v1 v5 w' => ∃ (x0_1 : List (List S98)) (x1_1 : Int) (x5_1 : Int), v1 = .int .i64 x1_1 ∧ v5 = .int .i64 x5_1 ∧ Aside0 (laws_markCellSS.l0 kq x0_1 x1_1 x5_1 = some (r1, r2)) ∧ Aside0 (kq ≤ k) ∧ Aside0 (Kd.S (Kd.slice 98 k98) 99 w' w0.heap.size P0_ (.slice A0 l0.length c0) x0_1) ∧ Aside0 (Kept w w' (fun k_ => P0_ k_)) ∧ Aside0 (Below w0.heap.size w0 w'))
case atStart => exact ⟨l0, a1, 0, rfl, rfl, H', ⟨Nat.le_refl _⟩, HO0, HK, HB⟩
case round => (
clear H' HO0 HK HB
obtain ⟨x0_1, x1_1, x5_1, rfl, rfl, HA, HK1, HO, HK, HB⟩ := hrel
cases gk with
| zero => exact absurd HA.out (by simp [laws_markCellSS.l0])
| succ k1 => (
have H := HA.out
clear HA
simp only [laws_markCellSS.l0] at H
have hlen : l0.length = x0_1.length := (Kd.S_reads' HO.out).1
have HLN := am hlen
by_cases c1 : x5_1 < (x0_1.length : Int)
·(
rw [if_pos c1] at H
by_cases c2 : 0 ≤ x5_1
·(
rw [if_pos c2] at H
obtain ⟨⟨t1, t2⟩, A1, H⟩ := Option.bind_eq_some_iff.mp H
have H' := am H
have A1' := am A1
clear H A1
have c3 : x5_1 < ((l0.length : Int) : Int) := by omega
have c3n : x5_1 < ((l0.length : Nat) : Int) := by omega
obtain ⟨go, co, eo, gb, gl, cl, HG⟩ := Kd.S_form HO.out (by omega)
injection eo with ea en ec
subst ea
subst ec
obtain ⟨oki, ce, hcl, hM, hcc, hfr, hoki, hH⟩ := Kd.S_elem HO.out [] x5_1 c2 c3n
obtain ⟨ve, rfl, hR⟩ := hM
have hx := hcc 0 _ rfl
(try simp only [show (Kd.slice 98 k98).sz = 1 from rfl, Nat.mul_one, Nat.add_zero] at hx)
have HX := am hx
have HRi := am hR
have HHi := am hH
have HOKI := am hoki
clear hcc hfr hcl hR hH hoki hlen en gb gl HG
have d1 : decide (x5_1 < (l0.length : Int)) = true := decide_eq_true c3
have p1 := eq_true c2
have q1 := eq_true c3
clear c1 c2 c3 c3n
go_wp2_with ((with_reducible refine gate_callee (f := 108) rfl ?_); refine goesL_ (some 17) rfl rfl Try.func108 (by kernel_rfl) rfl #[ve, .int .i64 x1_1] rfl (by (try simp only [List.map_toArray, List.map_cons, List.map_nil]); first | done | rfl) ?_; (with_reducible refine (laws_markCellS.calls k1 oki ve (x0_1.getD x5_1.toNat []) x1_1 t1 t2 w0 _ HB.out HRi.out A1'.out).mono ?_); rintro e w2 ⟨rfl, hy0, hb, hkp⟩; refine ⟨_, rfl, ?_⟩; have HS := am (Kd.H_back (Kd.H_kept HHi.out hkp (fun k_ _ hn hs => hn hs)) (Kd.M_row (Kd.R_reok rfl hy0 (fun k_ e_ => HRi.out.1 k_ e_))) (fun k_ hk => hk)); have HK2 := am (HK.out.then_ hkp (fun k_ hs => .inl (HOKI.out k_ hs).1)); have HB2 := am hb; clear hy0 hb hkp)
go_roundg k1
case measure => have := HK1.out; omega
case rel => exact ⟨x0_1.set x5_1.toNat t2, t1, wrap64 (x5_1 + 1), rfl, (by first | rfl | (simp; done) | (simp [*]; done)), H', ⟨by have := HK1.out; omega⟩, HS, HK2, HB2⟩
)
·(
rw [if_neg c2] at H
exact absurd H (by simp)
)
)
·(
rw [if_neg c1] at H
simp only [Option.some.injEq, Prod.mk.injEq] at H
obtain ⟨rfl, rfl⟩ := H
have d1 : decide (x5_1 < (l0.length : Int)) = false := decide_eq_false (by omega)
go_wp2
go_ret
exact ⟨rfl, by have h_ := HO.out; rw [HLN.out] at h_; exact h_, HB.out, HK.out⟩
)
)
)
)

/-! ### laws_markGrid: function 36 -/
def laws_markGrid.f (k : Nat) (a0_0 : Int) (l0_1 : List (List S98)) (a1 : Int) : Option (Int × List (List S98)) := (laws_markCellSS.f k l0_1 a1).bind fun bt => some (bt.1, bt.2)
theorem laws_markGrid.mono : ∀ a0 a1 a2 k, LeO (laws_markGrid.f k a0 a1 a2) (laws_markGrid.f (k + 1) a0 a1 a2) := by
 intro a0 a1 a2 k
 unfold laws_markGrid.f
 exact LeO.bind (laws_markCellSS.mono _ _ _) (fun _ => LeO.refl _)
set_option maxHeartbeats 8000000 in
set_option maxRecDepth 100000 in
theorem laws_markGrid.calls (k : Nat) (a0_0 : Int) (P0_1_ : Nat → Prop) (u9000_ : Value) (l0_1 : List (List S98)) (a1 : Int) (r1 : Int) (r2 : List (List S98)) (w0 w : World) (hB : Below w0.heap.size w0 w) (ho0_1 : Kd.S (Kd.slice 98 k98) 99 w w0.heap.size P0_1_ u9000_ l0_1) (h : laws_markGrid.f k a0_0 l0_1 a1 = some (r1, r2)) :
  Calls Try.prog 36 #[.agg #[.int .i64 a0_0, u9000_], .int .i64 a1] w fun e w' => e = .returned (.int .i64 r1) ∧ Kd.S (Kd.slice 98 k98) 99 w' w0.heap.size P0_1_ u9000_ r2 ∧ Below w0.heap.size w0 w' ∧ Kept w w' (fun k_ => P0_1_ k_) := by
 (
have huG := Try.underlying58
obtain ⟨A0, c0, eu⟩ := Kd.S_slice ho0_1
subst eu
have HO := am ho0_1
have HK := am (Kept.refl w (fun k_ => P0_1_ k_))
have HB := am hB
clear hB ho0_1
obtain ⟨⟨t1, t2⟩, A1, H⟩ := Option.bind_eq_some_iff.mp h
have A1' := am A1
simp only [Option.some.injEq, Prod.mk.injEq] at H
obtain ⟨rfl, rfl⟩ := H
clear h A1
go_enter Try.func36, Try.ntmps36
go_wp2_with (first | ((with_reducible refine gate_dst (N := 2) rfl ?_); refine box_event ?hg (N := 2) ?hd (cs := #[.int .i64 a0_0, .slice A0 l0_1.length c0]) (t := 58) ?hr ?_; (case hd => rfl); (case hg => rfl); (case hr => first | (go_simp; done) | (go_simp; rfl)); intro gb hg w5 hbox hb; replace HO := am (Kd.S_below HO.out hb); replace HK := am (Kept.below (S := (fun k_ => P0_1_ k_)) HK.out hb); replace HB := am (below_step HB.out hb); have hz0 : w5.cell? ⟨gb, 0, none⟩ = some (.int .i64 a0_0) := (blk_cell hbox 0).trans rfl; have hz1 : w5.cell? ⟨gb, 1, none⟩ = some (.slice A0 l0_1.length c0) := (blk_cell hbox 1).trans rfl; clear hb hbox hg) | ((with_reducible refine gate_callee (f := 76) rfl ?_); refine goesL_ (some 8) rfl rfl Try.func76 (by kernel_rfl) rfl #[.slice A0 l0_1.length c0, .int .i64 a1] rfl (by (try simp only [List.map_toArray, List.map_cons, List.map_nil]); first | done | rfl) ?_; (with_reducible refine (laws_markCellSS.calls k P0_1_ (.slice A0 l0_1.length c0) l0_1 a1 t1 t2 w0 _ HB.out HO.out A1'.out).mono ?_); rintro e w7 ⟨rfl, hy0, hb, hkp⟩; refine ⟨_, rfl, ?_⟩; have n0_ := am hy0; have n1_ := am (Kept.then_ (S := (fun k_ => P0_1_ k_)) HK.out hkp (fun k_ hs_ => .inl hs_)); have n2_ := am hb; clear HO HK HB; have HO := n0_; have HK := n1_; have HB := n2_; clear n0_ n1_ n2_ hy0 hb hkp))
go_ret
exact ⟨rfl, HO.out, HB.out, HK.out⟩
)

/-! ### laws_markChangeS: function 77 -/
def laws_markChangeS.l0 : Nat → List S101 → Int → Int → Option (Int × List S101)
 | 0, _, _, _ => none
 | k + 1, x0, x1, x5 => if x5 < (x0.length : Int) then (if 0 ≤ x5 then ((laws_markCellS.f k (x0.getD x5.toNat z101).f2 (wrap64 (wrap64 (x1 + 1) + 1))).bind fun bt => laws_markChangeS.l0 k (x0.set x5.toNat ⟨x1, wrap64 (x1 + 1), bt.2⟩) bt.1 (wrap64 (x5 + 1))) else none) else some (x1, x0)
def laws_markChangeS.f (k : Nat) (l0 : List S101) (a1 : Int) : Option (Int × List S101) := laws_markChangeS.l0 k l0 a1 0
theorem laws_markChangeS.mono_l : ∀ k y0 y1 y2, LeO (laws_markChangeS.l0 k y0 y1 y2) (laws_markChangeS.l0 (k + 1) y0 y1 y2)
 | 0, _, _, _ => fun r h => by simp [laws_markChangeS.l0] at h
 | k + 1, y0, y1, y2 => by
  have ih := laws_markChangeS.mono_l k
  unfold laws_markChangeS.l0
  exact LeO.ite (LeO.ite (LeO.bind (laws_markCellS.mono _ _ _) (fun _ => ih _ _ _)) (LeO.refl _)) (LeO.refl _)
theorem laws_markChangeS.mono : ∀ a0 a1 k, LeO (laws_markChangeS.f k a0 a1) (laws_markChangeS.f (k + 1) a0 a1) := by
 intro a0 a1 k
 unfold laws_markChangeS.f
 exact laws_markChangeS.mono_l k _ _ _
set_option maxHeartbeats 8000000 in
set_option maxRecDepth 100000 in
theorem laws_markChangeS.calls (k : Nat) (P0_ : Nat → Prop) (u9000_ : Value) (l0 : List S101) (a1 : Int) (r1 : Int) (r2 : List S101) (w0 w : World) (hB : Below w0.heap.size w0 w) (ho0 : Kd.S k101 101 w w0.heap.size P0_ u9000_ l0) (h : laws_markChangeS.f k l0 a1 = some (r1, r2)) :
  Calls Try.prog 77 #[u9000_, .int .i64 a1] w fun e w' => e = .returned (.int .i64 r1) ∧ Kd.S k101 101 w' w0.heap.size P0_ u9000_ r2 ∧ Below w0.heap.size w0 w' ∧ Kept w w' (fun k_ => P0_ k_) := by
 (
obtain ⟨A0, c0, eu⟩ := Kd.S_slice ho0
subst eu
have HL0 := am (rfl : l0.length = l0.length)
have HO0 := am ho0
have HK := am (Kept.refl w (fun k_ => P0_ k_))
have HW0 := am hB.size
have HB := am hB
clear hB ho0
have H' := am (show laws_markChangeS.l0 k l0 a1 0 = some (r1, r2) from h)
clear h
go_enter Try.func77, Try.ntmps77
go_wp2
go_loopg [1, 5] k (fun kq v1 v5 w' => ∃ (x0_1 : List S101) (x1_1 : Int) (x5_1 : Int), v1 = .int .i64 x1_1 ∧ v5 = .int .i64 x5_1 ∧ Aside0 (laws_markChangeS.l0 kq x0_1 x1_1 x5_1 = some (r1, r2)) ∧ Aside0 (kq ≤ k) ∧ Aside0 (Kd.S k101 101 w' w0.heap.size P0_ (.slice A0 l0.length c0) x0_1) ∧ Aside0 (Kept w w' (fun k_ => P0_ k_)) ∧ Aside0 (Below w0.heap.size w0 w'))
case atStart => exact ⟨l0, a1, 0, rfl, rfl, H', ⟨Nat.le_refl _⟩, HO0, HK, HB⟩
case round => (
clear H' HO0 HK HB
obtain ⟨x0_1, x1_1, x5_1, rfl, rfl, HA, HK1, HO, HK, HB⟩ := hrel
cases gk with
| zero => exact absurd HA.out (by simp [laws_markChangeS.l0])
| succ k1 => (
have H := HA.out
clear HA
simp only [laws_markChangeS.l0] at H
have hlen : l0.length = x0_1.length := (Kd.S_reads' HO.out).1
have HLN := am hlen
by_cases c1 : x5_1 < (x0_1.length : Int)
·(
rw [if_pos c1] at H
refine em_ (p := 0 ≤ x5_1) (fun c2 => ?g3p) (fun c2 => ?g3n)
case' g3p => (
rw [if_pos c2] at H
obtain ⟨⟨t1, t2⟩, A1, H⟩ := Option.bind_eq_some_iff.mp H
have H' := am H
have A1' := am A1
clear H A1
have c3 : x5_1 < ((l0.length : Int) : Int) := by omega
have c3n : x5_1 < ((l0.length : Nat) : Int) := by omega
obtain ⟨go, co, eo, gb, gl, cl, HG⟩ := Kd.S_form HO.out (by omega)
injection eo with ea en ec
subst ea
subst ec
have hPg : P0_ go := (Kd.S_R HO.out).1 go rfl
obtain ⟨oki, ce, hcl, hM, hcc, hfr, hoki, hH⟩ := Kd.S_elem HO.out z101 x5_1 c2 c3n
obtain ⟨ve, rfl, hR⟩ := k101_openM hM
have hx0 : wr.cell? ⟨go, (x5_1 : Int).toNat * 3, none⟩ = some (.int .i64 (x0_1.getD x5_1.toNat z101).f0) := hcc 0 _ rfl
have hf0 : wr.frozen? ⟨go, (x5_1 : Int).toNat * 3, none⟩ = false := hfr 0
have HP := am c2
have HQ := am c3n
have HP1 := am (show Kd.H k101 101 (wr.setCell ⟨go, (x5_1 : Int).toNat * 3, none⟩ (.int .i64 x1_1)) w0.heap.size P0_ (.slice (some ⟨go, 0, none⟩) l0.length c0) x0_1 x5_1 oki [.int .i64 x1_1, .int .i64 (x0_1.getD x5_1.toNat z101).f1, ve] ∧ wr.grownBy (wr.setCell ⟨go, (x5_1 : Int).toNat * 3, none⟩ (.int .i64 x1_1)) (some go) from Kd.H_seg hH c2 c3n (seg := [.int .i64 x1_1]) (j := 0) (by show 0 + 1 ≤ 3; omega) (by intro q hq; rw [List.mem_singleton.mp hq]; rfl))
have HRi := am hR
have HOKI := am hoki
have HGB := am gb
have HPG := am hPg
clear hcc hfr hcl hR hH hoki hlen en gb gl HG hPg
have d1 : decide (x5_1 < (l0.length : Int)) = true := decide_eq_true c3
have lf6_ := trivial
)
case g3n => (
rw [if_neg c2] at H
exact absurd H (by simp)
)
all_goals (
have p1 := eq_true c2
have q1 := eq_true c3
clear c1 c2 c3 c3n
go_wp2_with (first
 | ((with_reducible refine gate_store (t := 2) (p := 16) rfl ?_); refine store_event (t := 2) (p := 16) (v := ?vo_1) (w1 := (wr.setCell ⟨go, (x5_1 : Int).toNat * 3, none⟩ (.int .i64 x1_1))) ?hg ?ho ?hn ?hr ?_; (case ho => rfl); (case hg => rfl); (case hn => rfl); (case hr => first | (go_simp; done) | (go_simp; rfl)); intro w14 hw; have hg : wr.grownBy w14 (some go) := (by rw [hw]; exact HP1.out.2); have n0_ := am (show Kd.H k101 101 w14 w0.heap.size P0_ (.slice (some ⟨go, 0, none⟩) l0.length c0) x0_1 x5_1 oki [.int .i64 x1_1, .int .i64 (x0_1.getD x5_1.toNat z101).f1, ve] by rw [hw]; exact HP1.out.1); have n1_ := am (show Below w0.heap.size w0 w14 by rw [hw]; exact below_set HB.out HGB.out); have n2_ := am (Kept.of_grown (S := (fun k_ => P0_ k_)) hg HK.out (fun k_ e_ => .inl (by injection e_ with e_; rw [← e_]; exact HPG.out))); have n3_ := am (Kd.R_grown HRi.out hg (fun k_ hk_ e_ => (HOKI.out k_ hk_).2 (by injection e_))); clear HP1 HB HK HRi; have HHa := n0_; have HB := n1_; have HK := n2_; have HRi := n3_; clear n0_ n1_ n2_ n3_ hg hw hx0 hf0; have hx1 : w14.cell? ⟨go, (x5_1 : Int).toNat * 3 + 1, none⟩ = some (.int .i64 (x0_1.getD x5_1.toNat z101).f1) := (Kd.H_at HHa.out HP.out HQ.out).1 1 _ rfl; have hf1 : w14.frozen? ⟨go, (x5_1 : Int).toNat * 3 + 1, none⟩ = false := (Kd.H_at HHa.out HP.out HQ.out).2 1; have HP2 := am (show Kd.H k101 101 (w14.setCell ⟨go, (x5_1 : Int).toNat * 3 + 1, none⟩ (.int .i64 (wrap64 (x1_1 + 1)))) w0.heap.size P0_ (.slice (some ⟨go, 0, none⟩) l0.length c0) x0_1 x5_1 oki [.int .i64 x1_1, .int .i64 (wrap64 (x1_1 + 1)), ve] ∧ w14.grownBy (w14.setCell ⟨go, (x5_1 : Int).toNat * 3 + 1, none⟩ (.int .i64 (wrap64 (x1_1 + 1)))) (some go) from Kd.H_seg HHa.out HP.out HQ.out (seg := [.int .i64 (wrap64 (x1_1 + 1))]) (j := 1) (by show 1 + 1 ≤ 3; omega) (by intro q hq; rw [List.mem_singleton.mp hq]; rfl)))
 | ((with_reducible refine gate_store (t := 2) (p := 23) rfl ?_); refine store_event (t := 2) (p := 23) (v := ?vo_2) (w1 := (w14.setCell ⟨go, (x5_1 : Int).toNat * 3 + 1, none⟩ (.int .i64 (wrap64 (x1_1 + 1))))) ?hg ?ho ?hn ?hr ?_; (case ho => rfl); (case hg => rfl); (case hn => rfl); (case hr => first | (go_simp; done) | (go_simp; rfl)); intro w15 hw; have hg : w14.grownBy w15 (some go) := (by rw [hw]; exact HP2.out.2); have n0_ := am (show Kd.H k101 101 w15 w0.heap.size P0_ (.slice (some ⟨go, 0, none⟩) l0.length c0) x0_1 x5_1 oki [.int .i64 x1_1, .int .i64 (wrap64 (x1_1 + 1)), ve] by rw [hw]; exact HP2.out.1); have n1_ := am (show Below w0.heap.size w0 w15 by rw [hw]; exact below_set HB.out HGB.out); have n2_ := am (Kept.of_grown (S := (fun k_ => P0_ k_)) hg HK.out (fun k_ e_ => .inl (by injection e_ with e_; rw [← e_]; exact HPG.out))); have n3_ := am (Kd.R_grown HRi.out hg (fun k_ hk_ e_ => (HOKI.out k_ hk_).2 (by injection e_))); clear HP2 HHa HB HK HRi; have HHa := n0_; have HB := n1_; have HK := n2_; have HRi := n3_; clear n0_ n1_ n2_ n3_ hg hw hx1 hf1; have hx2 : w15.cell? ⟨go, (x5_1 : Int).toNat * 3 + 2, none⟩ = some ve := (Kd.H_at HHa.out HP.out HQ.out).1 2 _ rfl; have hf2 : w15.frozen? ⟨go, (x5_1 : Int).toNat * 3 + 2, none⟩ = false := (Kd.H_at HHa.out HP.out HQ.out).2 2)
 | ((with_reducible refine gate_callee (f := 108) rfl ?_); refine goesL_ (some 32) rfl rfl Try.func108 (by kernel_rfl) rfl #[ve, .int .i64 (wrap64 (wrap64 (x1_1 + 1) + 1))] rfl (by (try simp only [List.map_toArray, List.map_cons, List.map_nil]); first | done | rfl) ?_; (with_reducible refine (laws_markCellS.calls k1 oki ve (x0_1.getD x5_1.toNat z101).f2 (wrap64 (wrap64 (x1_1 + 1) + 1)) t1 t2 w0 _ HB.out HRi.out A1'.out).mono ?_); rintro e w2 ⟨rfl, hy0, hb, hkp⟩; refine ⟨_, rfl, ?_⟩; have HS := am (Kd.H_back (Kd.H_kept HHa.out hkp (fun k_ _ hn hs => hn hs)) (x' := (⟨x1_1, wrap64 (x1_1 + 1), t2⟩ : S101)) (k101_mkM _ _ _ (⟨x1_1, wrap64 (x1_1 + 1), t2⟩ : S101) (Kd.R_reok rfl hy0 (fun k_ e_ => HRi.out.1 k_ e_))) (fun k_ hk => hk)); have HK2 := am (HK.out.then_ hkp (fun k_ hs => .inl (HOKI.out k_ hs).1)); have HB2 := am hb; clear hy0 hb hkp))
go_roundg k1
case measure => have := HK1.out; omega
case rel => exact ⟨x0_1.set x5_1.toNat ⟨x1_1, wrap64 (x1_1 + 1), t2⟩, t1, wrap64 (x5_1 + 1), rfl, (by first | rfl | (simp; done) | (simp [*]; done)), H', ⟨by have := HK1.out; omega⟩, HS, HK2, HB2⟩
)
)
·(
rw [if_neg c1] at H
simp only [Option.some.injEq, Prod.mk.injEq] at H
obtain ⟨rfl, rfl⟩ := H
have d1 : decide (x5_1 < (l0.length : Int)) = false := decide_eq_false (by omega)
go_wp2
go_ret
exact ⟨rfl, by have h_ := HO.out; rw [HLN.out] at h_; exact h_, HB.out, HK.out⟩
)
)
)
)

end Go.Proofs.Ytalopdcephohgaa.RC
