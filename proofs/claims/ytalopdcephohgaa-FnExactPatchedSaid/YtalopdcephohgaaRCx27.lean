/- Contracts of Go functions that laws of this seat reach: each Lean function answers as its Go function does. No condition. Written by wip/tools/inj.py, over the kit's print. -/
import Derived.Test.YtalopdcephohgaaRCx0
import Derived.Test.YtalopdcephohgaaRCx9
import Derived.Test.YtalopdcephohgaaRCx23
import Derived.Test.YtalopdcephohgaaRCx24
import Derived.Test.YtalopdcephohgaaRCx26
namespace Go.Proofs.Ytalopdcephohgaa.RC
open Go.RowKit Go.Proofs.YtalopdcephohgaaW.PrintWords Go.Proofs.YtalopdcephohgaaW.PrintLast Go.Proofs.YtalopdcephohgaaW.PrintMore
attribute [local go_sem] max2_int min2_int max_two min_two max_three min_three max_four min_four   -- for this text's walks alone
set_option linter.unusedVariables false
set_option linter.unusedSimpArgs false

/-! ### impl_Grid_resized: function 72 -/
section
variable {P : Program} {ops : Array Oper} {rest : List Oper} {o : Oper} {a : Act} {Q : Exit → Act → World → Prop} {Kc : Act → World → Prop} {α : Type}
open Classical in
theorem Sx_join {d : Kd α} {e : Nat} {W : World} {base m c : Nat} {A : Option Addr} {v : Value} {xs ys : List α} {ok okp : Nat → Prop} (HO : Kd.S d e W base (fun k => ok k ∧ ¬ okp k) v xs) (HY : Kd.S d e W base okp (.slice A m c) ys) :
  ∃ f, (Kd.tag f d).R e W base ok v xs.zipIdx ∧ ReadsRow ((Kd.tag f d).M W base okp) d.sz W A m (ys.zipIdx xs.length) := by
 obtain ⟨f2, hY⟩ := HY
 obtain ⟨f1, hO⟩ := HO
 obtain ⟨A', c', e', _, hrd⟩ := OwnRow.reads hY.2
 injection e' with ea en ec
 subst ea
 have hm : ys.length = m := by rw [en, List.length_zipIdx]
 refine ⟨fun k => if okp k then f2 k + xs.length else f1 k, Kd.R_mono (Kd.R_tag hO (fun k hk _ => if_neg hk.2)) (fun _ hk => hk.1), ?_⟩
 obtain ⟨h1, h2, h3⟩ := hrd
 rw [List.length_zipIdx] at h2 h3
 refine ⟨by rw [List.length_zipIdx]; exact hm, by omega, fun h0 => ?_⟩
 obtain ⟨ad, e, hc⟩ := h3 (by omega)
 refine ⟨ad, e, fun j p hj => ?_⟩
 rw [List.getElem?_zipIdx] at hj
 obtain ⟨y, hy, rfl⟩ := Option.map_eq_some_iff.1 hj
 obtain ⟨cs, hl, hM, hcc⟩ := hc j (y, j) (Kd.zip_at hy)
 refine ⟨cs, hl, d.M_mono (fun k hk => ?_) hM, hcc⟩
 refine ⟨hk.1.1, ?_⟩
 show (if okp k then f2 k + xs.length else f1 k) = xs.length + j
 rw [if_pos hk.1.1, hk.2]
 exact Nat.add_comm _ _
theorem Kd.S_append_rows (d : Kd α) {w0 W : World} (base : Nat) (hgd : o.guard = none) (s x : Operand) (t e : TypeId) (z : Value) (bytes : Nat)
  (ho : o.op = .call { callee := .builtin .append, args := #[s, x], argTypes := #[t, t] })
  (ht : P.underlying t = some (.slice e)) (hinfo : (P.info? e).map (fun i => (i.zero, i.size, i.bytes)) = some (some z, d.sz, bytes)) (hz : z.cells.size = d.sz) (hs0 : 0 < d.sz) (hb0 : 0 < bytes)
  (v : Value) (xs ys : List α) (A : Option Addr) (m c : Nat) (ok okp : Nat → Prop) (hs : a.eval s = v) (hx : a.eval x = .slice A m c)
  (HO : Kd.S d e W base (fun k => ok k ∧ ¬ okp k) v xs) (HY : Kd.S d e W base okp (.slice A m c) ys) (hokp : ∀ k, okp k → ok k ∧ some k ≠ v.ownBlock) (hfresh : ∀ k, W.heap.size ≤ k → ok k)
  (HB : Below base w0 W) (hbase : base ≤ W.heap.size) (hl : (xs.length + m) * bytes ≤ 140737488355328)
  (h : ∀ v1 w1, Kd.S d e w1 base ok v1 (xs ++ ys) → Below base w0 w1 → W.grownBy w1 v.ownBlock → (v1.ownBlock = v.ownBlock ∨ ∃ b, v1.ownBlock = some b ∧ W.heap.size ≤ b) → wpList P ops Q rest (a.put o.dst v1) w1) :
  wpList P ops Q (o :: rest) a W := by
 obtain ⟨f, h1, h2⟩ := Sx_join HO HY
 refine Kd.R_append_rows (Kd.tag f d) base hgd s x t e z bytes ho ht hinfo hz hs0 hb0 v xs.zipIdx (ys.zipIdx xs.length) A m c ok okp hs hx h1 h2 (fun _ _ hk => hk) hokp hfresh HB hbase (by rw [List.length_zipIdx]; exact hl) ?_
 intro v1 w1 hr
 rw [show xs.zipIdx ++ ys.zipIdx xs.length = (xs ++ ys).zipIdx by rw [List.zipIdx_append]; simp] at hr
 exact h v1 w1 ⟨f, hr⟩
theorem Kd.S_append_rows_step (d : Kd α) {w0 W : World} (base : Nat) (hw : Region.wanted o (yielded ops a.tmps) = true) (s x : Operand) (t e : TypeId) (z : Value) (bytes : Nat)
  (ho : o.op = .call { callee := .builtin .append, args := #[s, x], argTypes := #[t, t] })
  (ht : P.underlying t = some (.slice e)) (hinfo : (P.info? e).map (fun i => (i.zero, i.size, i.bytes)) = some (some z, d.sz, bytes)) (hz : z.cells.size = d.sz) (hs0 : 0 < d.sz) (hb0 : 0 < bytes)
  (v : Value) (xs ys : List α) (A : Option Addr) (m c : Nat) (ok okp : Nat → Prop) (hs : a.eval s = v) (hx : a.eval x = .slice A m c)
  (HO : Kd.S d e W base (fun k => ok k ∧ ¬ okp k) v xs) (HY : Kd.S d e W base okp (.slice A m c) ys) (hokp : ∀ k, okp k → ok k ∧ some k ≠ v.ownBlock) (hfresh : ∀ k, W.heap.size ≤ k → ok k)
  (HB : Below base w0 W) (hbase : base ≤ W.heap.size) (hl : (xs.length + m) * bytes ≤ 140737488355328)
  (h : ∀ v1 w1, Kd.S d e w1 base ok v1 (xs ++ ys) → Below base w0 w1 → W.grownBy w1 v.ownBlock → (v1.ownBlock = v.ownBlock ∨ ∃ b, v1.ownBlock = some b ∧ W.heap.size ≤ b) → Kc (a.put o.dst v1) w1) :
  if Region.wanted o (yielded ops a.tmps) = true then Oper.wp P o a W Kc Q else Kc (a.put o.dst undef) W := by
 obtain ⟨f, h1, h2⟩ := Sx_join HO HY
 refine Kd.R_append_rows_step (Kd.tag f d) base hw s x t e z bytes ho ht hinfo hz hs0 hb0 v xs.zipIdx (ys.zipIdx xs.length) A m c ok okp hs hx h1 h2 (fun _ _ hk => hk) hokp hfresh HB hbase (by rw [List.length_zipIdx]; exact hl) ?_
 intro v1 w1 hr
 rw [show xs.zipIdx ++ ys.zipIdx xs.length = (xs ++ ys).zipIdx by rw [List.zipIdx_append]; simp] at hr
 exact h v1 w1 ⟨f, hr⟩
end
mutual
def impl_Grid_resized.l0 : Nat → Int → Int → List (List (S98)) → Int → Int → Int → List (List (S98)) → Int → List (List (S98)) → Option (Int × (List (List (S98))))
 | 0, _, _, _, _, _, _, _, _, _ => none
 | k + 1, x1, x2, x21, x22, x23, x450000, x450001, x452000, x452001 => if x23 < x22 then (if 0 ≤ x23 then (if x23 < (x21.length : Int) then ((impl_Cell_102.f (rd_L7 x21 x23)).bind fun t463 => ((impl_part.f k t463 x1).bind fun t466 => (if 0 ≤ (mn x1 x450000) then (if (mn x1 x450000) ≤ (t463.length : Int) then (impl_Grid_resized.l1 k x1 x2 (t466.take ((mn x1 x450000) : Int).toNat) x21 x22 x23 x450000 x450001 x452000 x452001) else (none)) else (none)))) else (none)) else (none)) else ((impl_Grid_blanks.f k x452000 x452001 (wrap64 (x2 - (x452001.length : Int))) 0 0 false false false).bind fun t456 => (if x452001.length + t456.length < 5864062014805 then (some (x452000, (x452001 ++ t456))) else (none)))
def impl_Grid_resized.l1 : Nat → Int → Int → List (S98) → List (List (S98)) → Int → Int → Int → List (List (S98)) → Int → List (List (S98)) → Option (Int × (List (List (S98))))
 | 0, _, _, _, _, _, _, _, _, _, _ => none
 | k + 1, x1, x2, x10, x21, x22, x23, x450000, x450001, x452000, x452001 => if (x10.length : Int) < x1 then ((impl_blank.f 0 0 false false false).bind fun bt470 => (if x10.length < 3518437208883 then (impl_Grid_resized.l1 k x1 x2 (x10 ++ [(⟨bt470.1, (⟨bt470.2.1, bt470.2.2.1, bt470.2.2.2.1, bt470.2.2.2.2.1, bt470.2.2.2.2.2.1⟩ : S96), bt470.2.2.2.2.2.2⟩ : S98)]) x21 x22 x23 x450000 x450001 x452000 x452001) else (none))) else (if x452001.length < 5864062014805 then (impl_Grid_resized.l0 k x1 x2 x21 x22 (wrap64 (x23 + 1)) x450000 x450001 x452000 (x452001 ++ [x10])) else (none))
end
def impl_Grid_resized.f (k : Nat) (a0_0 : Int) (l0_1 : List (List (S98))) (a1 : Int) (a2 : Int) : Option (Int × (List (List (S98)))) := if 0 ≤ (mx 0 (wrap64 ((l0_1.length : Int) - a2))) then (if (mx 0 (wrap64 ((l0_1.length : Int) - a2))) ≤ (l0_1.length : Int) then ((some (l0_1.drop ((mx 0 (wrap64 ((l0_1.length : Int) - a2))) : Int).toNat : List (List (S98)))).bind fun y452 => (impl_Grid_resized.l0 k a1 a2 y452 (y452.length : Int) 0 a0_0 l0_1 a1 ([] : List (List (S98))))) else (none)) else (none)
theorem impl_Grid_resized.mono_l : ∀ k, (∀ y0 y1 y2 y3 y4 y5 y6 y7 y8, LeO (impl_Grid_resized.l0 k y0 y1 y2 y3 y4 y5 y6 y7 y8) (impl_Grid_resized.l0 (k + 1) y0 y1 y2 y3 y4 y5 y6 y7 y8)) ∧ (∀ y0 y1 y2 y3 y4 y5 y6 y7 y8 y9, LeO (impl_Grid_resized.l1 k y0 y1 y2 y3 y4 y5 y6 y7 y8 y9) (impl_Grid_resized.l1 (k + 1) y0 y1 y2 y3 y4 y5 y6 y7 y8 y9))
 | 0 => ⟨fun _ _ _ _ _ _ _ _ _ r h => by simp [impl_Grid_resized.l0] at h, fun _ _ _ _ _ _ _ _ _ _ r h => by simp [impl_Grid_resized.l1] at h⟩
 | k + 1 => by
  obtain ⟨ih0, ih1⟩ := impl_Grid_resized.mono_l k
  refine ⟨?_, ?_⟩
  ·intro y0 y1 y2 y3 y4 y5 y6 y7 y8
   unfold impl_Grid_resized.l0
   repeat' first
   | (with_reducible exact ih0 _ _ _ _ _ _ _ _ _)
   | (with_reducible exact ih1 _ _ _ _ _ _ _ _ _ _)
   | (with_reducible exact impl_Grid_blanks.mono _ _ _ _ _ _ _ _ _)
   | (with_reducible exact impl_part.mono _ _ _)
   | (with_reducible exact LeO.refl _)
   | (with_reducible exact LeO.none _)
   | (with_reducible refine LeO.ite ?_ ?_)
   | (with_reducible refine LeO.bind ?_ (fun _ => ?_))
  ·intro y0 y1 y2 y3 y4 y5 y6 y7 y8 y9
   unfold impl_Grid_resized.l1
   repeat' first
   | (with_reducible exact ih0 _ _ _ _ _ _ _ _ _)
   | (with_reducible exact ih1 _ _ _ _ _ _ _ _ _ _)
   | (with_reducible exact impl_Grid_blanks.mono _ _ _ _ _ _ _ _ _)
   | (with_reducible exact impl_part.mono _ _ _)
   | (with_reducible exact LeO.refl _)
   | (with_reducible exact LeO.none _)
   | (with_reducible refine LeO.ite ?_ ?_)
   | (with_reducible refine LeO.bind ?_ (fun _ => ?_))
theorem impl_Grid_resized.mono : ∀ a0 a1 a2 a3 k, LeO (impl_Grid_resized.f k a0 a1 a2 a3) (impl_Grid_resized.f (k + 1) a0 a1 a2 a3) := by
 intro a0 a1 a2 a3 k
 obtain ⟨ih0, ih1⟩ := impl_Grid_resized.mono_l k
 unfold impl_Grid_resized.f
 repeat' first
   | (with_reducible exact ih0 _ _ _ _ _ _ _ _ _)
   | (with_reducible exact ih1 _ _ _ _ _ _ _ _ _ _)
   | (with_reducible exact impl_Grid_blanks.mono _ _ _ _ _ _ _ _ _)
   | (with_reducible exact impl_part.mono _ _ _)
   | (with_reducible exact LeO.refl _)
   | (with_reducible exact LeO.none _)
   | (with_reducible refine LeO.ite ?_ ?_)
   | (with_reducible refine LeO.bind ?_ (fun _ => ?_))
def impl_Grid_resized.T12 : Bool × List (List Nat × List Nat) := (true, [([], []), ([0], [0]), ([], []), ([], []), ([], []), ([4], [4]), ([5], [5]), ([3, 6], [3, 6]), ([], []), ([2, 7, 8], [2, 7, 8]), ([1, 9, 9], [1, 9]), ([0, 1, 2, 3, 4, 5, 6, 7, 8, 9, 10], []), ([11, 10, 10, 0, 1, 2, 3, 4, 5, 6, 7, 8, 9, 10], [10, 11])])
def impl_Grid_resized.B12 : List Nat := [0, 1, 0, 0, 0, 16, 48, 120, 0, 508, 1023, 2047, 4095]
theorem impl_Grid_resized.tab12 : rtab .any (opsOf Try.f72 12) = impl_Grid_resized.T12 := by kernel_rfl
theorem impl_Grid_resized.bits12 : waitsOk impl_Grid_resized.T12.2 impl_Grid_resized.B12 = true := by kernel_rfl
set_option maxHeartbeats 8000000 in
set_option maxRecDepth 100000 in
theorem impl_Grid_resized.calls (k : Nat) (a0_0 : Int) (A0_1 : Option Addr) (c0_1 : Nat) (l0_1 : List (List (S98))) (a1 : Int) (a2 : Int) (r1 : Int) (r2 : List (List (S98))) (w : World) (hr0_1 : Kd.C (Kd.slice 98 k98) w A0_1 l0_1.length l0_1) (hc0_1 : l0_1.length ≤ c0_1) (h : impl_Grid_resized.f k a0_0 l0_1 a1 a2 = some (r1, r2)) :
  Calls Try.prog 72 #[.agg #[.int .i64 a0_0, .slice A0_1 l0_1.length c0_1], .int .i64 a1, .int .i64 a2] w fun e w' => ∃ v1_ : Value, e = .returned (.agg #[.int .i64 r1, v1_]) ∧ Kd.S (Kd.slice 98 k98) 99 w' w.heap.size (fun _ => True) v1_ r2 ∧ Below w.heap.size w w' := by
 (
have hu58 := Try.underlying58
have hu96 := Try.underlying96
have HR0_1 := am hr0_1
have HC0_1 := am hc0_1
clear hr0_1 hc0_1
have HB := am (Below.refl w.heap.size w)
have H := h
unfold impl_Grid_resized.f at H
clear h
obtain ⟨ji4, hji4⟩ : ∃ j_ : Int, (mx 0 (wrap64 ((l0_1.length : Int) - a2))) = j_ := ⟨_, rfl⟩
replace H : (if 0 ≤ (ji4) then (if (ji4) ≤ (l0_1.length : Int) then ((some (l0_1.drop ((ji4) : Int).toNat : List (List (S98)))).bind fun y452 => (impl_Grid_resized.l0 k a1 a2 y452 (y452.length : Int) 0 a0_0 l0_1 a1 ([] : List (List (S98))))) else (none)) else (none)) = some (r1, r2) := by first | (rw [hji4] at H; exact H) | (simp only [hji4] at H ⊢; exact H)
(try (have hji4l : 0 ≤ ji4 := by (rw [← hji4]; unfold mx; (repeat' split) <;> omega)))
(try (have hji4m : 0 ≤ ji4 := by omega))
have hji4_ : (if 0 < (wrap64 ((l0_1.length : Int) - a2)) then (wrap64 ((l0_1.length : Int) - a2)) else 0) = ji4 := hji4
refine em_ (p := 0 ≤ (ji4)) (fun c5 => ?g1p) (fun c5 => ?g1n)
case' g1p => (
rw [if_pos c5] at H
have c5b0 := eq_true c5
have c5b1 : decide (0 ≤ (ji4)) = true := decide_eq_true c5
clear c5
refine em_ (p := (ji4) ≤ (l0_1.length : Int)) (fun c6 => ?g0p) (fun c6 => ?g0n)
case' g0p => (
rw [if_pos c6] at H
have c6b0 := eq_true c6
have c6b1 : decide ((ji4) ≤ (l0_1.length : Int)) = true := decide_eq_true c6
clear c6
obtain ⟨y452, hy452⟩ : ∃ y_ : List (List (S98)), y_ = (l0_1.drop ((ji4) : Int).toNat) := ⟨_, rfl⟩
replace H : (impl_Grid_resized.l0 k a1 a2 y452 (y452.length : Int) 0 a0_0 l0_1 a1 ([] : List (List (S98)))) = some (r1, r2) := by first | (rw [hy452]; with_reducible exact H) | (rw [hy452]; exact H) | exact H
have Ny452 := am hy452
clear hy452
have H' := am H
clear H
have lf1_ := trivial
)
case g0n => (
rw [if_neg c6] at H
exact absurd H (by simp)
)
)
case g1n => (
rw [if_neg c5] at H
exact absurd H (by simp)
)
all_goals (
go_enter Try.func72, Try.ntmps72
go_wp2_with (first | ((with_reducible refine gate_dst (N := 3) rfl ?_); refine box_event ?hg (N := 3) ?hd (cs := #[.int .i64 a0_0, .slice A0_1 l0_1.length c0_1]) (t := 58) ?hr ?_; (case hd => rfl); (case hg => rfl); (case hr => first | (go_simp; done) | (go_simp; rfl)); intro gb449 hg w7 hbox hb; have BK449 := am (hbox); have GW449 := am (gw hg (rb HB)); have GE449 := GW449; replace HB := am (below_step (rb HB) hb); clear hb hbox hg) | ((with_reducible refine gate_dst (N := 6) rfl ?_); refine box_event ?hg (N := 6) ?hd (cs := #[.int .i64 0, .slice none 0 0]) (t := 58) ?hr ?_; (case hd => rfl); (case hg => rfl); (case hr => first | (go_simp; done) | (go_simp; rfl)); intro gb450 hg w8 hbox hb; have BK450 := am (hbox); have GW450 := am (gw hg (rb1 HB GE449)); have GE450 := GW450; replace HB := am (below_step (rb1 HB GE449) hb); have NB449_450 := am (nl hg (rk BK449)); have NB450_449 := am (ng hg (rk BK449)); replace BK449 := am (blk_below (rk BK449) hb); clear hb hbox hg) | ((with_reducible refine gate_dst (N := 7) rfl ?_); refine box_event ?hg (N := 7) ?hd (cs := #[.int .i64 0, .slice none 0 0]) (t := 58) ?hr ?_; (case hd => rfl); (case hg => rfl); (case hr => first | (go_simp; done) | (go_simp; rfl)); intro gb451 hg w9 hbox hb; have BK451 := am (hbox); have GW451 := am (gw hg (rb2 HB GE449 GE450)); have GE451 := GW451; replace HB := am (below_step (rb2 HB GE449 GE450) hb); have NB449_451 := am (nl hg (rk BK449)); have NB451_449 := am (ng hg (rk BK449)); replace BK449 := am (blk_below (rk BK449) hb); have NB450_451 := am (nl hg (rk BK450)); have NB451_450 := am (ng hg (rk BK450)); replace BK450 := am (blk_below (rk BK450) hb); clear hb hbox hg; have hnb10 := NB451_449.out; have hnc10 := NB449_451.out; have hnb11 := NB451_450.out; have hnc11 := NB450_451.out; have hcz12_0 : w9.cell? ⟨gb451, 0, none⟩ = some (.int .i64 0) := (blk_cell BK451.out 0).trans rfl; have hcz12_1 : w9.cell? ⟨gb451, 1, none⟩ = some (.slice none 0 0) := (blk_cell BK451.out 1).trans rfl; have hfz12_0 := blk_frozen BK451.out 0; have hfz12_1 := blk_frozen BK451.out 1) | ((with_reducible refine gate_store (t := 58) (p := 7) rfl ?_); refine store_event (t := 58) (p := 7) (v := ?vo_w13) (w1 := ((w9.setCell ⟨gb451, 0, none⟩ (.int .i64 a1)).setCell ⟨gb451, 1, none⟩ (.slice none 0 0))) ?hg ?ho ?hn ?hr ?_; (case ho => rfl); (case hg => rfl); (case hn => rfl); (case hr => first | (go_simp; done) | (go_simp; rfl)); intro w13 hw; have n0_ : Aside0 (w13.heap[gb449]? = some (.cells #[.int .i64 a0_0, .slice A0_1 l0_1.length c0_1] 58 (0, 0))) := ⟨(by rw [hw]; exact (rf2 NB449_451 BK449))⟩; have n1_ : Aside0 (w13.heap[gb450]? = some (.cells #[.int .i64 0, .slice none 0 0] 58 (0, 0))) := ⟨(by rw [hw]; exact (rf2 NB450_451 BK450))⟩; have n2_ : Aside0 (w13.heap[gb451]? = some (.cells #[.int .i64 a1, .slice none 0 0] 58 (0, 0))) := ⟨(by rw [hw]; exact (rp_0_1 BK451))⟩; have n3_ : Aside0 (Below w.heap.size w w13) := ⟨(by rw [hw]; exact (rb3 HB GE449 GE450 GE451))⟩; clear hw; clear BK449; clear BK450; clear BK451; clear HB; have BK449 := n0_; have BK450 := n1_; have BK451 := n2_; have HB := n3_; clear n0_ n1_ n2_ n3_; have hnb14 := NB449_450.out; have hnc14 := NB450_449.out; have hcz15_0 : w13.cell? ⟨gb449, 0, none⟩ = some (.int .i64 a0_0) := (blk_cell BK449.out 0).trans rfl; have hcz15_1 : w13.cell? ⟨gb449, 1, none⟩ = some (.slice A0_1 l0_1.length c0_1) := (blk_cell BK449.out 1).trans rfl; have hfz15_0 := blk_frozen BK449.out 0; have hfz15_1 := blk_frozen BK449.out 1; have q16 : ((ji4) : Int) ≤ ((l0_1.length : Int) : Int) := dt_; obtain ⟨i016, hi016, _, hsz16, _⟩ := info_parts info99; have hroom16 : l0_1.length ≤ c0_1 := HC0_1.out; have hC16 : Kd.C (Kd.slice 98 k98) _ A0_1 l0_1.length l0_1 := HR0_1.out; have q016 : (0 : Int) ≤ ((ji4) : Int) := dt_; have hcut16 := cut_from (P := Try.prog) 56 99 .i64 Try.underlying56 hi016 1 hsz16 A0_1 l0_1.length c0_1 (ji4) q016 q16; have hr16 := Kd.C_drop (m := ((ji4) : Int).toNat) (c := c0_1) hC16 (by omega) hroom16; obtain ⟨A16, hA16⟩ : ∃ A1, A1 = (if c0_1 = ((ji4) : Int).toNat then A0_1 else (A0_1 : Option Addr).map (·.add (((ji4) : Int).toNat * 1))) := ⟨_, rfl⟩; obtain ⟨c16, hc16⟩ : ∃ c1, c1 = c0_1 - ((ji4) : Int).toNat := ⟨_, rfl⟩; have hy16 : y452.length = l0_1.length - ((ji4) : Int).toNat := (by rw [Ny452.out, List.length_drop] <;> omega); rw [show (l0_1).drop ((ji4) : Int).toNat = y452 from Ny452.out.symm] at hr16; replace hr16 : Kd.C (Kd.slice 98 k98) _ A16 y452.length y452 := (by rw [hA16]; exact hr16); rw [← hy16, ← hA16, ← hc16] at hcut16; have HR455 := am hr16; have HC455 := am (show y452.length ≤ c16 from by rw [hy16, hc16]; exact Nat.sub_le_sub_right hroom16 _); clear hr16 hC16 hroom16 hi016 hsz16 hc16; have KY16 := am hy16; have KA16 := am hA16; clear hy16 hA16; replace q16 := eq_true q16))
go_loopg [23] k (fun kq v23 w' => ∃ (x23_1 : Int) (x452001_1 : List (List (S98))) (u452001 : Value), v23 = .int .i64 x23_1 ∧ Aside0 (impl_Grid_resized.l0 kq a1 a2 y452 (y452.length : Int) x23_1 a0_0 l0_1 a1 x452001_1 = some (r1, r2)) ∧ Aside0 (kq ≤ k) ∧ Aside0 (Kd.S (Kd.slice 98 k98) 99 w' w.heap.size (fun _ => True) u452001 x452001_1) ∧ Aside0 (w'.heap[gb449]? = some (.cells #[.int .i64 a0_0, (.slice A0_1 l0_1.length c0_1)] 58 (0, 0))) ∧ Aside0 (w'.heap[gb450]? = some (.cells #[.int .i64 0, (.slice none 0 0)] 58 (0, 0))) ∧ Aside0 (w'.heap[gb451]? = some (.cells #[.int .i64 a1, u452001] 58 (0, 0))) ∧ Aside0 (Below w.heap.size w w'))
case atStart => exact ⟨(0), (([] : List (List (S98)))), (.slice none 0 0), (by first | rfl | (simp; done) | (simp [*]; done)), H', ⟨Nat.le_refl _⟩, ⟨by first | exact Kd.S_nil _ _ _ _ _ | exact Kd.N_nil _ _ _ _ _ | exact Kd.V_nil _ _ _ _ _ | exact Kd.Q_nil _ _ _ _ _ | exact Kd.R_nil _ _ _ _ _⟩, ⟨rk BK449⟩, ⟨rk BK450⟩, ⟨rk BK451⟩, ⟨rb3 HB GE449 GE450 GE451⟩⟩
case round => (
clear H'
try clear c1
try clear q1
try clear p2
try clear c5
try clear c5b0
try clear c5b1
try clear c6
try clear c6b0
try clear c6b1
try clear p6
try clear c7
try clear c10
try clear c11
try clear c14
try clear c16
try clear q16
try clear hcz12_0
try clear hcz12_1
try clear hcz15_0
try clear hcz15_1
try clear hfz12_0
try clear hfz12_1
try clear hfz15_0
try clear hfz15_1
try clear q016
try clear q16
obtain ⟨x23_1, x452001_1, u452001, rfl, HA, HK1, HO_452001, BK449, BK450, BK451, HB⟩ := hrel
cases gk with
| zero => exact absurd HA.out (by simp [impl_Grid_resized.l0])
| succ k1 => (
have H := HA.out
clear HA
simp only [impl_Grid_resized.l0] at H
by_cases c17 : x23_1 < (y452.length : Int)
·(
rw [if_pos c17] at H
have c17b0 : decide (x23_1 < (y452.length : Int)) = true := decide_eq_true c17
clear c17
refine em_ (p := 0 ≤ x23_1) (fun c18 => ?g5p) (fun c18 => ?g5n)
case' g5p => (
rw [if_pos c18] at H
have c18b0 : decide (0 ≤ x23_1) = true := decide_eq_true c18
clear c18
refine em_ (p := x23_1 < (y452.length : Int)) (fun c19 => ?g4p) (fun c19 => ?g4n)
case' g4p => (
rw [if_pos c19] at H
have c19b0 : decide (x23_1 < (y452.length : Int)) = true := decide_eq_true c19
clear c19
replace H := Option.bind_eq_some_iff.mp H
obtain ⟨t463, A200, H⟩ := H
(try dsimp only at H)
have A20 := am A200
clear A200
replace H := Option.bind_eq_some_iff.mp H
obtain ⟨t466, A210, H⟩ := H
(try dsimp only at H)
have A21 := am A210
clear A210
obtain ⟨ji22, hji22⟩ : ∃ j_ : Int, (mn a1 a0_0) = j_ := ⟨_, rfl⟩
replace H : (if 0 ≤ (ji22) then (if (ji22) ≤ (t463.length : Int) then (impl_Grid_resized.l1 k1 a1 a2 (t466.take ((ji22) : Int).toNat) y452 (y452.length : Int) x23_1 a0_0 l0_1 a1 x452001_1) else (none)) else (none)) = some (r1, r2) := by first | (rw [hji22] at H; exact H) | (simp only [hji22] at H ⊢; exact H)
(try rw [hji22] at A20)
(try rw [hji22] at A21)
have hji22_ : (if a0_0 < a1 then a0_0 else a1) = ji22 := hji22
refine em_ (p := 0 ≤ (ji22)) (fun c23 => ?g3p) (fun c23 => ?g3n)
case' g3p => (
rw [if_pos c23] at H
have c23b0 := eq_true c23
have c23b1 : decide (0 ≤ (ji22)) = true := decide_eq_true c23
clear c23
refine em_ (p := (ji22) ≤ (t463.length : Int)) (fun c24 => ?g2p) (fun c24 => ?g2n)
case' g2p => (
rw [if_pos c24] at H
have c24b0 := eq_true c24
have c24b1 : decide ((ji22) ≤ (t463.length : Int)) = true := decide_eq_true c24
clear c24
obtain ⟨y467, hy467⟩ : ∃ y_ : List (S98), y_ = (t466.take ((ji22) : Int).toNat) := ⟨_, rfl⟩
replace H : (impl_Grid_resized.l1 k1 a1 a2 y467 y452 (y452.length : Int) x23_1 a0_0 l0_1 a1 x452001_1) = some (r1, r2) := by first | (rw [hy467]; with_reducible exact H) | (rw [hy467]; exact H) | exact H
have Ny467 := am hy467
clear hy467
have H' := am H
clear H
have lf2_ := trivial
)
case g2n => (
rw [if_neg c24] at H
exact absurd H (by simp)
)
)
case g3n => (
rw [if_neg c23] at H
exact absurd H (by simp)
)
)
case g4n => (
rw [if_neg c19] at H
exact absurd H (by simp)
)
)
case g5n => (
rw [if_neg c18] at H
exact absurd H (by simp)
)
all_goals (
have p462 : 0 ≤ (x23_1 : Int) := dt_
have q462 : x23_1 < (y452.length : Int) := dt_
obtain ⟨ad462, A462_0, c462_0, e462, hx462_0, hl462_0, hi462_0⟩ := at_L7 HR455.out x23_1 p462 q462
cases e462
replace hx462_0 := mv HB.out hx462_0
have HR462_0 := am hi462_0
have HC462_0 := am hl462_0
clear hi462_0 hl462_0
replace p462 := eq_true p462
replace q462 := eq_true q462
go_wp2_with (first | ((with_reducible refine gate_callee (f := 102) rfl ?_); refine gl_ (some 28) Try.func102 #[.slice A462_0 (rd_L7 y452 x23_1).length c462_0] ?_; (with_reducible refine (impl_Cell_102.calls _ _ (rd_L7 y452 x23_1) t463 _ ?side1 ?side2 A20.out).mono ?_); (case side1 => exact rc ((Kd.C_below HR462_0.out HB.out))); (case side2 => exact HC462_0.out); rintro e w25 ⟨v464, rfl, ho0, hb⟩; refine ⟨_, rfl, ?_⟩; replace HO_452001 := am (Kd.S_elder' (rs HO_452001) (Kd.R_base ho0) hb); have HO465 := am (Kd.R_lower ho0 (below_size (rb3 HB GE449 GE450 GE451))); replace BK449 := am (blk_below (rk BK449) hb); replace BK450 := am (blk_below (rk BK450) hb); replace BK451 := am (blk_below (rk BK451) hb); replace HB := am (below_step (rb3 HB GE449 GE450 GE451) hb); (try clear hb); (try clear hb2); (try clear hk); (try clear hi); (try clear ho0); obtain ⟨Ao26, co26, eo26⟩ := Kd.R_slice HO465.out; subst eo26) | ((with_reducible refine gate_callee (f := 103) rfl ?_); refine gl_ (some 31) Try.func103 #[.slice Ao26 t463.length co26, .int .i64 a1] ?_; (with_reducible refine (impl_part.calls k1 (fun k_ => some k_ = (.slice Ao26 t463.length co26 : Value).ownBlock) (.slice Ao26 t463.length co26) t463 a1 t466 w _ ?side1 ?side2 A21.out).mono ?_); (case side1 => repeat (first | (with_reducible first | exact HB.out | apply b1 | apply b2 | apply b3 | refine below_set ?_ GE449.out | refine below_set ?_ GE450.out | refine below_set ?_ GE451.out) | exact HB.out)); (case side2 => exact Kd.R_tight rfl HO465.out); rintro e w27 ⟨rfl, hy0, hb, hkp⟩; refine ⟨_, rfl, ?_⟩; replace HO_452001 := am (Kd.S_mono (ok' := fun k_ => some k_ ≠ (.slice Ao26 t463.length co26 : Value).ownBlock) (Kd.S_keptB (HO_452001.out) hkp (fun k_ hk_ hs_ => (hk_.2) hs_)) (fun k_ hk_ => hk_.1.2)); replace BK449 := am (blk_kept (rk BK449) hkp (fun hs_ => (fun e_ => (Kd.R_ne HO465.out BK449.out (by decide)) e_) hs_)); replace BK450 := am (blk_kept (rk BK450) hkp (fun hs_ => (fun e_ => (Kd.R_ne HO465.out BK450.out (by decide)) e_) hs_)); replace BK451 := am (blk_kept (rk BK451) hkp (fun hs_ => (fun e_ => (Kd.R_ne HO465.out BK451.out (by decide)) e_) hs_)); replace HO465 := am (Kd.R_reok rfl hy0 (fun k_ e_ => HO465.out.1 k_ e_)); replace HB := am (hb); (try clear hb); (try clear hkp); (try clear hy0); have hnb28 := NB449_450.out; have hnc28 := NB450_449.out; have hnb29 := NB449_451.out; have hnc29 := NB451_449.out; have hcz30_0 : w27.cell? ⟨gb449, 0, none⟩ = some (.int .i64 a0_0) := (blk_cell BK449.out 0).trans rfl; have hcz30_1 : w27.cell? ⟨gb449, 1, none⟩ = some (.slice A0_1 l0_1.length c0_1) := (blk_cell BK449.out 1).trans rfl; have hfz30_0 := blk_frozen BK449.out 0; have hfz30_1 := blk_frozen BK449.out 1; have q31 : ((ji22) : Int) ≤ ((t463.length : Int) : Int) := dt_; obtain ⟨i031, hi031, _, hsz31, _⟩ := info_parts info98; have hcut31 := cut_to (P := Try.prog) 99 98 .i64 Try.underlying99 hi031 Ao26 t463.length co26 (ji22) dt_ q31 (Kd.R_reads' HO465.out).2.1; have hr31 := Kd.R_take (m := ((ji22) : Int).toNat) HO465.out (by have e_ := (Kd.R_reads' HO465.out).1; omega); have hy31 : y467.length = ((ji22) : Int).toNat := (by have e_ := (Kd.R_reads' HO465.out).1; rw [Ny467.out, List.length_take]; omega); rw [← Ny467.out] at hr31; rw [← hy31] at hr31 hcut31; clear hy31 hi031 hsz31 HO465; have HO469 := am hr31; clear hr31; replace q31 := eq_true q31; have n9_ := am (Kd.S_mono (ok' := fun k_ => some k_ ≠ (.slice Ao26 y467.length co26 : Value).ownBlock) HO_452001.out (fun k_ h_ e_ => h_ (e_.trans (by generalize (Ao26 : Option Addr) = q_; cases q_ <;> rfl)))); clear HO_452001; have HO_452001 := n9_; clear n9_))
go_loopg [10] k1 (fun kq v10 w' => ∃ (x10_2 : List (S98)), Aside0 (impl_Grid_resized.l1 kq a1 a2 x10_2 y452 (y452.length : Int) x23_1 a0_0 l0_1 a1 x452001_1 = some (r1, r2)) ∧ Aside0 (kq ≤ k1) ∧ Aside0 (Kd.R k98 98 w' w.heap.size (fun _ => True) v10 x10_2) ∧ Aside0 (Kd.S (Kd.slice 98 k98) 99 w' w.heap.size (fun k_ => some k_ ≠ (v10 : Value).ownBlock) u452001 x452001_1) ∧ Aside0 (w'.heap[gb449]? = some (.cells #[.int .i64 a0_0, (.slice A0_1 l0_1.length c0_1)] 58 (0, 0))) ∧ Aside0 (w'.heap[gb450]? = some (.cells #[.int .i64 0, (.slice none 0 0)] 58 (0, 0))) ∧ Aside0 (w'.heap[gb451]? = some (.cells #[.int .i64 a1, u452001] 58 (0, 0))) ∧ Aside0 (Below w.heap.size w w'))
case atStart => exact ⟨(y467), H', ⟨Nat.le_refl _⟩, ⟨rr HO469⟩, ⟨rs HO_452001⟩, ⟨rk BK449⟩, ⟨rk BK450⟩, ⟨rk BK451⟩, ⟨rb3 HB GE449 GE450 GE451⟩⟩
case round => (
clear H'
try clear c1
try clear q1
try clear c2
try clear p2
try clear q3
try clear c4
try clear p4
try clear q4
try clear hx4
try clear c5
try clear c5b0
try clear c5b1
try clear c6
try clear c6b0
try clear c6b1
try clear p6
try clear c7
try clear c10
try clear c11
try clear c14
try clear c16
try clear q16
try clear c17
try clear c17b0
try clear c18
try clear c18b0
try clear c19
try clear c19b0
try clear c23
try clear c23b0
try clear c23b1
try clear c24
try clear c24b0
try clear c24b1
try clear c28
try clear c29
try clear q31
try clear hcz12_0
try clear hcz12_1
try clear hcz15_0
try clear hcz15_1
try clear hcz30_0
try clear hcz30_1
try clear hfz12_0
try clear hfz12_1
try clear hfz15_0
try clear hfz15_1
try clear hfz30_0
try clear hfz30_1
try clear hx462_0
try clear p2
try clear p462
try clear p6
try clear q016
try clear q1
try clear q16
try clear q31
try clear q462
obtain ⟨x10_2, HA, HK2, HO_10, HO_452001, BK449, BK450, BK451, HB⟩ := hrel
cases gk with
| zero => exact absurd HA.out (by simp [impl_Grid_resized.l1])
| succ k2 => (
have H := HA.out
clear HA
simp only [impl_Grid_resized.l1] at H
by_cases c32 : (x10_2.length : Int) < a1
·(
rw [if_pos c32] at H
have c32b0 : decide ((x10_2.length : Int) < a1) = true := decide_eq_true c32
clear c32
replace H := Option.bind_eq_some_iff.mp H
obtain ⟨⟨t470, t471, t472, t473, t474, t475, t476⟩, A330, H⟩ := H
(try dsimp only at H)
have A33 := am A330
clear A330
refine em_ (p := x10_2.length < 3518437208883) (fun c34 => ?g7p) (fun c34 => ?g7n)
case' g7p => (
rw [if_pos c34] at H
have LMc34 := am c34
clear c34
obtain ⟨y477, hy477⟩ : ∃ y_ : List (S98), y_ = (x10_2 ++ [(⟨t470, (⟨t471, t472, t473, t474, t475⟩ : S96), t476⟩ : S98)]) := ⟨_, rfl⟩
replace H : (impl_Grid_resized.l1 k2 a1 a2 y477 y452 (y452.length : Int) x23_1 a0_0 l0_1 a1 x452001_1) = some (r1, r2) := by first | (rw [hy477]; with_reducible exact H) | (rw [hy477]; exact H) | exact H
have Ny477 := am hy477
clear hy477
have H' := am H
clear H
obtain ⟨Ao35, co35, eo35⟩ := Kd.R_slice HO_10.out
subst eo35
have lf4_ := trivial
)
case g7n => (
rw [if_neg c34] at H
exact absurd H (by simp)
)
all_goals (
go_wp2_with (first | ((with_reducible refine gate_callee (f := 104) rfl ?_); refine gl_ (some 44) Try.func104 #[.agg #[.int .i64 0, .int .i64 0, .bool false, .bool false, .bool false]] ?_; (with_reducible refine (impl_blank.calls 0 0 false false false t470 t471 t472 t473 t474 t475 t476 _ A33.out).mono ?_); rintro e w36 ⟨rfl, hb⟩; refine ⟨_, rfl, ?_⟩; replace HO_10 := am (Kd.R_below (rr HO_10) hb); replace HO_452001 := am (Kd.S_below (rs HO_452001) hb); replace BK449 := am (blk_below (rk BK449) hb); replace BK450 := am (blk_below (rk BK450) hb); replace BK451 := am (blk_below (rk BK451) hb); replace HB := am (below_step (rb3 HB GE449 GE450 GE451) hb); (try clear hb); (try clear hb2); (try clear hk); (try clear hi)) | ((with_reducible refine gate_builtin (b := .append) (xs := #[.tmp 42, .tmp 45]) rfl ?_); at_builtin; refine Kd.R_append k98 (w0 := w) w.heap.size rfl (.tmp 42) (.tmp 45) 99 98 (.agg #[(.int .i64 0), (.int .i64 0), (.int .i64 0), (.bool false), (.bool false), (.bool false), (.int .i64 0)]) 40 rfl Try.underlying99 info98 rfl (by decide) (by omega) (.slice Ao35 x10_2.length co35) x10_2 (⟨t470, (⟨t471, t472, t473, t474, t475⟩ : S96), t476⟩ : S98) [.int .i64 t470, .int .i64 t471, .int .i64 t472, .bool t473, .bool t474, .bool t475, .int .i64 t476] (fun _ => True) (fun _ => False) rfl rfl ?aP (fun _ hk => hk.elim) ?aF ?aO ?aB ?aS ?aL ?_; (case aP => exact k98_mkM _ _ _ (⟨t470, (⟨t471, t472, t473, t474, t475⟩ : S96), t476⟩ : S98)); (case aB => exact (rb3 HB GE449 GE450 GE451)); (case aF => exact (fun _ _ => trivial)); (case aO => exact (rr HO_10)); (case aS => exact (below_size (rb3 HB GE449 GE450 GE451))); (case aL => have := LMc34.out; omega); intro v478 w37 ho hb hg hat; rw [← Ny477.out] at ho; replace HO_452001 := am (Kd.S_after (ok := (fun _ => True)) (by (with_reducible repeat (first | apply Kd.S_alloc | apply Kd.S_drewN | apply Kd.S_drew)); exact Kd.S_mono HO_452001.out (fun _ hk => ⟨trivial, hk⟩)) hg hat); replace BK449 := am (blk_grown (rk BK449) hg (Kd.R_ne HO_10.out BK449.out (by decide))); replace BK450 := am (blk_grown (rk BK450) hg (Kd.R_ne HO_10.out BK450.out (by decide))); replace BK451 := am (blk_grown (rk BK451) hg (Kd.R_ne HO_10.out BK451.out (by decide))); replace HB := am (hb); have HO479 := am (ho); clear HO_10; clear ho hb hg hat))
go_roundg k2
case measure => have := HK1.out; have := HK2.out; omega
case rel => exact ⟨(y477), H', ⟨by have := HK1.out; have := HK2.out; omega⟩, ⟨rr HO479⟩, ⟨by (with_reducible repeat (first | apply Kd.S_alloc | apply Kd.S_drewN | apply Kd.S_drew)); exact Kd.S_mono HO_452001.out (fun _ hk => hk.2)⟩, ⟨rk BK449⟩, ⟨rk BK450⟩, ⟨rk BK451⟩, ⟨rb3 HB GE449 GE450 GE451⟩⟩
)
)
·(
rw [if_neg c32] at H
have c32b0 : decide ((x10_2.length : Int) < a1) = false := decide_eq_false c32
clear c32
refine em_ (p := x452001_1.length < 5864062014805) (fun c38 => ?g8p) (fun c38 => ?g8n)
case' g8p => (
rw [if_pos c38] at H
have LMc38 := am c38
clear c38
obtain ⟨y480, hy480⟩ : ∃ y_ : List (List (S98)), y_ = (x452001_1 ++ [x10_2]) := ⟨_, rfl⟩
replace H : (impl_Grid_resized.l0 k2 a1 a2 y452 (y452.length : Int) (wrap64 (x23_1 + 1)) a0_0 l0_1 a1 y480) = some (r1, r2) := by first | (rw [hy480]; with_reducible exact H) | (rw [hy480]; exact H) | exact H
have Ny480 := am hy480
clear hy480
have H' := am H
clear H
obtain ⟨Ao39, co39, eo39⟩ := Kd.R_slice HO_10.out
subst eo39
have lf5_ := trivial
)
case g8n => (
rw [if_neg c38] at H
exact absurd H (by simp)
)
all_goals (
have hnb40 := NB451_449.out
have hnc40 := NB449_451.out
have hnb41 := NB451_450.out
have hnc41 := NB450_451.out
have hcz42_0 : wr.cell? ⟨gb451, 0, none⟩ = some (.int .i64 a1) := (blk_cell BK451.out 0).trans rfl
have hcz42_1 : wr.cell? ⟨gb451, 1, none⟩ = some (u452001) := (blk_cell BK451.out 1).trans rfl
have hfz42_0 := blk_frozen BK451.out 0
have hfz42_1 := blk_frozen BK451.out 1
go_wp2_with (first | ((with_reducible refine gate_builtin (b := .append) (xs := #[.tmp 48, .tmp 50]) rfl ?_); at_builtin; refine Kd.S_append (Kd.slice 98 k98) (w0 := w) w.heap.size rfl (.tmp 48) (.tmp 50) 56 99 (.slice none 0 0) 24 rfl Try.underlying56 info99 rfl (by decide) (by omega) u452001 x452001_1 x10_2 [.slice Ao39 x10_2.length co39] (fun _ => True) (fun k_ => some k_ = (.slice Ao39 x10_2.length co39 : Value).ownBlock) rfl rfl ?aP (fun k_ hk_ => ((Kd.R_mono (ok' := fun k_ => ((fun _ => True)) k_ ∧ some k_ ≠ (u452001 : Value).ownBlock) (Kd.R_apart' (HO_10.out) (Kd.S_typed HO_452001.out) (by decide)) (fun k_ hk => ⟨trivial, hk.2⟩))).1 k_ hk_.symm) ?aF ?aO ?aB ?aS ?aL ?_; (case aP => exact Kd.M_row (Kd.R_mono (Kd.R_tight rfl (Kd.R_mono (ok' := fun k_ => ((fun _ => True)) k_ ∧ some k_ ≠ (u452001 : Value).ownBlock) (Kd.R_apart' (HO_10.out) (Kd.S_typed HO_452001.out) (by decide)) (fun k_ hk => ⟨trivial, hk.2⟩))) (fun _ h_ => h_))); (case aB => exact (rb3 HB GE449 GE450 GE451)); (case aF => exact (fun _ _ => trivial)); (case aO => exact (by (with_reducible repeat (first | apply Kd.S_alloc | apply Kd.S_drewN | apply Kd.S_drew)); exact Kd.S_mono HO_452001.out (fun k_ hk => ⟨trivial, fun e_ => hk e_⟩))); (case aS => exact (below_size (rb3 HB GE449 GE450 GE451))); (case aL => have := LMc38.out; omega); intro v481 w43 ho hb hg hat; rw [← Ny480.out] at ho; replace BK449 := am (blk_grown (rk BK449) hg (Kd.S_ne HO_452001.out BK449.out (by decide))); replace BK450 := am (blk_grown (rk BK450) hg (Kd.S_ne HO_452001.out BK450.out (by decide))); replace BK451 := am (blk_grown (rk BK451) hg (Kd.S_ne HO_452001.out BK451.out (by decide))); replace HB := am (hb); have HO482 := am (ho); clear HO_452001 HO_10; clear ho hb hg hat; obtain ⟨Ao44, co44, eo44⟩ := Kd.S_slice HO482.out; subst eo44; have hcz45_0 : w43.cell? ⟨gb451, 0, none⟩ = some (.int .i64 a1) := (blk_cell BK451.out 0).trans rfl; have hcz45_1 : w43.cell? ⟨gb451, 1, none⟩ = some (u452001) := (blk_cell BK451.out 1).trans rfl; have hfz45_0 := blk_frozen BK451.out 0; have hfz45_1 := blk_frozen BK451.out 1))
go_roundg k2
case measure => have := HK1.out; have := HK2.out; omega
case rel => exact ⟨(wrap64 (x23_1 + 1)), (y480), (.slice Ao44 y480.length co44), (by first | rfl | (simp; done) | (simp [*]; done)), H', ⟨by have := HK1.out; have := HK2.out; omega⟩, ⟨by (with_reducible repeat (first | apply Kd.S_alloc | apply Kd.S_drewN | apply Kd.S_drew)); exact Kd.S_mono (Kd.S_far (p := ⟨gb451, 1, none⟩) (Kd.S_types HO482.out BK451.out (by decide)) (fun _ hk => hk.2) (.slice Ao44 y480.length co44)) (fun _ hk => trivial)⟩, ⟨rf1 NB449_451 BK449⟩, ⟨rf1 NB450_451 BK450⟩, ⟨by (with_reducible repeat (first | apply k1 | apply k2 | apply k3)); refine blk_put (cs := #[.int .i64 a1, u452001]) ?_ 1 _ rfl; (with_reducible repeat (first | apply k1 | apply k2 | apply k3)); exact BK451.out⟩, ⟨rb3 HB GE449 GE450 GE451⟩⟩
)
)
)
)
)
)
·(
rw [if_neg c17] at H
have c17b0 : decide (x23_1 < (y452.length : Int)) = false := decide_eq_false c17
clear c17
replace H := Option.bind_eq_some_iff.mp H
obtain ⟨t456, A460, H⟩ := H
(try dsimp only at H)
have A46 := am A460
clear A460
refine em_ (p := x452001_1.length + t456.length < 5864062014805) (fun c47 => ?g6p) (fun c47 => ?g6n)
case' g6p => (
rw [if_pos c47] at H
have LMc47 := am c47
clear c47
obtain ⟨y459, hy459⟩ : ∃ y_ : List (List (S98)), y_ = (x452001_1 ++ t456) := ⟨_, rfl⟩
replace H : (some (a1, y459)) = some (r1, r2) := by first | (rw [hy459]; with_reducible exact H) | (rw [hy459]; exact H) | exact H
have Ny459 := am hy459
clear hy459
simp only [Option.some.injEq, Prod.mk.injEq] at H
obtain ⟨rfl, rfl⟩ := H
have lf3_ := trivial
)
case g6n => (
rw [if_neg c47] at H
exact absurd H (by simp)
)
all_goals (
try go_wp2
replace HO_452001 := am (Kd.S_drew HO_452001.out)
replace BK449 := am (blk_drew BK449.out)
replace BK450 := am (blk_drew BK450.out)
replace BK451 := am (blk_drew BK451.out)
replace HB := am (below_drew1 HB.out)
obtain ⟨Ao49, co49, eo49⟩ := Kd.S_slice HO_452001.out
(first | subst eo49 | (injection eo49 with f1_ f2_ f3_; have f4_ := f1_.symm; have f5_ := f3_.symm; clear f1_ f2_ f3_; subst f4_; subst f5_))
refine start_ (n := 13) (S := fun w' => w'.cell? ⟨gb451, 0, none⟩ = some (.int .i64 a1) ∧ w'.cell? ⟨gb451, 1, none⟩ = some (.slice Ao49 x452001_1.length co49)) (ds := [12]) (bm 13 0) (by kernel_rfl) rfl rfl (bc2 BK451) (fun hHeld => ?_); refine with_tabW impl_Grid_resized.tab12 impl_Grid_resized.bits12 (fun HT_ HW_ => ?_)
generalize wr.drew = w48 at HO_452001 BK449 BK450 BK451 HB hHeld ⊢
refine pu_ 0 54 (bm 13 1) HT_.out ?_
refine pu_ 3 57 (bm 13 9) HT_.out ?_
refine pu_ 4 58 (bm 13 25) HT_.out ?_
refine pu_ 8 62 (bm 13 281) HT_.out ?_
refine take_ (i := 1) (N := some 55) (v := ?_) (a' := ?_) (bm 13 283) rfl rfl (take_ofW HT_.out HW_.out (by kernel_rfl)) (fun _ _ _ h => h) (Or.inl ⟨by rfl, ?_⟩) hHeld ?_ ?_
rotate_left
·(
rintro w' ⟨s0, s1⟩
go_simp
with_reducible rfl
)
rotate_left
·(
simp only [Act.put, List.setIfInBounds_toArray, List.set_cons_zero, List.set_cons_succ, i64_w, i32_w]
rfl
)
refine take_ (i := 2) (N := some 56) (v := ?_) (a' := ?_) (bm 13 287) rfl rfl (take_ofW HT_.out HW_.out (by kernel_rfl)) (fun _ _ _ h => h) (Or.inl ⟨by rfl, ?_⟩) hHeld ?_ ?_
rotate_left
·(
rintro w' ⟨s0, s1⟩
go_simp
with_reducible rfl
)
rotate_left
·(
simp only [Act.put, List.setIfInBounds_toArray, List.set_cons_zero, List.set_cons_succ, i64_w, i32_w]
rfl
)
refine take_ (i := 5) (N := some 59) (v := ?_) (a' := ?_) (bm 13 319) rfl rfl (take_ofW HT_.out HW_.out (by kernel_rfl)) (fun _ _ _ h => h) (Or.inl ⟨by rfl, ?_⟩) hHeld ?_ ?_
rotate_left
·(
rintro w' ⟨s0, s1⟩
go_simp
with_reducible rfl
)
rotate_left
·(
simp only [Act.put, List.setIfInBounds_toArray, List.set_cons_zero, List.set_cons_succ, i64_w, i32_w]
rfl
)
refine pu_ 6 60 (bm 13 383) HT_.out ?_
refine pu_ 7 61 (bm 13 511) HT_.out ?_
refine one_ (i := 9) (N := some 63) (bm 13 1023) rfl rfl (one_of HT_.out (by kernel_rfl)) (by decide) (fun K hK => ?_)
refine goes_ Try.func105 (by kernel_rfl) rfl #[.agg #[.int .i64 a1, .slice Ao49 x452001_1.length co49], .int .i64 (wrap64 (a2 - (x452001_1.length : Int))), .agg #[.int .i64 0, .int .i64 0, .bool false, .bool false, .bool false]] (by rfl) rfl rfl mt ?_
with_reducible refine (impl_Grid_blanks.calls k1 a1 _ _ x452001_1 (wrap64 (a2 - (x452001_1.length : Int))) 0 0 false false false t456 _ ?side1 ?side2 A46.out).mono ?_
(case side1 => exact rcs HO_452001)
(case side2 => exact (Kd.S_reads' HO_452001.out).2.1)
rintro e w50 ⟨v457, rfl, ho0, hb⟩
refine ⟨_, rfl, ?_⟩
have HO458 := am (Kd.S_lower (Kd.S_new' (Sx_floor ho0) (Kd.S_lt (rs HO_452001))) (below_size (rb3 HB GE449 GE450 GE451)))
replace HO_452001 := am (Kd.S_elder' (Sx_cap (rs HO_452001)) (Kd.S_base ho0) hb)
replace BK449 := am (blk_below (rk BK449) hb)
replace BK450 := am (blk_below (rk BK450) hb)
replace BK451 := am (blk_below (rk BK451) hb)
replace HB := am (below_step (rb3 HB GE449 GE450 GE451) hb)
(try clear hb)
(try clear ho0)
obtain ⟨Ao53, co53, eo53⟩ := Kd.S_slice HO458.out
(first | subst eo53 | (injection eo53 with f1_ f2_ f3_; have f4_ := f1_.symm; have f5_ := f3_.symm; clear f1_ f2_ f3_; subst f4_; subst f5_))
refine hK.out _ _ (bc2 BK451) (fun hHeld => ?_)
clear hK K
refine norm_ (a' := _) (show Act.put _ (some 63) _ = _ from na) ?_
refine one_ (i := 10) (N := some 64) (bm 13 2047) rfl rfl (one_of HT_.out (by kernel_rfl)) (by decide) (fun K hK => ?_)
refine Kd.S_append_rows_step (Kd.slice 98 k98) (w0 := w) w.heap.size (by rfl) (.tmp 55) (.tmp 63) 56 99 (.slice none 0 0) 24 rfl Try.underlying56 info99 rfl (by decide) (by omega) (.slice Ao49 x452001_1.length co49) x452001_1 t456 _ _ _ (fun _ => True) _ rfl rfl ?aO (rs HO458) ?aK ?aF ?aB ?aS ?aL ?_
(case aK => exact fun k_ hk => ⟨trivial, hk.2⟩)
(case aB => exact (rb3 HB GE449 GE450 GE451))
(case aF => exact (fun _ _ => trivial))
(case aO => exact (by (with_reducible repeat (first | apply Kd.S_alloc | apply Kd.S_drewN | apply Kd.S_drew)); exact Kd.S_mono HO_452001.out (fun k_ hk => ⟨trivial, fun e_ => Nat.not_lt.2 (e_.1.2) (hk.1.2)⟩)))
(case aS => exact (below_size (rb3 HB GE449 GE450 GE451)))
(case aL => have := LMc47.out; omega)
intro v460 w52 ho hb hg hat
rw [← Ny459.out] at ho
replace BK449 := am (blk_grown (rk BK449) hg (Kd.S_ne HO_452001.out BK449.out (by decide)))
replace BK450 := am (blk_grown (rk BK450) hg (Kd.S_ne HO_452001.out BK450.out (by decide)))
replace BK451 := am (blk_grown (rk BK451) hg (Kd.S_ne HO_452001.out BK451.out (by decide)))
replace HB := am (hb)
have HO461 := am (ho)
clear HO_452001 HO458
clear ho hb hg hat
obtain ⟨Ao54, co54, eo54⟩ := Kd.S_slice HO461.out
(first | subst eo54 | (injection eo54 with f1_ f2_ f3_; have f4_ := f1_.symm; have f5_ := f3_.symm; clear f1_ f2_ f3_; subst f4_; subst f5_))
refine hK.out _ _ (bc2 BK451) (fun hHeld => ?_)
clear hK K
refine norm_ (a' := _) (show Act.put _ (some 64) _ = _ from na) ?_
refine pu_ 11 65 (bm 13 4095) HT_.out ?_
refine last_ (i := 12) (N := none) (bm 13 8191) rfl rfl (one_of HT_.out (by kernel_rfl)) (by decide) (fun K hK => ?_)
have hs55 : w52.cell? ⟨gb451, 1, none⟩ = some (.slice Ao49 x452001_1.length co49) := (blk_cell BK451.out 1).trans rfl
have hfs55 := blk_frozen BK451.out 1
have hns55_0 := NB449_451.out
have hns55_1 := NB450_451.out
have hms55_0 := NB451_449.out
have hms55_1 := NB451_450.out
refine skip_ (w1 := ?_) (by rfl) rfl ?_ ?_
rotate_left
·(
go_simp
rfl
)
refine hK.out _ _ ?_
clear hK K
refine done_ (done_of HT_.out (by kernel_rfl)) ?_
have hnb56 := NB451_449.out
have hnc56 := NB449_451.out
have hnb57 := NB451_450.out
have hnc57 := NB450_451.out
have hcz58_0 : w52.cell? ⟨gb451, 0, none⟩ = some (.int .i64 a1) := (blk_cell BK451.out 0).trans rfl
have hcz58_1 : w52.cell? ⟨gb451, 1, none⟩ = some (.slice Ao49 x452001_1.length co49) := (blk_cell BK451.out 1).trans rfl
have hfz58_0 := blk_frozen BK451.out 0
have hfz58_1 := blk_frozen BK451.out 1
have hnb59 := NB450_449.out
have hnc59 := NB449_450.out
have hcz60_0 : w52.cell? ⟨gb450, 0, none⟩ = some (.int .i64 0) := (blk_cell BK450.out 0).trans rfl
have hcz60_1 : w52.cell? ⟨gb450, 1, none⟩ = some (.slice none 0 0) := (blk_cell BK450.out 1).trans rfl
have hfz60_0 := blk_frozen BK450.out 0
have hfz60_1 := blk_frozen BK450.out 1
try go_wp2
refine bodyPost_ret (results_cell_row rfl _ _ gb450 58 #[.int .i64 a1, .slice Ao54 y459.length co54] (0, 0) _ rfl (by (with_reducible repeat (first | apply k1 | apply k2 | apply k3)); refine blk_put (cs := #[.int .i64 a1, .slice none 0 0]) ?_ 1 _ rfl; (with_reducible repeat (first | apply k1 | apply k2 | apply k3)); refine blk_put (cs := #[.int .i64 0, .slice none 0 0]) ?_ 0 _ rfl; (with_reducible repeat (first | apply k1 | apply k2 | apply k3)); refine blk_far ?_ NB450_451.out _; (with_reducible repeat (first | apply k1 | apply k2 | apply k3)); exact BK450.out) Try.underlying58 rfl (by kernel_rfl)) rfl ?_
exact ⟨_, by first | rfl | (simp [errW_none, errW_some] <;> rfl) | (simp only [← hji4]; first | rfl | (simp [errW_none, errW_some] <;> rfl)) | (simp [*, errW_none, errW_some] <;> rfl), by (with_reducible repeat (first | apply Kd.S_alloc | apply Kd.S_drewN | apply Kd.S_drew)); exact Kd.S_mono (Kd.S_far (p := ⟨gb450, 1, none⟩) (Kd.S_far (p := ⟨gb450, 0, none⟩) (Kd.S_far (p := ⟨gb451, 1, none⟩) (Kd.S_types (Kd.S_types HO461.out BK451.out (by decide)) BK450.out (by decide)) (fun _ hk => hk.1.2) (.slice Ao54 y459.length co54)) (fun _ hk => hk.2) (.int .i64 a1)) (fun _ hk => hk.2) (.slice Ao54 y459.length co54)) (fun _ hk => trivial), rb3 HB GE449 GE450 GE451⟩
)
)
)
)
)
)

end Go.Proofs.Ytalopdcephohgaa.RC
