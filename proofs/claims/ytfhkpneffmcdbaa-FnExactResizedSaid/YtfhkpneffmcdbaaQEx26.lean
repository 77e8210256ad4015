/- Contracts of Go functions that laws of this seat reach: each Lean function answers as its Go function does. No condition. Written by wip/tools/inj.py, over the kit's print. -/
import Derived.Test.YtfhkpneffmcdbaaQEx0
import Derived.Test.YtfhkpneffmcdbaaQEx3
import Derived.Test.YtfhkpneffmcdbaaQEx9
import Derived.Test.YtfhkpneffmcdbaaQEx23
import Derived.Test.YtfhkpneffmcdbaaQEx24
import Derived.Test.YtfhkpneffmcdbaaQEx25
namespace Go.Proofs.Ytfhkpneffmcdbaa.QE
open Go.RowKit Go.Proofs.YtfhkpneffmcdbaaW.PrintWords Go.Proofs.YtfhkpneffmcdbaaW.PrintLast Go.Proofs.YtfhkpneffmcdbaaW.PrintMore
attribute [local go_sem] max2_int min2_int max_two min_two max_three min_three max_four min_four   -- for this text's walks alone
set_option linter.unusedVariables false
set_option linter.unusedSimpArgs false

/-! ### impl_Grid_resized: function 57 -/
section
variable {P : Program} {ops : Array Oper} {rest : List Oper} {o : Oper} {a : Act} {Q : Exit → Act → World → Prop} {Kc : Act → World → Prop} {α : Type}
open Classical in
theorem Sx_join {d : Kd α} {e : Nat} {W : World} {base m c : Nat} {A : Option Addr} {v : Value} {xs ys : List α} {ok okp : Nat → Prop} (HO : Kd.S d e W base (fun k => ok k ∧ ¬ okp k) v xs) (HY : Kd.S d e W base okp (.slice A m c) ys) :
  ∃ f, (Kd.tag f d).R e W base ok v xs.zipIdx ∧ ReadsRow ((Kd.tag f d).M W base okp) d.sz W A m (ys.zipIdx xs.length) := by
 obtain ⟨f2, hY⟩ := HY
 obtain ⟨f1, hO⟩ := HO
 obtain ⟨A', c', e', _, hrd⟩ := OwnRow.reads hY.2
 injection e' with ea en ec
 subst ea
 have hm : ys.length = m := by rw [en, List.length_zipIdx]
 refine ⟨fun k => if okp k then f2 k + xs.length else f1 k, Kd.R_mono (Kd.R_tag hO (fun k hk _ => if_neg hk.2)) (fun _ hk => hk.1), ?_⟩
 obtain ⟨h1, h2, h3⟩ := hrd
 rw [List.length_zipIdx] at h2 h3
 refine ⟨by rw [List.length_zipIdx]; exact hm, by omega, fun h0 => ?_⟩
 obtain ⟨ad, e, hc⟩ := h3 (by omega)
 refine ⟨ad, e, fun j p hj => ?_⟩
 rw [List.getElem?_zipIdx] at hj
 obtain ⟨y, hy, rfl⟩ := Option.map_eq_some_iff.1 hj
 obtain ⟨cs, hl, hM, hcc⟩ := hc j (y, j) (Kd.zip_at hy)
 refine ⟨cs, hl, d.M_mono (fun k hk => ?_) hM, hcc⟩
 refine ⟨hk.1.1, ?_⟩
 show (if okp k then f2 k + xs.length else f1 k) = xs.length + j
 rw [if_pos hk.1.1, hk.2]
 exact Nat.add_comm _ _
theorem Kd.S_append_rows (d : Kd α) {w0 W : World} (base : Nat) (hgd : o.guard = none) (s x : Operand) (t e : TypeId) (z : Value) (bytes : Nat)
  (ho : o.op = .call { callee := .builtin .append, args := #[s, x], argTypes := #[t, t] })
  (ht : P.underlying t = some (.slice e)) (hinfo : (P.info? e).map (fun i => (i.zero, i.size, i.bytes)) = some (some z, d.sz, bytes)) (hz : z.cells.size = d.sz) (hs0 : 0 < d.sz) (hb0 : 0 < bytes)
  (v : Value) (xs ys : List α) (A : Option Addr) (m c : Nat) (ok okp : Nat → Prop) (hs : a.eval s = v) (hx : a.eval x = .slice A m c)
  (HO : Kd.S d e W base (fun k => ok k ∧ ¬ okp k) v xs) (HY : Kd.S d e W base okp (.slice A m c) ys) (hokp : ∀ k, okp k → ok k ∧ some k ≠ v.ownBlock) (hfresh : ∀ k, W.heap.size ≤ k → ok k)
  (HB : Below base w0 W) (hbase : base ≤ W.heap.size) (hl : (xs.length + m) * bytes ≤ 140737488355328)
  (h : ∀ v1 w1, Kd.S d e w1 base ok v1 (xs ++ ys) → Below base w0 w1 → W.grownBy w1 v.ownBlock → (v1.ownBlock = v.ownBlock ∨ ∃ b, v1.ownBlock = some b ∧ W.heap.size ≤ b) → wpList P ops Q rest (a.put o.dst v1) w1) :
  wpList P ops Q (o :: rest) a W := by
 obtain ⟨f, h1, h2⟩ := Sx_join HO HY
 refine Kd.R_append_rows (Kd.tag f d) base hgd s x t e z bytes ho ht hinfo hz hs0 hb0 v xs.zipIdx (ys.zipIdx xs.length) A m c ok okp hs hx h1 h2 (fun _ _ hk => hk) hokp hfresh HB hbase (by rw [List.length_zipIdx]; exact hl) ?_
 intro v1 w1 hr
 rw [show xs.zipIdx ++ ys.zipIdx xs.length = (xs ++ ys).zipIdx by rw [List.zipIdx_append]; simp] at hr
 exact h v1 w1 ⟨f, hr⟩
theorem Kd.S_append_rows_step (d : Kd α) {w0 W : World} (base : Nat) (hw : Region.wanted o (yielded ops a.tmps) = true) (s x : Operand) (t e : TypeId) (z : Value) (bytes : Nat)
  (ho : o.op = .call { callee := .builtin .append, args := #[s, x], argTypes := #[t, t] })
  (ht : P.underlying t = some (.slice e)) (hinfo : (P.info? e).map (fun i => (i.zero, i.size, i.bytes)) = some (some z, d.sz, bytes)) (hz : z.cells.size = d.sz) (hs0 : 0 < d.sz) (hb0 : 0 < bytes)
  (v : Value) (xs ys : List α) (A : Option Addr) (m c : Nat) (ok okp : Nat → Prop) (hs : a.eval s = v) (hx : a.eval x = .slice A m c)
  (HO : Kd.S d e W base (fun k => ok k ∧ ¬ okp k) v xs) (HY : Kd.S d e W base okp (.slice A m c) ys) (hokp : ∀ k, okp k → ok k ∧ some k ≠ v.ownBlock) (hfresh : ∀ k, W.heap.size ≤ k → ok k)
  (HB : Below base w0 W) (hbase : base ≤ W.heap.size) (hl : (xs.length + m) * bytes ≤ 140737488355328)
  (h : ∀ v1 w1, Kd.S d e w1 base ok v1 (xs ++ ys) → Below base w0 w1 → W.grownBy w1 v.ownBlock → (v1.ownBlock = v.ownBlock ∨ ∃ b, v1.ownBlock = some b ∧ W.heap.size ≤ b) → Kc (a.put o.dst v1) w1) :
  if Region.wanted o (yielded ops a.tmps) = true then Oper.wp P o a W Kc Q else Kc (a.put o.dst undef) W := by
 obtain ⟨f, h1, h2⟩ := Sx_join HO HY
 refine Kd.R_append_rows_step (Kd.tag f d) base hw s x t e z bytes ho ht hinfo hz hs0 hb0 v xs.zipIdx (ys.zipIdx xs.length) A m c ok okp hs hx h1 h2 (fun _ _ hk => hk) hokp hfresh HB hbase (by rw [List.length_zipIdx]; exact hl) ?_
 intro v1 w1 hr
 rw [show xs.zipIdx ++ ys.zipIdx xs.length = (xs ++ ys).zipIdx by rw [List.zipIdx_append]; simp] at hr
 exact h v1 w1 ⟨f, hr⟩
end
mutual
def impl_Grid_resized.l0 : Nat → Int → Int → List (List (S40)) → Int → Int → Int → List (List (S40)) → Int → List (List (S40)) → Option (Int × (List (List (S40))))
 | 0, _, _, _, _, _, _, _, _, _ => none
 | k + 1, x1, x2, x21, x22, x23, x455000, x455001, x457000, x457001 => if x23 < x22 then (if 0 ≤ x23 then (if x23 < (x21.length : Int) then ((impl_Cell_63.f (rd_L4 x21 x23)).bind fun t468 => ((impl_part.f k t468 x1).bind fun t471 => (if 0 ≤ (mn x1 x455000) then (if (mn x1 x455000) ≤ (t468.length : Int) then (impl_Grid_resized.l1 k x1 x2 (t471.take ((mn x1 x455000) : Int).toNat) x21 x22 x23 x455000 x455001 x457000 x457001) else (none)) else (none)))) else (none)) else (none)) else ((impl_Grid_blanks.f k x457000 x457001 (wrap64 (x2 - (x457001.length : Int))) 0 0 false false false).bind fun t461 => (if x457001.length + t461.length < 5864062014805 then (some (x457000, (x457001 ++ t461))) else (none)))
def impl_Grid_resized.l1 : Nat → Int → Int → List (S40) → List (List (S40)) → Int → Int → Int → List (List (S40)) → Int → List (List (S40)) → Option (Int × (List (List (S40))))
 | 0, _, _, _, _, _, _, _, _, _, _ => none
 | k + 1, x1, x2, x10, x21, x22, x23, x455000, x455001, x457000, x457001 => if (x10.length : Int) < x1 then ((impl_blank.f 0 0 false false false).bind fun bt475 => (if x10.length < 3518437208883 then (impl_Grid_resized.l1 k x1 x2 (x10 ++ [(⟨bt475.1, (⟨bt475.2.1, bt475.2.2.1, bt475.2.2.2.1, bt475.2.2.2.2.1, bt475.2.2.2.2.2.1⟩ : S29), bt475.2.2.2.2.2.2⟩ : S40)]) x21 x22 x23 x455000 x455001 x457000 x457001) else (none))) else (if x457001.length < 5864062014805 then (impl_Grid_resized.l0 k x1 x2 x21 x22 (wrap64 (x23 + 1)) x455000 x455001 x457000 (x457001 ++ [x10])) else (none))
end
def impl_Grid_resized.f (k : Nat) (a0_0 : Int) (l0_1 : List (List (S40))) (a1 : Int) (a2 : Int) : Option (Int × (List (List (S40)))) := if 0 ≤ (mx 0 (wrap64 ((l0_1.length : Int) - a2))) then (if (mx 0 (wrap64 ((l0_1.length : Int) - a2))) ≤ (l0_1.length : Int) then ((some (l0_1.drop ((mx 0 (wrap64 ((l0_1.length : Int) - a2))) : Int).toNat : List (List (S40)))).bind fun y457 => (impl_Grid_resized.l0 k a1 a2 y457 (y457.length : Int) 0 a0_0 l0_1 a1 ([] : List (List (S40))))) else (none)) else (none)
theorem impl_Grid_resized.mono_l : ∀ k, (∀ y0 y1 y2 y3 y4 y5 y6 y7 y8, LeO (impl_Grid_resized.l0 k y0 y1 y2 y3 y4 y5 y6 y7 y8) (impl_Grid_resized.l0 (k + 1) y0 y1 y2 y3 y4 y5 y6 y7 y8)) ∧ (∀ y0 y1 y2 y3 y4 y5 y6 y7 y8 y9, LeO (impl_Grid_resized.l1 k y0 y1 y2 y3 y4 y5 y6 y7 y8 y9) (impl_Grid_resized.l1 (k + 1) y0 y1 y2 y3 y4 y5 y6 y7 y8 y9))
 | 0 => ⟨fun _ _ _ _ _ _ _ _ _ r h => by simp [impl_Grid_resized.l0] at h, fun _ _ _ _ _ _ _ _ _ _ r h => by simp [impl_Grid_resized.l1] at h⟩
 | k + 1 => by
  obtain ⟨ih0, ih1⟩ := impl_Grid_resized.mono_l k
  refine ⟨?_, ?_⟩
  ·intro y0 y1 y2 y3 y4 y5 y6 y7 y8
   unfold impl_Grid_resized.l0
   repeat' first
   | (with_reducible exact ih0 _ _ _ _ _ _ _ _ _)
   | (with_reducible exact ih1 _ _ _ _ _ _ _ _ _ _)
   | (with_reducible exact impl_Grid_blanks.mono _ _ _ _ _ _ _ _ _)
   | (with_reducible exact impl_part.mono _ _ _)
   | (with_reducible exact LeO.refl _)
   | (with_reducible exact LeO.none _)
   | (with_reducible refine LeO.ite ?_ ?_)
   | (with_reducible refine LeO.bind ?_ (fun _ => ?_))
  ·intro y0 y1 y2 y3 y4 y5 y6 y7 y8 y9
   unfold impl_Grid_resized.l1
   repeat' first
   | (with_reducible exact ih0 _ _ _ _ _ _ _ _ _)
   | (with_reducible exact ih1 _ _ _ _ _ _ _ _ _ _)
   | (with_reducible exact impl_Grid_blanks.mono _ _ _ _ _ _ _ _ _)
   | (with_reducible exact impl_part.mono _ _ _)
   | (with_reducible exact LeO.refl _)
   | (with_reducible exact LeO.none _)
   | (with_reducible refine LeO.ite ?_ ?_)
   | (with_reducible refine LeO.bind ?_ (fun _ => ?_))
theorem impl_Grid_resized.mono : ∀ a0 a1 a2 a3 k, LeO (impl_Grid_resized.f k a0 a1 a2 a3) (impl_Grid_resized.f (k + 1) a0 a1 a2 a3) := by
 intro a0 a1 a2 a3 k
 obtain ⟨ih0, ih1⟩ := impl_Grid_resized.mono_l k
 unfold impl_Grid_resized.f
 repeat' first
   | (with_reducible exact ih0 _ _ _ _ _ _ _ _ _)
   | (with_reducible exact ih1 _ _ _ _ _ _ _ _ _ _)
   | (with_reducible exact impl_Grid_blanks.mono _ _ _ _ _ _ _ _ _)
   | (with_reducible exact impl_part.mono _ _ _)
   | (with_reducible exact LeO.refl _)
   | (with_reducible exact LeO.none _)
   | (with_reducible refine LeO.ite ?_ ?_)
   | (with_reducible refine LeO.bind ?_ (fun _ => ?_))
def impl_Grid_resized.T12 : Bool × List (List Nat × List Nat) := (true, [([], []), ([0], [0]), ([], []), ([], []), ([], []), ([4], [4]), ([5], [5]), ([3, 6], [3, 6]), ([], []), ([2, 7, 8], [2, 7, 8]), ([1, 9, 9], [1, 9]), ([0, 1, 2, 3, 4, 5, 6, 7, 8, 9, 10], []), ([11, 10, 10, 0, 1, 2, 3, 4, 5, 6, 7, 8, 9, 10], [10, 11])])
def impl_Grid_resized.B12 : List Nat := [0, 1, 0, 0, 0, 16, 48, 120, 0, 508, 1023, 2047, 4095]
theorem impl_Grid_resized.tab12 : rtab .any (opsOf Try.f57 12) = impl_Grid_resized.T12 := by kernel_rfl
theorem impl_Grid_resized.bits12 : waitsOk impl_Grid_resized.T12.2 impl_Grid_resized.B12 = true := by kernel_rfl
set_option maxHeartbeats 8000000 in
set_option maxRecDepth 100000 in
theorem impl_Grid_resized.calls (k : Nat) (a0_0 : Int) (A0_1 : Option Addr) (c0_1 : Nat) (l0_1 : List (List (S40))) (a1 : Int) (a2 : Int) (r1 : Int) (r2 : List (List (S40))) (w : World) (hr0_1 : Kd.C (Kd.slice 40 k40) w A0_1 l0_1.length l0_1) (hc0_1 : l0_1.length ≤ c0_1) (h : impl_Grid_resized.f k a0_0 l0_1 a1 a2 = some (r1, r2)) :
  Calls Try.prog 57 #[.agg #[.int .i64 a0_0, .slice A0_1 l0_1.length c0_1], .int .i64 a1, .int .i64 a2] w fun e w' => ∃ v1_ : Value, e = .returned (.agg #[.int .i64 r1, v1_]) ∧ Kd.S (Kd.slice 40 k40) 26 w' w.heap.size (fun _ => True) v1_ r2 ∧ Below w.heap.size w w' := by
 have hu43 := Try.underlying43
 have hu29 := Try.underlying29
 have HR0_1 := am hr0_1
 have HC0_1 := am hc0_1
 clear hr0_1 hc0_1
 have HB := am (Below.refl w.heap.size w)
 have H := h
 unfold impl_Grid_resized.f at H
 clear h
 obtain ⟨ji4, hji4⟩ : ∃ j_ : Int, (mx 0 (wrap64 ((l0_1.length : Int) - a2))) = j_ := ⟨_, rfl⟩
 replace H : (if 0 ≤ (ji4) then (if (ji4) ≤ (l0_1.length : Int) then ((some (l0_1.drop ((ji4) : Int).toNat : List (List (S40)))).bind fun y457 => (impl_Grid_resized.l0 k a1 a2 y457 (y457.length : Int) 0 a0_0 l0_1 a1 ([] : List (List (S40))))) else (none)) else (none)) = some (r1, r2) := by first | (rw [hji4] at H; exact H) | (simp only [hji4] at H ⊢; exact H)
 (try (have hji4l : 0 ≤ ji4 := by (rw [← hji4]; unfold mx; (repeat' split) <;> omega)))
 (try (have hji4m : 0 ≤ ji4 := by omega))
 have hji4_ : (if 0 < (wrap64 ((l0_1.length : Int) - a2)) then (wrap64 ((l0_1.length : Int) - a2)) else 0) = ji4 := hji4
 refine em_ (p := 0 ≤ (ji4)) (fun c5 => ?g1p) (fun c5 => ?g1n)
 case' g1p =>
  rw [if_pos c5] at H
  have c5b0 := eq_true c5
  have c5b1 : decide (0 ≤ (ji4)) = true := decide_eq_true c5
  clear c5
  refine em_ (p := (ji4) ≤ (l0_1.length : Int)) (fun c6 => ?g0p) (fun c6 => ?g0n)
  case' g0p =>
   rw [if_pos c6] at H
   have c6b0 := eq_true c6
   have c6b1 : decide ((ji4) ≤ (l0_1.length : Int)) = true := decide_eq_true c6
   clear c6
   obtain ⟨y457, hy457⟩ : ∃ y_ : List (List (S40)), y_ = (l0_1.drop ((ji4) : Int).toNat) := ⟨_, rfl⟩
   replace H : (impl_Grid_resized.l0 k a1 a2 y457 (y457.length : Int) 0 a0_0 l0_1 a1 ([] : List (List (S40)))) = some (r1, r2) := by first | (rw [hy457]; with_reducible exact H) | (rw [hy457]; exact H) | exact H
   have Ny457 := am hy457
   clear hy457
   have H' := am H
   clear H
   have lf1_ := trivial
  case g0n =>
   rw [if_neg c6] at H
   exact absurd H (by simp)
 case g1n =>
  rw [if_neg c5] at H
  exact absurd H (by simp)
 all_goals
  go_enter Try.func57, Try.ntmps57
  go_wp2_with (first | ((with_reducible refine gate_dst (N := 3) rfl ?_); refine box_event ?hg (N := 3) ?hd (cs := #[.int .i64 a0_0, .slice A0_1 l0_1.length c0_1]) (t := 43) ?hr ?_; (case hd => rfl); (case hg => rfl); (case hr => first | (go_simp; done) | (go_simp; rfl)); intro gb454 hg w7 hbox hb; have n0_ := am (below_step (rb HB) hb); have n1_ := am (hbox); have n2_ := am ((by rw [hg]; exact (below_size (rb HB)) : w.heap.size ≤ gb454)); have n3_ := am ((by rw [hg]; exact (below_size (rb HB)) : w.heap.size ≤ gb454)); clear HB; have HB := n0_; have BK454 := n1_; have GW454 := n2_; have GE454 := n3_; clear n0_ n1_ n2_ n3_; clear hb hbox hg) | ((with_reducible refine gate_dst (N := 6) rfl ?_); refine box_event ?hg (N := 6) ?hd (cs := #[.int .i64 0, .slice none 0 0]) (t := 43) ?hr ?_; (case hd => rfl); (case hg => rfl); (case hr => first | (go_simp; done) | (go_simp; rfl)); intro gb455 hg w8 hbox hb; have n0_ := am (blk_below (g := gb454) (o := .cells #[.int .i64 a0_0, .slice A0_1 l0_1.length c0_1] 43 (0, 0)) (rk BK454) hb); have n1_ := am (below_step (rb1 HB GE454) hb); have n2_ := am (hbox); have n3_ := am ((by rw [hg]; exact (below_size (rb1 HB GE454)) : w.heap.size ≤ gb455)); have n4_ := am ((by rw [hg]; exact (below_size (rb1 HB GE454)) : w.heap.size ≤ gb455)); have n5_ := am ((by rw [hg]; exact Nat.ne_of_lt (blk_lt (g := gb454) (o := .cells #[.int .i64 a0_0, .slice A0_1 l0_1.length c0_1] 43 (0, 0)) (rk BK454)) : gb454 ≠ gb455)); have n6_ := am ((by rw [hg]; exact Nat.ne_of_gt (blk_lt (g := gb454) (o := .cells #[.int .i64 a0_0, .slice A0_1 l0_1.length c0_1] 43 (0, 0)) (rk BK454)) : gb455 ≠ gb454)); clear BK454; clear HB; have BK454 := n0_; have HB := n1_; have BK455 := n2_; have GW455 := n3_; have GE455 := n4_; have NB454_455 := n5_; have NB455_454 := n6_; clear n0_ n1_ n2_ n3_ n4_ n5_ n6_; clear hb hbox hg) | ((with_reducible refine gate_dst (N := 7) rfl ?_); refine box_event ?hg (N := 7) ?hd (cs := #[.int .i64 0, .slice none 0 0]) (t := 43) ?hr ?_; (case hd => rfl); (case hg => rfl); (case hr => first | (go_simp; done) | (go_simp; rfl)); intro gb456 hg w9 hbox hb; have n0_ := am (blk_below (g := gb454) (o := .cells #[.int .i64 a0_0, .slice A0_1 l0_1.length c0_1] 43 (0, 0)) (rk BK454) hb); have n1_ := am (blk_below (g := gb455) (o := .cells #[.int .i64 0, .slice none 0 0] 43 (0, 0)) (rk BK455) hb); have n2_ := am (below_step (rb2 HB GE454 GE455) hb); have n3_ := am (hbox); have n4_ := am ((by rw [hg]; exact (below_size (rb2 HB GE454 GE455)) : w.heap.size ≤ gb456)); have n5_ := am ((by rw [hg]; exact (below_size (rb2 HB GE454 GE455)) : w.heap.size ≤ gb456)); have n6_ := am ((by rw [hg]; exact Nat.ne_of_lt (blk_lt (g := gb454) (o := .cells #[.int .i64 a0_0, .slice A0_1 l0_1.length c0_1] 43 (0, 0)) (rk BK454)) : gb454 ≠ gb456)); have n7_ := am ((by rw [hg]; exact Nat.ne_of_gt (blk_lt (g := gb454) (o := .cells #[.int .i64 a0_0, .slice A0_1 l0_1.length c0_1] 43 (0, 0)) (rk BK454)) : gb456 ≠ gb454)); have n8_ := am ((by rw [hg]; exact Nat.ne_of_lt (blk_lt (g := gb455) (o := .cells #[.int .i64 0, .slice none 0 0] 43 (0, 0)) (rk BK455)) : gb455 ≠ gb456)); have n9_ := am ((by rw [hg]; exact Nat.ne_of_gt (blk_lt (g := gb455) (o := .cells #[.int .i64 0, .slice none 0 0] 43 (0, 0)) (rk BK455)) : gb456 ≠ gb455)); clear BK454; clear BK455; clear HB; have BK454 := n0_; have BK455 := n1_; have HB := n2_; have BK456 := n3_; have GW456 := n4_; have GE456 := n5_; have NB454_456 := n6_; have NB456_454 := n7_; have NB455_456 := n8_; have NB456_455 := n9_; clear n0_ n1_ n2_ n3_ n4_ n5_ n6_ n7_ n8_ n9_; clear hb hbox hg; have hnb10 := NB456_454.out; have hnc10 := NB454_456.out; have hnb11 := NB456_455.out; have hnc11 := NB455_456.out; have hcz12_0 : w9.cell? ⟨gb456, 0, none⟩ = some (.int .i64 0) := (blk_cell BK456.out 0).trans rfl; have hcz12_1 : w9.cell? ⟨gb456, 1, none⟩ = some (.slice none 0 0) := (blk_cell BK456.out 1).trans rfl; have hfz12_0 := blk_frozen BK456.out 0; have hfz12_1 := blk_frozen BK456.out 1) | ((with_reducible refine gate_store (t := 43) (p := 7) rfl ?_); refine store_event (t := 43) (p := 7) (v := ?vo_w13) (w1 := ((w9.setCell ⟨gb456, 0, none⟩ (.int .i64 a1)).setCell ⟨gb456, 1, none⟩ (.slice none 0 0))) ?hg ?ho ?hn ?hr ?_; (case ho => rfl); (case hg => rfl); (case hn => rfl); (case hr => first | (go_simp; done) | (go_simp; rfl)); intro w13 hw; have n0_ : Aside0 (w13.heap[gb454]? = some (.cells #[.int .i64 a0_0, .slice A0_1 l0_1.length c0_1] 43 (0, 0))) := ⟨(by rw [hw]; exact (by (with_reducible repeat (first | apply k1 | apply k2 | apply k3)); refine blk_far ?_ NB454_456.out _; (with_reducible repeat (first | apply k1 | apply k2 | apply k3)); refine blk_far ?_ NB454_456.out _; (with_reducible repeat (first | apply k1 | apply k2 | apply k3)); exact BK454.out))⟩; have n1_ : Aside0 (w13.heap[gb455]? = some (.cells #[.int .i64 0, .slice none 0 0] 43 (0, 0))) := ⟨(by rw [hw]; exact (by (with_reducible repeat (first | apply k1 | apply k2 | apply k3)); refine blk_far ?_ NB455_456.out _; (with_reducible repeat (first | apply k1 | apply k2 | apply k3)); refine blk_far ?_ NB455_456.out _; (with_reducible repeat (first | apply k1 | apply k2 | apply k3)); exact BK455.out))⟩; have n2_ : Aside0 (w13.heap[gb456]? = some (.cells #[.int .i64 a1, .slice none 0 0] 43 (0, 0))) := ⟨(by rw [hw]; exact (by (with_reducible repeat (first | apply k1 | apply k2 | apply k3)); refine blk_put (cs := #[.int .i64 a1, .slice none 0 0]) ?_ 1 _ rfl; (with_reducible repeat (first | apply k1 | apply k2 | apply k3)); refine blk_put (cs := #[.int .i64 0, .slice none 0 0]) ?_ 0 _ rfl; (with_reducible repeat (first | apply k1 | apply k2 | apply k3)); exact BK456.out))⟩; have n3_ : Aside0 (Below w.heap.size w w13) := ⟨(by rw [hw]; exact (rb3 HB GE454 GE455 GE456))⟩; clear hw; clear BK454; clear BK455; clear BK456; clear HB; have BK454 := n0_; have BK455 := n1_; have BK456 := n2_; have HB := n3_; clear n0_ n1_ n2_ n3_; have hnb14 := NB454_455.out; have hnc14 := NB455_454.out; have hcz15_0 : w13.cell? ⟨gb454, 0, none⟩ = some (.int .i64 a0_0) := (blk_cell BK454.out 0).trans rfl; have hcz15_1 : w13.cell? ⟨gb454, 1, none⟩ = some (.slice A0_1 l0_1.length c0_1) := (blk_cell BK454.out 1).trans rfl; have hfz15_0 := blk_frozen BK454.out 0; have hfz15_1 := blk_frozen BK454.out 1; have q16 : ((ji4) : Int) ≤ ((l0_1.length : Int) : Int) := dt_; obtain ⟨i016, hi016, _, hsz16, _⟩ := info_parts info26; have hroom16 : l0_1.length ≤ c0_1 := HC0_1.out; have hC16 : Kd.C (Kd.slice 40 k40) _ A0_1 l0_1.length l0_1 := HR0_1.out; have q016 : (0 : Int) ≤ ((ji4) : Int) := dt_; have hcut16 := cut_from (P := Try.prog) 41 26 .i64 Try.underlying41 hi016 1 hsz16 A0_1 l0_1.length c0_1 (ji4) q016 q16; have hr16 := Kd.C_drop (m := ((ji4) : Int).toNat) (c := c0_1) hC16 (by omega) hroom16; obtain ⟨A16, hA16⟩ : ∃ A1, A1 = (if c0_1 = ((ji4) : Int).toNat then A0_1 else (A0_1 : Option Addr).map (·.add (((ji4) : Int).toNat * 1))) := ⟨_, rfl⟩; obtain ⟨c16, hc16⟩ : ∃ c1, c1 = c0_1 - ((ji4) : Int).toNat := ⟨_, rfl⟩; have hy16 : y457.length = l0_1.length - ((ji4) : Int).toNat := (by rw [Ny457.out, List.length_drop] <;> omega); rw [show (l0_1).drop ((ji4) : Int).toNat = y457 from Ny457.out.symm] at hr16; replace hr16 : Kd.C (Kd.slice 40 k40) _ A16 y457.length y457 := (by rw [hA16]; exact hr16); rw [← hy16, ← hA16, ← hc16] at hcut16; have HR460 := am hr16; have HC460 := am (show y457.length ≤ c16 from by rw [hy16, hc16]; exact Nat.sub_le_sub_right hroom16 _); clear hr16 hC16 hroom16 hi016 hsz16 hc16; have KY16 := am hy16; have KA16 := am hA16; clear hy16 hA16; replace q16 := eq_true q16))
  go_loopg [23] k (fun kq v23 w' => ∃ (x23_1 : Int) (x457001_1 : List (List (S40))) (u457001 : Value), v23 = .int .i64 x23_1 ∧ Aside0 (impl_Grid_resized.l0 kq a1 a2 y457 (y457.length : Int) x23_1 a0_0 l0_1 a1 x457001_1 = some (r1, r2)) ∧ Aside0 (kq ≤ k) ∧ Aside0 (Kd.S (Kd.slice 40 k40) 26 w' w.heap.size (fun _ => True) u457001 x457001_1) ∧ Aside0 (w'.heap[gb454]? = some (.cells #[.int .i64 a0_0, (.slice A0_1 l0_1.length c0_1)] 43 (0, 0))) ∧ Aside0 (w'.heap[gb455]? = some (.cells #[.int .i64 0, (.slice none 0 0)] 43 (0, 0))) ∧ Aside0 (w'.heap[gb456]? = some (.cells #[.int .i64 a1, u457001] 43 (0, 0))) ∧ Aside0 (Below w.heap.size w w'))
  case atStart => exact ⟨(0), (([] : List (List (S40)))), (.slice none 0 0), (by first | rfl | (simp; done) | (simp [*]; done)), H', ⟨Nat.le_refl _⟩, ⟨by first | exact Kd.S_nil _ _ _ _ _ | exact Kd.N_nil _ _ _ _ _ | exact Kd.V_nil _ _ _ _ _ | exact Kd.Q_nil _ _ _ _ _ | exact Kd.R_nil _ _ _ _ _⟩, ⟨rk BK454⟩, ⟨rk BK455⟩, ⟨rk BK456⟩, ⟨rb3 HB GE454 GE455 GE456⟩⟩
  case round =>
   clear H'
   try clear c1
   try clear q1
   try clear p2
   try clear c5
   try clear c5b0
   try clear c5b1
   try clear c6
   try clear c6b0
   try clear c6b1
   try clear p6
   try clear c10
   try clear c11
   try clear c14
   try clear c16
   try clear q16
   try clear hcz12_0
   try clear hcz12_1
   try clear hcz15_0
   try clear hcz15_1
   try clear hfz12_0
   try clear hfz12_1
   try clear hfz15_0
   try clear hfz15_1
   try clear q016
   try clear q16
   obtain ⟨x23_1, x457001_1, u457001, rfl, HA, HK1, HO_457001, BK454, BK455, BK456, HB⟩ := hrel
   cases gk with
   | zero => exact absurd HA.out (by simp [impl_Grid_resized.l0])
   | succ k1 =>
    have H := HA.out
    clear HA
    simp only [impl_Grid_resized.l0] at H
    by_cases c17 : x23_1 < (y457.length : Int)
    ·rw [if_pos c17] at H
     have c17b0 : decide (x23_1 < (y457.length : Int)) = true := decide_eq_true c17
     clear c17
     refine em_ (p := 0 ≤ x23_1) (fun c18 => ?g5p) (fun c18 => ?g5n)
     case' g5p =>
      rw [if_pos c18] at H
      have c18b0 : decide (0 ≤ x23_1) = true := decide_eq_true c18
      clear c18
      refine em_ (p := x23_1 < (y457.length : Int)) (fun c19 => ?g4p) (fun c19 => ?g4n)
      case' g4p =>
       rw [if_pos c19] at H
       have c19b0 : decide (x23_1 < (y457.length : Int)) = true := decide_eq_true c19
       clear c19
       replace H := Option.bind_eq_some_iff.mp H
       obtain ⟨t468, A200, H⟩ := H
       (try dsimp only at H)
       have A20 := am A200
       clear A200
       replace H := Option.bind_eq_some_iff.mp H
       obtain ⟨t471, A210, H⟩ := H
       (try dsimp only at H)
       have A21 := am A210
       clear A210
       obtain ⟨ji22, hji22⟩ : ∃ j_ : Int, (mn a1 a0_0) = j_ := ⟨_, rfl⟩
       replace H : (if 0 ≤ (ji22) then (if (ji22) ≤ (t468.length : Int) then (impl_Grid_resized.l1 k1 a1 a2 (t471.take ((ji22) : Int).toNat) y457 (y457.length : Int) x23_1 a0_0 l0_1 a1 x457001_1) else (none)) else (none)) = some (r1, r2) := by first | (rw [hji22] at H; exact H) | (simp only [hji22] at H ⊢; exact H)
       (try rw [hji22] at A20)
       (try rw [hji22] at A21)
       have hji22_ : (if a0_0 < a1 then a0_0 else a1) = ji22 := hji22
       refine em_ (p := 0 ≤ (ji22)) (fun c23 => ?g3p) (fun c23 => ?g3n)
       case' g3p =>
        rw [if_pos c23] at H
        have c23b0 := eq_true c23
        have c23b1 : decide (0 ≤ (ji22)) = true := decide_eq_true c23
        clear c23
        refine em_ (p := (ji22) ≤ (t468.length : Int)) (fun c24 => ?g2p) (fun c24 => ?g2n)
        case' g2p =>
         rw [if_pos c24] at H
         have c24b0 := eq_true c24
         have c24b1 : decide ((ji22) ≤ (t468.length : Int)) = true := decide_eq_true c24
         clear c24
         obtain ⟨y472, hy472⟩ : ∃ y_ : List (S40), y_ = (t471.take ((ji22) : Int).toNat) := ⟨_, rfl⟩
         replace H : (impl_Grid_resized.l1 k1 a1 a2 y472 y457 (y457.length : Int) x23_1 a0_0 l0_1 a1 x457001_1) = some (r1, r2) := by first | (rw [hy472]; with_reducible exact H) | (rw [hy472]; exact H) | exact H
         have Ny472 := am hy472
         clear hy472
         have H' := am H
         clear H
         have lf2_ := trivial
        case g2n =>
         rw [if_neg c24] at H
         exact absurd H (by simp)
       case g3n =>
        rw [if_neg c23] at H
        exact absurd H (by simp)
      case g4n =>
       rw [if_neg c19] at H
       exact absurd H (by simp)
     case g5n =>
      rw [if_neg c18] at H
      exact absurd H (by simp)
     all_goals
      have p467 : 0 ≤ (x23_1 : Int) := dt_
      have q467 : x23_1 < (y457.length : Int) := dt_
      obtain ⟨ad467, A467_0, c467_0, e467, hx467_0, hl467_0, hi467_0⟩ := at_L4 HR460.out x23_1 p467 q467
      cases e467
      replace hx467_0 := mv HB.out hx467_0
      have HR467_0 := am hi467_0
      have HC467_0 := am hl467_0
      clear hi467_0 hl467_0
      replace p467 := eq_true p467
      replace q467 := eq_true q467
      go_wp2_with (first | ((with_reducible refine gate_callee (f := 63) rfl ?_); refine gl_ (some 28) Try.func63 #[.slice A467_0 (rd_L4 y457 x23_1).length c467_0] ?_; (with_reducible refine (impl_Cell_63.calls _ _ (rd_L4 y457 x23_1) t468 _ ?side1 ?side2 A20.out).mono ?_); (case side1 => exact rc ((Kd.C_below HR467_0.out HB.out))); (case side2 => exact HC467_0.out); rintro e w25 ⟨v469, rfl, ho0, hb⟩; refine ⟨_, rfl, ?_⟩; have n0_ := am (Kd.S_elder' (rs HO_457001) (Kd.R_base ho0) hb); have n1_ := am (Kd.R_lower ho0 (below_size (rb3 HB GE454 GE455 GE456))); have n2_ := am (blk_below (g := gb454) (o := .cells #[.int .i64 a0_0, .slice A0_1 l0_1.length c0_1] 43 (0, 0)) (rk BK454) hb); have n3_ := am (blk_below (g := gb455) (o := .cells #[.int .i64 0, .slice none 0 0] 43 (0, 0)) (rk BK455) hb); have n4_ := am (blk_below (g := gb456) (o := .cells #[.int .i64 a1, u457001] 43 (0, 0)) (rk BK456) hb); have n5_ := am (below_step (rb3 HB GE454 GE455 GE456) hb); clear HO_457001; clear BK454; clear BK455; clear BK456; clear HB; have HO_457001 := n0_; have HO470 := n1_; have BK454 := n2_; have BK455 := n3_; have BK456 := n4_; have HB := n5_; clear n0_ n1_ n2_ n3_ n4_ n5_; (try clear hb); (try clear hb2); (try clear hk); (try clear hi); (try clear ho0); obtain ⟨Ao26, co26, eo26⟩ := Kd.R_slice HO470.out; subst eo26) | ((with_reducible refine gate_callee (f := 64) rfl ?_); refine gl_ (some 31) Try.func64 #[.slice Ao26 t468.length co26, .int .i64 a1] ?_; (with_reducible refine (impl_part.calls k1 (fun k_ => some k_ = (.slice Ao26 t468.length co26 : Value).ownBlock) (.slice Ao26 t468.length co26) t468 a1 t471 w _ ?side1 ?side2 A21.out).mono ?_); (case side1 => repeat (first | (with_reducible first | exact HB.out | apply b1 | apply b2 | apply b3 | refine below_set ?_ GE454.out | refine below_set ?_ GE455.out | refine below_set ?_ GE456.out) | exact HB.out)); (case side2 => exact Kd.R_tight rfl HO470.out); rintro e w27 ⟨rfl, hy0, hb, hkp⟩; refine ⟨_, rfl, ?_⟩; have n0_ := am (Kd.S_mono (ok' := fun k_ => some k_ ≠ (.slice Ao26 t468.length co26 : Value).ownBlock) (Kd.S_keptB (HO_457001.out) hkp (fun k_ hk_ hs_ => (hk_.2) hs_)) (fun k_ hk_ => hk_.1.2)); have n1_ := am (blk_kept (rk BK454) hkp (fun hs_ => (fun e_ => (Kd.R_ne HO470.out BK454.out (by decide)) e_) hs_)); have n2_ := am (blk_kept (rk BK455) hkp (fun hs_ => (fun e_ => (Kd.R_ne HO470.out BK455.out (by decide)) e_) hs_)); have n3_ := am (blk_kept (rk BK456) hkp (fun hs_ => (fun e_ => (Kd.R_ne HO470.out BK456.out (by decide)) e_) hs_)); have n4_ := am (Kd.R_reok rfl hy0 (fun k_ e_ => HO470.out.1 k_ e_)); have n5_ := am (hb); clear HO_457001; clear BK454; clear BK455; clear BK456; clear HO470; clear HB; have HO_457001 := n0_; have BK454 := n1_; have BK455 := n2_; have BK456 := n3_; have HO470 := n4_; have HB := n5_; clear n0_ n1_ n2_ n3_ n4_ n5_; (try clear hb); (try clear hkp); (try clear hy0); have hnb28 := NB454_455.out; have hnc28 := NB455_454.out; have hnb29 := NB454_456.out; have hnc29 := NB456_454.out; have hcz30_0 : w27.cell? ⟨gb454, 0, none⟩ = some (.int .i64 a0_0) := (blk_cell BK454.out 0).trans rfl; have hcz30_1 : w27.cell? ⟨gb454, 1, none⟩ = some (.slice A0_1 l0_1.length c0_1) := (blk_cell BK454.out 1).trans rfl; have hfz30_0 := blk_frozen BK454.out 0; have hfz30_1 := blk_frozen BK454.out 1; have q31 : ((ji22) : Int) ≤ ((t468.length : Int) : Int) := dt_; obtain ⟨i031, hi031, _, hsz31, _⟩ := info_parts info40; have hcut31 := cut_to (P := Try.prog) 26 40 .i64 Try.underlying26 hi031 Ao26 t468.length co26 (ji22) dt_ q31 (Kd.R_reads' HO470.out).2.1; have hr31 := Kd.R_take (m := ((ji22) : Int).toNat) HO470.out (by have e_ := (Kd.R_reads' HO470.out).1; omega); have hy31 : y472.length = ((ji22) : Int).toNat := (by have e_ := (Kd.R_reads' HO470.out).1; rw [Ny472.out, List.length_take]; omega); rw [← Ny472.out] at hr31; rw [← hy31] at hr31 hcut31; clear hy31 hi031 hsz31 HO470; have HO474 := am hr31; clear hr31; replace q31 := eq_true q31; have n9_ := am (Kd.S_mono (ok' := fun k_ => some k_ ≠ (.slice Ao26 y472.length co26 : Value).ownBlock) HO_457001.out (fun k_ h_ e_ => h_ (e_.trans (by generalize (Ao26 : Option Addr) = q_; cases q_ <;> rfl)))); clear HO_457001; have HO_457001 := n9_; clear n9_))
      go_loopg [10] k1 (fun kq v10 w' => ∃ (x10_2 : List (S40)), Aside0 (impl_Grid_resized.l1 kq a1 a2 x10_2 y457 (y457.length : Int) x23_1 a0_0 l0_1 a1 x457001_1 = some (r1, r2)) ∧ Aside0 (kq ≤ k1) ∧ Aside0 (Kd.R k40 40 w' w.heap.size (fun _ => True) v10 x10_2) ∧ Aside0 (Kd.S (Kd.slice 40 k40) 26 w' w.heap.size (fun k_ => some k_ ≠ (v10 : Value).ownBlock) u457001 x457001_1) ∧ Aside0 (w'.heap[gb454]? = some (.cells #[.int .i64 a0_0, (.slice A0_1 l0_1.length c0_1)] 43 (0, 0))) ∧ Aside0 (w'.heap[gb455]? = some (.cells #[.int .i64 0, (.slice none 0 0)] 43 (0, 0))) ∧ Aside0 (w'.heap[gb456]? = some (.cells #[.int .i64 a1, u457001] 43 (0, 0))) ∧ Aside0 (Below w.heap.size w w'))
      case atStart => exact ⟨(y472), H', ⟨Nat.le_refl _⟩, ⟨rr HO474⟩, ⟨rs HO_457001⟩, ⟨rk BK454⟩, ⟨rk BK455⟩, ⟨rk BK456⟩, ⟨rb3 HB GE454 GE455 GE456⟩⟩
      case round =>
       clear H'
       try clear c1
       try clear q1
       try clear c2
       try clear p2
       try clear q3
       try clear c4
       try clear p4
       try clear q4
       try clear hx4
       try clear c5
       try clear c5b0
       try clear c5b1
       try clear c6
       try clear c6b0
       try clear c6b1
       try clear p6
       try clear c10
       try clear c11
       try clear c14
       try clear c16
       try clear q16
       try clear c17
       try clear c17b0
       try clear c18
       try clear c18b0
       try clear c19
       try clear c19b0
       try clear c23
       try clear c23b0
       try clear c23b1
       try clear c24
       try clear c24b0
       try clear c24b1
       try clear c28
       try clear c29
       try clear q31
       try clear hcz12_0
       try clear hcz12_1
       try clear hcz15_0
       try clear hcz15_1
       try clear hcz30_0
       try clear hcz30_1
       try clear hfz12_0
       try clear hfz12_1
       try clear hfz15_0
       try clear hfz15_1
       try clear hfz30_0
       try clear hfz30_1
       try clear hx467_0
       try clear p2
       try clear p467
       try clear p6
       try clear q016
       try clear q1
       try clear q16
       try clear q31
       try clear q467
       obtain ⟨x10_2, HA, HK2, HO_10, HO_457001, BK454, BK455, BK456, HB⟩ := hrel
       cases gk with
       | zero => exact absurd HA.out (by simp [impl_Grid_resized.l1])
       | succ k2 =>
        have H := HA.out
        clear HA
        simp only [impl_Grid_resized.l1] at H
        by_cases c32 : (x10_2.length : Int) < a1
        ·rw [if_pos c32] at H
         have c32b0 : decide ((x10_2.length : Int) < a1) = true := decide_eq_true c32
         clear c32
         replace H := Option.bind_eq_some_iff.mp H
         obtain ⟨⟨t475, t476, t477, t478, t479, t480, t481⟩, A330, H⟩ := H
         (try dsimp only at H)
         have A33 := am A330
         clear A330
         refine em_ (p := x10_2.length < 3518437208883) (fun c34 => ?g7p) (fun c34 => ?g7n)
         case' g7p =>
          rw [if_pos c34] at H
          have LMc34 := am c34
          clear c34
          obtain ⟨y482, hy482⟩ : ∃ y_ : List (S40), y_ = (x10_2 ++ [(⟨t475, (⟨t476, t477, t478, t479, t480⟩ : S29), t481⟩ : S40)]) := ⟨_, rfl⟩
          replace H : (impl_Grid_resized.l1 k2 a1 a2 y482 y457 (y457.length : Int) x23_1 a0_0 l0_1 a1 x457001_1) = some (r1, r2) := by first | (rw [hy482]; with_reducible exact H) | (rw [hy482]; exact H) | exact H
          have Ny482 := am hy482
          clear hy482
          have H' := am H
          clear H
          obtain ⟨Ao35, co35, eo35⟩ := Kd.R_slice HO_10.out
          subst eo35
          have lf4_ := trivial
         case g7n =>
          rw [if_neg c34] at H
          exact absurd H (by simp)
         all_goals
          go_wp2_with (first | ((with_reducible refine gate_callee (f := 67) rfl ?_); refine gl_ (some 44) Try.func67 #[.agg #[.int .i64 0, .int .i64 0, .bool false, .bool false, .bool false]] ?_; (with_reducible refine (impl_blank.calls 0 0 false false false t475 t476 t477 t478 t479 t480 t481 _ A33.out).mono ?_); rintro e w36 ⟨rfl, hb⟩; refine ⟨_, rfl, ?_⟩; have n0_ := am (Kd.R_below (rr HO_10) hb); have n1_ := am (Kd.S_below (rs HO_457001) hb); have n2_ := am (blk_below (g := gb454) (o := .cells #[.int .i64 a0_0, .slice A0_1 l0_1.length c0_1] 43 (0, 0)) (rk BK454) hb); have n3_ := am (blk_below (g := gb455) (o := .cells #[.int .i64 0, .slice none 0 0] 43 (0, 0)) (rk BK455) hb); have n4_ := am (blk_below (g := gb456) (o := .cells #[.int .i64 a1, u457001] 43 (0, 0)) (rk BK456) hb); have n5_ := am (below_step (rb3 HB GE454 GE455 GE456) hb); clear HO_10; clear HO_457001; clear BK454; clear BK455; clear BK456; clear HB; have HO_10 := n0_; have HO_457001 := n1_; have BK454 := n2_; have BK455 := n3_; have BK456 := n4_; have HB := n5_; clear n0_ n1_ n2_ n3_ n4_ n5_; (try clear hb); (try clear hb2); (try clear hk); (try clear hi)) | ((with_reducible refine gate_builtin (b := .append) (xs := #[.tmp 42, .tmp 45]) rfl ?_); at_builtin; refine Kd.R_append k40 (w0 := w) w.heap.size rfl (.tmp 42) (.tmp 45) 26 40 (.agg #[(.int .i64 0), (.int .i64 0), (.int .i64 0), (.bool false), (.bool false), (.bool false), (.int .i64 0)]) 40 rfl Try.underlying26 info40 rfl (by decide) (by omega) (.slice Ao35 x10_2.length co35) x10_2 (⟨t475, (⟨t476, t477, t478, t479, t480⟩ : S29), t481⟩ : S40) [.int .i64 t475, .int .i64 t476, .int .i64 t477, .bool t478, .bool t479, .bool t480, .int .i64 t481] (fun _ => True) (fun _ => False) rfl rfl ?aP (fun _ hk => hk.elim) ?aF ?aO ?aB ?aS ?aL ?_; (case aP => exact k40_mkM _ _ _ (⟨t475, (⟨t476, t477, t478, t479, t480⟩ : S29), t481⟩ : S40)); (case aB => exact (rb3 HB GE454 GE455 GE456)); (case aF => exact (fun _ _ => trivial)); (case aO => exact (rr HO_10)); (case aS => exact (below_size (rb3 HB GE454 GE455 GE456))); (case aL => have := LMc34.out; omega); intro v483 w37 ho hb hg hat; rw [← Ny482.out] at ho; have n0_ := am (Kd.S_after (ok := (fun _ => True)) (by (with_reducible repeat (first | apply Kd.S_alloc | apply Kd.S_drewN | apply Kd.S_drew)); exact Kd.S_mono HO_457001.out (fun _ hk => ⟨trivial, hk⟩)) hg hat); have n1_ := am (blk_grown (g := gb454) (o := .cells #[.int .i64 a0_0, .slice A0_1 l0_1.length c0_1] 43 (0, 0)) (rk BK454) hg (Kd.R_ne HO_10.out BK454.out (by decide))); have n2_ := am (blk_grown (g := gb455) (o := .cells #[.int .i64 0, .slice none 0 0] 43 (0, 0)) (rk BK455) hg (Kd.R_ne HO_10.out BK455.out (by decide))); have n3_ := am (blk_grown (g := gb456) (o := .cells #[.int .i64 a1, u457001] 43 (0, 0)) (rk BK456) hg (Kd.R_ne HO_10.out BK456.out (by decide))); have n4_ := am (hb); have n5_ := am (ho); clear HO_457001; clear BK454; clear BK455; clear BK456; clear HB; clear HO_10; have HO_457001 := n0_; have BK454 := n1_; have BK455 := n2_; have BK456 := n3_; have HB := n4_; have HO484 := n5_; clear n0_ n1_ n2_ n3_ n4_ n5_; clear ho hb hg hat))
          go_roundg k2
          case measure => have := HK1.out; have := HK2.out; omega
          case rel => exact ⟨(y482), H', ⟨by have := HK1.out; have := HK2.out; omega⟩, ⟨rr HO484⟩, ⟨by (with_reducible repeat (first | apply Kd.S_alloc | apply Kd.S_drewN | apply Kd.S_drew)); exact Kd.S_mono HO_457001.out (fun _ hk => hk.2)⟩, ⟨rk BK454⟩, ⟨rk BK455⟩, ⟨rk BK456⟩, ⟨rb3 HB GE454 GE455 GE456⟩⟩
        ·rw [if_neg c32] at H
         have c32b0 : decide ((x10_2.length : Int) < a1) = false := decide_eq_false c32
         clear c32
         refine em_ (p := x457001_1.length < 5864062014805) (fun c38 => ?g8p) (fun c38 => ?g8n)
         case' g8p =>
          rw [if_pos c38] at H
          have LMc38 := am c38
          clear c38
          obtain ⟨y485, hy485⟩ : ∃ y_ : List (List (S40)), y_ = (x457001_1 ++ [x10_2]) := ⟨_, rfl⟩
          replace H : (impl_Grid_resized.l0 k2 a1 a2 y457 (y457.length : Int) (wrap64 (x23_1 + 1)) a0_0 l0_1 a1 y485) = some (r1, r2) := by first | (rw [hy485]; with_reducible exact H) | (rw [hy485]; exact H) | exact H
          have Ny485 := am hy485
          clear hy485
          have H' := am H
          clear H
          obtain ⟨Ao39, co39, eo39⟩ := Kd.R_slice HO_10.out
          subst eo39
          have lf5_ := trivial
         case g8n =>
          rw [if_neg c38] at H
          exact absurd H (by simp)
         all_goals
          have hnb40 := NB456_454.out
          have hnc40 := NB454_456.out
          have hnb41 := NB456_455.out
          have hnc41 := NB455_456.out
          have hcz42_0 : wr.cell? ⟨gb456, 0, none⟩ = some (.int .i64 a1) := (blk_cell BK456.out 0).trans rfl
          have hcz42_1 : wr.cell? ⟨gb456, 1, none⟩ = some (u457001) := (blk_cell BK456.out 1).trans rfl
          have hfz42_0 := blk_frozen BK456.out 0
          have hfz42_1 := blk_frozen BK456.out 1
          go_wp2_with (first | ((with_reducible refine gate_builtin (b := .append) (xs := #[.tmp 48, .tmp 50]) rfl ?_); at_builtin; refine Kd.S_append (Kd.slice 40 k40) (w0 := w) w.heap.size rfl (.tmp 48) (.tmp 50) 41 26 (.slice none 0 0) 24 rfl Try.underlying41 info26 rfl (by decide) (by omega) u457001 x457001_1 x10_2 [.slice Ao39 x10_2.length co39] (fun _ => True) (fun k_ => some k_ = (.slice Ao39 x10_2.length co39 : Value).ownBlock) rfl rfl ?aP (fun k_ hk_ => ((Kd.R_mono (ok' := fun k_ => ((fun _ => True)) k_ ∧ some k_ ≠ (u457001 : Value).ownBlock) (Kd.R_apart' (HO_10.out) (Kd.S_typed HO_457001.out) (by decide)) (fun k_ hk => ⟨trivial, hk.2⟩))).1 k_ hk_.symm) ?aF ?aO ?aB ?aS ?aL ?_; (case aP => exact Kd.M_row (Kd.R_mono (Kd.R_tight rfl (Kd.R_mono (ok' := fun k_ => ((fun _ => True)) k_ ∧ some k_ ≠ (u457001 : Value).ownBlock) (Kd.R_apart' (HO_10.out) (Kd.S_typed HO_457001.out) (by decide)) (fun k_ hk => ⟨trivial, hk.2⟩))) (fun _ h_ => h_))); (case aB => exact (rb3 HB GE454 GE455 GE456)); (case aF => exact (fun _ _ => trivial)); (case aO => exact (by (with_reducible repeat (first | apply Kd.S_alloc | apply Kd.S_drewN | apply Kd.S_drew)); exact Kd.S_mono HO_457001.out (fun k_ hk => ⟨trivial, fun e_ => hk e_⟩))); (case aS => exact (below_size (rb3 HB GE454 GE455 GE456))); (case aL => have := LMc38.out; omega); intro v486 w43 ho hb hg hat; rw [← Ny485.out] at ho; have n0_ := am (blk_grown (g := gb454) (o := .cells #[.int .i64 a0_0, .slice A0_1 l0_1.length c0_1] 43 (0, 0)) (rk BK454) hg (Kd.S_ne HO_457001.out BK454.out (by decide))); have n1_ := am (blk_grown (g := gb455) (o := .cells #[.int .i64 0, .slice none 0 0] 43 (0, 0)) (rk BK455) hg (Kd.S_ne HO_457001.out BK455.out (by decide))); have n2_ := am (blk_grown (g := gb456) (o := .cells #[.int .i64 a1, u457001] 43 (0, 0)) (rk BK456) hg (Kd.S_ne HO_457001.out BK456.out (by decide))); have n3_ := am (hb); have n4_ := am (ho); clear BK454; clear BK455; clear BK456; clear HB; clear HO_457001; clear HO_10; have BK454 := n0_; have BK455 := n1_; have BK456 := n2_; have HB := n3_; have HO487 := n4_; clear n0_ n1_ n2_ n3_ n4_; clear ho hb hg hat; obtain ⟨Ao44, co44, eo44⟩ := Kd.S_slice HO487.out; subst eo44; have hcz45_0 : w43.cell? ⟨gb456, 0, none⟩ = some (.int .i64 a1) := (blk_cell BK456.out 0).trans rfl; have hcz45_1 : w43.cell? ⟨gb456, 1, none⟩ = some (u457001) := (blk_cell BK456.out 1).trans rfl; have hfz45_0 := blk_frozen BK456.out 0; have hfz45_1 := blk_frozen BK456.out 1))
          go_roundg k2
          case measure => have := HK1.out; have := HK2.out; omega
          case rel => exact ⟨(wrap64 (x23_1 + 1)), (y485), (.slice Ao44 y485.length co44), (by first | rfl | (simp; done) | (simp [*]; done)), H', ⟨by have := HK1.out; have := HK2.out; omega⟩, ⟨by (with_reducible repeat (first | apply Kd.S_alloc | apply Kd.S_drewN | apply Kd.S_drew)); exact Kd.S_mono (Kd.S_far (p := ⟨gb456, 1, none⟩) (Kd.S_types HO487.out BK456.out (by decide)) (fun _ hk => hk.2) (.slice Ao44 y485.length co44)) (fun _ hk => trivial)⟩, ⟨by (with_reducible repeat (first | apply k1 | apply k2 | apply k3)); refine blk_far ?_ NB454_456.out _; (with_reducible repeat (first | apply k1 | apply k2 | apply k3)); exact BK454.out⟩, ⟨by (with_reducible repeat (first | apply k1 | apply k2 | apply k3)); refine blk_far ?_ NB455_456.out _; (with_reducible repeat (first | apply k1 | apply k2 | apply k3)); exact BK455.out⟩, ⟨by (with_reducible repeat (first | apply k1 | apply k2 | apply k3)); refine blk_put (cs := #[.int .i64 a1, u457001]) ?_ 1 _ rfl; (with_reducible repeat (first | apply k1 | apply k2 | apply k3)); exact BK456.out⟩, ⟨rb3 HB GE454 GE455 GE456⟩⟩
    ·rw [if_neg c17] at H
     have c17b0 : decide (x23_1 < (y457.length : Int)) = false := decide_eq_false c17
     clear c17
     replace H := Option.bind_eq_some_iff.mp H
     obtain ⟨t461, A460, H⟩ := H
     (try dsimp only at H)
     have A46 := am A460
     clear A460
     refine em_ (p := x457001_1.length + t461.length < 5864062014805) (fun c47 => ?g6p) (fun c47 => ?g6n)
     case' g6p =>
      rw [if_pos c47] at H
      have LMc47 := am c47
      clear c47
      obtain ⟨y464, hy464⟩ : ∃ y_ : List (List (S40)), y_ = (x457001_1 ++ t461) := ⟨_, rfl⟩
      replace H : (some (a1, y464)) = some (r1, r2) := by first | (rw [hy464]; with_reducible exact H) | (rw [hy464]; exact H) | exact H
      have Ny464 := am hy464
      clear hy464
      simp only [Option.some.injEq, Prod.mk.injEq] at H
      obtain ⟨rfl, rfl⟩ := H
      have lf3_ := trivial
     case g6n =>
      rw [if_neg c47] at H
      exact absurd H (by simp)
     all_goals
      try go_wp2
      have n0_ := am (Kd.S_drew HO_457001.out)
      have n1_ := am (blk_drew BK454.out)
      have n2_ := am (blk_drew BK455.out)
      have n3_ := am (blk_drew BK456.out)
      have n4_ := am (below_drew1 HB.out)
      clear HO_457001
      clear BK454
      clear BK455
      clear BK456
      clear HB
      have HO_457001 := n0_
      have BK454 := n1_
      have BK455 := n2_
      have BK456 := n3_
      have HB := n4_
      clear n0_ n1_ n2_ n3_ n4_
      obtain ⟨Ao49, co49, eo49⟩ := Kd.S_slice HO_457001.out
      (first | subst eo49 | (injection eo49 with f1_ f2_ f3_; have f4_ := f1_.symm; have f5_ := f3_.symm; clear f1_ f2_ f3_; subst f4_; subst f5_))
      refine start_ (n := 13) (S := fun w' => w'.cell? ⟨gb456, 0, none⟩ = some (.int .i64 a1) ∧ w'.cell? ⟨gb456, 1, none⟩ = some (.slice Ao49 x457001_1.length co49)) (ds := [12]) (bm 13 0) (by kernel_rfl) rfl rfl ⟨(blk_cell BK456.out 0).trans rfl, (blk_cell BK456.out 1).trans rfl⟩ (fun hHeld => ?_); refine with_tabW impl_Grid_resized.tab12 impl_Grid_resized.bits12 (fun HT_ HW_ => ?_)
      generalize wr.drew = w48 at HO_457001 BK454 BK455 BK456 HB hHeld ⊢
      refine pu_ 0 54 (bm 13 1) HT_.out ?_
      refine pu_ 3 57 (bm 13 9) HT_.out ?_
      refine pu_ 4 58 (bm 13 25) HT_.out ?_
      refine pu_ 8 62 (bm 13 281) HT_.out ?_
      refine take_ (i := 1) (N := some 55) (v := ?_) (a' := ?_) (bm 13 283) rfl rfl (take_ofW HT_.out HW_.out (by kernel_rfl)) (fun _ _ _ h => h) (Or.inl ⟨by rfl, ?_⟩) hHeld ?_ ?_
      rotate_left
      ·rintro w' ⟨s0, s1⟩
       go_simp
       with_reducible rfl
      rotate_left
      ·simp only [Act.put, List.setIfInBounds_toArray, List.set_cons_zero, List.set_cons_succ, i64_w, i32_w]
       rfl
      refine take_ (i := 2) (N := some 56) (v := ?_) (a' := ?_) (bm 13 287) rfl rfl (take_ofW HT_.out HW_.out (by kernel_rfl)) (fun _ _ _ h => h) (Or.inl ⟨by rfl, ?_⟩) hHeld ?_ ?_
      rotate_left
      ·rintro w' ⟨s0, s1⟩
       go_simp
       with_reducible rfl
      rotate_left
      ·simp only [Act.put, List.setIfInBounds_toArray, List.set_cons_zero, List.set_cons_succ, i64_w, i32_w]
       rfl
      refine take_ (i := 5) (N := some 59) (v := ?_) (a' := ?_) (bm 13 319) rfl rfl (take_ofW HT_.out HW_.out (by kernel_rfl)) (fun _ _ _ h => h) (Or.inl ⟨by rfl, ?_⟩) hHeld ?_ ?_
      rotate_left
      ·rintro w' ⟨s0, s1⟩
       go_simp
       with_reducible rfl
      rotate_left
      ·simp only [Act.put, List.setIfInBounds_toArray, List.set_cons_zero, List.set_cons_succ, i64_w, i32_w]
       rfl
      refine pu_ 6 60 (bm 13 383) HT_.out ?_
      refine pu_ 7 61 (bm 13 511) HT_.out ?_
      refine one_ (i := 9) (N := some 63) (bm 13 1023) rfl rfl (one_of HT_.out (by kernel_rfl)) (by decide) (fun K hK => ?_)
      refine goes_ Try.func79 (by kernel_rfl) rfl #[.agg #[.int .i64 a1, .slice Ao49 x457001_1.length co49], .int .i64 (wrap64 (a2 - (x457001_1.length : Int))), .agg #[.int .i64 0, .int .i64 0, .bool false, .bool false, .bool false]] (by rfl) rfl rfl (by (try simp only [List.map_toArray, List.map_cons, List.map_nil]); first | done | rfl | (simp only [List.length_drop, List.length_take]; rfl)) ?_
      with_reducible refine (impl_Grid_blanks.calls k1 a1 _ _ x457001_1 (wrap64 (a2 - (x457001_1.length : Int))) 0 0 false false false t461 _ ?side1 ?side2 A46.out).mono ?_
      (case side1 => repeat (first | exact (Kd.S_reads' HO_457001.out).2.2 | (with_reducible refine Kd.C_alloc ?_ _) | (with_reducible refine Kd.C_drewN ?_ _) | (with_reducible refine Kd.C_drew ?_)))
      (case side2 => exact (Kd.S_reads' HO_457001.out).2.1)
      rintro e w50 ⟨v462, rfl, ho0, hb⟩
      refine ⟨_, rfl, ?_⟩
      have n0_ := am (Kd.S_elder' (Sx_cap (rs HO_457001)) (Kd.S_base ho0) hb)
      have n1_ := am (Kd.S_lower (Kd.S_new' (Sx_floor ho0) (Kd.S_lt (rs HO_457001))) (below_size (rb3 HB GE454 GE455 GE456)))
      have n2_ := am (blk_below (g := gb454) (o := .cells #[.int .i64 a0_0, .slice A0_1 l0_1.length c0_1] 43 (0, 0)) (rk BK454) hb)
      have n3_ := am (blk_below (g := gb455) (o := .cells #[.int .i64 0, .slice none 0 0] 43 (0, 0)) (rk BK455) hb)
      have n4_ := am (blk_below (g := gb456) (o := .cells #[.int .i64 a1, .slice Ao49 x457001_1.length co49] 43 (0, 0)) (rk BK456) hb)
      have n5_ := am (below_step (rb3 HB GE454 GE455 GE456) hb)
      clear HO_457001
      clear BK454
      clear BK455
      clear BK456
      clear HB
      have HO_457001 := n0_
      have HO463 := n1_
      have BK454 := n2_
      have BK455 := n3_
      have BK456 := n4_
      have HB := n5_
      clear n0_ n1_ n2_ n3_ n4_ n5_
      (try clear hb)
      (try clear hb2)
      (try clear hk)
      (try clear hi)
      (try clear ho0)
      obtain ⟨Ao53, co53, eo53⟩ := Kd.S_slice HO463.out
      (first | subst eo53 | (injection eo53 with f1_ f2_ f3_; have f4_ := f1_.symm; have f5_ := f3_.symm; clear f1_ f2_ f3_; subst f4_; subst f5_))
      refine hK.out _ _ ⟨(blk_cell BK456.out 0).trans rfl, (blk_cell BK456.out 1).trans rfl⟩ (fun hHeld => ?_)
      clear hK K
      refine norm_ (a' := ?_) ?_ ?_
      rotate_left
      ·show Act.put _ (some 63) _ = _
       simp only [Act.put, List.setIfInBounds_toArray, List.set_cons_zero, List.set_cons_succ, i64_w, i32_w]
       rfl
      refine one_ (i := 10) (N := some 64) (bm 13 2047) rfl rfl (one_of HT_.out (by kernel_rfl)) (by decide) (fun K hK => ?_)
      refine Kd.S_append_rows_step (Kd.slice 40 k40) (w0 := w) w.heap.size (by rfl) (.tmp 55) (.tmp 63) 41 26 (.slice none 0 0) 24 rfl Try.underlying41 info26 rfl (by decide) (by omega) (.slice Ao49 x457001_1.length co49) x457001_1 t461 _ _ _ (fun _ => True) _ rfl rfl ?aO (rs HO463) ?aK ?aF ?aB ?aS ?aL ?_
      (case aK => exact fun k_ hk => ⟨trivial, hk.2⟩)
      (case aB => exact (rb3 HB GE454 GE455 GE456))
      (case aF => exact (fun _ _ => trivial))
      (case aO => exact (by (with_reducible repeat (first | apply Kd.S_alloc | apply Kd.S_drewN | apply Kd.S_drew)); exact Kd.S_mono HO_457001.out (fun k_ hk => ⟨trivial, fun e_ => Nat.not_lt.2 (e_.1.2) (hk.1.2)⟩)))
      (case aS => exact (below_size (rb3 HB GE454 GE455 GE456)))
      (case aL => have := LMc47.out; omega)
      intro v465 w52 ho hb hg hat
      rw [← Ny464.out] at ho
      have n0_ := am (blk_grown (g := gb454) (o := .cells #[.int .i64 a0_0, .slice A0_1 l0_1.length c0_1] 43 (0, 0)) (rk BK454) hg (Kd.S_ne HO_457001.out BK454.out (by decide)))
      have n1_ := am (blk_grown (g := gb455) (o := .cells #[.int .i64 0, .slice none 0 0] 43 (0, 0)) (rk BK455) hg (Kd.S_ne HO_457001.out BK455.out (by decide)))
      have n2_ := am (blk_grown (g := gb456) (o := .cells #[.int .i64 a1, .slice Ao49 x457001_1.length co49] 43 (0, 0)) (rk BK456) hg (Kd.S_ne HO_457001.out BK456.out (by decide)))
      have n3_ := am (hb)
      have n4_ := am (ho)
      clear BK454
      clear BK455
      clear BK456
      clear HB
      clear HO_457001
      clear HO463
      have BK454 := n0_
      have BK455 := n1_
      have BK456 := n2_
      have HB := n3_
      have HO466 := n4_
      clear n0_ n1_ n2_ n3_ n4_
      clear ho hb hg hat
      obtain ⟨Ao54, co54, eo54⟩ := Kd.S_slice HO466.out
      (first | subst eo54 | (injection eo54 with f1_ f2_ f3_; have f4_ := f1_.symm; have f5_ := f3_.symm; clear f1_ f2_ f3_; subst f4_; subst f5_))
      refine hK.out _ _ ⟨(blk_cell BK456.out 0).trans rfl, (blk_cell BK456.out 1).trans rfl⟩ (fun hHeld => ?_)
      clear hK K
      refine norm_ (a' := ?_) ?_ ?_
      rotate_left
      ·show Act.put _ (some 64) _ = _
       simp only [Act.put, List.setIfInBounds_toArray, List.set_cons_zero, List.set_cons_succ, i64_w, i32_w]
       rfl
      refine pu_ 11 65 (bm 13 4095) HT_.out ?_
      refine last_ (i := 12) (N := none) (bm 13 8191) rfl rfl (one_of HT_.out (by kernel_rfl)) (by decide) (fun K hK => ?_)
      have hs55 : w52.cell? ⟨gb456, 1, none⟩ = some (.slice Ao49 x457001_1.length co49) := (blk_cell BK456.out 1).trans rfl
      have hfs55 := blk_frozen BK456.out 1
      have hns55_0 := NB454_456.out
      have hns55_1 := NB455_456.out
      have hms55_0 := NB456_454.out
      have hms55_1 := NB456_455.out
      refine skip_ (w1 := ?_) (by rfl) rfl ?_ ?_
      rotate_left
      ·go_simp
       rfl
      refine hK.out _ _ ?_
      clear hK K
      refine done_ (done_of HT_.out (by kernel_rfl)) ?_
      have hnb56 := NB456_454.out
      have hnc56 := NB454_456.out
      have hnb57 := NB456_455.out
      have hnc57 := NB455_456.out
      have hcz58_0 : w52.cell? ⟨gb456, 0, none⟩ = some (.int .i64 a1) := (blk_cell BK456.out 0).trans rfl
      have hcz58_1 : w52.cell? ⟨gb456, 1, none⟩ = some (.slice Ao49 x457001_1.length co49) := (blk_cell BK456.out 1).trans rfl
      have hfz58_0 := blk_frozen BK456.out 0
      have hfz58_1 := blk_frozen BK456.out 1
      have hnb59 := NB455_454.out
      have hnc59 := NB454_455.out
      have hcz60_0 : w52.cell? ⟨gb455, 0, none⟩ = some (.int .i64 0) := (blk_cell BK455.out 0).trans rfl
      have hcz60_1 : w52.cell? ⟨gb455, 1, none⟩ = some (.slice none 0 0) := (blk_cell BK455.out 1).trans rfl
      have hfz60_0 := blk_frozen BK455.out 0
      have hfz60_1 := blk_frozen BK455.out 1
      try go_wp2
      refine bodyPost_ret (results_cell_row rfl _ _ gb455 43 #[.int .i64 a1, .slice Ao54 y464.length co54] (0, 0) _ rfl (by (with_reducible repeat (first | apply k1 | apply k2 | apply k3)); refine blk_put (cs := #[.int .i64 a1, .slice none 0 0]) ?_ 1 _ rfl; (with_reducible repeat (first | apply k1 | apply k2 | apply k3)); refine blk_put (cs := #[.int .i64 0, .slice none 0 0]) ?_ 0 _ rfl; (with_reducible repeat (first | apply k1 | apply k2 | apply k3)); refine blk_far ?_ NB455_456.out _; (with_reducible repeat (first | apply k1 | apply k2 | apply k3)); exact BK455.out) Try.underlying43 rfl (by kernel_rfl)) rfl ?_
      exact ⟨_, by first | rfl | (simp [errW_none, errW_some] <;> rfl) | (simp only [← hji4]; first | rfl | (simp [errW_none, errW_some] <;> rfl)) | (simp [*, errW_none, errW_some] <;> rfl), by (with_reducible repeat (first | apply Kd.S_alloc | apply Kd.S_drewN | apply Kd.S_drew)); exact Kd.S_mono (Kd.S_far (p := ⟨gb455, 1, none⟩) (Kd.S_far (p := ⟨gb455, 0, none⟩) (Kd.S_far (p := ⟨gb456, 1, none⟩) (Kd.S_types (Kd.S_types HO466.out BK456.out (by decide)) BK455.out (by decide)) (fun _ hk => hk.1.2) (.slice Ao54 y464.length co54)) (fun _ hk => hk.2) (.int .i64 a1)) (fun _ hk => hk.2) (.slice Ao54 y464.length co54)) (fun _ hk => trivial), rb3 HB GE454 GE455 GE456⟩

end Go.Proofs.Ytfhkpneffmcdbaa.QE
