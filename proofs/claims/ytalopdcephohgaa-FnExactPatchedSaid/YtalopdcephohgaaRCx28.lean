/- Contracts of Go functions that laws of this seat reach: each Lean function answers as its Go function does. No condition. Written by wip/tools/inj.py, over the kit's print. -/
import Derived.Test.YtalopdcephohgaaRCx0
import Derived.Test.YtalopdcephohgaaRCx20
import Derived.Test.YtalopdcephohgaaRCx23
import Derived.Test.YtalopdcephohgaaRCx27
namespace Go.Proofs.Ytalopdcephohgaa.RC
open Go.RowKit Go.Proofs.YtalopdcephohgaaW.PrintWords Go.Proofs.YtalopdcephohgaaW.PrintLast Go.Proofs.YtalopdcephohgaaW.PrintMore
attribute [local go_sem] max2_int min2_int max_two min_two max_three min_three max_four min_four   -- for this text's walks alone
set_option linter.unusedVariables false
set_option linter.unusedSimpArgs false

/-! ### impl_Patched: function 42 -/
section
open Go.Lib
theorem cp_cells {base g n cap size : Nat} {e : TypeId} : ∀ (seg : List Value) (o : Nat) (w : World) (xs : List Value), w.ownsRow base e size (.slice (some ⟨g, 0, none⟩) n cap) n xs → o + seg.length ≤ xs.length →
  (w.setCells g o seg).ownsRow base e size (.slice (some ⟨g, 0, none⟩) n cap) n (xs.take o ++ seg ++ xs.drop (o + seg.length)) ∧ w.grownBy (w.setCells g o seg) (some g)
 | [], o, w, xs, h, ho => by
  refine ⟨?_, ⟨rfl, rfl, rfl, Nat.le_refl _, fun _ _ _ => rfl⟩⟩
  show w.ownsRow base e size _ n _
  rw [List.append_nil, List.length_nil, Nat.add_zero, List.take_append_drop]
  exact h
 | u :: seg, o, w, xs, h, ho => by
  rw [List.length_cons] at ho
  have h1 := h.stored o u
  obtain ⟨h2, h3⟩ := cp_cells seg (o + 1) (w.setCell ⟨g, o, none⟩ u) (xs.set o u) h1.1 (by rw [List.length_set]; omega)
  refine ⟨?_, h1.2.trans h3⟩
  have hl : (xs.set o u).take (o + 1) ++ seg ++ (xs.set o u).drop (o + 1 + seg.length) = xs.take o ++ (u :: seg) ++ xs.drop (o + (u :: seg).length) := by
   rw [List.take_succ_eq_append_getElem (by rw [List.length_set]; omega), List.getElem_set_self, List.take_set_of_le (Nat.le_refl _), List.drop_set_of_lt (by omega), List.length_cons]
   rw [show o + 1 + seg.length = o + (seg.length + 1) by omega]
   simp
  rw [← hl]
  exact h2
theorem cp_one {w : World} {base : Nat} {ok : Nat → Prop} {ps : List S98} {cs : List Value} (h : Reps (k98.M w base ok) 7 ps cs) : ∀ u ∈ cs, u.oneCell' = true := by
 intro u hu
 obtain ⟨t, ht, rfl⟩ := List.mem_iff_getElem.mp hu
 have hl := h.1
 have hj : t / 7 < ps.length := by omega
 have hb := k98_openM (h.2 (t / 7) _ (List.getElem?_eq_getElem hj))
 have hm : cs[t] ∈ (cs.drop (t / 7 * 7)).take 7 := by
  rw [List.mem_iff_getElem]
  refine ⟨t % 7, by rw [List.length_take, List.length_drop]; omega, ?_⟩
  rw [List.getElem_take, List.getElem_drop]
  congr 1
  omega
 rw [hb] at hm
 simp only [List.mem_cons, List.not_mem_nil, or_false] at hm
 rcases hm with h | h | h | h | h | h | h
 all_goals (rw [h]; rfl)
theorem cp_flat {w w' : World} {base base' : Nat} {ok ok' : Nat → Prop} {ps : List S98} {cs : List Value} (h : Reps (k98.M w base ok) 7 ps cs) : Reps (k98.M w' base' ok') 7 ps cs := by
 refine Reps.imp_ h (fun p c hR => ?_)
 rw [k98_openM hR]
 exact k98_mkM _ _ _ _
theorem cp_shape {w : World} {base g n cap size : Nat} {e : TypeId} {xs : List Value} (h : w.ownsRow base e size (.slice (some ⟨g, 0, none⟩) n cap) n xs) : n ≤ cap ∧ (∀ t, w.frozen? ⟨g, t, none⟩ = false) ∧ (∀ t, t < cap * size → (w.cell? ⟨g, t, none⟩).isSome = true) ∧ base ≤ g ∧ g < w.heap.size := by
 rcases h.2 with ⟨h', _⟩ | ⟨g', cap', cur, h', hb, hg, hnc, hcm, hcs, htake⟩
 ·simp at h'
 ·simp only [Value.slice.injEq, Option.some.injEq, Addr.mk.injEq, and_true, true_and] at h'
  obtain ⟨rfl, rfl⟩ := h'
  refine ⟨hnc, fun t => frozen_of_row w g t cur e hg, fun t ht => ?_, hb, (Array.getElem?_eq_some_iff.1 hg).1⟩
  rw [cell_of_row w g t cur e (0, 0) hg, Array.getElem?_eq_getElem (by omega)]
  rfl
theorem cp_run {P : Program} (w : World) (dT sT ty elem : TypeId) (b o dLen dCap : Nat) (a : Addr) (sLen sCap sz m : Nat) (cs : List Value)
  (hu : P.underlying dT = some (.slice elem)) (hs : (P.info? elem).map (·.size) = some sz) (hm : m = Nat.min sLen dLen) (hn : cs.length = m * sz)
  (hsrc : ∀ j v, cs[j]? = some v → w.cell? (a.add j) = some v) (hc : ∀ j, j < cs.length → (w.cell? ⟨b, o + j, none⟩).isSome = true) (hf : ∀ j, j < cs.length → w.frozen? ⟨b, o + j, none⟩ = false) (h1 : ∀ v ∈ cs, v.oneCell' = true) :
  (Builtin.copy_ #[dT, sT] ty #[.slice (some ⟨b, o, none⟩) dLen dCap, .slice (some a) sLen sCap]).run P w = .ok (goInt m) (w.setCells b o cs) := by
 have hl := run_loadCells_list (P := P) w a cs hsrc
 have hst := run_storeCells_cells (P := P) b o cs 0 w (by simpa using hc) (by simpa using hf) h1
 cases hq : P.info? elem with
 | none => simp [hq] at hs
 | some i =>
  have hi : i.size = sz := by simpa [hq] using hs
  simp only [Nat.add_zero] at hst
  simp [Builtin.copy_, run_underlying hu, Builtin.lenOf, Builtin.firstCells, sizeOf, typeInfo, hq, hi, ← hm, ← hn, hl, hst]
theorem cp_zero {P : Program} (w : World) (dT sT ty elem : TypeId) (d a : Option Addr) (dLen dCap sLen sCap sz : Nat) (hu : P.underlying dT = some (.slice elem)) (hs : (P.info? elem).map (·.size) = some sz) (hn : Nat.min sLen dLen = 0) :
  (Builtin.copy_ #[dT, sT] ty #[.slice d dLen dCap, .slice a sLen sCap]).run P w = .ok (goInt 0) w := by
 cases hq : P.info? elem with
 | none => simp [hq] at hs
 | some i =>
  have hl : ∀ (x : Addr), (loadCells x 0).run P w = .ok #[] w := fun x => by simpa using run_loadCells_list (P := P) w x [] (by simp)
  cases d <;> cases a <;> simp [Builtin.copy_, run_underlying hu, Builtin.lenOf, Builtin.firstCells, sizeOf, typeInfo, hq, hn, storeCells, hl]
/-- Cells copied over a row, from a place on. -/
def cpv (l : List S98) (i : Nat) (c : List S98) : List S98 := l.take i ++ c.take (l.length - i) ++ l.drop (i + min c.length (l.length - i))
theorem cpv_length (l : List S98) (i : Nat) (c : List S98) (h : i ≤ l.length) : (cpv l i c).length = l.length := by
 unfold cpv
 rw [List.length_append, List.length_append, List.length_take, List.length_take, List.length_drop]; omega
theorem cp_step {P : Program} {ops : Array Oper} {o : Oper} {a : Act} {W w0 : World} {Kc : Act → World → Prop} {Q : Exit → Act → World → Prop} (base : Nat) (hw : Region.wanted o (yielded ops a.tmps) = true) (d s : Operand) (t : TypeId)
  (ho : o.op = .call { callee := .builtin .copy, args := #[d, s], argTypes := #[t, t] }) (ht : P.underlying t = some (.slice 98)) {z : Value} {bytes : Nat} (hinfo : (P.info? 98).map (fun i => (i.zero, i.size, i.bytes)) = some (some z, 7, bytes))
  {g cap n1 c1 m c : Nat} {A1 A : Option Addr} {xs ys : List S98} {ok : Nat → Prop} (i : Int) (hd : a.eval d = .slice A1 n1 c1) (hs : a.eval s = .slice A m c)
  (hA : A1 = if cap = i.toNat then some ⟨g, 0, none⟩ else (some ⟨g, 0, none⟩ : Option Addr).map (·.add (i.toNat * 7))) (hn : n1 = xs.length - i.toNat) (h0 : 0 ≤ i) (h1 : i < xs.length)
  (HX : Kd.R k98 98 W base ok (.slice (some ⟨g, 0, none⟩) xs.length cap) xs) (HS : Kd.C k98 W A m ys) (HB : Below base w0 W)
  (h : ∀ v1 w1, Kd.R k98 98 w1 base ok (.slice (some ⟨g, 0, none⟩) xs.length cap) (cpv xs i.toNat ys) → Below base w0 w1 → W.grownBy w1 (some g) → Kc (a.put o.dst v1) w1) :
  if Region.wanted o (yielded ops a.tmps) = true then Oper.wp P o a W Kc Q else Kc (a.put o.dst undef) W := by
 rw [if_pos hw]
 obtain ⟨j, rfl⟩ := Int.eq_ofNat_of_zero_le h0
 simp only [Int.toNat_natCast] at hA hn h
 have hj : j < xs.length := by omega
 obtain ⟨hok, inner, hown, hreps⟩ := HX
 obtain ⟨i0, hi0, hz0, hzs, hzb⟩ := info_parts hinfo
 have hsz : (P.info? 98).map (·.size) = some 7 := by rw [hi0]; simp [hzs]
 have hk7 : k98.sz = 7 := rfl
 rw [hk7] at hown hreps
 obtain ⟨hnc, hfz, hsp, hbg, hgl⟩ := cp_shape hown
 have hil : inner.length = xs.length * 7 := hown.1
 have hcap : ¬ cap = j := by omega
 rw [if_neg hcap] at hA
 have hA2 : (some ⟨g, 0, none⟩ : Option Addr).map (·.add (j * 7)) = some ⟨g, j * 7, none⟩ := by rw [Option.map_some, Addr.add_lit, Nat.zero_add]
 rw [hA2] at hA
 subst hA
 have hyl : ys.length = m := HS.1
 have hcl := cpv_length xs j ys (by omega)
 have key : ∃ v1 w1, (Builtin.copy_ #[t, t] o.type #[.slice (some ⟨g, j * 7, none⟩) n1 c1, .slice A m c]).run P W = .ok v1 w1 ∧ Kd.R k98 98 w1 base ok (.slice (some ⟨g, 0, none⟩) xs.length cap) (cpv xs j ys) ∧ Below base w0 w1 ∧ W.grownBy w1 (some g) := by
  rcases Nat.eq_zero_or_pos m with h0m | hpos
  ·subst h0m
   obtain rfl : ys = [] := List.eq_nil_of_length_eq_zero hyl
   refine ⟨_, W, cp_zero W t t o.type 98 _ A n1 c1 0 c 7 ht hsz (by simp [Nat.min_def]), ?_, HB, World.grownBy.refl W _⟩
   rw [show cpv xs j [] = xs by simp [cpv]]
   exact ⟨hok, inner, hown, hreps⟩
  ·obtain ⟨ad, rfl, _⟩ := HS.2.2 hpos
   obtain ⟨src, hsr, hsc⟩ := ReadsRow.inner_ HS
   have hsr' : Reps (k98.M W base (fun _ => True)) 7 ys src := Reps.imp_ hsr (fun p c hp => by rw [k98_open hp]; exact k98_mkM _ _ _ _)
   have hone := cp_one hsr'
   have hsl : src.length = m * 7 := by rw [hsr'.1, hyl]
   obtain ⟨mm, hmm⟩ : ∃ mm, mm = Nat.min m n1 := ⟨_, rfl⟩
   have hm1 : mm ≤ m ∧ mm ≤ n1 ∧ (mm = m ∨ mm = n1) := by rw [hmm]; simp only [Nat.min_def]; split <;> omega
   have hct : (src.take (mm * 7)).length = mm * 7 := by rw [List.length_take, hsl]; omega
   have hrun := cp_run W t t o.type 98 g (j * 7) n1 c1 ad m c 7 mm (src.take (mm * 7)) ht hsz hmm hct
    (fun q v hq => hsc q v (by rw [List.getElem?_take] at hq; split at hq; exact hq; cases hq))
    (fun q hq => hsp _ (by omega)) (fun q _ => hfz _) (fun v hv => hone v (List.mem_of_mem_take hv))
   obtain ⟨hw1, hg1⟩ := cp_cells (src.take (mm * 7)) (j * 7) W inner hown (by rw [hct, hil]; omega)
   refine ⟨_, _, hrun, ⟨hok, _, by rw [hcl]; exact hw1, ?_⟩, Below.grown HB hg1 (by omega) (fun k hk => by injection hk with hk; omega), hg1⟩
   have e1 : cpv xs j ys = xs.take j ++ ys.take mm ++ xs.drop (j + mm) := by
    unfold cpv
    rw [← hn]
    have e2 : min ys.length n1 = mm := by omega
    have e3 : ys.take n1 = ys.take mm := by
     rcases hm1.2.2 with q | q
     ·rw [List.take_of_length_le (show ys.length ≤ n1 by omega), List.take_of_length_le (show ys.length ≤ mm by omega)]
     ·rw [q]
    rw [e2, e3]
   rw [e1, hk7, hct, show j * 7 + mm * 7 = (j + mm) * 7 by omega]
   exact Kd.reps_append (Kd.reps_append (cp_flat (Kd.reps_take hreps (by omega))) (cp_flat (Kd.reps_take hsr' (by omega)))) (cp_flat (Kd.reps_drop hreps))
 obtain ⟨v1, w1, hr, hX, hB1, hg1⟩ := key
 unfold Oper.wp
 simp [execOp, ho, resolve, invoke, builtin, hd, hs, hr, Result.andThen]
 exact h v1 w1 hX hB1 hg1
end
mutual
def impl_Patched.j0 : Nat → Bool → Int → List (List (S98)) → Int → Int → List (S101) → Option (Int × (List (List (S98))) × Bool)
 | 0, _, _, _, _, _, _ => none
 | k + 1, x30, x484000, x484001, x485000, x485001, x485002 => if x30 = true then (some (0, ([] : List (List (S98))), false)) else ((impl_Grid_resized.f k x484000 x484001 x485000 x485001).bind fun bt489 => (impl_Patched.l0 k x485002 (x485002.length : Int) 0 x485000 x485001 x485002 bt489.1 bt489.2))
def impl_Patched.l0 : Nat → List (S101) → Int → Int → Int → Int → List (S101) → Int → List (List (S98)) → Option (Int × (List (List (S98))) × Bool)
 | 0, _, _, _, _, _, _, _, _ => none
 | k + 1, x39, x40, x41, x485000, x485001, x485002, x494000, x494001 => if x41 < x40 then (if 0 ≤ x41 then (if x41 < (x39.length : Int) then ((impl_in.f ((rd_T101 x39 x41).f0) 0 (wrap64 (x485001 - 1))).bind fun t497 => (if t497 = true then ((impl_in.f (((rd_T101 x39 x41).f2).length : Int) 1 x485000).bind fun t498 => (if t498 = true then ((impl_in.f ((rd_T101 x39 x41).f1) 0 (wrap64 (x485000 - (((rd_T101 x39 x41).f2).length : Int)))).bind fun t499 => (if t499 = true then (if 0 ≤ ((rd_T101 x39 x41).f0) then (if ((rd_T101 x39 x41).f0) < (x494001.length : Int) then (if 0 ≤ ((rd_T101 x39 x41).f1) then (if ((rd_T101 x39 x41).f1) ≤ ((rd_L7 x494001 ((rd_T101 x39 x41).f0)).length : Int) then (if ((rd_T101 x39 x41).f1) < ((rd_L7 x494001 ((rd_T101 x39 x41).f0)).length : Int) then (impl_Patched.l0 k x39 x40 (wrap64 (x41 + 1)) x485000 x485001 x485002 x494000 (x494001.set (((rd_T101 x39 x41).f0) : Int).toNat (cpv (rd_L7 x494001 ((rd_T101 x39 x41).f0)) (((rd_T101 x39 x41).f1) : Int).toNat ((rd_T101 x39 x41).f2)))) else (none)) else (none)) else (none)) else (none)) else (none)) else (some (0, ([] : List (List (S98))), false)))) else (some (0, ([] : List (List (S98))), false)))) else (some (0, ([] : List (List (S98))), false)))) else (none)) else (none)) else ((impl_GridOk.f k x494000 x494001).bind fun t494 => (if t494 = true then (some (x494000, x494001, true)) else (some (0, ([] : List (List (S98))), false))))
end
def impl_Patched.f (k : Nat) (a0_0 : Int) (l0_1 : List (List (S98))) (a1_0 : Int) (a1_1 : Int) (l1_2 : List (S101)) : Option (Int × (List (List (S98))) × Bool) := (impl_GridOk.f k a0_0 l0_1).bind fun t486 => (if t486 = true then ((impl_in.f a1_0 1 60).bind fun t487 => (if t487 = true then ((impl_in.f a1_1 1 30).bind fun t488 => (if t488 = true then (impl_Patched.j0 k (decide ((l1_2.length : Int) > 400)) a0_0 l0_1 a1_0 a1_1 l1_2) else (impl_Patched.j0 k true a0_0 l0_1 a1_0 a1_1 l1_2))) else (impl_Patched.j0 k true a0_0 l0_1 a1_0 a1_1 l1_2))) else (impl_Patched.j0 k true a0_0 l0_1 a1_0 a1_1 l1_2))
theorem impl_Patched.mono_l : ∀ k, (∀ y0 y1 y2 y3 y4 y5, LeO (impl_Patched.j0 k y0 y1 y2 y3 y4 y5) (impl_Patched.j0 (k + 1) y0 y1 y2 y3 y4 y5)) ∧ (∀ y0 y1 y2 y3 y4 y5 y6 y7, LeO (impl_Patched.l0 k y0 y1 y2 y3 y4 y5 y6 y7) (impl_Patched.l0 (k + 1) y0 y1 y2 y3 y4 y5 y6 y7))
 | 0 => ⟨fun _ _ _ _ _ _ r h => by simp [impl_Patched.j0] at h, fun _ _ _ _ _ _ _ _ r h => by simp [impl_Patched.l0] at h⟩
 | k + 1 => by
  obtain ⟨ih0, ih1⟩ := impl_Patched.mono_l k
  refine ⟨?_, ?_⟩
  ·intro y0 y1 y2 y3 y4 y5
   unfold impl_Patched.j0
   repeat' first
   | (with_reducible exact ih0 _ _ _ _ _ _)
   | (with_reducible exact ih1 _ _ _ _ _ _ _ _)
   | (with_reducible exact impl_GridOk.mono _ _ _)
   | (with_reducible exact impl_Grid_resized.mono _ _ _ _ _)
   | (with_reducible exact LeO.refl _)
   | (with_reducible exact LeO.none _)
   | (with_reducible refine LeO.ite ?_ ?_)
   | (with_reducible refine LeO.bind ?_ (fun _ => ?_))
  ·intro y0 y1 y2 y3 y4 y5 y6 y7
   unfold impl_Patched.l0
   repeat' first
   | (with_reducible exact ih0 _ _ _ _ _ _)
   | (with_reducible exact ih1 _ _ _ _ _ _ _ _)
   | (with_reducible exact impl_GridOk.mono _ _ _)
   | (with_reducible exact impl_Grid_resized.mono _ _ _ _ _)
   | (with_reducible exact LeO.refl _)
   | (with_reducible exact LeO.none _)
   | (with_reducible refine LeO.ite ?_ ?_)
   | (with_reducible refine LeO.bind ?_ (fun _ => ?_))
theorem impl_Patched.mono : ∀ a0 a1 a2 a3 a4 k, LeO (impl_Patched.f k a0 a1 a2 a3 a4) (impl_Patched.f (k + 1) a0 a1 a2 a3 a4) := by
 intro a0 a1 a2 a3 a4 k
 obtain ⟨ih0, ih1⟩ := impl_Patched.mono_l k
 unfold impl_Patched.f
 repeat' first
   | (with_reducible exact ih0 _ _ _ _ _ _)
   | (with_reducible exact ih1 _ _ _ _ _ _ _ _)
   | (with_reducible exact impl_GridOk.mono _ _ _)
   | (with_reducible exact impl_Grid_resized.mono _ _ _ _ _)
   | (with_reducible exact LeO.refl _)
   | (with_reducible exact LeO.none _)
   | (with_reducible refine LeO.ite ?_ ?_)
   | (with_reducible refine LeO.bind ?_ (fun _ => ?_))
def impl_Patched.T10 : Bool × List (List Nat × List Nat) := (true, [([], []), ([0], [0]), ([], []), ([2], [2]), ([1, 3], [1, 3]), ([4], [4]), ([], []), ([6], [6]), ([5, 7], [5, 7]), ([], []), ([9], [9]), ([8, 10], [8, 10])])
def impl_Patched.B10 : List Nat := [0, 1, 0, 4, 15, 31, 0, 64, 255, 0, 512, 2047]
theorem impl_Patched.tab10 : rtab .any (opsOf Try.f42 10) = impl_Patched.T10 := by kernel_rfl
theorem impl_Patched.bits10 : waitsOk impl_Patched.T10.2 impl_Patched.B10 = true := by kernel_rfl
set_option maxHeartbeats 8000000 in
set_option maxRecDepth 100000 in
theorem impl_Patched.calls (k : Nat) (a0_0 : Int) (A0_1 : Option Addr) (c0_1 : Nat) (l0_1 : List (List (S98))) (a1_0 : Int) (a1_1 : Int) (A1_2 : Option Addr) (c1_2 : Nat) (l1_2 : List (S101)) (r1 : Int) (r2 : List (List (S98))) (r3 : Bool) (w : World) (hr0_1 : Kd.C (Kd.slice 98 k98) w A0_1 l0_1.length l0_1) (hc0_1 : l0_1.length ≤ c0_1) (hr1_2 : Kd.C k101 w A1_2 l1_2.length l1_2) (hc1_2 : l1_2.length ≤ c1_2) (h : impl_Patched.f k a0_0 l0_1 a1_0 a1_1 l1_2 = some (r1, r2, r3)) :
  Calls Try.prog 42 #[.agg #[.int .i64 a0_0, .slice A0_1 l0_1.length c0_1], .agg #[.int .i64 a1_0, .int .i64 a1_1, .slice A1_2 l1_2.length c1_2]] w fun e w' => ∃ v1_ : Value, e = .returned (.tuple #[.agg #[.int .i64 r1, v1_], .bool r3]) ∧ Kd.S (Kd.slice 98 k98) 99 w' w.heap.size (fun _ => True) v1_ r2 ∧ Below w.heap.size w w' := by
 (
have hu58 := Try.underlying58
have hu53 := Try.underlying53
have hu101 := Try.underlying101
have HR0_1 := am hr0_1
have HC0_1 := am hc0_1
clear hr0_1 hc0_1
have HR1_2 := am hr1_2
have HC1_2 := am hc1_2
clear hr1_2 hc1_2
have HB := am (Below.refl w.heap.size w)
have H := h
unfold impl_Patched.f at H
clear h
have HC3 := am H
clear H
go_enter Try.func42, Try.ntmps42
go_upto_region 1 with (first | ((with_reducible refine gate_dst (N := 2) rfl ?_); (try (refine gate_guard (by rfl) ?_; dsimp only)); refine box_event ?hg (N := 2) ?hd (cs := #[.int .i64 a0_0, .slice A0_1 l0_1.length c0_1]) (t := 58) ?hr ?_; (case hd => rfl); (case hg => rfl); (case hr => first | (go_simp; done) | (go_simp; rfl)); intro gb483 hg w4 hbox hb; have BK483 := am (hbox); have GW483 := am (gw hg (rb HB)); have GE483 := GW483; replace HB := am (below_step (rb HB) hb); clear hb hbox hg) | ((with_reducible refine gate_dst (N := 3) rfl ?_); (try (refine gate_guard (by rfl) ?_; dsimp only)); refine box_event ?hg (N := 3) ?hd (cs := #[.int .i64 a1_0, .int .i64 a1_1, .slice A1_2 l1_2.length c1_2]) (t := 53) ?hr ?_; (case hd => rfl); (case hg => rfl); (case hr => first | (go_simp; done) | (go_simp; rfl)); intro gb484 hg w5 hbox hb; have BK484 := am (hbox); have GW484 := am (gw hg (rb1 HB GE483)); have GE484 := GW484; replace HB := am (below_step (rb1 HB GE483) hb); have NB483_484 := am (nl hg (rk BK483)); have NB484_483 := am (ng hg (rk BK483)); replace BK483 := am (blk_below (rk BK483) hb); clear hb hbox hg) | ((with_reducible refine gate_dst (N := 4) rfl ?_); (try (refine gate_guard (by rfl) ?_; dsimp only)); refine box_event ?hg (N := 4) ?hd (cs := #[.int .i64 0, .slice none 0 0]) (t := 58) ?hr ?_; (case hd => rfl); (case hg => rfl); (case hr => first | (go_simp; done) | (go_simp; rfl)); intro gb485 hg w6 hbox hb; have BK485 := am (hbox); have GW485 := am (gw hg (rb2 HB GE483 GE484)); have GE485 := GW485; replace HB := am (below_step (rb2 HB GE483 GE484) hb); have NB483_485 := am (nl hg (rk BK483)); have NB485_483 := am (ng hg (rk BK483)); replace BK483 := am (blk_below (rk BK483) hb); have NB484_485 := am (nl hg (rk BK484)); have NB485_484 := am (ng hg (rk BK484)); replace BK484 := am (blk_below (rk BK484) hb); clear hb hbox hg))
(try simp only [Act.put, List.setIfInBounds_toArray, List.set_cons_zero, List.set_cons_succ])
go_cut [30] (fun v30 wc => ∃ (kq : Nat) (x30_2 : Bool), v30 = .bool x30_2 ∧ Aside0 (impl_Patched.j0 kq x30_2 a0_0 l0_1 a1_0 a1_1 l1_2 = some (r1, r2, r3)) ∧ Aside0 (kq ≤ k) ∧ Aside0 (wc.heap[gb483]? = some (.cells #[.int .i64 a0_0, (.slice A0_1 l0_1.length c0_1)] 58 (0, 0))) ∧ Aside0 (wc.heap[gb484]? = some (.cells #[.int .i64 a1_0, .int .i64 a1_1, (.slice A1_2 l1_2.length c1_2)] 53 (0, 0))) ∧ Aside0 (wc.heap[gb485]? = some (.cells #[.int .i64 0, (.slice none 0 0)] 58 (0, 0))) ∧ Aside0 (Below w.heap.size w wc))
case first => (
have H := HC3.out
clear HC3
replace H := Option.bind_eq_some_iff.mp H
obtain ⟨t486, A70, H⟩ := H
(try dsimp only at H)
have A7 := am A70
clear A70
refine em_ (p := t486 = true) (fun c8 => ?g2p) (fun c8 => ?g2n)
case' g2p => (
subst c8
rw [if_pos rfl] at H
replace H := Option.bind_eq_some_iff.mp H
obtain ⟨t487, A90, H⟩ := H
(try dsimp only at H)
have A9 := am A90
clear A90
refine em_ (p := t487 = true) (fun c10 => ?g1p) (fun c10 => ?g1n)
case' g1p => (
subst c10
rw [if_pos rfl] at H
replace H := Option.bind_eq_some_iff.mp H
obtain ⟨t488, A110, H⟩ := H
(try dsimp only at H)
have A11 := am A110
clear A110
refine em_ (p := t488 = true) (fun c12 => ?g0p) (fun c12 => ?g0n)
case' g0p => (
subst c12
rw [if_pos rfl] at H
have H' := am H
clear H
have lf1_ := trivial
)
case' g0n => (
replace c12 := Bool.eq_false_iff.mpr c12
subst c12
rw [if_neg (show ¬ (false = true) by decide)] at H
have H' := am H
clear H
have lf2_ := trivial
)
)
case' g1n => (
replace c10 := Bool.eq_false_iff.mpr c10
subst c10
rw [if_neg (show ¬ (false = true) by decide)] at H
have H' := am H
clear H
have lf3_ := trivial
)
)
case' g2n => (
replace c8 := Bool.eq_false_iff.mpr c8
subst c8
rw [if_neg (show ¬ (false = true) by decide)] at H
have H' := am H
clear H
have lf4_ := trivial
)
all_goals (
have hnb13 := NB483_484.out
have hnc13 := NB484_483.out
have hnb14 := NB483_485.out
have hnc14 := NB485_483.out
have hcz15_0 : w6.cell? ⟨gb483, 0, none⟩ = some (.int .i64 a0_0) := (blk_cell BK483.out 0).trans rfl
have hcz15_1 : w6.cell? ⟨gb483, 1, none⟩ = some (.slice A0_1 l0_1.length c0_1) := (blk_cell BK483.out 1).trans rfl
have hfz15_0 := blk_frozen BK483.out 0
have hfz15_1 := blk_frozen BK483.out 1
go_wp2_with (first | ((with_reducible refine gate_callee (f := 48) rfl ?_); refine gl_ (some 11) Try.func48 #[.agg #[.int .i64 a0_0, .slice A0_1 l0_1.length c0_1]] ?_; (with_reducible refine (impl_GridOk.calls k a0_0 _ _ l0_1 true _ ?side1 ?side2 A7.out).mono ?_); (case side1 => exact rc ((Kd.C_below HR0_1.out HB.out))); (case side2 => exact HC0_1.out); rintro e w16 ⟨rfl, hb⟩; refine ⟨_, rfl, ?_⟩; replace BK483 := am (blk_below (rk BK483) hb); replace BK484 := am (blk_below (rk BK484) hb); replace BK485 := am (blk_below (rk BK485) hb); replace HB := am (below_step (rb3 HB GE483 GE484 GE485) hb); (try clear hb); (try clear hb2); (try clear hk); (try clear hi); have hnb17 := NB484_485.out; have hnc17 := NB485_484.out; have hcz18_0 : w16.cell? ⟨gb484, 0, none⟩ = some (.int .i64 a1_0) := (blk_cell BK484.out 0).trans rfl; have hcz18_1 : w16.cell? ⟨gb484, 1, none⟩ = some (.int .i64 a1_1) := (blk_cell BK484.out 1).trans rfl; have hcz18_2 : w16.cell? ⟨gb484, 2, none⟩ = some (.slice A1_2 l1_2.length c1_2) := (blk_cell BK484.out 2).trans rfl; have hfz18_0 := blk_frozen BK484.out 0; have hfz18_1 := blk_frozen BK484.out 1; have hfz18_2 := blk_frozen BK484.out 2) | ((with_reducible refine gate_callee (f := 48) rfl ?_); refine gl_ (some 11) Try.func48 #[.agg #[.int .i64 a0_0, .slice A0_1 l0_1.length c0_1]] ?_; (with_reducible refine (impl_GridOk.calls k a0_0 _ _ l0_1 false _ ?side1 ?side2 A7.out).mono ?_); (case side1 => exact rc ((Kd.C_below HR0_1.out HB.out))); (case side2 => exact HC0_1.out); rintro e w34 ⟨rfl, hb⟩; refine ⟨_, rfl, ?_⟩; replace BK483 := am (blk_below (rk BK483) hb); replace BK484 := am (blk_below (rk BK484) hb); replace BK485 := am (blk_below (rk BK485) hb); replace HB := am (below_step (rb3 HB GE483 GE484 GE485) hb); (try clear hb); (try clear hb2); (try clear hk); (try clear hi)) | (go_at_call 56; (with_reducible refine (impl_in.calls a1_1 1 30 false _ A11.out).mono ?_); rintro e w' ⟨rfl, ⟨nd, rfl⟩⟩) | (go_at_call 56; (with_reducible refine (impl_in.calls a1_1 1 30 true _ A11.out).mono ?_); rintro e w' ⟨rfl, ⟨nd, rfl⟩⟩) | (go_at_call 56; (with_reducible refine (impl_in.calls a1_0 1 60 false _ A9.out).mono ?_); rintro e w' ⟨rfl, ⟨nd, rfl⟩⟩) | (go_at_call 56; (with_reducible refine (impl_in.calls a1_0 1 60 true _ A9.out).mono ?_); rintro e w' ⟨rfl, ⟨nd, rfl⟩⟩))
go_meet
first
| (
first | have q_ := lf2_ | have q_ := lf3_ | have q_ := lf4_
case rel => exact ⟨_, (true), (by first | rfl | (simp; done) | (simp [*]; done)), H', ⟨by first | omega | exact Nat.le_refl _⟩, ⟨rk BK483⟩, ⟨rk BK484⟩, ⟨rk BK485⟩, ⟨rb3 HB GE483 GE484 GE485⟩⟩
)
| (
have q_ := lf1_
case rel => exact ⟨_, (decide ((l1_2.length : Int) > 400)), (by first | rfl | (simp; done) | (simp [*]; done)), H', ⟨by first | omega | exact Nat.le_refl _⟩, ⟨rk BK483⟩, ⟨rk BK484⟩, ⟨rk BK485⟩, ⟨rb3 HB GE483 GE484 GE485⟩⟩
)
)
)
case rest => (
clear HC3
try clear c1
try clear c2
try clear p2
try clear c3
try clear c4
try clear c8
try clear c10
try clear c12
try clear c13
try clear c14
try clear c17
try clear c19
try clear c20
try clear c23
try clear c25
try clear c26
try clear c29
try clear c31
try clear c32
try clear hcz15_0
try clear hcz15_1
try clear hcz18_0
try clear hcz18_1
try clear hcz18_2
try clear hcz21_0
try clear hcz21_1
try clear hcz24_0
try clear hcz24_1
try clear hcz24_2
try clear hcz27_0
try clear hcz27_1
try clear hcz30_0
try clear hcz30_1
try clear hcz30_2
try clear hcz33_0
try clear hcz33_1
try clear hfz15_0
try clear hfz15_1
try clear hfz18_0
try clear hfz18_1
try clear hfz18_2
try clear hfz21_0
try clear hfz21_1
try clear hfz24_0
try clear hfz24_1
try clear hfz24_2
try clear hfz27_0
try clear hfz27_1
try clear hfz30_0
try clear hfz30_1
try clear hfz30_2
try clear hfz33_0
try clear hfz33_1
obtain ⟨kq, x30_2, rfl, HA, HJ2, BK483, BK484, BK485, HB⟩ := hcut
cases kq with
| zero => exact absurd HA.out (by simp [impl_Patched.j0])
| succ kj2 => (
have H := HA.out
clear HA
simp only [impl_Patched.j0] at H
by_cases c35 : x30_2 = true
·(
subst c35
have H1 : (some (0, ([] : List (List (S98))), false)) = some (r1, r2, r3) := by rw [if_pos rfl] at H; exact H
clear H
have H := H1
clear H1
simp only [Option.some.injEq, Prod.mk.injEq] at H
obtain ⟨rfl, rfl, rfl⟩ := H
have hnb36 := NB485_483.out
have hnc36 := NB483_485.out
have hnb37 := NB485_484.out
have hnc37 := NB484_485.out
have hcz38_0 : wc.cell? ⟨gb485, 0, none⟩ = some (.int .i64 0) := (blk_cell BK485.out 0).trans rfl
have hcz38_1 : wc.cell? ⟨gb485, 1, none⟩ = some (.slice none 0 0) := (blk_cell BK485.out 1).trans rfl
have hfz38_0 := blk_frozen BK485.out 0
have hfz38_1 := blk_frozen BK485.out 1
go_wp2
refine bodyPost_ret (results_ct rfl _ _ gb485 58 #[.int .i64 0, .slice none 0 0] (0, 0) _ rfl (rp_0_1 BK485) Try.underlying58 rfl (by kernel_rfl)) rfl ?_
exact ⟨_, by first | rfl | (simp [errW_none, errW_some] <;> rfl) | (simp [*, errW_none, errW_some] <;> rfl), by first | exact Kd.S_nil _ _ _ _ _ | exact Kd.N_nil _ _ _ _ _ | exact Kd.V_nil _ _ _ _ _ | exact Kd.Q_nil _ _ _ _ _ | exact Kd.R_nil _ _ _ _ _, rb3 HB GE483 GE484 GE485⟩
)
·(
replace c35 := Bool.eq_false_iff.mpr c35
subst c35
rw [if_neg (show ¬ (false = true) by decide)] at H
replace H := Option.bind_eq_some_iff.mp H
obtain ⟨⟨t489, t490⟩, A390, H⟩ := H
(try dsimp only at H)
have A39 := am A390
clear A390
have H' := am H
clear H
have hnb40 := NB483_484.out
have hnc40 := NB484_483.out
have hnb41 := NB483_485.out
have hnc41 := NB485_483.out
have hcz42_0 : wc.cell? ⟨gb483, 0, none⟩ = some (.int .i64 a0_0) := (blk_cell BK483.out 0).trans rfl
have hcz42_1 : wc.cell? ⟨gb483, 1, none⟩ = some (.slice A0_1 l0_1.length c0_1) := (blk_cell BK483.out 1).trans rfl
have hfz42_0 := blk_frozen BK483.out 0
have hfz42_1 := blk_frozen BK483.out 1
have hnb43 := NB484_485.out
have hnc43 := NB485_484.out
have hcz44_0 : wc.cell? ⟨gb484, 0, none⟩ = some (.int .i64 a1_0) := (blk_cell BK484.out 0).trans rfl
have hcz44_1 : wc.cell? ⟨gb484, 1, none⟩ = some (.int .i64 a1_1) := (blk_cell BK484.out 1).trans rfl
have hcz44_2 : wc.cell? ⟨gb484, 2, none⟩ = some (.slice A1_2 l1_2.length c1_2) := (blk_cell BK484.out 2).trans rfl
have hfz44_0 := blk_frozen BK484.out 0
have hfz44_1 := blk_frozen BK484.out 1
have hfz44_2 := blk_frozen BK484.out 2
go_wp2_with (first | ((with_reducible refine gate_callee (f := 72) rfl ?_); refine gl_ (some 37) Try.func72 #[.agg #[.int .i64 a0_0, .slice A0_1 l0_1.length c0_1], .int .i64 a1_0, .int .i64 a1_1] ?_; (with_reducible refine (impl_Grid_resized.calls kj2 a0_0 _ _ l0_1 a1_0 a1_1 t489 t490 _ ?side1 ?side2 A39.out).mono ?_); (case side1 => exact rc ((Kd.C_below HR0_1.out HB.out))); (case side2 => exact HC0_1.out); rintro e w45 ⟨v491, rfl, ho0, hb⟩; refine ⟨_, rfl, ?_⟩; have HO492 := am (Kd.S_lower ho0 (below_size (rb3 HB GE483 GE484 GE485))); replace BK483 := am (blk_below (rk BK483) hb); replace BK484 := am (blk_below (rk BK484) hb); replace BK485 := am (blk_below (rk BK485) hb); replace HB := am (below_step (rb3 HB GE483 GE484 GE485) hb); (try clear hb); (try clear hb2); (try clear hk); (try clear hi); (try clear ho0)) | ((with_reducible refine gate_dst (N := 6) rfl ?_); (try (refine gate_guard (by rfl) ?_; dsimp only)); refine box_event ?hg (N := 6) ?hd (cs := #[.int .i64 0, .slice none 0 0]) (t := 58) ?hr ?_; (case hd => rfl); (case hg => rfl); (case hr => first | (go_simp; done) | (go_simp; rfl)); intro gb493 hg w46 hbox hb; replace HO492 := am (Kd.S_below (rs HO492) hb); have BK493 := am (hbox); have GW493 := am (gw hg (rb3 HB GE483 GE484 GE485)); have GE493 := GW493; replace HB := am (below_step (rb3 HB GE483 GE484 GE485) hb); have NB483_493 := am (nl hg (rk BK483)); have NB493_483 := am (ng hg (rk BK483)); replace BK483 := am (blk_below (rk BK483) hb); have NB484_493 := am (nl hg (rk BK484)); have NB493_484 := am (ng hg (rk BK484)); replace BK484 := am (blk_below (rk BK484) hb); have NB485_493 := am (nl hg (rk BK485)); have NB493_485 := am (ng hg (rk BK485)); replace BK485 := am (blk_below (rk BK485) hb); clear hb hbox hg; have hnb47 := NB493_483.out; have hnc47 := NB483_493.out; have hnb48 := NB493_484.out; have hnc48 := NB484_493.out; have hnb49 := NB493_485.out; have hnc49 := NB485_493.out; have hcz50_0 : w46.cell? ⟨gb493, 0, none⟩ = some (.int .i64 0) := (blk_cell BK493.out 0).trans rfl; have hcz50_1 : w46.cell? ⟨gb493, 1, none⟩ = some (.slice none 0 0) := (blk_cell BK493.out 1).trans rfl; have hfz50_0 := blk_frozen BK493.out 0; have hfz50_1 := blk_frozen BK493.out 1; obtain ⟨Ao51, co51, eo51⟩ := Kd.S_slice HO492.out; subst eo51; have hcz52_0 : w46.cell? ⟨gb484, 0, none⟩ = some (.int .i64 a1_0) := (blk_cell BK484.out 0).trans rfl; have hcz52_1 : w46.cell? ⟨gb484, 1, none⟩ = some (.int .i64 a1_1) := (blk_cell BK484.out 1).trans rfl; have hcz52_2 : w46.cell? ⟨gb484, 2, none⟩ = some (.slice A1_2 l1_2.length c1_2) := (blk_cell BK484.out 2).trans rfl; have hfz52_0 := blk_frozen BK484.out 0; have hfz52_1 := blk_frozen BK484.out 1; have hfz52_2 := blk_frozen BK484.out 2))
go_loopg [41] kj2 (fun kq v41 w' => ∃ (x41_2 : Int) (x486000_2 : Int) (x494001_2 : List (List (S98))) (u494001 : Value), v41 = .int .i64 x41_2 ∧ Aside0 (impl_Patched.l0 kq l1_2 (l1_2.length : Int) x41_2 a1_0 a1_1 l1_2 t489 x494001_2 = some (r1, r2, r3)) ∧ Aside0 (kq ≤ kj2) ∧ Aside0 (Kd.S (Kd.slice 98 k98) 99 w' w.heap.size (fun _ => True) u494001 x494001_2) ∧ Aside0 (w'.heap[gb483]? = some (.cells #[.int .i64 a0_0, (.slice A0_1 l0_1.length c0_1)] 58 (0, 0))) ∧ Aside0 (w'.heap[gb484]? = some (.cells #[.int .i64 a1_0, .int .i64 a1_1, (.slice A1_2 l1_2.length c1_2)] 53 (0, 0))) ∧ Aside0 (w'.heap[gb485]? = some (.cells #[.int .i64 x486000_2, (.slice none 0 0)] 58 (0, 0))) ∧ Aside0 (w'.heap[gb493]? = some (.cells #[.int .i64 t489, u494001] 58 (0, 0))) ∧ Aside0 (Below w.heap.size w w'))
case atStart => exact ⟨(0), (0), (t490), (.slice Ao51 t490.length co51), (by first | rfl | (simp; done) | (simp [*]; done)), H', ⟨Nat.le_refl _⟩, ⟨by (with_reducible repeat (first | apply Kd.S_alloc | apply Kd.S_drewN | apply Kd.S_drew)); exact Kd.S_mono (Kd.S_far (p := ⟨gb493, 1, none⟩) (Kd.S_far (p := ⟨gb493, 0, none⟩) (Kd.S_types HO492.out BK493.out (by decide)) (fun _ hk => hk.2) (.int .i64 t489)) (fun _ hk => hk.2) (.slice Ao51 t490.length co51)) (fun _ hk => trivial)⟩, ⟨rf2 NB483_493 BK483⟩, ⟨rf2 NB484_493 BK484⟩, ⟨rf2 NB485_493 BK485⟩, ⟨by (with_reducible repeat (first | apply k1 | apply k2 | apply k3)); refine blk_put (cs := #[.int .i64 t489, .slice none 0 0]) ?_ 1 _ rfl; (with_reducible repeat (first | apply k1 | apply k2 | apply k3)); refine blk_put (cs := #[.int .i64 0, .slice none 0 0]) ?_ 0 _ rfl; (with_reducible repeat (first | apply k1 | apply k2 | apply k3)); exact BK493.out⟩, ⟨rb4 HB GE483 GE484 GE485 GE493⟩⟩
case round => (
clear H'
try clear c1
try clear c2
try clear p2
try clear c3
try clear c4
try clear c7
try clear c8
try clear c10
try clear c12
try clear c13
try clear c14
try clear c17
try clear c19
try clear c20
try clear c23
try clear c25
try clear c26
try clear c29
try clear c31
try clear c32
try clear c35
try clear c36
try clear c37
try clear c40
try clear c41
try clear c42
try clear c43
try clear c47
try clear c48
try clear c49
try clear hcz15_0
try clear hcz15_1
try clear hcz18_0
try clear hcz18_1
try clear hcz18_2
try clear hcz21_0
try clear hcz21_1
try clear hcz24_0
try clear hcz24_1
try clear hcz24_2
try clear hcz27_0
try clear hcz27_1
try clear hcz30_0
try clear hcz30_1
try clear hcz30_2
try clear hcz33_0
try clear hcz33_1
try clear hcz38_0
try clear hcz38_1
try clear hcz42_0
try clear hcz42_1
try clear hcz44_0
try clear hcz44_1
try clear hcz44_2
try clear hcz50_0
try clear hcz50_1
try clear hcz52_0
try clear hcz52_1
try clear hcz52_2
try clear hfz15_0
try clear hfz15_1
try clear hfz18_0
try clear hfz18_1
try clear hfz18_2
try clear hfz21_0
try clear hfz21_1
try clear hfz24_0
try clear hfz24_1
try clear hfz24_2
try clear hfz27_0
try clear hfz27_1
try clear hfz30_0
try clear hfz30_1
try clear hfz30_2
try clear hfz33_0
try clear hfz33_1
try clear hfz38_0
try clear hfz38_1
try clear hfz42_0
try clear hfz42_1
try clear hfz44_0
try clear hfz44_1
try clear hfz44_2
try clear hfz50_0
try clear hfz50_1
try clear hfz52_0
try clear hfz52_1
try clear hfz52_2
try clear p2
obtain ⟨x41_2, x486000_2, x494001_2, u494001, rfl, HA, HK2, HO_494001, BK483, BK484, BK485, BK493, HB⟩ := hrel
cases gk with
| zero => exact absurd HA.out (by simp [impl_Patched.l0])
| succ k2 => (
have H := HA.out
clear HA
simp only [impl_Patched.l0] at H
refine em_ (p := x41_2 < (l1_2.length : Int)) (fun c53 => ?g12p) (fun c53 => ?g12n)
case' g12p => (
rw [if_pos c53] at H
have c53b0 : decide (x41_2 < (l1_2.length : Int)) = true := decide_eq_true c53
clear c53
refine em_ (p := 0 ≤ x41_2) (fun c54 => ?g11p) (fun c54 => ?g11n)
case' g11p => (
rw [if_pos c54] at H
have c54b0 : decide (0 ≤ x41_2) = true := decide_eq_true c54
clear c54
refine em_ (p := x41_2 < (l1_2.length : Int)) (fun c55 => ?g10p) (fun c55 => ?g10n)
case' g10p => (
rw [if_pos c55] at H
have c55b0 : decide (x41_2 < (l1_2.length : Int)) = true := decide_eq_true c55
clear c55
replace H := Option.bind_eq_some_iff.mp H
obtain ⟨t497, A560, H⟩ := H
(try dsimp only at H)
have A56 := am A560
clear A560
refine em_ (p := t497 = true) (fun c57 => ?g9p) (fun c57 => ?g9n)
case' g9p => (
subst c57
rw [if_pos rfl] at H
replace H := Option.bind_eq_some_iff.mp H
obtain ⟨t498, A580, H⟩ := H
(try dsimp only at H)
have A58 := am A580
clear A580
refine em_ (p := t498 = true) (fun c59 => ?g8p) (fun c59 => ?g8n)
case g8p => (
subst c59
rw [if_pos rfl] at H
replace H := Option.bind_eq_some_iff.mp H
obtain ⟨t499, A600, H⟩ := H
(try dsimp only at H)
have A60 := am A600
clear A600
refine em_ (p := t499 = true) (fun c61 => ?g13p) (fun c61 => ?g13n)
case g13p => (
subst c61
rw [if_pos rfl] at H
refine em_ (p := 0 ≤ ((rd_T101 l1_2 x41_2).f0)) (fun c62 => ?g7p) (fun c62 => ?g7n)
case' g7p => (
rw [if_pos c62] at H
have c62b0 : decide (0 ≤ ((rd_T101 l1_2 x41_2).f0)) = true := decide_eq_true c62
clear c62
refine em_ (p := ((rd_T101 l1_2 x41_2).f0) < (x494001_2.length : Int)) (fun c63 => ?g6p) (fun c63 => ?g6n)
case' g6p => (
rw [if_pos c63] at H
have c63b0 : decide (((rd_T101 l1_2 x41_2).f0) < (x494001_2.length : Int)) = true := decide_eq_true c63
clear c63
refine em_ (p := 0 ≤ ((rd_T101 l1_2 x41_2).f1)) (fun c64 => ?g5p) (fun c64 => ?g5n)
case' g5p => (
rw [if_pos c64] at H
have c64b0 := eq_true c64
have c64b1 : decide (0 ≤ ((rd_T101 l1_2 x41_2).f1)) = true := decide_eq_true c64
clear c64
refine em_ (p := ((rd_T101 l1_2 x41_2).f1) ≤ ((rd_L7 x494001_2 ((rd_T101 l1_2 x41_2).f0)).length : Int)) (fun c65 => ?g4p) (fun c65 => ?g4n)
case' g4p => (
rw [if_pos c65] at H
have c65b0 := eq_true c65
have c65b1 : decide (((rd_T101 l1_2 x41_2).f1) ≤ ((rd_L7 x494001_2 ((rd_T101 l1_2 x41_2).f0)).length : Int)) = true := decide_eq_true c65
clear c65
obtain ⟨y501, hy501⟩ : ∃ y_ : List (S98), y_ = ((rd_L7 x494001_2 ((rd_T101 l1_2 x41_2).f0)).drop (((rd_T101 l1_2 x41_2).f1) : Int).toNat) := ⟨_, rfl⟩
replace H : (if ((rd_T101 l1_2 x41_2).f1) < ((rd_L7 x494001_2 ((rd_T101 l1_2 x41_2).f0)).length : Int) then (impl_Patched.l0 k2 l1_2 (l1_2.length : Int) (wrap64 (x41_2 + 1)) a1_0 a1_1 l1_2 t489 (x494001_2.set (((rd_T101 l1_2 x41_2).f0) : Int).toNat (cpv (rd_L7 x494001_2 ((rd_T101 l1_2 x41_2).f0)) (((rd_T101 l1_2 x41_2).f1) : Int).toNat ((rd_T101 l1_2 x41_2).f2)))) else (none)) = some (r1, r2, r3) := by first | (rw [hy501]; with_reducible exact H) | (rw [hy501]; exact H) | exact H
have Ny501 := am hy501
clear hy501
refine em_ (p := ((rd_T101 l1_2 x41_2).f1) < ((rd_L7 x494001_2 ((rd_T101 l1_2 x41_2).f0)).length : Int)) (fun c66 => ?g3p) (fun c66 => ?g3n)
case' g3p => (
rw [if_pos c66] at H
have c66b0 := eq_true c66
have c66b1 : decide (((rd_T101 l1_2 x41_2).f1) < ((rd_L7 x494001_2 ((rd_T101 l1_2 x41_2).f0)).length : Int)) = true := decide_eq_true c66
clear c66
obtain ⟨y505, hy505⟩ : ∃ y_ : List (S98), y_ = (cpv (rd_L7 x494001_2 ((rd_T101 l1_2 x41_2).f0)) (((rd_T101 l1_2 x41_2).f1) : Int).toNat ((rd_T101 l1_2 x41_2).f2)) := ⟨_, rfl⟩
replace H : (impl_Patched.l0 k2 l1_2 (l1_2.length : Int) (wrap64 (x41_2 + 1)) a1_0 a1_1 l1_2 t489 (x494001_2.set (((rd_T101 l1_2 x41_2).f0) : Int).toNat y505)) = some (r1, r2, r3) := by first | (rw [hy505]; with_reducible exact H) | (rw [hy505]; exact H) | exact H
have Ny505 := am hy505
clear hy505
obtain ⟨y507, hy507⟩ : ∃ y_ : List (List (S98)), y_ = (x494001_2.set (((rd_T101 l1_2 x41_2).f0) : Int).toNat y505) := ⟨_, rfl⟩
replace H : (impl_Patched.l0 k2 l1_2 (l1_2.length : Int) (wrap64 (x41_2 + 1)) a1_0 a1_1 l1_2 t489 y507) = some (r1, r2, r3) := by first | (rw [hy507]; with_reducible exact H) | (rw [hy507]; exact H) | exact H
have Ny507 := am hy507
clear hy507
have H' := am H
clear H
have lf7_ := trivial
)
case g3n => (
rw [if_neg c66] at H
exact absurd H (by simp)
)
)
case g4n => (
rw [if_neg c65] at H
exact absurd H (by simp)
)
)
case g5n => (
rw [if_neg c64] at H
exact absurd H (by simp)
)
)
case g6n => (
rw [if_neg c63] at H
exact absurd H (by simp)
)
)
case g7n => (
rw [if_neg c62] at H
exact absurd H (by simp)
)
all_goals (
have p495 : 0 ≤ (x41_2 : Int) := dt_
have q495 : x41_2 < (l1_2.length : Int) := dt_
obtain ⟨ad495, A495_2, c495_2, e495, hx495_0, hx495_1, hx495_2, hl495_2, hi495_2⟩ := at_T101 HR1_2.out x41_2 p495 q495
cases e495
replace hx495_0 := mv HB.out hx495_0
replace hx495_1 := mv HB.out hx495_1
replace hx495_2 := mv HB.out hx495_2
have HR495_2 := am hi495_2
have HC495_2 := am hl495_2
clear hi495_2 hl495_2
replace p495 := eq_true p495
replace q495 := eq_true q495
try go_wp2_with (first | ((with_reducible refine gate_dst (N := 8) rfl ?_); (try (refine gate_guard (by rfl) ?_; dsimp only)); refine box_event ?hg (N := 8) ?hd (cs := #[.int .i64 0, .int .i64 0, .slice none 0 0]) (t := 101) ?hr ?_; (case hd => rfl); (case hg => rfl); (case hr => first | (go_simp; done) | (go_simp; rfl)); intro gb496 hg w67 hbox hb; replace HO_494001 := am (Kd.S_below (rs HO_494001) hb); have BK496 := am (hbox); have GW496 := am (gw hg (rb4 HB GE483 GE484 GE485 GE493)); have GE496 := GW496; replace HB := am (below_step (rb4 HB GE483 GE484 GE485 GE493) hb); have NB483_496 := am (nl hg (rk BK483)); have NB496_483 := am (ng hg (rk BK483)); replace BK483 := am (blk_below (rk BK483) hb); have NB484_496 := am (nl hg (rk BK484)); have NB496_484 := am (ng hg (rk BK484)); replace BK484 := am (blk_below (rk BK484) hb); have NB485_496 := am (nl hg (rk BK485)); have NB496_485 := am (ng hg (rk BK485)); replace BK485 := am (blk_below (rk BK485) hb); have NB493_496 := am (nl hg (rk BK493)); have NB496_493 := am (ng hg (rk BK493)); replace BK493 := am (blk_below (rk BK493) hb); clear hb hbox hg; have hnb68 := NB496_483.out; have hnc68 := NB483_496.out; have hnb69 := NB496_484.out; have hnc69 := NB484_496.out; have hnb70 := NB496_485.out; have hnc70 := NB485_496.out; have hnb71 := NB496_493.out; have hnc71 := NB493_496.out; have hcz72_0 : w67.cell? ⟨gb496, 0, none⟩ = some (.int .i64 0) := (blk_cell BK496.out 0).trans rfl; have hcz72_1 : w67.cell? ⟨gb496, 1, none⟩ = some (.int .i64 0) := (blk_cell BK496.out 1).trans rfl; have hcz72_2 : w67.cell? ⟨gb496, 2, none⟩ = some (.slice none 0 0) := (blk_cell BK496.out 2).trans rfl; have hfz72_0 := blk_frozen BK496.out 0; have hfz72_1 := blk_frozen BK496.out 1; have hfz72_2 := blk_frozen BK496.out 2; have hnb73 := NB484_483.out; have hnc73 := NB483_484.out; have hnb74 := NB484_485.out; have hnc74 := NB485_484.out; have hnb75 := NB484_493.out; have hnc75 := NB493_484.out; have hcz76_0 : w67.cell? ⟨gb484, 0, none⟩ = some (.int .i64 a1_0) := (blk_cell BK484.out 0).trans rfl; have hcz76_1 : w67.cell? ⟨gb484, 1, none⟩ = some (.int .i64 a1_1) := (blk_cell BK484.out 1).trans rfl; have hcz76_2 : w67.cell? ⟨gb484, 2, none⟩ = some (.slice (some ad495) l1_2.length c1_2) := (blk_cell BK484.out 2).trans rfl; have hfz76_0 := blk_frozen BK484.out 0; have hfz76_1 := blk_frozen BK484.out 1; have hfz76_2 := blk_frozen BK484.out 2) | ((with_reducible refine gate_callee (f := 56) rfl ?_); refine gl_ (some 53) Try.func56 #[.int .i64 ((rd_T101 l1_2 x41_2).f0), .int .i64 0, .int .i64 (wrap64 (a1_1 - 1))] ?_; (with_reducible refine (impl_in.calls ((rd_T101 l1_2 x41_2).f0) 0 (wrap64 (a1_1 - 1)) true _ A56.out).mono ?_); rintro e w' ⟨rfl, ⟨nd, rfl⟩⟩; refine ⟨_, rfl, ?_⟩) | (go_at_call 56; (with_reducible refine (impl_in.calls (((rd_T101 l1_2 x41_2).f2).length : Int) 1 a1_0 true _ A58.out).mono ?_); rintro e w' ⟨rfl, ⟨nd, rfl⟩⟩) | (go_at_call 56; (with_reducible refine (impl_in.calls ((rd_T101 l1_2 x41_2).f1) 0 (wrap64 (a1_0 - (((rd_T101 l1_2 x41_2).f2).length : Int))) true _ A60.out).mono ?_); rintro e w' ⟨rfl, ⟨nd, rfl⟩⟩))
have n0_ : Aside0 (Kd.S (Kd.slice 98 k98) 99 (((w67.setCell ⟨gb496, 0, none⟩ (.int .i64 ((rd_T101 l1_2 x41_2).f0))).setCell ⟨gb496, 1, none⟩ (.int .i64 ((rd_T101 l1_2 x41_2).f1))).setCell ⟨gb496, 2, none⟩ (.slice A495_2 ((rd_T101 l1_2 x41_2).f2).length c495_2)) w.heap.size (fun _ => True) u494001 x494001_2) := ⟨by (with_reducible repeat (first | apply Kd.S_alloc | apply Kd.S_drewN | apply Kd.S_drew)); exact Kd.S_mono (Kd.S_far (p := ⟨gb496, 2, none⟩) (Kd.S_far (p := ⟨gb496, 1, none⟩) (Kd.S_far (p := ⟨gb496, 0, none⟩) (Kd.S_types HO_494001.out BK496.out (by decide)) (fun _ hk => hk.2) (.int .i64 ((rd_T101 l1_2 x41_2).f0))) (fun _ hk => hk.2) (.int .i64 ((rd_T101 l1_2 x41_2).f1))) (fun _ hk => hk.2) (.slice A495_2 ((rd_T101 l1_2 x41_2).f2).length c495_2)) (fun _ hk => trivial)⟩
have n1_ : Aside0 ((((w67.setCell ⟨gb496, 0, none⟩ (.int .i64 ((rd_T101 l1_2 x41_2).f0))).setCell ⟨gb496, 1, none⟩ (.int .i64 ((rd_T101 l1_2 x41_2).f1))).setCell ⟨gb496, 2, none⟩ (.slice A495_2 ((rd_T101 l1_2 x41_2).f2).length c495_2)).heap[gb483]? = some (.cells #[.int .i64 a0_0, .slice A0_1 l0_1.length c0_1] 58 (0, 0))) := ⟨rf3 NB483_496 BK483⟩
have n2_ : Aside0 ((((w67.setCell ⟨gb496, 0, none⟩ (.int .i64 ((rd_T101 l1_2 x41_2).f0))).setCell ⟨gb496, 1, none⟩ (.int .i64 ((rd_T101 l1_2 x41_2).f1))).setCell ⟨gb496, 2, none⟩ (.slice A495_2 ((rd_T101 l1_2 x41_2).f2).length c495_2)).heap[gb484]? = some (.cells #[.int .i64 a1_0, .int .i64 a1_1, .slice (some ad495) l1_2.length c1_2] 53 (0, 0))) := ⟨rf3 NB484_496 BK484⟩
have n3_ : Aside0 ((((w67.setCell ⟨gb496, 0, none⟩ (.int .i64 ((rd_T101 l1_2 x41_2).f0))).setCell ⟨gb496, 1, none⟩ (.int .i64 ((rd_T101 l1_2 x41_2).f1))).setCell ⟨gb496, 2, none⟩ (.slice A495_2 ((rd_T101 l1_2 x41_2).f2).length c495_2)).heap[gb485]? = some (.cells #[.int .i64 x486000_2, .slice none 0 0] 58 (0, 0))) := ⟨rf3 NB485_496 BK485⟩
have n4_ : Aside0 ((((w67.setCell ⟨gb496, 0, none⟩ (.int .i64 ((rd_T101 l1_2 x41_2).f0))).setCell ⟨gb496, 1, none⟩ (.int .i64 ((rd_T101 l1_2 x41_2).f1))).setCell ⟨gb496, 2, none⟩ (.slice A495_2 ((rd_T101 l1_2 x41_2).f2).length c495_2)).heap[gb493]? = some (.cells #[.int .i64 t489, u494001] 58 (0, 0))) := ⟨rf3 NB493_496 BK493⟩
have n5_ : Aside0 ((((w67.setCell ⟨gb496, 0, none⟩ (.int .i64 ((rd_T101 l1_2 x41_2).f0))).setCell ⟨gb496, 1, none⟩ (.int .i64 ((rd_T101 l1_2 x41_2).f1))).setCell ⟨gb496, 2, none⟩ (.slice A495_2 ((rd_T101 l1_2 x41_2).f2).length c495_2)).heap[gb496]? = some (.cells #[.int .i64 ((rd_T101 l1_2 x41_2).f0), .int .i64 ((rd_T101 l1_2 x41_2).f1), .slice A495_2 ((rd_T101 l1_2 x41_2).f2).length c495_2] 101 (0, 0))) := ⟨by (with_reducible repeat (first | apply k1 | apply k2 | apply k3)); refine blk_put (cs := #[.int .i64 ((rd_T101 l1_2 x41_2).f0), .int .i64 ((rd_T101 l1_2 x41_2).f1), .slice none 0 0]) ?_ 2 _ rfl; (with_reducible repeat (first | apply k1 | apply k2 | apply k3)); refine blk_put (cs := #[.int .i64 ((rd_T101 l1_2 x41_2).f0), .int .i64 0, .slice none 0 0]) ?_ 1 _ rfl; (with_reducible repeat (first | apply k1 | apply k2 | apply k3)); refine blk_put (cs := #[.int .i64 0, .int .i64 0, .slice none 0 0]) ?_ 0 _ rfl; (with_reducible repeat (first | apply k1 | apply k2 | apply k3)); exact BK496.out⟩
have n6_ : Aside0 (Below w.heap.size w (((w67.setCell ⟨gb496, 0, none⟩ (.int .i64 ((rd_T101 l1_2 x41_2).f0))).setCell ⟨gb496, 1, none⟩ (.int .i64 ((rd_T101 l1_2 x41_2).f1))).setCell ⟨gb496, 2, none⟩ (.slice A495_2 ((rd_T101 l1_2 x41_2).f2).length c495_2))) := ⟨rb5 HB GE483 GE484 GE485 GE493 GE496⟩
(try clear HO_494001)
(try clear BK483)
(try clear BK484)
(try clear BK485)
(try clear BK493)
(try clear BK496)
(try clear HB)
generalize (((w67.setCell ⟨gb496, 0, none⟩ (.int .i64 ((rd_T101 l1_2 x41_2).f0))).setCell ⟨gb496, 1, none⟩ (.int .i64 ((rd_T101 l1_2 x41_2).f1))).setCell ⟨gb496, 2, none⟩ (.slice A495_2 ((rd_T101 l1_2 x41_2).f2).length c495_2)) = w77 at n0_ n1_ n2_ n3_ n4_ n5_ n6_ ⊢
have HO_494001 := n0_
have BK483 := n1_
have BK484 := n2_
have BK485 := n3_
have BK493 := n4_
have BK496 := n5_
have HB := n6_
clear n0_ n1_ n2_ n3_ n4_ n5_ n6_
(try (rw [drewN_self w77]; generalize hq_ : World.drewN w77 _ = w77; have n0_ : Aside0 (Kd.S (Kd.slice 98 k98) 99 w77 w.heap.size (fun _ => True) u494001 x494001_2) := ⟨by rw [← hq_]; exact (rs HO_494001)⟩; have n1_ : Aside0 (w77.heap[gb483]? = some (.cells #[.int .i64 a0_0, .slice A0_1 l0_1.length c0_1] 58 (0, 0))) := ⟨by rw [← hq_]; exact (rk BK483)⟩; have n2_ : Aside0 (w77.heap[gb484]? = some (.cells #[.int .i64 a1_0, .int .i64 a1_1, .slice (some ad495) l1_2.length c1_2] 53 (0, 0))) := ⟨by rw [← hq_]; exact (rk BK484)⟩; have n3_ : Aside0 (w77.heap[gb485]? = some (.cells #[.int .i64 x486000_2, .slice none 0 0] 58 (0, 0))) := ⟨by rw [← hq_]; exact (rk BK485)⟩; have n4_ : Aside0 (w77.heap[gb493]? = some (.cells #[.int .i64 t489, u494001] 58 (0, 0))) := ⟨by rw [← hq_]; exact (rk BK493)⟩; have n5_ : Aside0 (w77.heap[gb496]? = some (.cells #[.int .i64 ((rd_T101 l1_2 x41_2).f0), .int .i64 ((rd_T101 l1_2 x41_2).f1), .slice A495_2 ((rd_T101 l1_2 x41_2).f2).length c495_2] 101 (0, 0))) := ⟨by rw [← hq_]; exact (rk BK496)⟩; have n6_ : Aside0 (Below w.heap.size w w77) := ⟨by rw [← hq_]; exact (rb5 HB GE483 GE484 GE485 GE493 GE496)⟩; clear HO_494001 BK483 BK484 BK485 BK493 BK496 HB hq_; have HO_494001 := n0_; have BK483 := n1_; have BK484 := n2_; have BK485 := n3_; have BK493 := n4_; have BK496 := n5_; have HB := n6_; clear n0_ n1_ n2_ n3_ n4_ n5_ n6_))
replace HO_494001 := am (Kd.S_drew HO_494001.out)
replace BK483 := am (blk_drew BK483.out)
replace BK484 := am (blk_drew BK484.out)
replace BK485 := am (blk_drew BK485.out)
replace BK493 := am (blk_drew BK493.out)
replace BK496 := am (blk_drew BK496.out)
replace HB := am (below_drew1 HB.out)
obtain ⟨Ao79, co79, eo79⟩ := Kd.S_slice HO_494001.out
(first | subst eo79 | (injection eo79 with f1_ f2_ f3_; have f4_ := f1_.symm; have f5_ := f3_.symm; clear f1_ f2_ f3_; subst f4_; subst f5_))
have p500 : 0 ≤ (((rd_T101 l1_2 x41_2).f0) : Int) := dt_
have q500 : ((rd_T101 l1_2 x41_2).f0) < (x494001_2.length : Int) := dt_
obtain ⟨ad500, A500_0, c500_0, e500, hx500_0, hl500_0, hi500_0⟩ := at_L7 (Kd.S_reads' HO_494001.out).2.2 ((rd_T101 l1_2 x41_2).f0) p500 q500
cases e500
obtain ⟨ce500, hce500, hMe500, hcc500⟩ := Kd.S_get HO_494001.out [] ((rd_T101 l1_2 x41_2).f0) p500 (by first | exact q500 | exact dt_ | (have e_ := (Kd.S_reads' HO_494001.out).1; omega))
obtain ⟨ve500_0, rfl, ge500_0⟩ := hMe500
have hv500_0 := hcc500 0 _ rfl
rw [Nat.add_zero, show ((Kd.slice 98 k98)).sz = 1 from rfl, Nat.mul_one] at hv500_0
replace hv500_0 := Option.some.inj (hv500_0.symm.trans hx500_0)
rw [hv500_0] at ge500_0
have HL500_0 := am (show Kd.R k98 98 _ _ _ _ (rd_L7 x494001_2 ((rd_T101 l1_2 x41_2).f0)) from ge500_0)
clear hv500_0 ge500_0
have HX500_0 := am hx500_0
clear hcc500 hce500
have HR500_0 := am hi500_0
have HC500_0 := am hl500_0
clear hi500_0 hl500_0
replace p500 := eq_true p500
replace q500 := eq_true q500
have q80 : (((rd_T101 l1_2 x41_2).f1) : Int) ≤ (((rd_L7 x494001_2 ((rd_T101 l1_2 x41_2).f0)).length : Int) : Int) := dt_
obtain ⟨i080, hi080, _, hsz80, _⟩ := info_parts info98
have hroom80 : (rd_L7 x494001_2 ((rd_T101 l1_2 x41_2).f0)).length ≤ c500_0 := HC500_0.out
have hC80 : Kd.C k98 _ A500_0 (rd_L7 x494001_2 ((rd_T101 l1_2 x41_2).f0)).length (rd_L7 x494001_2 ((rd_T101 l1_2 x41_2).f0)) := (by repeat (first | (with_reducible exact HR500_0.out) | (with_reducible refine Kd.C_alloc ?_ _) | (with_reducible refine Kd.C_drewN ?_ _) | (with_reducible refine Kd.C_drew ?_) | exact HR500_0.out))
have q080 : (0 : Int) ≤ (((rd_T101 l1_2 x41_2).f1) : Int) := dt_
have hcut80 := cut_from (P := Try.prog) 99 98 .i64 Try.underlying99 hi080 7 hsz80 A500_0 (rd_L7 x494001_2 ((rd_T101 l1_2 x41_2).f0)).length c500_0 ((rd_T101 l1_2 x41_2).f1) q080 q80
have hr80 := Kd.C_drop (m := (((rd_T101 l1_2 x41_2).f1) : Int).toNat) (c := c500_0) hC80 (by omega) hroom80
obtain ⟨A80, hA80⟩ : ∃ A1, A1 = (if c500_0 = (((rd_T101 l1_2 x41_2).f1) : Int).toNat then A500_0 else (A500_0 : Option Addr).map (·.add ((((rd_T101 l1_2 x41_2).f1) : Int).toNat * 7))) := ⟨_, rfl⟩
obtain ⟨c80, hc80⟩ : ∃ c1, c1 = c500_0 - (((rd_T101 l1_2 x41_2).f1) : Int).toNat := ⟨_, rfl⟩
have hy80 : y501.length = (rd_L7 x494001_2 ((rd_T101 l1_2 x41_2).f0)).length - (((rd_T101 l1_2 x41_2).f1) : Int).toNat := (by rw [Ny501.out, List.length_drop] <;> omega)
rw [show (rd_L7 x494001_2 ((rd_T101 l1_2 x41_2).f0)).drop (((rd_T101 l1_2 x41_2).f1) : Int).toNat = y501 from Ny501.out.symm] at hr80
replace hr80 : Kd.C k98 _ A80 y501.length y501 := (by rw [hA80]; exact hr80)
rw [← hy80, ← hA80, ← hc80] at hcut80
have HR504 := am hr80
have HC504 := am (show y501.length ≤ c80 from by rw [hy80, hc80]; exact Nat.sub_le_sub_right hroom80 _)
clear hr80 hC80 hroom80 hi080 hsz80 hc80
have KY80 := am hy80
have KA80 := am hA80
clear hy80 hA80
replace q80 := eq_true q80
obtain ⟨go81, co81, eo81, gb81, gl81, cl81, HG81⟩ := Kd.R_form HL500_0.out (by have h_ : (((rd_T101 l1_2 x41_2).f1) : Int) < (((rd_L7 x494001_2 ((rd_T101 l1_2 x41_2).f0)).length : Int) : Int) := dt_; have h2_ : 0 ≤ (((rd_T101 l1_2 x41_2).f1) : Int) := dt_; omega)
(first | cases eo81 | (injection eo81 with ea_ en_ ec_; (first | subst ea_ | (injection ea_ with ea_; subst ea_)); subst ec_; clear en_))
have GB81 := am gb81
have GG81 := am HG81
clear gb81 gl81 HG81
have hq81 : (((rd_T101 l1_2 x41_2).f0) : Int) < (x494001_2.length : Int) := (by have h_ : (((rd_T101 l1_2 x41_2).f0) : Int) < ((x494001_2.length : Int) : Int) := dt_; first | exact h_ | (have e_ := (Kd.S_reads' HO_494001.out).1; omega) | simpa only [List.length_set, List.length_set] using h_)
obtain ⟨oki81, ce81, hcl81, hM81, hcc81, hok81, hbk81⟩ := Kd.S_borrow HO_494001.out [] (((rd_T101 l1_2 x41_2).f0) : Int) dt_ hq81
obtain ⟨ve81_0, rfl, ge81_0⟩ := hM81
have hv81 := hcc81 0 _ rfl
rw [Nat.add_zero, show ((Kd.slice 98 k98)).sz = 1 from rfl, Nat.mul_one] at hv81
replace hv81 := Option.some.inj (hv81.symm.trans HX500_0.out)
subst hv81
clear hcc81 hcl81
have HE81_0 := am (show Kd.R k98 98 _ _ _ _ (rd_L7 x494001_2 ((rd_T101 l1_2 x41_2).f0)) from ge81_0)
have HH81 := am @hbk81
clear ge81_0 hok81 hbk81 hq81
refine start_ (n := 12) (S := fun w' => w'.cell? ⟨gb493, 0, none⟩ = some (.int .i64 t489) ∧ w'.cell? ⟨gb493, 1, none⟩ = some (.slice (some ad500) x494001_2.length co79) ∧ w'.cell? ⟨gb496, 0, none⟩ = some (.int .i64 ((rd_T101 l1_2 x41_2).f0)) ∧ w'.cell? ⟨gb496, 1, none⟩ = some (.int .i64 ((rd_T101 l1_2 x41_2).f1)) ∧ w'.cell? ⟨gb496, 2, none⟩ = some (.slice A495_2 ((rd_T101 l1_2 x41_2).f2).length c495_2) ∧ w'.cell? (ad500.add (((rd_T101 l1_2 x41_2).f0)).toNat) = some (.slice (some ⟨go81, 0, none⟩) (rd_L7 x494001_2 ((rd_T101 l1_2 x41_2).f0)).length c500_0)) (ds := [11]) (bm 12 0) (by kernel_rfl) rfl rfl ⟨(blk_cell BK493.out 0).trans rfl, (blk_cell BK493.out 1).trans rfl, (blk_cell BK496.out 0).trans rfl, (blk_cell BK496.out 1).trans rfl, (blk_cell BK496.out 2).trans rfl, hx500_0⟩ (fun hHeld => ?_); refine with_tabW impl_Patched.tab10 impl_Patched.bits10 (fun HT_ HW_ => ?_)
generalize w77.drew = w78 at HO_494001 BK483 BK484 BK485 BK493 BK496 HB GG81 HE81_0 HH81 HL500_0 HR500_0 HR504 HX500_0 hx500_0 hHeld ⊢
refine pu_ 0 73 (bm 12 1) HT_.out ?_
refine pu_ 2 75 (bm 12 5) HT_.out ?_
refine pu_ 6 79 (bm 12 69) HT_.out ?_
refine pu_ 9 82 (bm 12 581) HT_.out ?_
refine take_ (i := 1) (N := some 74) (v := ?_) (a' := ?_) (bm 12 583) rfl rfl (take_ofW HT_.out HW_.out (by kernel_rfl)) (fun _ _ _ h => h) (Or.inl ⟨by rfl, ?_⟩) hHeld ?_ ?_
rotate_left
·(
rintro w' ⟨s0, s1, s2, s3, s4, s5⟩
go_simp
with_reducible rfl
)
rotate_left
·(
simp only [Act.put, List.setIfInBounds_toArray, List.set_cons_zero, List.set_cons_succ, i64_w, i32_w]
rfl
)
refine take_ (i := 3) (N := some 76) (v := ?_) (a' := ?_) (bm 12 591) rfl rfl (take_ofW HT_.out HW_.out (by kernel_rfl)) (fun _ _ _ h => h) (Or.inl ⟨by rfl, ?_⟩) hHeld ?_ ?_
rotate_left
·(
rintro w' ⟨s0, s1, s2, s3, s4, s5⟩
go_simp
with_reducible rfl
)
rotate_left
·(
simp only [Act.put, List.setIfInBounds_toArray, List.set_cons_zero, List.set_cons_succ, i64_w, i32_w]
rfl
)
refine pu_ 4 77 (bm 12 607) HT_.out ?_
refine take_ (i := 5) (N := some 78) (v := ?_) (a' := ?_) (bm 12 639) rfl rfl (take_ofW HT_.out HW_.out (by kernel_rfl)) (fun _ _ _ h => h) (Or.inl ⟨by rfl, ?_⟩) hHeld ?_ ?_
rotate_left
·(
rintro w' ⟨s0, s1, s2, s3, s4, s5⟩
go_simp
with_reducible rfl
)
rotate_left
·(
simp only [Act.put, List.setIfInBounds_toArray, List.set_cons_zero, List.set_cons_succ, i64_w, i32_w]
rfl
)
refine take_ (i := 7) (N := some 80) (v := ?_) (a' := ?_) (bm 12 767) rfl rfl (take_ofW HT_.out HW_.out (by kernel_rfl)) (fun _ _ _ h => h) (Or.inl ⟨by rfl, ?_⟩) hHeld ?_ ?_
rotate_left
·(
rintro w' ⟨s0, s1, s2, s3, s4, s5⟩
go_simp
with_reducible rfl
)
rotate_left
·(
simp only [Act.put, List.setIfInBounds_toArray, List.set_cons_zero, List.set_cons_succ, i64_w, i32_w]
rfl
)
refine pu_ 8 81 (bm 12 1023) HT_.out ?_
refine take_ (i := 10) (N := some 83) (v := ?_) (a' := ?_) (bm 12 2047) rfl rfl (take_ofW HT_.out HW_.out (by kernel_rfl)) (fun _ _ _ h => h) (Or.inl ⟨by rfl, ?_⟩) hHeld ?_ ?_
rotate_left
·(
rintro w' ⟨s0, s1, s2, s3, s4, s5⟩
go_simp
with_reducible rfl
)
rotate_left
·(
simp only [Act.put, List.setIfInBounds_toArray, List.set_cons_zero, List.set_cons_succ, i64_w, i32_w]
rfl
)
refine last_ (i := 11) (N := some 84) (bm 12 4095) rfl rfl (one_of HT_.out (by kernel_rfl)) (by decide) (fun K hK => ?_)
refine cp_step (P := Try.prog) (w0 := w) w.heap.size (by rfl) (.tmp 81) (.tmp 83) 99 rfl Try.underlying99 (z := (.agg #[(.int .i64 0), (.int .i64 0), (.int .i64 0), (.bool false), (.bool false), (.bool false), (.int .i64 0)])) (bytes := 40) info98 (g := go81) (cap := c500_0) (xs := (rd_L7 x494001_2 ((rd_T101 l1_2 x41_2).f0))) (ys := ((rd_T101 l1_2 x41_2).f2)) (((rd_T101 l1_2 x41_2).f1) : Int) rfl rfl (by first | exact KA80.out | (rw [KA80.out]; rfl) | (rw [KA80.out]; simp)) KY80.out dt_ (by have h_ : (((rd_T101 l1_2 x41_2).f1) : Int) < (((rd_L7 x494001_2 ((rd_T101 l1_2 x41_2).f0)).length : Int) : Int) := dt_; omega) HE81_0.out (Kd.C_below HR495_2.out (rb5 HB GE483 GE484 GE485 GE493 GE496)) (rb5 HB GE483 GE484 GE485 GE493 GE496) ?_
intro vq81 w82 ho_ hb hg
have hz_ : Kd.R k98 98 w82 w.heap.size oki81 (.slice (some ⟨go81, 0, none⟩) (rd_L7 x494001_2 ((rd_T101 l1_2 x41_2).f0)).length c500_0) y505 := (by rw [Ny505.out]; exact ho_)
have hp_ : Kd.S (Kd.slice 98 k98) 99 w82 w.heap.size (fun _ => True) (.slice (some ad500) x494001_2.length co79) y507 := (by rw [Ny507.out]; exact HH81.out hg (fun k_ e_ => by injection e_ with e_; subst e_; exact HE81_0.out.1 _ rfl) (Kd.M_row hz_))
clear ho_ hz_ HH81 HE81_0
replace HO_494001 := am (hp_)
replace BK483 := am (blk_grown (rk BK483) hg (Kd.R_ne HL500_0.out BK483.out (by decide)))
replace BK484 := am (blk_grown (rk BK484) hg (Kd.R_ne HL500_0.out BK484.out (by decide)))
replace BK485 := am (blk_grown (rk BK485) hg (Kd.R_ne HL500_0.out BK485.out (by decide)))
replace BK493 := am (blk_grown (rk BK493) hg (Kd.R_ne HL500_0.out BK493.out (by decide)))
replace BK496 := am (blk_grown (rk BK496) hg (Kd.R_ne HL500_0.out BK496.out (by decide)))
replace HB := am (hb)
clear HL500_0
clear hg hb hp_
refine hK.out _ _ ?_
clear hK K
refine norm_ (a' := _) (show Act.put _ (some 84) _ = _ from na) ?_
refine done_ (done_of HT_.out (by kernel_rfl)) ?_
try go_wp2
go_roundg k2
case measure => have := HJ2.out; have := HK2.out; omega
case rel => exact ⟨(wrap64 (x41_2 + 1)), (x486000_2), (y507), (.slice (some ad500) x494001_2.length co79), (by first | rfl | (simp; done) | (simp [*]; done)), H', ⟨by have := HJ2.out; have := HK2.out; omega⟩, ⟨rs HO_494001⟩, ⟨rk BK483⟩, ⟨rk BK484⟩, ⟨rk BK485⟩, ⟨rk BK493⟩, ⟨rb5 HB GE483 GE484 GE485 GE493 GE496⟩⟩
)
)
case' g13n => (
replace c61 := Bool.eq_false_iff.mpr c61
subst c61
rw [if_neg (show ¬ (false = true) by decide)] at H
simp only [Option.some.injEq, Prod.mk.injEq] at H
obtain ⟨rfl, rfl, rfl⟩ := H
have lf13_ := trivial
)
all_goals (
have p495 : 0 ≤ (x41_2 : Int) := dt_
have q495 : x41_2 < (l1_2.length : Int) := dt_
obtain ⟨ad495, A495_2, c495_2, e495, hx495_0, hx495_1, hx495_2, hl495_2, hi495_2⟩ := at_T101 HR1_2.out x41_2 p495 q495
cases e495
replace hx495_0 := mv HB.out hx495_0
replace hx495_1 := mv HB.out hx495_1
replace hx495_2 := mv HB.out hx495_2
have HR495_2 := am hi495_2
have HC495_2 := am hl495_2
clear hi495_2 hl495_2
replace p495 := eq_true p495
replace q495 := eq_true q495
go_wp2_with (first | ((with_reducible refine gate_dst (N := 8) rfl ?_); (try (refine gate_guard (by rfl) ?_; dsimp only)); refine box_event ?hg (N := 8) ?hd (cs := #[.int .i64 0, .int .i64 0, .slice none 0 0]) (t := 101) ?hr ?_; (case hd => rfl); (case hg => rfl); (case hr => first | (go_simp; done) | (go_simp; rfl)); intro gb496 hg w83 hbox hb; replace HO_494001 := am (Kd.S_below (rs HO_494001) hb); have BK496 := am (hbox); have GW496 := am (gw hg (rb4 HB GE483 GE484 GE485 GE493)); have GE496 := GW496; replace HB := am (below_step (rb4 HB GE483 GE484 GE485 GE493) hb); have NB483_496 := am (nl hg (rk BK483)); have NB496_483 := am (ng hg (rk BK483)); replace BK483 := am (blk_below (rk BK483) hb); have NB484_496 := am (nl hg (rk BK484)); have NB496_484 := am (ng hg (rk BK484)); replace BK484 := am (blk_below (rk BK484) hb); have NB485_496 := am (nl hg (rk BK485)); have NB496_485 := am (ng hg (rk BK485)); replace BK485 := am (blk_below (rk BK485) hb); have NB493_496 := am (nl hg (rk BK493)); have NB496_493 := am (ng hg (rk BK493)); replace BK493 := am (blk_below (rk BK493) hb); clear hb hbox hg; have hnb84 := NB496_483.out; have hnc84 := NB483_496.out; have hnb85 := NB496_484.out; have hnc85 := NB484_496.out; have hnb86 := NB496_485.out; have hnc86 := NB485_496.out; have hnb87 := NB496_493.out; have hnc87 := NB493_496.out; have hcz88_0 : w83.cell? ⟨gb496, 0, none⟩ = some (.int .i64 0) := (blk_cell BK496.out 0).trans rfl; have hcz88_1 : w83.cell? ⟨gb496, 1, none⟩ = some (.int .i64 0) := (blk_cell BK496.out 1).trans rfl; have hcz88_2 : w83.cell? ⟨gb496, 2, none⟩ = some (.slice none 0 0) := (blk_cell BK496.out 2).trans rfl; have hfz88_0 := blk_frozen BK496.out 0; have hfz88_1 := blk_frozen BK496.out 1; have hfz88_2 := blk_frozen BK496.out 2; have hnb89 := NB484_483.out; have hnc89 := NB483_484.out; have hnb90 := NB484_485.out; have hnc90 := NB485_484.out; have hnb91 := NB484_493.out; have hnc91 := NB493_484.out; have hcz92_0 : w83.cell? ⟨gb484, 0, none⟩ = some (.int .i64 a1_0) := (blk_cell BK484.out 0).trans rfl; have hcz92_1 : w83.cell? ⟨gb484, 1, none⟩ = some (.int .i64 a1_1) := (blk_cell BK484.out 1).trans rfl; have hcz92_2 : w83.cell? ⟨gb484, 2, none⟩ = some (.slice (some ad495) l1_2.length c1_2) := (blk_cell BK484.out 2).trans rfl; have hfz92_0 := blk_frozen BK484.out 0; have hfz92_1 := blk_frozen BK484.out 1; have hfz92_2 := blk_frozen BK484.out 2) | ((with_reducible refine gate_callee (f := 56) rfl ?_); refine gl_ (some 53) Try.func56 #[.int .i64 ((rd_T101 l1_2 x41_2).f0), .int .i64 0, .int .i64 (wrap64 (a1_1 - 1))] ?_; (with_reducible refine (impl_in.calls ((rd_T101 l1_2 x41_2).f0) 0 (wrap64 (a1_1 - 1)) true _ A56.out).mono ?_); rintro e w' ⟨rfl, ⟨nd, rfl⟩⟩; refine ⟨_, rfl, ?_⟩) | (go_at_call 56; (with_reducible refine (impl_in.calls (((rd_T101 l1_2 x41_2).f2).length : Int) 1 a1_0 true _ A58.out).mono ?_); rintro e w' ⟨rfl, ⟨nd, rfl⟩⟩) | (go_at_call 56; (with_reducible refine (impl_in.calls ((rd_T101 l1_2 x41_2).f1) 0 (wrap64 (a1_0 - (((rd_T101 l1_2 x41_2).f2).length : Int))) false _ A60.out).mono ?_); rintro e w' ⟨rfl, ⟨nd, rfl⟩⟩; have hnb93 := NB485_483.out; have hnc93 := NB483_485.out; have hnb94 := NB485_493.out; have hnc94 := NB493_485.out; have hcz95_0 : w83.cell? ⟨gb485, 0, none⟩ = some (.int .i64 x486000_2) := (blk_cell BK485.out 0).trans rfl; have hcz95_1 : w83.cell? ⟨gb485, 1, none⟩ = some (.slice none 0 0) := (blk_cell BK485.out 1).trans rfl; have hfz95_0 := blk_frozen BK485.out 0; have hfz95_1 := blk_frozen BK485.out 1))
refine bodyPost_ret (results_ct rfl _ _ gb485 58 #[.int .i64 0, .slice none 0 0] (0, 0) _ rfl (by (with_reducible repeat (first | apply k1 | apply k2 | apply k3)); refine blk_put (cs := #[.int .i64 0, .slice none 0 0]) ?_ 1 _ rfl; (with_reducible repeat (first | apply k1 | apply k2 | apply k3)); refine blk_put (cs := #[.int .i64 x486000_2, .slice none 0 0]) ?_ 0 _ rfl; (with_reducible repeat (first | apply k1 | apply k2 | apply k3)); refine blk_far ?_ NB485_496.out _; (with_reducible repeat (first | apply k1 | apply k2 | apply k3)); refine blk_far ?_ NB485_496.out _; (with_reducible repeat (first | apply k1 | apply k2 | apply k3)); refine blk_far ?_ NB485_496.out _; (with_reducible repeat (first | apply k1 | apply k2 | apply k3)); exact BK485.out) Try.underlying58 rfl (by kernel_rfl)) rfl ?_
exact ⟨_, by first | rfl | (simp [errW_none, errW_some] <;> rfl) | (simp [*, errW_none, errW_some] <;> rfl), by first | exact Kd.S_nil _ _ _ _ _ | exact Kd.N_nil _ _ _ _ _ | exact Kd.V_nil _ _ _ _ _ | exact Kd.Q_nil _ _ _ _ _ | exact Kd.R_nil _ _ _ _ _, rb5 HB GE483 GE484 GE485 GE493 GE496⟩
)
)
case' g8n => (
replace c59 := Bool.eq_false_iff.mpr c59
subst c59
rw [if_neg (show ¬ (false = true) by decide)] at H
simp only [Option.some.injEq, Prod.mk.injEq] at H
obtain ⟨rfl, rfl, rfl⟩ := H
have lf9_ := trivial
)
)
case' g9n => (
replace c57 := Bool.eq_false_iff.mpr c57
subst c57
rw [if_neg (show ¬ (false = true) by decide)] at H
simp only [Option.some.injEq, Prod.mk.injEq] at H
obtain ⟨rfl, rfl, rfl⟩ := H
have lf10_ := trivial
)
)
case g10n => (
rw [if_neg c55] at H
exact absurd H (by simp)
)
)
case g11n => (
rw [if_neg c54] at H
exact absurd H (by simp)
)
)
case g12n => (
rw [if_neg c53] at H
have c53b0 : decide (x41_2 < (l1_2.length : Int)) = false := decide_eq_false c53
clear c53
replace H := Option.bind_eq_some_iff.mp H
obtain ⟨t494, A1220, H⟩ := H
(try dsimp only at H)
have A122 := am A1220
clear A1220
by_cases c123 : t494 = true
·(
subst c123
have H1 : (some (t489, x494001_2, true)) = some (r1, r2, r3) := by rw [if_pos rfl] at H; exact H
clear H
have H := H1
clear H1
simp only [Option.some.injEq, Prod.mk.injEq] at H
obtain ⟨rfl, rfl, rfl⟩ := H
have hnb124 := NB493_483.out
have hnc124 := NB483_493.out
have hnb125 := NB493_484.out
have hnc125 := NB484_493.out
have hnb126 := NB493_485.out
have hnc126 := NB485_493.out
have hcz127_0 : wr.cell? ⟨gb493, 0, none⟩ = some (.int .i64 t489) := (blk_cell BK493.out 0).trans rfl
have hcz127_1 : wr.cell? ⟨gb493, 1, none⟩ = some (u494001) := (blk_cell BK493.out 1).trans rfl
have hfz127_0 := blk_frozen BK493.out 0
have hfz127_1 := blk_frozen BK493.out 1
obtain ⟨Ao128, co128, eo128⟩ := Kd.S_slice HO_494001.out
subst eo128
go_wp2_with (first | ((with_reducible refine gate_callee (f := 48) rfl ?_); refine gl_ (some 87) Try.func48 #[.agg #[.int .i64 t489, .slice Ao128 x494001_2.length co128]] ?_; (with_reducible refine (impl_GridOk.calls k2 t489 _ _ x494001_2 true _ ?side1 ?side2 A122.out).mono ?_); (case side1 => exact rcs HO_494001); (case side2 => exact (Kd.S_reads' HO_494001.out).2.1); rintro e w129 ⟨rfl, hb⟩; refine ⟨_, rfl, ?_⟩; replace HO_494001 := am (Kd.S_below (rs HO_494001) hb); replace BK483 := am (blk_below (rk BK483) hb); replace BK484 := am (blk_below (rk BK484) hb); replace BK485 := am (blk_below (rk BK485) hb); replace BK493 := am (blk_below (rk BK493) hb); replace HB := am (below_step (rb4 HB GE483 GE484 GE485 GE493) hb); (try clear hb); (try clear hb2); (try clear hk); (try clear hi); have hcz130_0 : w129.cell? ⟨gb493, 0, none⟩ = some (.int .i64 t489) := (blk_cell BK493.out 0).trans rfl; have hcz130_1 : w129.cell? ⟨gb493, 1, none⟩ = some (.slice Ao128 x494001_2.length co128) := (blk_cell BK493.out 1).trans rfl; have hfz130_0 := blk_frozen BK493.out 0; have hfz130_1 := blk_frozen BK493.out 1; have hnb131 := NB485_483.out; have hnc131 := NB483_485.out; have hnb132 := NB485_484.out; have hnc132 := NB484_485.out; have hcz133_0 : w129.cell? ⟨gb485, 0, none⟩ = some (.int .i64 x486000_2) := (blk_cell BK485.out 0).trans rfl; have hcz133_1 : w129.cell? ⟨gb485, 1, none⟩ = some (.slice none 0 0) := (blk_cell BK485.out 1).trans rfl; have hfz133_0 := blk_frozen BK485.out 0; have hfz133_1 := blk_frozen BK485.out 1))
refine bodyPost_ret (results_ct rfl _ _ gb485 58 #[.int .i64 t489, .slice Ao128 x494001_2.length co128] (0, 0) _ rfl (rp_0_1 BK485) Try.underlying58 rfl (by kernel_rfl)) rfl ?_
exact ⟨_, by first | rfl | (simp [errW_none, errW_some] <;> rfl) | (simp [*, errW_none, errW_some] <;> rfl), by (with_reducible repeat (first | apply Kd.S_alloc | apply Kd.S_drewN | apply Kd.S_drew)); exact Kd.S_mono (Kd.S_far (p := ⟨gb485, 1, none⟩) (Kd.S_far (p := ⟨gb485, 0, none⟩) (Kd.S_types HO_494001.out BK485.out (by decide)) (fun _ hk => hk.2) (.int .i64 t489)) (fun _ hk => hk.2) (.slice Ao128 x494001_2.length co128)) (fun _ hk => trivial), rb4 HB GE483 GE484 GE485 GE493⟩
)
·(
replace c123 := Bool.eq_false_iff.mpr c123
subst c123
rw [if_neg (show ¬ (false = true) by decide)] at H
simp only [Option.some.injEq, Prod.mk.injEq] at H
obtain ⟨rfl, rfl, rfl⟩ := H
have hnb134 := NB493_483.out
have hnc134 := NB483_493.out
have hnb135 := NB493_484.out
have hnc135 := NB484_493.out
have hnb136 := NB493_485.out
have hnc136 := NB485_493.out
have hcz137_0 : wr.cell? ⟨gb493, 0, none⟩ = some (.int .i64 t489) := (blk_cell BK493.out 0).trans rfl
have hcz137_1 : wr.cell? ⟨gb493, 1, none⟩ = some (u494001) := (blk_cell BK493.out 1).trans rfl
have hfz137_0 := blk_frozen BK493.out 0
have hfz137_1 := blk_frozen BK493.out 1
obtain ⟨Ao138, co138, eo138⟩ := Kd.S_slice HO_494001.out
subst eo138
go_wp2_with (first | ((with_reducible refine gate_callee (f := 48) rfl ?_); refine gl_ (some 87) Try.func48 #[.agg #[.int .i64 t489, .slice Ao138 x494001_2.length co138]] ?_; (with_reducible refine (impl_GridOk.calls k2 t489 _ _ x494001_2 false _ ?side1 ?side2 A122.out).mono ?_); (case side1 => exact rcs HO_494001); (case side2 => exact (Kd.S_reads' HO_494001.out).2.1); rintro e w139 ⟨rfl, hb⟩; refine ⟨_, rfl, ?_⟩; replace HO_494001 := am (Kd.S_below (rs HO_494001) hb); replace BK483 := am (blk_below (rk BK483) hb); replace BK484 := am (blk_below (rk BK484) hb); replace BK485 := am (blk_below (rk BK485) hb); replace BK493 := am (blk_below (rk BK493) hb); replace HB := am (below_step (rb4 HB GE483 GE484 GE485 GE493) hb); (try clear hb); (try clear hb2); (try clear hk); (try clear hi); have hnb140 := NB485_483.out; have hnc140 := NB483_485.out; have hnb141 := NB485_484.out; have hnc141 := NB484_485.out; have hcz142_0 : w139.cell? ⟨gb485, 0, none⟩ = some (.int .i64 x486000_2) := (blk_cell BK485.out 0).trans rfl; have hcz142_1 : w139.cell? ⟨gb485, 1, none⟩ = some (.slice none 0 0) := (blk_cell BK485.out 1).trans rfl; have hfz142_0 := blk_frozen BK485.out 0; have hfz142_1 := blk_frozen BK485.out 1))
refine bodyPost_ret (results_ct rfl _ _ gb485 58 #[.int .i64 0, .slice none 0 0] (0, 0) _ rfl (rp_0_1 BK485) Try.underlying58 rfl (by kernel_rfl)) rfl ?_
exact ⟨_, by first | rfl | (simp [errW_none, errW_some] <;> rfl) | (simp [*, errW_none, errW_some] <;> rfl), by first | exact Kd.S_nil _ _ _ _ _ | exact Kd.N_nil _ _ _ _ _ | exact Kd.V_nil _ _ _ _ _ | exact Kd.Q_nil _ _ _ _ _ | exact Kd.R_nil _ _ _ _ _, rb4 HB GE483 GE484 GE485 GE493⟩
)
)
all_goals (
have p495 : 0 ≤ (x41_2 : Int) := dt_
have q495 : x41_2 < (l1_2.length : Int) := dt_
obtain ⟨ad495, A495_2, c495_2, e495, hx495_0, hx495_1, hx495_2, hl495_2, hi495_2⟩ := at_T101 HR1_2.out x41_2 p495 q495
cases e495
replace hx495_0 := mv HB.out hx495_0
replace hx495_1 := mv HB.out hx495_1
replace hx495_2 := mv HB.out hx495_2
have HR495_2 := am hi495_2
have HC495_2 := am hl495_2
clear hi495_2 hl495_2
replace p495 := eq_true p495
replace q495 := eq_true q495
go_wp2_with (first | ((with_reducible refine gate_dst (N := 8) rfl ?_); (try (refine gate_guard (by rfl) ?_; dsimp only)); refine box_event ?hg (N := 8) ?hd (cs := #[.int .i64 0, .int .i64 0, .slice none 0 0]) (t := 101) ?hr ?_; (case hd => rfl); (case hg => rfl); (case hr => first | (go_simp; done) | (go_simp; rfl)); intro gb496 hg w96 hbox hb; replace HO_494001 := am (Kd.S_below (rs HO_494001) hb); have BK496 := am (hbox); have GW496 := am (gw hg (rb4 HB GE483 GE484 GE485 GE493)); have GE496 := GW496; replace HB := am (below_step (rb4 HB GE483 GE484 GE485 GE493) hb); have NB483_496 := am (nl hg (rk BK483)); have NB496_483 := am (ng hg (rk BK483)); replace BK483 := am (blk_below (rk BK483) hb); have NB484_496 := am (nl hg (rk BK484)); have NB496_484 := am (ng hg (rk BK484)); replace BK484 := am (blk_below (rk BK484) hb); have NB485_496 := am (nl hg (rk BK485)); have NB496_485 := am (ng hg (rk BK485)); replace BK485 := am (blk_below (rk BK485) hb); have NB493_496 := am (nl hg (rk BK493)); have NB496_493 := am (ng hg (rk BK493)); replace BK493 := am (blk_below (rk BK493) hb); clear hb hbox hg; have hnb97 := NB496_483.out; have hnc97 := NB483_496.out; have hnb98 := NB496_484.out; have hnc98 := NB484_496.out; have hnb99 := NB496_485.out; have hnc99 := NB485_496.out; have hnb100 := NB496_493.out; have hnc100 := NB493_496.out; have hcz101_0 : w96.cell? ⟨gb496, 0, none⟩ = some (.int .i64 0) := (blk_cell BK496.out 0).trans rfl; have hcz101_1 : w96.cell? ⟨gb496, 1, none⟩ = some (.int .i64 0) := (blk_cell BK496.out 1).trans rfl; have hcz101_2 : w96.cell? ⟨gb496, 2, none⟩ = some (.slice none 0 0) := (blk_cell BK496.out 2).trans rfl; have hfz101_0 := blk_frozen BK496.out 0; have hfz101_1 := blk_frozen BK496.out 1; have hfz101_2 := blk_frozen BK496.out 2; have hnb102 := NB484_483.out; have hnc102 := NB483_484.out; have hnb103 := NB484_485.out; have hnc103 := NB485_484.out; have hnb104 := NB484_493.out; have hnc104 := NB493_484.out; have hcz105_0 : w96.cell? ⟨gb484, 0, none⟩ = some (.int .i64 a1_0) := (blk_cell BK484.out 0).trans rfl; have hcz105_1 : w96.cell? ⟨gb484, 1, none⟩ = some (.int .i64 a1_1) := (blk_cell BK484.out 1).trans rfl; have hcz105_2 : w96.cell? ⟨gb484, 2, none⟩ = some (.slice (some ad495) l1_2.length c1_2) := (blk_cell BK484.out 2).trans rfl; have hfz105_0 := blk_frozen BK484.out 0; have hfz105_1 := blk_frozen BK484.out 1; have hfz105_2 := blk_frozen BK484.out 2) | ((with_reducible refine gate_callee (f := 56) rfl ?_); refine gl_ (some 53) Try.func56 #[.int .i64 ((rd_T101 l1_2 x41_2).f0), .int .i64 0, .int .i64 (wrap64 (a1_1 - 1))] ?_; (with_reducible refine (impl_in.calls ((rd_T101 l1_2 x41_2).f0) 0 (wrap64 (a1_1 - 1)) false _ A56.out).mono ?_); rintro e w' ⟨rfl, ⟨nd, rfl⟩⟩; refine ⟨_, rfl, ?_⟩; have hnb119 := NB485_483.out; have hnc119 := NB483_485.out; have hnb120 := NB485_493.out; have hnc120 := NB493_485.out; have hcz121_0 : w96.cell? ⟨gb485, 0, none⟩ = some (.int .i64 x486000_2) := (blk_cell BK485.out 0).trans rfl; have hcz121_1 : w96.cell? ⟨gb485, 1, none⟩ = some (.slice none 0 0) := (blk_cell BK485.out 1).trans rfl; have hfz121_0 := blk_frozen BK485.out 0; have hfz121_1 := blk_frozen BK485.out 1) | (go_at_call 56; (with_reducible refine (impl_in.calls (((rd_T101 l1_2 x41_2).f2).length : Int) 1 a1_0 false _ A58.out).mono ?_); rintro e w' ⟨rfl, ⟨nd, rfl⟩⟩; have hnb106 := NB485_483.out; have hnc106 := NB483_485.out; have hnb107 := NB485_493.out; have hnc107 := NB493_485.out; have hcz108_0 : w96.cell? ⟨gb485, 0, none⟩ = some (.int .i64 x486000_2) := (blk_cell BK485.out 0).trans rfl; have hcz108_1 : w96.cell? ⟨gb485, 1, none⟩ = some (.slice none 0 0) := (blk_cell BK485.out 1).trans rfl; have hfz108_0 := blk_frozen BK485.out 0; have hfz108_1 := blk_frozen BK485.out 1) | ((with_reducible refine gate_callee (f := 56) rfl ?_); refine gl_ (some 53) Try.func56 #[.int .i64 ((rd_T101 l1_2 x41_2).f0), .int .i64 0, .int .i64 (wrap64 (a1_1 - 1))] ?_; (with_reducible refine (impl_in.calls ((rd_T101 l1_2 x41_2).f0) 0 (wrap64 (a1_1 - 1)) true _ A56.out).mono ?_); rintro e w' ⟨rfl, ⟨nd, rfl⟩⟩; refine ⟨_, rfl, ?_⟩))
refine bodyPost_ret (results_ct rfl _ _ gb485 58 #[.int .i64 0, .slice none 0 0] (0, 0) _ rfl (by (with_reducible repeat (first | apply k1 | apply k2 | apply k3)); refine blk_put (cs := #[.int .i64 0, .slice none 0 0]) ?_ 1 _ rfl; (with_reducible repeat (first | apply k1 | apply k2 | apply k3)); refine blk_put (cs := #[.int .i64 x486000_2, .slice none 0 0]) ?_ 0 _ rfl; (with_reducible repeat (first | apply k1 | apply k2 | apply k3)); refine blk_far ?_ NB485_496.out _; (with_reducible repeat (first | apply k1 | apply k2 | apply k3)); refine blk_far ?_ NB485_496.out _; (with_reducible repeat (first | apply k1 | apply k2 | apply k3)); refine blk_far ?_ NB485_496.out _; (with_reducible repeat (first | apply k1 | apply k2 | apply k3)); exact BK485.out) Try.underlying58 rfl (by kernel_rfl)) rfl ?_
exact ⟨_, by first | rfl | (simp [errW_none, errW_some] <;> rfl) | (simp [*, errW_none, errW_some] <;> rfl), by first | exact Kd.S_nil _ _ _ _ _ | exact Kd.N_nil _ _ _ _ _ | exact Kd.V_nil _ _ _ _ _ | exact Kd.Q_nil _ _ _ _ _ | exact Kd.R_nil _ _ _ _ _, rb5 HB GE483 GE484 GE485 GE493 GE496⟩
)
)
)
)
)
)
)

end Go.Proofs.Ytalopdcephohgaa.RC
