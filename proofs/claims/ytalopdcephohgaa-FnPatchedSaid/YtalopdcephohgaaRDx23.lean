/- Contracts of Go functions that laws of this seat reach: each Lean function answers as its Go function does. No condition. Written by wip/tools/inj.py, over the kit's print. -/
import Derived.Test.YtalopdcephohgaaRDx0
import Derived.Test.YtalopdcephohgaaRDx11
import Derived.Test.YtalopdcephohgaaRDx14
import Derived.Test.YtalopdcephohgaaRDx18
namespace Go.Proofs.Ytalopdcephohgaa.RD
open Go.RowKit Go.Proofs.YtalopdcephohgaaW.PrintWords Go.Proofs.YtalopdcephohgaaW.PrintLast Go.Proofs.YtalopdcephohgaaW.PrintMore
attribute [local go_sem] max2_int min2_int max_two min_two max_three min_three max_four min_four   -- for this text's walks alone
set_option linter.unusedVariables false
set_option linter.unusedSimpArgs false

/-! ### impl_Patched: function 42 -/
section
open Go.Lib
theorem cp_cells {base g n cap size : Nat} {e : TypeId} : ∀ (seg : List Value) (o : Nat) (w : World) (xs : List Value), w.ownsRow base e size (.slice (some ⟨g, 0, none⟩) n cap) n xs → o + seg.length ≤ xs.length →
  (w.setCells g o seg).ownsRow base e size (.slice (some ⟨g, 0, none⟩) n cap) n (xs.take o ++ seg ++ xs.drop (o + seg.length)) ∧ w.grownBy (w.setCells g o seg) (some g)
 | [], o, w, xs, h, ho => by
  refine ⟨?_, ⟨rfl, rfl, rfl, Nat.le_refl _, fun _ _ _ => rfl⟩⟩
  show w.ownsRow base e size _ n _
  rw [List.append_nil, List.length_nil, Nat.add_zero, List.take_append_drop]
  exact h
 | u :: seg, o, w, xs, h, ho => by
  rw [List.length_cons] at ho
  have h1 := h.stored o u
  obtain ⟨h2, h3⟩ := cp_cells seg (o + 1) (w.setCell ⟨g, o, none⟩ u) (xs.set o u) h1.1 (by rw [List.length_set]; omega)
  refine ⟨?_, h1.2.trans h3⟩
  have hl : (xs.set o u).take (o + 1) ++ seg ++ (xs.set o u).drop (o + 1 + seg.length) = xs.take o ++ (u :: seg) ++ xs.drop (o + (u :: seg).length) := by
   rw [List.take_succ_eq_append_getElem (by rw [List.length_set]; omega), List.getElem_set_self, List.take_set_of_le (Nat.le_refl _), List.drop_set_of_lt (by omega), List.length_cons]
   rw [show o + 1 + seg.length = o + (seg.length + 1) by omega]
   simp
  rw [← hl]
  exact h2
theorem cp_one {w : World} {base : Nat} {ok : Nat → Prop} {ps : List S98} {cs : List Value} (h : Reps (k98.M w base ok) 7 ps cs) : ∀ u ∈ cs, u.oneCell' = true := by
 intro u hu
 obtain ⟨t, ht, rfl⟩ := List.mem_iff_getElem.mp hu
 have hl := h.1
 have hj : t / 7 < ps.length := by omega
 have hb := k98_openM (h.2 (t / 7) _ (List.getElem?_eq_getElem hj))
 have hm : cs[t] ∈ (cs.drop (t / 7 * 7)).take 7 := by
  rw [List.mem_iff_getElem]
  refine ⟨t % 7, by rw [List.length_take, List.length_drop]; omega, ?_⟩
  rw [List.getElem_take, List.getElem_drop]
  congr 1
  omega
 rw [hb] at hm
 simp only [List.mem_cons, List.not_mem_nil, or_false] at hm
 rcases hm with h | h | h | h | h | h | h
 all_goals (rw [h]; rfl)
theorem cp_flat {w w' : World} {base base' : Nat} {ok ok' : Nat → Prop} {ps : List S98} {cs : List Value} (h : Reps (k98.M w base ok) 7 ps cs) : Reps (k98.M w' base' ok') 7 ps cs := by
 refine Reps.imp_ h (fun p c hR => ?_)
 rw [k98_openM hR]
 exact k98_mkM _ _ _ _
theorem cp_shape {w : World} {base g n cap size : Nat} {e : TypeId} {xs : List Value} (h : w.ownsRow base e size (.slice (some ⟨g, 0, none⟩) n cap) n xs) : n ≤ cap ∧ (∀ t, w.frozen? ⟨g, t, none⟩ = false) ∧ (∀ t, t < cap * size → (w.cell? ⟨g, t, none⟩).isSome = true) ∧ base ≤ g ∧ g < w.heap.size := by
 rcases h.2 with ⟨h', _⟩ | ⟨g', cap', cur, h', hb, hg, hnc, hcm, hcs, htake⟩
 ·simp at h'
 ·simp only [Value.slice.injEq, Option.some.injEq, Addr.mk.injEq, and_true, true_and] at h'
  obtain ⟨rfl, rfl⟩ := h'
  refine ⟨hnc, fun t => frozen_of_row w g t cur e hg, fun t ht => ?_, hb, (Array.getElem?_eq_some_iff.1 hg).1⟩
  rw [cell_of_row w g t cur e (0, 0) hg, Array.getElem?_eq_getElem (by omega)]
  rfl
theorem cp_run {P : Program} (w : World) (dT sT ty elem : TypeId) (b o dLen dCap : Nat) (a : Addr) (sLen sCap sz m : Nat) (cs : List Value)
  (hu : P.underlying dT = some (.slice elem)) (hs : (P.info? elem).map (·.size) = some sz) (hm : m = Nat.min sLen dLen) (hn : cs.length = m * sz)
  (hsrc : ∀ j v, cs[j]? = some v → w.cell? (a.add j) = some v) (hc : ∀ j, j < cs.length → (w.cell? ⟨b, o + j, none⟩).isSome = true) (hf : ∀ j, j < cs.length → w.frozen? ⟨b, o + j, none⟩ = false) (h1 : ∀ v ∈ cs, v.oneCell' = true) :
  (Builtin.copy_ #[dT, sT] ty #[.slice (some ⟨b, o, none⟩) dLen dCap, .slice (some a) sLen sCap]).run P w = .ok (goInt m) (w.setCells b o cs) := by
 have hl := run_loadCells_list (P := P) w a cs hsrc
 have hst := run_storeCells_cells (P := P) b o cs 0 w (by simpa using hc) (by simpa using hf) h1
 cases hq : P.info? elem with
 | none => simp [hq] at hs
 | some i =>
  have hi : i.size = sz := by simpa [hq] using hs
  simp only [Nat.add_zero] at hst
  simp [Builtin.copy_, run_underlying hu, Builtin.lenOf, Builtin.firstCells, sizeOf, typeInfo, hq, hi, ← hm, ← hn, hl, hst]
theorem cp_zero {P : Program} (w : World) (dT sT ty elem : TypeId) (d a : Option Addr) (dLen dCap sLen sCap sz : Nat) (hu : P.underlying dT = some (.slice elem)) (hs : (P.info? elem).map (·.size) = some sz) (hn : Nat.min sLen dLen = 0) :
  (Builtin.copy_ #[dT, sT] ty #[.slice d dLen dCap, .slice a sLen sCap]).run P w = .ok (goInt 0) w := by
 cases hq : P.info? elem with
 | none => simp [hq] at hs
 | some i =>
  have hl : ∀ (x : Addr), (loadCells x 0).run P w = .ok #[] w := fun x => by simpa using run_loadCells_list (P := P) w x [] (by simp)
  cases d <;> cases a <;> simp [Builtin.copy_, run_underlying hu, Builtin.lenOf, Builtin.firstCells, sizeOf, typeInfo, hq, hn, storeCells, hl]
/-- Cells copied over a row, from a place on. -/
def cpv (l : List S98) (i : Nat) (c : List S98) : List S98 := l.take i ++ c.take (l.length - i) ++ l.drop (i + min c.length (l.length - i))
theorem cpv_length (l : List S98) (i : Nat) (c : List S98) (h : i ≤ l.length) : (cpv l i c).length = l.length := by
 unfold cpv
 rw [List.length_append, List.length_append, List.length_take, List.length_take, List.length_drop]; omega
theorem cp_step {P : Program} {ops : Array Oper} {o : Oper} {a : Act} {W w0 : World} {Kc : Act → World → Prop} {Q : Exit → Act → World → Prop} (base : Nat) (hw : Region.wanted o (yielded ops a.tmps) = true) (d s : Operand) (t : TypeId)
  (ho : o.op = .call { callee := .builtin .copy, args := #[d, s], argTypes := #[t, t] }) (ht : P.underlying t = some (.slice 98)) {z : Value} {bytes : Nat} (hinfo : (P.info? 98).map (fun i => (i.zero, i.size, i.bytes)) = some (some z, 7, bytes))
  {g cap n1 c1 m c : Nat} {A1 A : Option Addr} {xs ys : List S98} {ok : Nat → Prop} (i : Int) (hd : a.eval d = .slice A1 n1 c1) (hs : a.eval s = .slice A m c)
  (hA : A1 = if cap = i.toNat then some ⟨g, 0, none⟩ else (some ⟨g, 0, none⟩ : Option Addr).map (·.add (i.toNat * 7))) (hn : n1 = xs.length - i.toNat) (h0 : 0 ≤ i) (h1 : i < xs.length)
  (HX : Kd.R k98 98 W base ok (.slice (some ⟨g, 0, none⟩) xs.length cap) xs) (HS : Kd.C k98 W A m ys) (HB : Below base w0 W)
  (h : ∀ v1 w1, Kd.R k98 98 w1 base ok (.slice (some ⟨g, 0, none⟩) xs.length cap) (cpv xs i.toNat ys) → Below base w0 w1 → W.grownBy w1 (some g) → Kc (a.put o.dst v1) w1) :
  if Region.wanted o (yielded ops a.tmps) = true then Oper.wp P o a W Kc Q else Kc (a.put o.dst undef) W := by
 rw [if_pos hw]
 obtain ⟨j, rfl⟩ := Int.eq_ofNat_of_zero_le h0
 simp only [Int.toNat_natCast] at hA hn h
 have hj : j < xs.length := by omega
 obtain ⟨hok, inner, hown, hreps⟩ := HX
 obtain ⟨i0, hi0, hz0, hzs, hzb⟩ := info_parts hinfo
 have hsz : (P.info? 98).map (·.size) = some 7 := by rw [hi0]; simp [hzs]
 have hk7 : k98.sz = 7 := rfl
 rw [hk7] at hown hreps
 obtain ⟨hnc, hfz, hsp, hbg, hgl⟩ := cp_shape hown
 have hil : inner.length = xs.length * 7 := hown.1
 have hcap : ¬ cap = j := by omega
 rw [if_neg hcap] at hA
 have hA2 : (some ⟨g, 0, none⟩ : Option Addr).map (·.add (j * 7)) = some ⟨g, j * 7, none⟩ := by rw [Option.map_some, Addr.add_lit, Nat.zero_add]
 rw [hA2] at hA
 subst hA
 have hyl : ys.length = m := HS.1
 have hcl := cpv_length xs j ys (by omega)
 have key : ∃ v1 w1, (Builtin.copy_ #[t, t] o.type #[.slice (some ⟨g, j * 7, none⟩) n1 c1, .slice A m c]).run P W = .ok v1 w1 ∧ Kd.R k98 98 w1 base ok (.slice (some ⟨g, 0, none⟩) xs.length cap) (cpv xs j ys) ∧ Below base w0 w1 ∧ W.grownBy w1 (some g) := by
  rcases Nat.eq_zero_or_pos m with h0m | hpos
  ·subst h0m
   obtain rfl : ys = [] := List.eq_nil_of_length_eq_zero hyl
   refine ⟨_, W, cp_zero W t t o.type 98 _ A n1 c1 0 c 7 ht hsz (by simp [Nat.min_def]), ?_, HB, World.grownBy.refl W _⟩
   rw [show cpv xs j [] = xs by simp [cpv]]
   exact ⟨hok, inner, hown, hreps⟩
  ·obtain ⟨ad, rfl, _⟩ := HS.2.2 hpos
   obtain ⟨src, hsr, hsc⟩ := ReadsRow.inner_ HS
   have hsr' : Reps (k98.M W base (fun _ => True)) 7 ys src := Reps.imp_ hsr (fun p c hp => by rw [k98_open hp]; exact k98_mkM _ _ _ _)
   have hone := cp_one hsr'
   have hsl : src.length = m * 7 := by rw [hsr'.1, hyl]
   obtain ⟨mm, hmm⟩ : ∃ mm, mm = Nat.min m n1 := ⟨_, rfl⟩
   have hm1 : mm ≤ m ∧ mm ≤ n1 ∧ (mm = m ∨ mm = n1) := by rw [hmm]; simp only [Nat.min_def]; split <;> omega
   have hct : (src.take (mm * 7)).length = mm * 7 := by rw [List.length_take, hsl]; omega
   have hrun := cp_run W t t o.type 98 g (j * 7) n1 c1 ad m c 7 mm (src.take (mm * 7)) ht hsz hmm hct
    (fun q v hq => hsc q v (by rw [List.getElem?_take] at hq; split at hq; exact hq; cases hq))
    (fun q hq => hsp _ (by omega)) (fun q _ => hfz _) (fun v hv => hone v (List.mem_of_mem_take hv))
   obtain ⟨hw1, hg1⟩ := cp_cells (src.take (mm * 7)) (j * 7) W inner hown (by rw [hct, hil]; omega)
   refine ⟨_, _, hrun, ⟨hok, _, by rw [hcl]; exact hw1, ?_⟩, Below.grown HB hg1 (by omega) (fun k hk => by injection hk with hk; omega), hg1⟩
   have e1 : cpv xs j ys = xs.take j ++ ys.take mm ++ xs.drop (j + mm) := by
    unfold cpv
    rw [← hn]
    have e2 : min ys.length n1 = mm := by omega
    have e3 : ys.take n1 = ys.take mm := by
     rcases hm1.2.2 with q | q
     ·rw [List.take_of_length_le (show ys.length ≤ n1 by omega), List.take_of_length_le (show ys.length ≤ mm by omega)]
     ·rw [q]
    rw [e2, e3]
   rw [e1, hk7, hct, show j * 7 + mm * 7 = (j + mm) * 7 by omega]
   exact Kd.reps_append (Kd.reps_append (cp_flat (Kd.reps_take hreps (by omega))) (cp_flat (Kd.reps_take hsr' (by omega)))) (cp_flat (Kd.reps_drop hreps))
 obtain ⟨v1, w1, hr, hX, hB1, hg1⟩ := key
 unfold Oper.wp
 simp [execOp, ho, resolve, invoke, builtin, hd, hs, hr, Result.andThen]
 exact h v1 w1 hX hB1 hg1
end
mutual
def impl_Patched.j0 : Nat → Bool → Int → List (List (S98)) → Int → Int → List (S101) → Option (Int × (List (List (S98))) × Bool)
 | 0, _, _, _, _, _, _ => none
 | k + 1, ag, ae, af, a9, aa, a8 => if ag = true then (some (0, ([] : List (List (S98))), false)) else ((impl_Grid_resized.f k ae af a9 aa).bind fun ac => (impl_Patched.l0 k a8 (a8.length : Int) 0 a9 aa a8 ac.1 ac.2))
def impl_Patched.l0 : Nat → List (S101) → Int → Int → Int → Int → List (S101) → Int → List (List (S98)) → Option (Int × (List (List (S98))) × Bool)
 | 0, _, _, _, _, _, _, _, _ => none
 | k + 1, aa, ah, a8, ac, af, ag, ae, a9 => if a8 < ah then (if 0 ≤ a8 then (if a8 < (aa.length : Int) then ((impl_in.f ((rd_T101 aa a8).f0) 0 (wrap64 (af - 1))).bind fun aj => (if aj = true then ((impl_in.f (((rd_T101 aa a8).f2).length : Int) 1 ac).bind fun ak => (if ak = true then ((impl_in.f ((rd_T101 aa a8).f1) 0 (wrap64 (ac - (((rd_T101 aa a8).f2).length : Int)))).bind fun al => (if al = true then (if 0 ≤ ((rd_T101 aa a8).f0) then (if ((rd_T101 aa a8).f0) < (a9.length : Int) then (if 0 ≤ ((rd_T101 aa a8).f1) then (if ((rd_T101 aa a8).f1) ≤ ((rd_L5 a9 ((rd_T101 aa a8).f0)).length : Int) then (if ((rd_T101 aa a8).f1) < ((rd_L5 a9 ((rd_T101 aa a8).f0)).length : Int) then (impl_Patched.l0 k aa ah (wrap64 (a8 + 1)) ac af ag ae (a9.set (((rd_T101 aa a8).f0) : Int).toNat (cpv (rd_L5 a9 ((rd_T101 aa a8).f0)) (((rd_T101 aa a8).f1) : Int).toNat ((rd_T101 aa a8).f2)))) else (none)) else (none)) else (none)) else (none)) else (none)) else (some (0, ([] : List (List (S98))), false)))) else (some (0, ([] : List (List (S98))), false)))) else (some (0, ([] : List (List (S98))), false)))) else (none)) else (none)) else ((impl_GridOk.f k ae a9).bind fun ai => (if ai = true then (some (ae, a9, true)) else (some (0, ([] : List (List (S98))), false))))
end
def impl_Patched.f (k : Nat) (a8 : Int) (ac : List (List (S98))) (a9 : Int) (aa : Int) (ae : List (S101)) : Option (Int × (List (List (S98))) × Bool) := (impl_GridOk.f k a8 ac).bind fun af => (if af = true then ((impl_in.f a9 1 60).bind fun ag => (if ag = true then ((impl_in.f aa 1 30).bind fun ah => (if ah = true then (impl_Patched.j0 k (decide ((ae.length : Int) > 400)) a8 ac a9 aa ae) else (impl_Patched.j0 k true a8 ac a9 aa ae))) else (impl_Patched.j0 k true a8 ac a9 aa ae))) else (impl_Patched.j0 k true a8 ac a9 aa ae))
theorem impl_Patched.mono_l : ∀ k, (∀ y0 y1 y2 y3 y4 y5, LeO (impl_Patched.j0 k y0 y1 y2 y3 y4 y5) (impl_Patched.j0 (k + 1) y0 y1 y2 y3 y4 y5)) ∧ (∀ y0 y1 y2 y3 y4 y5 y6 y7, LeO (impl_Patched.l0 k y0 y1 y2 y3 y4 y5 y6 y7) (impl_Patched.l0 (k + 1) y0 y1 y2 y3 y4 y5 y6 y7))
 | 0 => ⟨fun _ _ _ _ _ _ r h => by simp [impl_Patched.j0] at h, fun _ _ _ _ _ _ _ _ r h => by simp [impl_Patched.l0] at h⟩
 | k + 1 => by
  obtain ⟨ih0, ih1⟩ := impl_Patched.mono_l k
  refine ⟨?_, ?_⟩
  ·intro y0 y1 y2 y3 y4 y5
   unfold impl_Patched.j0
   repeat' first
   | (with_reducible exact ih0 _ _ _ _ _ _)
   | (with_reducible exact ih1 _ _ _ _ _ _ _ _)
   | (with_reducible exact impl_GridOk.mono _ _ _)
   | (with_reducible exact impl_Grid_resized.mono _ _ _ _ _)
   | (with_reducible exact LeO.refl _)
   | (with_reducible exact LeO.none _)
   | (with_reducible refine LeO.ite ?_ ?_)
   | (with_reducible refine LeO.bind ?_ (fun _ => ?_))
  ·intro y0 y1 y2 y3 y4 y5 y6 y7
   unfold impl_Patched.l0
   repeat' first
   | (with_reducible exact ih0 _ _ _ _ _ _)
   | (with_reducible exact ih1 _ _ _ _ _ _ _ _)
   | (with_reducible exact impl_GridOk.mono _ _ _)
   | (with_reducible exact impl_Grid_resized.mono _ _ _ _ _)
   | (with_reducible exact LeO.refl _)
   | (with_reducible exact LeO.none _)
   | (with_reducible refine LeO.ite ?_ ?_)
   | (with_reducible refine LeO.bind ?_ (fun _ => ?_))
theorem impl_Patched.mono : ∀ a0 a1 a2 a3 a4 k, LeO (impl_Patched.f k a0 a1 a2 a3 a4) (impl_Patched.f (k + 1) a0 a1 a2 a3 a4) := by
 intro a0 a1 a2 a3 a4 k
 obtain ⟨ih0, ih1⟩ := impl_Patched.mono_l k
 unfold impl_Patched.f
 repeat' first
   | (with_reducible exact ih0 _ _ _ _ _ _)
   | (with_reducible exact ih1 _ _ _ _ _ _ _ _)
   | (with_reducible exact impl_GridOk.mono _ _ _)
   | (with_reducible exact impl_Grid_resized.mono _ _ _ _ _)
   | (with_reducible exact LeO.refl _)
   | (with_reducible exact LeO.none _)
   | (with_reducible refine LeO.ite ?_ ?_)
   | (with_reducible refine LeO.bind ?_ (fun _ => ?_))
def impl_Patched.T10 : Bool × List (List Nat × List Nat) := (true, [([], []), ([0], [0]), ([], []), ([2], [2]), ([1, 3], [1, 3]), ([4], [4]), ([], []), ([6], [6]), ([5, 7], [5, 7]), ([], []), ([9], [9]), ([8, 10], [8, 10])])
def impl_Patched.B10 : List Nat := [0, 1, 0, 4, 15, 31, 0, 64, 255, 0, 512, 2047]
theorem impl_Patched.tab10 : rtab .any (opsOf Try.f42 10) = impl_Patched.T10 := by kernel_rfl
theorem impl_Patched.bits10 : waitsOk impl_Patched.T10.2 impl_Patched.B10 = true := by kernel_rfl
set_option maxHeartbeats 8000000 in
set_option maxRecDepth 100000 in
theorem impl_Patched.calls (k : Nat) (aE : Int) (aV : Option Addr) (aW : Nat) (aq : List (List (S98))) (al : Int) (ak : Int) (bA : Option Addr) (bb : Nat) (a9 : List (S101)) (r1 : Int) (r2 : List (List (S98))) (r3 : Bool) (w : World) (cG : Kd.C (Kd.slice 98 k98) w aV aq.length aq) (cC : aq.length ≤ aW) (cH : Kd.C k101 w bA a9.length a9) (cD : a9.length ≤ bb) (h : impl_Patched.f k aE aq al ak a9 = some (r1, r2, r3)) :
  Calls Try.prog 42 #[.agg #[.int .i64 aE, .slice aV aq.length aW], .agg #[.int .i64 al, .int .i64 ak, .slice bA a9.length bb]] w fun e w' => ∃ v1_ : Value, e = .returned (.tuple #[.agg #[.int .i64 r1, v1_], .bool r3]) ∧ Kd.S (Kd.slice 98 k98) 99 w' w.heap.size (fun _ => True) v1_ r2 ∧ Below w.heap.size w w' := by
 (
have ft := Try.underlying58
have fq := Try.underlying53
have eM := Try.underlying101
have bO := am cG
have bN := am cC
clear cG cC
have bP := am cH
have ez := am cD
clear cH cD
have HB := am (Below.refl w.heap.size w)
have H := h
unfold impl_Patched.f at H
clear h
have cM := am H
clear H
go_enter Try.func42, Try.ntmps42
go_upto_region 1 with (first | ((with_reducible refine gate_dst (N := 2) rfl ?_); (try (refine gate_guard (by rfl) ?_; dsimp only)); refine bx 2 #[.int .i64 aE, .slice aV aq.length aW] 58 ?_; intro br hg w4 hbox hb; have ag := am (hbox); have d4 := am (gw hg (rb HB)); have eu := d4; replace HB := bs HB hb; clear hb hbox hg) | ((with_reducible refine gate_dst (N := 3) rfl ?_); (try (refine gate_guard (by rfl) ?_; dsimp only)); refine bx 3 #[.int .i64 al, .int .i64 ak, .slice bA a9.length bb] 53 ?_; intro bt hg w5 hbox hb; have af := am (hbox); have d5 := am (gw hg (rb HB)); have ev := d5; replace HB := bs HB hb; have aY := am (nl hg (rk ag)); have b4 := ns aY; replace ag := kk ag hb; clear hb hbox hg) | ((with_reducible refine gate_dst (N := 4) rfl ?_); (try (refine gate_guard (by rfl) ?_; dsimp only)); refine bx 4 #[.int .i64 0, .slice none 0 0] 58 ?_; intro aQ hg w6 hbox hb; have ae := am (hbox); have d6 := am (gw hg (rb HB)); have ex := d6; replace HB := bs HB hb; have aZ := am (nl hg (rk ag)); have ay := ns aZ; replace ag := kk ag hb; have ax := am (nl hg (rk af)); have b5 := ns ax; replace af := kk af hb; clear hb hbox hg))
(try simp only [Act.put, List.setIfInBounds_toArray, List.set_cons_zero, List.set_cons_succ])
go_cut [30] (fun er wc => ∃ (kq : Nat) (bz : Bool), er = .bool bz ∧ Aside0 (impl_Patched.j0 kq bz aE aq al ak a9 = some (r1, r2, r3)) ∧ Aside0 (kq ≤ k) ∧ Aside0 (wc.heap[br]? = some (.cells #[.int .i64 aE, (.slice aV aq.length aW)] 58 (0, 0))) ∧ Aside0 (wc.heap[bt]? = some (.cells #[.int .i64 al, .int .i64 ak, (.slice bA a9.length bb)] 53 (0, 0))) ∧ Aside0 (wc.heap[aQ]? = some (.cells #[.int .i64 0, (.slice none 0 0)] 58 (0, 0))) ∧ Aside0 (Below w.heap.size w wc))
case first => (
have H := cM.out
clear cM
obtain ⟨dJ, A7, H⟩ := bd H
(try dsimp only at H)
refine em_ (p := dJ = true) (fun c8 => ?dZ) (fun c8 => ?dY)
case' dZ => (
subst c8
rw [if_pos rfl] at H
obtain ⟨dK, A9, H⟩ := bd H
(try dsimp only at H)
refine em_ (p := dK = true) (fun bW => ?dX) (fun bW => ?dW)
case' dX => (
subst bW
rw [if_pos rfl] at H
obtain ⟨dL, dh, H⟩ := bd H
(try dsimp only at H)
refine em_ (p := dL = true) (fun bX => ?dV) (fun bX => ?dU)
case' dV => (
subst bX
rw [if_pos rfl] at H
have H' := am H
clear H
have dE := trivial
)
case' dU => (
replace bX := Bool.eq_false_iff.mpr bX
subst bX
rw [if_neg (show ¬ (false = true) by decide)] at H
have H' := am H
clear H
have dF := trivial
)
)
case' dW => (
replace bW := Bool.eq_false_iff.mpr bW
subst bW
rw [if_neg (show ¬ (false = true) by decide)] at H
have H' := am H
clear H
have dG := trivial
)
)
case' dY => (
replace c8 := Bool.eq_false_iff.mpr c8
subst c8
rw [if_neg (show ¬ (false = true) by decide)] at H
have H' := am H
clear H
have dH := trivial
)
all_goals (
have fw := nN aY
have fx := nN aZ
have gb := z2 ag
go_wp2_with (first | ((with_reducible refine cg 48 rfl ?_); refine gl_ (some 11) Try.func48 #[.agg #[.int .i64 aE, .slice aV aq.length aW]] ?_; (with_reducible refine (impl_GridOk.calls k aE _ _ aq true _ ?side1 ?side2 A7.out).mono ?_); (case side1 => exact rc ((Kd.C_below bO.out HB.out))); (case side2 => exact bN.out); rintro e gm ⟨rfl, hb⟩; refine ⟨_, rfl, ?_⟩; replace ag := kk ag hb; replace af := kk af hb; replace ae := kk ae hb; replace HB := bs HB hb; (try clear hb); (try clear cA); (try clear hk); (try clear hi); have fy := nN ax; have gc := z3 af) | ((with_reducible refine cg 48 rfl ?_); refine gl_ (some 11) Try.func48 #[.agg #[.int .i64 aE, .slice aV aq.length aW]] ?_; (with_reducible refine (impl_GridOk.calls k aE _ _ aq false _ ?side1 ?side2 A7.out).mono ?_); (case side1 => exact rc ((Kd.C_below bO.out HB.out))); (case side2 => exact bN.out); rintro e gn ⟨rfl, hb⟩; refine ⟨_, rfl, ?_⟩; replace ag := kk ag hb; replace af := kk af hb; replace ae := kk ae hb; replace HB := bs HB hb; (try clear hb); (try clear cA); (try clear hk); (try clear hi)) | (go_at_call 56; (with_reducible refine (impl_in.calls ak 1 30 false _ dh.out).mono ?_); rintro e w' ⟨rfl, ⟨nd, rfl⟩⟩) | (go_at_call 56; (with_reducible refine (impl_in.calls ak 1 30 true _ dh.out).mono ?_); rintro e w' ⟨rfl, ⟨nd, rfl⟩⟩) | (go_at_call 56; (with_reducible refine (impl_in.calls al 1 60 false _ A9.out).mono ?_); rintro e w' ⟨rfl, ⟨nd, rfl⟩⟩) | (go_at_call 56; (with_reducible refine (impl_in.calls al 1 60 true _ A9.out).mono ?_); rintro e w' ⟨rfl, ⟨nd, rfl⟩⟩))
go_meet
first
| (
first | have q_ := dF | have q_ := dG | have q_ := dH
case rel => exact ⟨_, (true), sd, H', ⟨by first | omega | exact Nat.le_refl _⟩, ⟨rk ag⟩, ⟨rk af⟩, ⟨rk ae⟩, ⟨rb HB⟩⟩
)
| (
have q_ := dE
case rel => exact ⟨_, (decide ((a9.length : Int) > 400)), sd, H', ⟨by first | omega | exact Nat.le_refl _⟩, ⟨rk ag⟩, ⟨rk af⟩, ⟨rk ae⟩, ⟨rb HB⟩⟩
)
)
)
case rest => (
clear cM
obtain ⟨kq, bz, rfl, HA, dj, ag, af, ae, HB⟩ := hcut
cases kq with
| zero => exact absurd HA.out (by simp [impl_Patched.j0])
| succ cU => (
have H := HA.out
clear HA
simp only [impl_Patched.j0] at H
by_cases bY : bz = true
·(
subst bY
have H1 : (some (0, ([] : List (List (S98))), false)) = some (r1, r2, r3) := by rw [if_pos rfl] at H; exact H
clear H
have H := H1
clear H1
simp only [Option.some.injEq, Prod.mk.injEq] at H
obtain ⟨rfl, rfl, rfl⟩ := H
have fz := nN ay
have fA := nN b5
have gf := z2 ae
go_wp2
refine bodyPost_ret (results_ct rfl _ _ aQ 58 #[.int .i64 0, .slice none 0 0] (0, 0) _ rfl (rk ae) Try.underlying58 rfl (by kernel_rfl)) rfl ?_
exact ⟨_, ew, xn, rb HB⟩
)
·(
replace bY := Bool.eq_false_iff.mpr bY
subst bY
rw [if_neg (show ¬ (false = true) by decide)] at H
obtain ⟨⟨au, cp⟩, dQ, H⟩ := bd H
(try dsimp only at H)
have H' := am H
clear H
have fB := nN aY
have fC := nN aZ
have cW := z2 ag
have fD := nN ax
have cX := z3 af
go_wp2_with (first | ((with_reducible refine cg 72 rfl ?_); refine gl_ (some 37) Try.func72 #[.agg #[.int .i64 aE, .slice aV aq.length aW], .int .i64 al, .int .i64 ak] ?_; (with_reducible refine (impl_Grid_resized.calls cU aE _ _ aq al ak au cp _ ?side1 ?side2 dQ.out).mono ?_); (case side1 => exact rc ((Kd.C_below bO.out HB.out))); (case side2 => exact bN.out); rintro e gp ⟨g8, rfl, dm, hb⟩; refine ⟨_, rfl, ?_⟩; have bo := am (Kd.S_lower dm (below_size (rb HB))); replace ag := kk ag hb; replace af := kk af hb; replace ae := kk ae hb; replace HB := bs HB hb; (try clear hb); (try clear cA); (try clear hk); (try clear hi); (try clear dm)) | ((with_reducible refine gate_dst (N := 6) rfl ?_); (try (refine gate_guard (by rfl) ?_; dsimp only)); refine bx 6 #[.int .i64 0, .slice none 0 0] 58 ?_; intro bh hg gq hbox hb; replace bo := am (Kd.S_below (rs bo) hb); have ah := am (hbox); have d7 := am (gw hg (rb HB)); have ey := d7; replace HB := bs HB hb; have bV := am (nl hg (rk ag)); have b6 := ns bV; replace ag := kk ag hb; have aT := am (nl hg (rk af)); have b7 := ns aT; replace af := kk af hb; have aU := am (nl hg (rk ae)); have b8 := ns aU; replace ae := kk ae hb; clear hb hbox hg; have fE := nN b6; have fF := nN b7; have fG := nN b8; have cY := z2 ah; obtain ⟨dp, dr, du⟩ := Kd.S_slice bo.out; subst du; have cZ := z3 af))
go_loopg [41] cU (fun kq es w' => ∃ (a8 : Int) (aP : Int) (aa : List (List (S98))) (aF : Value), es = .int .i64 a8 ∧ Aside0 (impl_Patched.l0 kq a9 (a9.length : Int) a8 al ak a9 au aa = some (r1, r2, r3)) ∧ Aside0 (kq ≤ cU) ∧ Aside0 (Kd.S (Kd.slice 98 k98) 99 w' w.heap.size (fun _ => True) aF aa) ∧ Aside0 (w'.heap[br]? = some (.cells #[.int .i64 aE, (.slice aV aq.length aW)] 58 (0, 0))) ∧ Aside0 (w'.heap[bt]? = some (.cells #[.int .i64 al, .int .i64 ak, (.slice bA a9.length bb)] 53 (0, 0))) ∧ Aside0 (w'.heap[aQ]? = some (.cells #[.int .i64 aP, (.slice none 0 0)] 58 (0, 0))) ∧ Aside0 (w'.heap[bh]? = some (.cells #[.int .i64 au, aF] 58 (0, 0))) ∧ Aside0 (Below w.heap.size w w'))
case atStart => exact ⟨(0), (0), (cp), (.slice dp cp.length dr), sd, H', ⟨Nat.le_refl _⟩, ⟨tS1 bo ah⟩, ⟨rk ag⟩, ⟨rk af⟩, ⟨rk ae⟩, ⟨rk ah⟩, ⟨rb HB⟩⟩
case round => (
clear H'
try clear bY
try clear cW
try clear cX
try clear cY
try clear cZ
try clear cW
try clear cX
try clear cY
try clear cZ
obtain ⟨a8, aP, aa, aF, rfl, HA, dk, ac, ag, af, ae, ah, HB⟩ := hrel
cases gk with
| zero => exact absurd HA.out (by simp [impl_Patched.l0])
| succ k2 => (
have H := HA.out
clear HA
simp only [impl_Patched.l0] at H
refine em_ (p := a8 < (a9.length : Int)) (fun bB => ?dB) (fun bB => ?dA)
case' dB => (
rw [if_pos bB] at H
have db : decide (a8 < (a9.length : Int)) = true := decide_eq_true bB
clear bB
refine em_ (p := 0 ≤ a8) (fun bZ => ?dz) (fun bZ => ?dy)
case' dz => (
rw [if_pos bZ] at H
have eB : decide (0 ≤ a8) = true := decide_eq_true bZ
clear bZ
refine em_ (p := a8 < (a9.length : Int)) (fun ca => ?dx) (fun ca => ?dv)
case' dx => (
rw [if_pos ca] at H
have eC : decide (a8 < (a9.length : Int)) = true := decide_eq_true ca
clear ca
obtain ⟨dN, cu, H⟩ := bd H
(try dsimp only at H)
refine em_ (p := dN = true) (fun cb => ?ep) (fun cb => ?eo)
case' ep => (
subst cb
rw [if_pos rfl] at H
obtain ⟨dO, cL, H⟩ := bd H
(try dsimp only at H)
refine em_ (p := dO = true) (fun cd => ?el) (fun cd => ?ek)
case el => (
subst cd
rw [if_pos rfl] at H
obtain ⟨dP, di, H⟩ := bd H
(try dsimp only at H)
refine em_ (p := dP = true) (fun ce => ?dD) (fun ce => ?dC)
case dD => (
subst ce
rw [if_pos rfl] at H
refine em_ (p := 0 ≤ ((rd_T101 a9 a8).f0)) (fun cf => ?ej) (fun cf => ?ei)
case' ej => (
rw [if_pos cf] at H
have eD : decide (0 ≤ ((rd_T101 a9 a8).f0)) = true := decide_eq_true cf
clear cf
refine em_ (p := ((rd_T101 a9 a8).f0) < (aa.length : Int)) (fun ch => ?eh) (fun ch => ?eg)
case' eh => (
rw [if_pos ch] at H
have eE : decide (((rd_T101 a9 a8).f0) < (aa.length : Int)) = true := decide_eq_true ch
clear ch
refine em_ (p := 0 ≤ ((rd_T101 a9 a8).f1)) (fun bI => ?ef) (fun bI => ?ee)
case' ef => (
rw [if_pos bI] at H
have eF := eq_true bI
have eG : decide (0 ≤ ((rd_T101 a9 a8).f1)) = true := decide_eq_true bI
clear bI
refine em_ (p := ((rd_T101 a9 a8).f1) ≤ ((rd_L5 aa ((rd_T101 a9 a8).f0)).length : Int)) (fun bJ => ?ed) (fun bJ => ?eb)
case' ed => (
rw [if_pos bJ] at H
have eH := eq_true bJ
have eI : decide (((rd_T101 a9 a8).f1) ≤ ((rd_L5 aa ((rd_T101 a9 a8).f0)).length : Int)) = true := decide_eq_true bJ
clear bJ
obtain ⟨bE, bu⟩ : ∃ y_ : List (S98), y_ = ((rd_L5 aa ((rd_T101 a9 a8).f0)).drop (((rd_T101 a9 a8).f1) : Int).toNat) := ⟨_, rfl⟩
replace H : (if ((rd_T101 a9 a8).f1) < ((rd_L5 aa ((rd_T101 a9 a8).f0)).length : Int) then (impl_Patched.l0 k2 a9 (a9.length : Int) (wrap64 (a8 + 1)) al ak a9 au (aa.set (((rd_T101 a9 a8).f0) : Int).toNat (cpv (rd_L5 aa ((rd_T101 a9 a8).f0)) (((rd_T101 a9 a8).f1) : Int).toNat ((rd_T101 a9 a8).f2)))) else (none)) = some (r1, r2, r3) := by first | (rw [bu]; with_reducible exact H) | (rw [bu]; exact H) | exact H
have cy := am bu
clear bu
refine em_ (p := ((rd_T101 a9 a8).f1) < ((rd_L5 aa ((rd_T101 a9 a8).f0)).length : Int)) (fun bK => ?e9) (fun bK => ?e8)
case' e9 => (
rw [if_pos bK] at H
have eJ := eq_true bK
have eK : decide (((rd_T101 a9 a8).f1) < ((rd_L5 aa ((rd_T101 a9 a8).f0)).length : Int)) = true := decide_eq_true bK
clear bK
obtain ⟨cq, bv⟩ : ∃ y_ : List (S98), y_ = (cpv (rd_L5 aa ((rd_T101 a9 a8).f0)) (((rd_T101 a9 a8).f1) : Int).toNat ((rd_T101 a9 a8).f2)) := ⟨_, rfl⟩
replace H : (impl_Patched.l0 k2 a9 (a9.length : Int) (wrap64 (a8 + 1)) al ak a9 au (aa.set (((rd_T101 a9 a8).f0) : Int).toNat cq)) = some (r1, r2, r3) := by first | (rw [bv]; with_reducible exact H) | (rw [bv]; exact H) | exact H
have d9 := am bv
clear bv
obtain ⟨ct, bw⟩ : ∃ y_ : List (List (S98)), y_ = (aa.set (((rd_T101 a9 a8).f0) : Int).toNat cq) := ⟨_, rfl⟩
replace H : (impl_Patched.l0 k2 a9 (a9.length : Int) (wrap64 (a8 + 1)) al ak a9 au ct) = some (r1, r2, r3) := by first | (rw [bw]; with_reducible exact H) | (rw [bw]; exact H) | exact H
have da := am bw
clear bw
have H' := am H
clear H
have fu := trivial
)
case e8 => (
rw [if_neg bK] at H
exact absurd H (by simp)
)
)
case eb => (
rw [if_neg bJ] at H
exact absurd H (by simp)
)
)
case ee => (
rw [if_neg bI] at H
exact absurd H (by simp)
)
)
case eg => (
rw [if_neg ch] at H
exact absurd H (by simp)
)
)
case ei => (
rw [if_neg cf] at H
exact absurd H (by simp)
)
all_goals (
have aR : 0 ≤ (a8 : Int) := dt_
have aS : a8 < (a9.length : Int) := dt_
obtain ⟨bp, ao, ap, bC, aB, aC, aD, aA, az⟩ := at_T101 bP.out a8 aR aS
cases bC
replace aB := mv HB.out aB
replace aC := mv HB.out aC
replace aD := mv HB.out aD
have bi := am az
have bF := am aA
clear az aA
replace aR := eq_true aR
replace aS := eq_true aS
try go_wp2_with (first | ((with_reducible refine gate_dst (N := 8) rfl ?_); (try (refine gate_guard (by rfl) ?_; dsimp only)); refine bx 8 #[.int .i64 0, .int .i64 0, .slice none 0 0] 101 ?_; intro ai hg bn hbox hb; replace ac := am (Kd.S_below (rs ac) hb); have aj := am (hbox); have bf := am (gw hg (rb HB)); have cw := bf; replace HB := bs HB hb; have aG := am (nl hg (rk ag)); have aK := ns aG; replace ag := kk ag hb; have aH := am (nl hg (rk af)); have aL := ns aH; replace af := kk af hb; have aI := am (nl hg (rk ae)); have aM := ns aI; replace ae := kk ae hb; have aJ := am (nl hg (rk ah)); have aN := ns aJ; replace ah := kk ah hb; clear hb hbox hg; have fH := nN aK; have fI := nN aL; have fJ := nN aM; have fK := nN aN; have gg := z3 aj; have fL := nN b4; have fM := nN ax; have fN := nN aT; have gh := z3 af) | ((with_reducible refine cg 56 rfl ?_); refine gl_ (some 53) Try.func56 #[.int .i64 ((rd_T101 a9 a8).f0), .int .i64 0, .int .i64 (wrap64 (ak - 1))] ?_; (with_reducible refine (impl_in.calls ((rd_T101 a9 a8).f0) 0 (wrap64 (ak - 1)) true _ cu.out).mono ?_); rintro e w' ⟨rfl, ⟨nd, rfl⟩⟩; refine ⟨_, rfl, ?_⟩) | (go_at_call 56; (with_reducible refine (impl_in.calls (((rd_T101 a9 a8).f2).length : Int) 1 al true _ cL.out).mono ?_); rintro e w' ⟨rfl, ⟨nd, rfl⟩⟩) | (go_at_call 56; (with_reducible refine (impl_in.calls ((rd_T101 a9 a8).f1) 0 (wrap64 (al - (((rd_T101 a9 a8).f2).length : Int))) true _ di.out).mono ?_); rintro e w' ⟨rfl, ⟨nd, rfl⟩⟩))
have n0_ : Aside0 (Kd.S (Kd.slice 98 k98) 99 (((bn.setCell ⟨ai, 0, none⟩ (.int .i64 ((rd_T101 a9 a8).f0))).setCell ⟨ai, 1, none⟩ (.int .i64 ((rd_T101 a9 a8).f1))).setCell ⟨ai, 2, none⟩ (.slice ao ((rd_T101 a9 a8).f2).length ap)) w.heap.size (fun _ => True) aF aa) := ⟨tS1 ac aj⟩
have n1_ : Aside0 ((((bn.setCell ⟨ai, 0, none⟩ (.int .i64 ((rd_T101 a9 a8).f0))).setCell ⟨ai, 1, none⟩ (.int .i64 ((rd_T101 a9 a8).f1))).setCell ⟨ai, 2, none⟩ (.slice ao ((rd_T101 a9 a8).f2).length ap)).heap[br]? = some (.cells #[.int .i64 aE, .slice aV aq.length aW] 58 (0, 0))) := ⟨rk ag⟩
have n2_ : Aside0 ((((bn.setCell ⟨ai, 0, none⟩ (.int .i64 ((rd_T101 a9 a8).f0))).setCell ⟨ai, 1, none⟩ (.int .i64 ((rd_T101 a9 a8).f1))).setCell ⟨ai, 2, none⟩ (.slice ao ((rd_T101 a9 a8).f2).length ap)).heap[bt]? = some (.cells #[.int .i64 al, .int .i64 ak, .slice (some bp) a9.length bb] 53 (0, 0))) := ⟨rk af⟩
have n3_ : Aside0 ((((bn.setCell ⟨ai, 0, none⟩ (.int .i64 ((rd_T101 a9 a8).f0))).setCell ⟨ai, 1, none⟩ (.int .i64 ((rd_T101 a9 a8).f1))).setCell ⟨ai, 2, none⟩ (.slice ao ((rd_T101 a9 a8).f2).length ap)).heap[aQ]? = some (.cells #[.int .i64 aP, .slice none 0 0] 58 (0, 0))) := ⟨rk ae⟩
have n4_ : Aside0 ((((bn.setCell ⟨ai, 0, none⟩ (.int .i64 ((rd_T101 a9 a8).f0))).setCell ⟨ai, 1, none⟩ (.int .i64 ((rd_T101 a9 a8).f1))).setCell ⟨ai, 2, none⟩ (.slice ao ((rd_T101 a9 a8).f2).length ap)).heap[bh]? = some (.cells #[.int .i64 au, aF] 58 (0, 0))) := ⟨rk ah⟩
have n5_ : Aside0 ((((bn.setCell ⟨ai, 0, none⟩ (.int .i64 ((rd_T101 a9 a8).f0))).setCell ⟨ai, 1, none⟩ (.int .i64 ((rd_T101 a9 a8).f1))).setCell ⟨ai, 2, none⟩ (.slice ao ((rd_T101 a9 a8).f2).length ap)).heap[ai]? = some (.cells #[.int .i64 ((rd_T101 a9 a8).f0), .int .i64 ((rd_T101 a9 a8).f1), .slice ao ((rd_T101 a9 a8).f2).length ap] 101 (0, 0))) := ⟨rk aj⟩
have n6_ : Aside0 (Below w.heap.size w (((bn.setCell ⟨ai, 0, none⟩ (.int .i64 ((rd_T101 a9 a8).f0))).setCell ⟨ai, 1, none⟩ (.int .i64 ((rd_T101 a9 a8).f1))).setCell ⟨ai, 2, none⟩ (.slice ao ((rd_T101 a9 a8).f2).length ap))) := ⟨rb HB⟩
(try clear ac)
(try clear ag)
(try clear af)
(try clear ae)
(try clear ah)
(try clear aj)
(try clear HB)
generalize (((bn.setCell ⟨ai, 0, none⟩ (.int .i64 ((rd_T101 a9 a8).f0))).setCell ⟨ai, 1, none⟩ (.int .i64 ((rd_T101 a9 a8).f1))).setCell ⟨ai, 2, none⟩ (.slice ao ((rd_T101 a9 a8).f2).length ap)) = b9 at n0_ n1_ n2_ n3_ n4_ n5_ n6_ ⊢
have ac := n0_
have ag := n1_
have af := n2_
have ae := n3_
have ah := n4_
have aj := n5_
have HB := n6_
clear n0_ n1_ n2_ n3_ n4_ n5_ n6_
(try (rw [drewN_self b9]; generalize hq_ : World.drewN b9 _ = b9; have n0_ : Aside0 (Kd.S (Kd.slice 98 k98) 99 b9 w.heap.size (fun _ => True) aF aa) := ⟨by rw [← hq_]; exact (rs ac)⟩; have n1_ : Aside0 (b9.heap[br]? = some (.cells #[.int .i64 aE, .slice aV aq.length aW] 58 (0, 0))) := ⟨by rw [← hq_]; exact (rk ag)⟩; have n2_ : Aside0 (b9.heap[bt]? = some (.cells #[.int .i64 al, .int .i64 ak, .slice (some bp) a9.length bb] 53 (0, 0))) := ⟨by rw [← hq_]; exact (rk af)⟩; have n3_ : Aside0 (b9.heap[aQ]? = some (.cells #[.int .i64 aP, .slice none 0 0] 58 (0, 0))) := ⟨by rw [← hq_]; exact (rk ae)⟩; have n4_ : Aside0 (b9.heap[bh]? = some (.cells #[.int .i64 au, aF] 58 (0, 0))) := ⟨by rw [← hq_]; exact (rk ah)⟩; have n5_ : Aside0 (b9.heap[ai]? = some (.cells #[.int .i64 ((rd_T101 a9 a8).f0), .int .i64 ((rd_T101 a9 a8).f1), .slice ao ((rd_T101 a9 a8).f2).length ap] 101 (0, 0))) := ⟨by rw [← hq_]; exact (rk aj)⟩; have n6_ : Aside0 (Below w.heap.size w b9) := ⟨by rw [← hq_]; exact (rb HB)⟩; clear ac ag af ae ah aj HB hq_; have ac := n0_; have ag := n1_; have af := n2_; have ae := n3_; have ah := n4_; have aj := n5_; have HB := n6_; clear n0_ n1_ n2_ n3_ n4_ n5_ n6_))
replace ac := am (Kd.S_drew ac.out)
replace ag := am (blk_drew ag.out)
replace af := am (blk_drew af.out)
replace ae := am (blk_drew ae.out)
replace ah := am (blk_drew ah.out)
replace aj := am (blk_drew aj.out)
replace HB := am (below_drew1 HB.out)
obtain ⟨fl, cm, cO⟩ := Kd.S_slice ac.out
(first | subst cO | (injection cO with f1_ f2_ f3_; have f4_ := f1_.symm; have f5_ := f3_.symm; clear f1_ f2_ f3_; subst f4_; subst f5_))
have bT : 0 ≤ (((rd_T101 a9 a8).f0) : Int) := dt_
have bU : ((rd_T101 a9 a8).f0) < (aa.length : Int) := dt_
obtain ⟨bq, bc, aO, dt, ba, bM, bL⟩ := at_L5 (Kd.S_reads' ac.out).2.2 ((rd_T101 a9 a8).f0) bT bU
cases dt
obtain ⟨eL, cR, hMe488, ck⟩ := Kd.S_get ac.out [] ((rd_T101 a9 a8).f0) bT (by first | exact bU | exact dt_ | (have e_ := (Kd.S_reads' ac.out).1; omega))
obtain ⟨ve488_0, rfl, bj⟩ := hMe488
have aX := ck 0 _ rfl
rw [Nat.add_zero, show ((Kd.slice 98 k98)).sz = 1 from rfl, Nat.mul_one] at aX
replace aX := Option.some.inj (aX.symm.trans ba)
rw [aX] at bj
have av := am (show Kd.R k98 98 _ _ _ _ (rd_L5 aa ((rd_T101 a9 a8).f0)) from bj)
clear aX bj
have bH := am ba
clear ck cR
have bG := am bL
have cJ := am bM
clear bL bM
replace bT := eq_true bT
replace bU := eq_true bU
have cV : (((rd_T101 a9 a8).f1) : Int) ≤ (((rd_L5 aa ((rd_T101 a9 a8).f0)).length : Int) : Int) := dt_
obtain ⟨i080, cF, _, cI, _⟩ := info_parts info98
have bl : (rd_L5 aa ((rd_T101 a9 a8).f0)).length ≤ aO := cJ.out
have hC80 : Kd.C k98 _ bc (rd_L5 aa ((rd_T101 a9 a8).f0)).length (rd_L5 aa ((rd_T101 a9 a8).f0)) := (rc bG.out)
have dI : (0 : Int) ≤ (((rd_T101 a9 a8).f1) : Int) := dt_
have cS := cut_from (P := Try.prog) 99 98 .i64 Try.underlying99 cF 7 cI bc (rd_L5 aa ((rd_T101 a9 a8).f0)).length aO ((rd_T101 a9 a8).f1) dI cV
have bD := Kd.C_drop (m := (((rd_T101 a9 a8).f1) : Int).toNat) (c := aO) hC80 (by omega) bl
obtain ⟨dR, hA80⟩ : ∃ A1, A1 = (if aO = (((rd_T101 a9 a8).f1) : Int).toNat then bc else (bc : Option Addr).map (·.add ((((rd_T101 a9 a8).f1) : Int).toNat * 7))) := ⟨_, rfl⟩
obtain ⟨dS, co⟩ : ∃ c1, c1 = aO - (((rd_T101 a9 a8).f1) : Int).toNat := ⟨_, rfl⟩
have bS : bE.length = (rd_L5 aa ((rd_T101 a9 a8).f0)).length - (((rd_T101 a9 a8).f1) : Int).toNat := (by rw [cy.out, List.length_drop] <;> omega)
rw [show (rd_L5 aa ((rd_T101 a9 a8).f0)).drop (((rd_T101 a9 a8).f1) : Int).toNat = bE from cy.out.symm] at bD
replace bD : Kd.C k98 _ dR bE.length bE := (by rw [hA80]; exact bD)
rw [← bS, ← hA80, ← co] at cS
have d8 := am bD
have eA := am (show bE.length ≤ dS from by rw [bS, co]; exact Nat.sub_le_sub_right bl _)
clear bD hC80 bl cF cI co
have KY80 := am bS
have KA80 := am hA80
clear bS hA80
replace cV := eq_true cV
obtain ⟨cn, fp, cP, cQ, gl81, cl81, cN⟩ := Kd.R_form av.out (by have h_ : (((rd_T101 a9 a8).f1) : Int) < (((rd_L5 aa ((rd_T101 a9 a8).f0)).length : Int) : Int) := dt_; have h2_ : 0 ≤ (((rd_T101 a9 a8).f1) : Int) := dt_; omega)
(first | cases cP | (injection cP with ea_ en_ ec_; (first | subst ea_ | (injection ea_ with ea_; subst ea_)); subst ec_; clear en_))
have fm := am cQ
have dq := am cN
clear cQ gl81 cN
have cT : (((rd_T101 a9 a8).f0) : Int) < (aa.length : Int) := (by have h_ : (((rd_T101 a9 a8).f0) : Int) < ((aa.length : Int) : Int) := dt_; first | exact h_ | (have e_ := (Kd.S_reads' ac.out).1; omega) | simpa only [List.length_set, List.length_set] using h_)
obtain ⟨oki81, fo, df, hM81, cE, dg, cB⟩ := Kd.S_borrow ac.out [] (((rd_T101 a9 a8).f0) : Int) dt_ cT
obtain ⟨ve81_0, rfl, cj⟩ := hM81
have bR := cE 0 _ rfl
rw [Nat.add_zero, show ((Kd.slice 98 k98)).sz = 1 from rfl, Nat.mul_one] at bR
replace bR := Option.some.inj (bR.symm.trans bH.out)
subst bR
clear cE df
have bg := am (show Kd.R k98 98 _ _ _ _ (rd_L5 aa ((rd_T101 a9 a8).f0)) from cj)
have cl := am @cB
clear cj dg cB cT
refine start_ (n := 12) (S := fun w' => w'.cell? ⟨bh, 0, none⟩ = some (.int .i64 au) ∧ w'.cell? ⟨bh, 1, none⟩ = some (.slice (some bq) aa.length cm) ∧ w'.cell? ⟨ai, 0, none⟩ = some (.int .i64 ((rd_T101 a9 a8).f0)) ∧ w'.cell? ⟨ai, 1, none⟩ = some (.int .i64 ((rd_T101 a9 a8).f1)) ∧ w'.cell? ⟨ai, 2, none⟩ = some (.slice ao ((rd_T101 a9 a8).f2).length ap) ∧ w'.cell? (bq.add (((rd_T101 a9 a8).f0)).toNat) = some (.slice (some ⟨cn, 0, none⟩) (rd_L5 aa ((rd_T101 a9 a8).f0)).length aO)) (ds := [11]) (bm 12 0) (by kernel_rfl) rfl rfl ⟨(blk_cell ah.out 0).trans rfl, (blk_cell ah.out 1).trans rfl, (blk_cell aj.out 0).trans rfl, (blk_cell aj.out 1).trans rfl, (blk_cell aj.out 2).trans rfl, ba⟩ (fun hHeld => ?_); refine with_tabW impl_Patched.tab10 impl_Patched.bits10 (fun HT_ HW_ => ?_)
generalize b9.drew = gr at ac ag af ae ah aj HB dq bg cl av bG d8 bH ba hHeld ⊢
refine pu_ 0 73 (bm 12 1) HT_.out ?_
refine pu_ 2 75 (bm 12 5) HT_.out ?_
refine pu_ 6 79 (bm 12 69) HT_.out ?_
refine pu_ 9 82 (bm 12 581) HT_.out ?_
refine tk 1 74 (bm 12 583) HT_ HW_ hHeld ?_
refine tk 3 76 (bm 12 591) HT_ HW_ hHeld ?_
refine pu_ 4 77 (bm 12 607) HT_.out ?_
refine tk 5 78 (bm 12 639) HT_ HW_ hHeld ?_
refine tk 7 80 (bm 12 767) HT_ HW_ hHeld ?_
refine pu_ 8 81 (bm 12 1023) HT_.out ?_
refine tk 10 83 (bm 12 2047) HT_ HW_ hHeld ?_
refine last_ (i := 11) (N := some 84) (bm 12 4095) rfl rfl (one_of HT_.out (by kernel_rfl)) (by decide) (fun K hK => ?_)
refine cp_step (P := Try.prog) (w0 := w) w.heap.size (by rfl) (.tmp 81) (.tmp 83) 99 rfl Try.underlying99 (z := (.agg #[(.int .i64 0), (.int .i64 0), (.int .i64 0), (.bool false), (.bool false), (.bool false), (.int .i64 0)])) (bytes := 40) info98 (g := cn) (cap := aO) (xs := (rd_L5 aa ((rd_T101 a9 a8).f0))) (ys := ((rd_T101 a9 a8).f2)) (((rd_T101 a9 a8).f1) : Int) rfl rfl (by first | exact KA80.out | (rw [KA80.out]; rfl) | (rw [KA80.out]; simp)) KY80.out dt_ (by have h_ : (((rd_T101 a9 a8).f1) : Int) < (((rd_L5 aa ((rd_T101 a9 a8).f0)).length : Int) : Int) := dt_; omega) bg.out (Kd.C_below bi.out (rb HB)) (rb HB) ?_
intro vq81 dn ho_ hb hg
have hz_ : Kd.R k98 98 dn w.heap.size oki81 (.slice (some ⟨cn, 0, none⟩) (rd_L5 aa ((rd_T101 a9 a8).f0)).length aO) cq := (by rw [d9.out]; exact ho_)
have hp_ : Kd.S (Kd.slice 98 k98) 99 dn w.heap.size (fun _ => True) (.slice (some bq) aa.length cm) ct := (by rw [da.out]; exact cl.out hg (fun k_ e_ => by injection e_ with e_; subst e_; exact bg.out.1 _ rfl) (Kd.M_row hz_))
clear ho_ hz_ cl bg
replace ac := am (hp_)
replace ag := am (blk_grown (rk ag) hg (Kd.R_ne av.out ag.out (by decide)))
replace af := am (blk_grown (rk af) hg (Kd.R_ne av.out af.out (by decide)))
replace ae := am (blk_grown (rk ae) hg (Kd.R_ne av.out ae.out (by decide)))
replace ah := am (blk_grown (rk ah) hg (Kd.R_ne av.out ah.out (by decide)))
replace aj := am (blk_grown (rk aj) hg (Kd.R_ne av.out aj.out (by decide)))
replace HB := am (hb)
clear av
clear hg hb hp_
refine hK.out _ _ ?_
clear hK K
refine norm_ (a' := _) (show Act.put _ (some 84) _ = _ from na) ?_
refine done_ (done_of HT_.out (by kernel_rfl)) ?_
try go_wp2
go_roundg k2
case measure => have := dj.out; have := dk.out; omega
case rel => exact ⟨(wrap64 (a8 + 1)), (aP), (ct), (.slice (some bq) aa.length cm), sd, H', ⟨by have := dj.out; have := dk.out; omega⟩, ⟨rs ac⟩, ⟨rk ag⟩, ⟨rk af⟩, ⟨rk ae⟩, ⟨rk ah⟩, ⟨rb HB⟩⟩
)
)
case' dC => (
replace ce := Bool.eq_false_iff.mpr ce
subst ce
rw [if_neg (show ¬ (false = true) by decide)] at H
simp only [Option.some.injEq, Prod.mk.injEq] at H
obtain ⟨rfl, rfl, rfl⟩ := H
have eO := trivial
)
all_goals (
have aR : 0 ≤ (a8 : Int) := dt_
have aS : a8 < (a9.length : Int) := dt_
obtain ⟨bp, ao, ap, bC, aB, aC, aD, aA, az⟩ := at_T101 bP.out a8 aR aS
cases bC
replace aB := mv HB.out aB
replace aC := mv HB.out aC
replace aD := mv HB.out aD
have bi := am az
have bF := am aA
clear az aA
replace aR := eq_true aR
replace aS := eq_true aS
go_wp2_with (first | ((with_reducible refine gate_dst (N := 8) rfl ?_); (try (refine gate_guard (by rfl) ?_; dsimp only)); refine bx 8 #[.int .i64 0, .int .i64 0, .slice none 0 0] 101 ?_; intro ai hg gu hbox hb; replace ac := am (Kd.S_below (rs ac) hb); have aj := am (hbox); have bf := am (gw hg (rb HB)); have cw := bf; replace HB := bs HB hb; have aG := am (nl hg (rk ag)); have aK := ns aG; replace ag := kk ag hb; have aH := am (nl hg (rk af)); have aL := ns aH; replace af := kk af hb; have aI := am (nl hg (rk ae)); have aM := ns aI; replace ae := kk ae hb; have aJ := am (nl hg (rk ah)); have aN := ns aJ; replace ah := kk ah hb; clear hb hbox hg; have fO := nN aK; have fP := nN aL; have fQ := nN aM; have fR := nN aN; have gi := z3 aj; have fS := nN b4; have fT := nN ax; have fU := nN aT; have gj := z3 af) | ((with_reducible refine cg 56 rfl ?_); refine gl_ (some 53) Try.func56 #[.int .i64 ((rd_T101 a9 a8).f0), .int .i64 0, .int .i64 (wrap64 (ak - 1))] ?_; (with_reducible refine (impl_in.calls ((rd_T101 a9 a8).f0) 0 (wrap64 (ak - 1)) true _ cu.out).mono ?_); rintro e w' ⟨rfl, ⟨nd, rfl⟩⟩; refine ⟨_, rfl, ?_⟩) | (go_at_call 56; (with_reducible refine (impl_in.calls (((rd_T101 a9 a8).f2).length : Int) 1 al true _ cL.out).mono ?_); rintro e w' ⟨rfl, ⟨nd, rfl⟩⟩) | (go_at_call 56; (with_reducible refine (impl_in.calls ((rd_T101 a9 a8).f1) 0 (wrap64 (al - (((rd_T101 a9 a8).f2).length : Int))) false _ di.out).mono ?_); rintro e w' ⟨rfl, ⟨nd, rfl⟩⟩; have fV := nN ay; have fW := nN aU; have gl := z2 ae))
refine bodyPost_ret (results_ct rfl _ _ aQ 58 #[.int .i64 0, .slice none 0 0] (0, 0) _ rfl (rk ae) Try.underlying58 rfl (by kernel_rfl)) rfl ?_
exact ⟨_, ew, xn, rb HB⟩
)
)
case' ek => (
replace cd := Bool.eq_false_iff.mpr cd
subst cd
rw [if_neg (show ¬ (false = true) by decide)] at H
simp only [Option.some.injEq, Prod.mk.injEq] at H
obtain ⟨rfl, rfl, rfl⟩ := H
have fv := trivial
)
)
case' eo => (
replace cb := Bool.eq_false_iff.mpr cb
subst cb
rw [if_neg (show ¬ (false = true) by decide)] at H
simp only [Option.some.injEq, Prod.mk.injEq] at H
obtain ⟨rfl, rfl, rfl⟩ := H
have eN := trivial
)
)
case dv => (
rw [if_neg ca] at H
exact absurd H (by simp)
)
)
case dy => (
rw [if_neg bZ] at H
exact absurd H (by simp)
)
)
case dA => (
rw [if_neg bB] at H
have db : decide (a8 < (a9.length : Int)) = false := decide_eq_false bB
clear bB
obtain ⟨dM, cK, H⟩ := bd H
(try dsimp only at H)
by_cases bQ : dM = true
·(
subst bQ
have H1 : (some (au, aa, true)) = some (r1, r2, r3) := by rw [if_pos rfl] at H; exact H
clear H
have H := H1
clear H1
simp only [Option.some.injEq, Prod.mk.injEq] at H
obtain ⟨rfl, rfl, rfl⟩ := H
have eX := nN b6
have eY := nN b7
have eZ := nN b8
have fg := z2 ah
obtain ⟨cv, cz, dd⟩ := Kd.S_slice ac.out
subst dd
go_wp2_with (first | ((with_reducible refine cg 48 rfl ?_); refine gl_ (some 87) Try.func48 #[.agg #[.int .i64 au, .slice cv aa.length cz]] ?_; (with_reducible refine (impl_GridOk.calls k2 au _ _ aa true _ ?side1 ?side2 cK.out).mono ?_); (case side1 => exact rcs ac); (case side2 => exact (Kd.S_reads' ac.out).2.1); rintro e g9 ⟨rfl, hb⟩; refine ⟨_, rfl, ?_⟩; replace ac := am (Kd.S_below (rs ac) hb); replace ag := kk ag hb; replace af := kk af hb; replace ae := kk ae hb; replace ah := kk ah hb; replace HB := bs HB hb; (try clear hb); (try clear cA); (try clear hk); (try clear hi); have fh := z2 ah; have f5 := nN ay; have f6 := nN b5; have fi := z2 ae))
refine bodyPost_ret (results_ct rfl _ _ aQ 58 #[.int .i64 au, .slice cv aa.length cz] (0, 0) _ rfl (rk ae) Try.underlying58 rfl (by kernel_rfl)) rfl ?_
exact ⟨_, ew, tS1 ac ae, rb HB⟩
)
·(
replace bQ := Bool.eq_false_iff.mpr bQ
subst bQ
rw [if_neg (show ¬ (false = true) by decide)] at H
simp only [Option.some.injEq, Prod.mk.injEq] at H
obtain ⟨rfl, rfl, rfl⟩ := H
have f7 := nN b6
have f8 := nN b7
have f9 := nN b8
have fj := z2 ah
obtain ⟨d3, dc, de⟩ := Kd.S_slice ac.out
subst de
go_wp2_with (first | ((with_reducible refine cg 48 rfl ?_); refine gl_ (some 87) Try.func48 #[.agg #[.int .i64 au, .slice d3 aa.length dc]] ?_; (with_reducible refine (impl_GridOk.calls k2 au _ _ aa false _ ?side1 ?side2 cK.out).mono ?_); (case side1 => exact rcs ac); (case side2 => exact (Kd.S_reads' ac.out).2.1); rintro e ga ⟨rfl, hb⟩; refine ⟨_, rfl, ?_⟩; replace ac := am (Kd.S_below (rs ac) hb); replace ag := kk ag hb; replace af := kk af hb; replace ae := kk ae hb; replace ah := kk ah hb; replace HB := bs HB hb; (try clear hb); (try clear cA); (try clear hk); (try clear hi); have fa := nN ay; have fb := nN b5; have fk := z2 ae))
refine bodyPost_ret (results_ct rfl _ _ aQ 58 #[.int .i64 0, .slice none 0 0] (0, 0) _ rfl (rk ae) Try.underlying58 rfl (by kernel_rfl)) rfl ?_
exact ⟨_, ew, xn, rb HB⟩
)
)
all_goals (
have aR : 0 ≤ (a8 : Int) := dt_
have aS : a8 < (a9.length : Int) := dt_
obtain ⟨bp, ao, ap, bC, aB, aC, aD, aA, az⟩ := at_T101 bP.out a8 aR aS
cases bC
replace aB := mv HB.out aB
replace aC := mv HB.out aC
replace aD := mv HB.out aD
have bi := am az
have bF := am aA
clear az aA
replace aR := eq_true aR
replace aS := eq_true aS
go_wp2_with (first | ((with_reducible refine gate_dst (N := 8) rfl ?_); (try (refine gate_guard (by rfl) ?_; dsimp only)); refine bx 8 #[.int .i64 0, .int .i64 0, .slice none 0 0] 101 ?_; intro ai hg gv hbox hb; replace ac := am (Kd.S_below (rs ac) hb); have aj := am (hbox); have bf := am (gw hg (rb HB)); have cw := bf; replace HB := bs HB hb; have aG := am (nl hg (rk ag)); have aK := ns aG; replace ag := kk ag hb; have aH := am (nl hg (rk af)); have aL := ns aH; replace af := kk af hb; have aI := am (nl hg (rk ae)); have aM := ns aI; replace ae := kk ae hb; have aJ := am (nl hg (rk ah)); have aN := ns aJ; replace ah := kk ah hb; clear hb hbox hg; have fX := nN aK; have fY := nN aL; have fZ := nN aM; have eP := nN aN; have fc := z3 aj; have eQ := nN b4; have eR := nN ax; have eS := nN aT; have fd := z3 af) | ((with_reducible refine cg 56 rfl ?_); refine gl_ (some 53) Try.func56 #[.int .i64 ((rd_T101 a9 a8).f0), .int .i64 0, .int .i64 (wrap64 (ak - 1))] ?_; (with_reducible refine (impl_in.calls ((rd_T101 a9 a8).f0) 0 (wrap64 (ak - 1)) false _ cu.out).mono ?_); rintro e w' ⟨rfl, ⟨nd, rfl⟩⟩; refine ⟨_, rfl, ?_⟩; have eV := nN ay; have eW := nN aU; have ff := z2 ae) | (go_at_call 56; (with_reducible refine (impl_in.calls (((rd_T101 a9 a8).f2).length : Int) 1 al false _ cL.out).mono ?_); rintro e w' ⟨rfl, ⟨nd, rfl⟩⟩; have eT := nN ay; have eU := nN aU; have fe := z2 ae) | ((with_reducible refine cg 56 rfl ?_); refine gl_ (some 53) Try.func56 #[.int .i64 ((rd_T101 a9 a8).f0), .int .i64 0, .int .i64 (wrap64 (ak - 1))] ?_; (with_reducible refine (impl_in.calls ((rd_T101 a9 a8).f0) 0 (wrap64 (ak - 1)) true _ cu.out).mono ?_); rintro e w' ⟨rfl, ⟨nd, rfl⟩⟩; refine ⟨_, rfl, ?_⟩))
refine bodyPost_ret (results_ct rfl _ _ aQ 58 #[.int .i64 0, .slice none 0 0] (0, 0) _ rfl (rk ae) Try.underlying58 rfl (by kernel_rfl)) rfl ?_
exact ⟨_, ew, xn, rb HB⟩
)
)
)
)
)
)
)

end Go.Proofs.Ytalopdcephohgaa.RD
