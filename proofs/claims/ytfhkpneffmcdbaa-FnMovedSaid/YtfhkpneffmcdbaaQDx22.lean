/- Contracts of Go functions that laws of this seat reach: each Lean function answers as its Go function does. No condition. Written by wip/tools/inj.py, over the kit's print. -/
import Derived.Lib.AppendZerosOnto
import Derived.Laws.NewBlocks
import Derived.Lib.Overlaps
import Derived.Laws.Externs
import Derived.Laws.IdiomCopy
import Derived.Deep.RegionLaw
import Derived.Lib.SliceRun
import Derived.Test.YtfhkpneffmcdbaaQDx0
import Derived.Test.YtfhkpneffmcdbaaQDx11
import Derived.Test.YtfhkpneffmcdbaaQDx12
import Derived.Test.YtfhkpneffmcdbaaQDx13
import Derived.Test.YtfhkpneffmcdbaaQDx14
namespace Go.Proofs.Ytfhkpneffmcdbaa.QD
open Go.RowKit Go.Proofs.YtfhkpneffmcdbaaW.PrintWords Go.Proofs.YtfhkpneffmcdbaaW.PrintLast Go.Proofs.YtfhkpneffmcdbaaW.PrintMore
attribute [local go_sem] max2_int min2_int max_two min_two max_three min_three max_four min_four   -- for this text's walks alone
set_option linter.unusedVariables false
set_option linter.unusedSimpArgs false

/-! ### impl_Cell_69: function 69 -/
section
open Go.Lib
theorem run_copy_sz {P : Program} (w : World) (dT sT ty elem : TypeId) (b o dLen dCap : Nat) (a : Addr) (sLen sCap sz m : Nat) (cs : List Value)
  (hu : P.underlying dT = some (.slice elem)) (hs : (P.info? elem).map (·.size) = some sz) (hm : m = Nat.min sLen dLen) (hn : cs.length = m * sz)
  (hsrc : ∀ j v, cs[j]? = some v → w.cell? (a.add j) = some v) (hc : ∀ j, j < cs.length → (w.cell? ⟨b, o + j, none⟩).isSome = true) (hf : ∀ j, j < cs.length → w.frozen? ⟨b, o + j, none⟩ = false) (h1 : ∀ v ∈ cs, v.oneCell' = true) :
  (Builtin.copy_ #[dT, sT] ty #[.slice (some ⟨b, o, none⟩) dLen dCap, .slice (some a) sLen sCap]).run P w = .ok (goInt m) (w.setCells b o cs) := by
 have hl := run_loadCells_list (P := P) w a cs hsrc
 have hst := run_storeCells_cells (P := P) b o cs 0 w (by simpa using hc) (by simpa using hf) h1
 cases hq : P.info? elem with
 | none => simp [hq] at hs
 | some i =>
  have hi : i.size = sz := by simpa [hq] using hs
  simp only [Nat.add_zero] at hst
  simp [Builtin.copy_, run_underlying hu, Builtin.lenOf, Builtin.firstCells, sizeOf, typeInfo, hq, hi, ← hm, ← hn, hl, hst]
theorem wpList_copy_at {P : Program} (w : World) {ops : Array Oper} {rest : List Oper} {o : Oper} {a : Act} {Q : Exit → Act → World → Prop} (hgd : o.guard = none) (d s : Operand) (t t' : TypeId)
  (ho : o.op = .call { callee := .builtin .copy, args := #[d, s], argTypes := #[t, t'] }) (v u : Value) (hd : a.eval d = v) (hs : a.eval s = u) {v' : Value} {w' : World}
  (hr : (Builtin.copy_ #[t, t'] o.type #[v, u]).run P w = .ok v' w') (h : wpList P ops Q rest (a.put o.dst v') w') : wpList P ops Q (o :: rest) a w := by
 refine wpList_plain hgd fun K hK => ?_
 unfold Oper.wp execOp
 simp only [ho, resolve, invoke, builtin, Sem.run_bind, Sem.run_pure, Result.andThen_ok, List.map_toArray, List.map_cons, List.map_nil, hd, hs, hr]
 exact hK _ _ h
theorem step_copy_at {P : Program} {ops : Array Oper} {o : Oper} {a : Act} {w : World} {K : Act → World → Prop} {Q : Exit → Act → World → Prop} {E : Prop}
  (hg : o.guard = none) (d x : Operand) (dT sT : TypeId) (hop : o.op = Op.call { callee := Callee.builtin Builtin.copy, args := #[d, x], argTypes := #[dT, sT] })
  (v u : Value) (hd : a.eval d = v) (hx : a.eval x = u) {v' : Value} {w' : World} (hr : (Builtin.copy_ #[dT, sT] o.type #[v, u]).run P w = .ok v' w') (hK : K (a.put o.dst v') w') :
  if Region.wanted o (yielded ops a.tmps) = true then Oper.wp P o a w K Q else E := by
 have hw : Region.wanted o (yielded ops a.tmps) = true := by simp [Region.wanted, hg]
 rw [if_pos hw]
 unfold Oper.wp
 simp [execOp, hop, resolve, invoke, builtin, hd, hx, hr, Result.andThen]
 exact hK
theorem isSome_setCells_ (b : Nat) (vs : List Value) (o : Nat) (w : World) (h : ∀ j, j < vs.length → (w.cell? ⟨b, o + j, none⟩).isSome = true) (k : Nat) (hk : (w.cell? ⟨b, k, none⟩).isSome = true) : ((w.setCells b o vs).cell? ⟨b, k, none⟩).isSome = true := by
 by_cases hin : o ≤ k ∧ k < o + vs.length
 ·have := World.cell?_setCells_in b vs o w h (k - o) (by omega)
  rw [show o + (k - o) = k by omega] at this
  rw [this]; rfl
 ·rw [World.cell?_setCells_out b vs o w ⟨b, k, none⟩ (fun _ _ => by show k < o ∨ o + vs.length ≤ k; omega)]
  exact hk
/-- A row of one's own, told longer within its capacity. -/
theorem own_longer {w : World} {base g n cap size N : Nat} {e : TypeId} {xs : List Value} (h : w.ownsRow base e size (.slice (some ⟨g, 0, none⟩) n cap) n xs) (h1 : n ≤ N) (h2 : N ≤ cap) :
  ∃ ys : List Value, w.ownsRow base e size (.slice (some ⟨g, 0, none⟩) N cap) N ys ∧ ys.take (n * size) = xs := by
 rcases h.2 with ⟨h', _⟩ | ⟨g', cap', cur, h', hb, hg, hnc, hcm, hcs, htake⟩
 ·simp at h'
 ·simp only [Value.slice.injEq, Option.some.injEq, Addr.mk.injEq, and_true, true_and] at h'
  obtain ⟨rfl, rfl⟩ := h'
  have hN : N * size ≤ cap * size := Nat.mul_le_mul_right _ h2
  have hn : n * size ≤ N * size := Nat.mul_le_mul_right _ h1
  refine ⟨cur.toList.take (N * size), ⟨by rw [List.length_take, Array.length_toList]; omega, .inr ⟨g, cap, cur, rfl, hb, hg, h2, hcm, hcs, rfl⟩⟩, ?_⟩
  rw [List.take_take, Nat.min_eq_left hn, htake]
theorem own_shape {base g n cap size : Nat} {e : TypeId} {w : World} {xs : List Value} (h : w.ownsRow base e size (.slice (some ⟨g, 0, none⟩) n cap) n xs) : w.shape? g = some (e, cap * size) ∧ n ≤ cap ∧ cap ≤ maxLen ∧ (∀ t, w.frozen? ⟨g, t, none⟩ = false) ∧ (∀ t, t < cap * size → (w.cell? ⟨g, t, none⟩).isSome = true) ∧ base ≤ g ∧ g < w.heap.size := by
 rcases h.2 with ⟨h', _⟩ | ⟨g', cap', cur, h', hb, hg, hnc, hcm, hcs, htake⟩
 ·simp at h'
 ·simp only [Value.slice.injEq, Option.some.injEq, Addr.mk.injEq, and_true, true_and] at h'
  obtain ⟨rfl, rfl⟩ := h'
  refine ⟨by simp [World.shape?, hg, hcs], hnc, hcm, fun t => frozen_of_row w g t cur e hg, fun t ht => ?_, hb, (Array.getElem?_eq_some_iff.1 hg).1⟩
  rw [cell_of_row w g t cur e (0, 0) hg, Array.getElem?_eq_getElem (by omega)]
  rfl
set_option maxHeartbeats 4000000 in
set_option maxRecDepth 100000 in
theorem ins_shift {base g n cap vb m vc : Nat} {inner vs : List Value} (w : World) (i : Nat) (ho : w.ownsRow base 40 7 (.slice (some ⟨g, 0, none⟩) n cap) n inner) (hv : w.ownsRow base 40 7 (.slice (some ⟨vb, 0, none⟩) m vc) m vs)
  (h1c : ∀ u ∈ inner, u.oneCell' = true) (h1v : ∀ u ∈ vs, u.oneCell' = true) (hne : vb ≠ g) (hi : i < n) (hm : 0 < m) (hroom : n + m ≤ cap) :
  Calls Try.prog 69 #[.slice (some ⟨g, 0, none⟩) n cap, .int .i64 i, .slice (some ⟨vb, 0, none⟩) m vc] w fun e w' => e = .returned (.slice (some ⟨g, 0, none⟩) (n + m) cap) ∧
   w' = (w.drew.setCells g ((i + m) * 7) (inner.drop (i * 7))).setCells g (i * 7) vs := by
 have hlen : inner.length = n * 7 := ho.1
 have hvl : vs.length = m * 7 := hv.1
 obtain ⟨hsb, hnc, hcm, hfz, hsp, _, _⟩ := own_shape ho
 obtain ⟨hsa, hmc, hvm, hfv, _, _, _⟩ := own_shape hv
 have hcs := ho.cells (g := g) rfl
 have hvs := hv.cells (g := vb) rfl
 have hut := Try.underlying26
 have hue := Try.underlying40
 unfold maxLen at hcm hvm
 have mixed : Try.prog.follows Departure.mixedOrders = true := by kernel_rfl
 obtain ⟨i0, hi0, hz0, hzs, hzb⟩ := info_parts info40
 have hsz : (Try.prog.info? 40).map (·.size) = some 7 := by rw [hi0]; simp [hzs]
 have hz1 : ¬ ((m : Int) = 0) := by omega
 have hz2 : ¬ ((i : Int) = (n : Int)) := by omega
 have hov : ∀ lb cb, (callFunc 83 #[.slice (some ⟨vb, 0, none⟩) m vc, .slice (some ⟨g, (i + m) * 7, none⟩) lb cb]).run Try.prog w = .ok (.value (.bool false)) w := fun lb cb => by
  rw [run_callFunc_extern (P := Try.prog) (f := 83) (fn := Try.f83) Try.func83 (by kernel_rfl) (by kernel_rfl) (by kernel_rfl) (e := Extern.SlicesOverlaps.overlaps #[26, 26] #[4]) (by kernel_rfl),
   Lib.run_overlaps_apart w 26 4 40 hut 7 (fun w => by simp [sizeOf, typeInfo, hi0, hzs]) ⟨vb, 0, none⟩ ⟨g, (i + m) * 7, none⟩ m vc lb cb hne 40 40 (vc * 7) (cap * 7) hsa hsb (by omega) (hfv 0) (hfv (vc * 7))]
  rfl
 have hdl : (inner.drop (i * 7)).length = (n - i) * 7 := by rw [List.length_drop, hlen]; omega
 have hw1 : IntKind.i64.wrap ((i : Int) + (m : Int)) = (i : Int) + (m : Int) := by rw [IntKind.wrap_i64]; omega
 have hb1 : (0 : Int) ≤ (i : Int) + (m : Int) := by omega
 have hin : i ≤ n := by omega
 have htn : ((i : Int) + (m : Int)).toNat = i + m := by omega
 have hb2 : ¬ (cap = i + m) := by omega
 have hb3 : (i : Int) ≤ (n : Int) + (m : Int) := by omega
 have hb4 : ¬ (cap = i) := by omega
 have hcp1 : ∀ ty dc sc, (Builtin.copy_ #[26, 26] ty #[.slice (some ⟨g, (i + m) * 7, none⟩) (n + m - (i + m)) dc, .slice (some ⟨g, i * 7, none⟩) (n + m - i) sc]).run Try.prog w.drew = .ok (goInt ((n - i : Nat) : Int)) (w.drew.setCells g ((i + m) * 7) (inner.drop (i * 7))) := fun ty dc sc =>
  run_copy_sz w.drew _ _ ty 40 g ((i + m) * 7) (n + m - (i + m)) dc ⟨g, i * 7, none⟩ (n + m - i) sc 7 (n - i) (inner.drop (i * 7)) hut hsz (by simp only [Nat.min_def]; split <;> omega) hdl
   (fun j v hj => by rw [Addr.add_lit]; have := hcs (i * 7 + j) v (by rwa [List.getElem?_drop] at hj); rw [Addr.add_lit, Nat.zero_add] at this; exact this)
   (fun j hj => hsp _ (by omega)) (fun j hj => hfz _) (fun v hv => h1c v (List.mem_of_mem_drop hv))
 obtain ⟨W1, hW1⟩ : ∃ W1, W1 = w.drew.setCells g ((i + m) * 7) (inner.drop (i * 7)) := ⟨_, rfl⟩
 have hsp1 : ∀ k, k < (n + m) * 7 → (W1.cell? ⟨g, k, none⟩).isSome = true := fun k hk => by
  rw [hW1]
  exact isSome_setCells_ g (inner.drop (i * 7)) ((i + m) * 7) w.drew (fun j hj => hsp ((i + m) * 7 + j) (by omega)) k (hsp k (by omega))
 have hcp2 : ∀ (W : World), (∀ x, W.cell? x = W1.cell? x) → (∀ x, W.frozen? x = W1.frozen? x) → ∀ ty dc, (Builtin.copy_ #[26, 26] ty #[.slice (some ⟨g, i * 7, none⟩) (n + m - i) dc, .slice (some ⟨vb, 0, none⟩) m vc]).run Try.prog W = .ok (goInt m) (W.setCells g (i * 7) vs) := fun W hWc hWf ty dc =>
  run_copy_sz W _ _ ty 40 g (i * 7) (n + m - i) dc ⟨vb, 0, none⟩ m vc 7 m vs hut hsz (by simp only [Nat.min_def]; split <;> omega) hvl
   (fun j v hj => by
    rw [hWc, hW1, World.cell?_setCells_out g _ _ _ _ (fun h _ => by rw [Addr.add_lit] at h; exact absurd h hne)]
    exact hvs j v hj)
   (fun j hj => by rw [hWc]; exact hsp1 _ (by omega)) (fun j hj => by rw [hWf, hW1, World.frozen?_setCells]; exact hfz _) h1v
 rw [← hW1] at hcp1
 have HX := am hcp1
 have HY := am hcp2
 have HW := am hW1
 clear hcs hvs hsp hfz hfv hsp1 ho hv hcp1 hcp2 hW1 hsa hsb h1c h1v hlen hvl hdl
 go_enter Try.func69, Try.ntmps69
 go_wp2_with (simp only [hov])
 go_region_law_o (refine step_copy_at rfl _ _ 26 26 rfl (.slice (some ⟨g, (i + m) * 7, none⟩) (n + m - (i + m)) (cap - (i + m))) (.slice (some ⟨g, i * 7, none⟩) (n + m - i) (cap - i)) (by simp [Act.eval, Act.put]) (by simp [Act.eval, Act.put]) (HX.out 3 (cap - (i + m)) (cap - i)) ?_)
 have hY := HY.out W1 (fun _ => rfl) (fun _ => rfl)
 go_wp2_with (simp only [hY])
 go_ret
 first | exact ⟨rfl, rfl⟩ | exact ⟨rfl, by rw [HW.out]⟩
set_option maxHeartbeats 4000000 in
set_option maxRecDepth 100000 in
theorem ins_grow {base g n cap vb m vc : Nat} {inner vs : List Value} (w : World) (i : Nat) (ho : w.ownsRow base 40 7 (.slice (some ⟨g, 0, none⟩) n cap) n inner) (hv : w.ownsRow base 40 7 (.slice (some ⟨vb, 0, none⟩) m vc) m vs)
  (h1c : ∀ u ∈ inner, u.oneCell' = true) (h1v : ∀ u ∈ vs, u.oneCell' = true) (hi : i < n) (hm : 0 < m) (hroom : cap < n + m) (hbig : (n + m) * 40 ≤ 140737488355328) :
  Calls Try.prog 69 #[.slice (some ⟨g, 0, none⟩) n cap, .int .i64 i, .slice (some ⟨vb, 0, none⟩) m vc] w fun e w' => e = .returned (.slice (some ⟨w.heap.size, 0, none⟩) (n + m) (grownCap w (n + m) cap 40)) ∧
   w' = (((w.alloc (.cells ((inner.take (i * 7)).toArray ++ Builtin.zeroCells ((.agg #[(.int .i64 0), (.int .i64 0), (.int .i64 0), (.bool false), (.bool false), (.bool false), (.int .i64 0)]) : Value).cells (n + m - i) ++ Builtin.zeroCells ((.agg #[(.int .i64 0), (.int .i64 0), (.int .i64 0), (.bool false), (.bool false), (.bool false), (.int .i64 0)]) : Value).cells (grownCap w (n + m) cap 40 - (n + m))) 40)).drew.setCells w.heap.size (i * 7) vs).drew).setCells w.heap.size ((i + m) * 7) (inner.drop (i * 7)) := by
 have hlen : inner.length = n * 7 := ho.1
 have hvl : vs.length = m * 7 := hv.1
 obtain ⟨hsb, hnc, hcm, hfz, hsp, _, hbw⟩ := own_shape ho
 obtain ⟨hsa, hmc, hvm, hfv, _, _, hvw⟩ := own_shape hv
 have hcs := ho.cells (g := g) rfl
 have hvs := hv.cells (g := vb) rfl
 have hut := Try.underlying26
 have hue := Try.underlying40
 have hui := Try.underlying3
 unfold maxLen at hcm hvm
 have mixed : Try.prog.follows Departure.mixedOrders = true := by kernel_rfl
 obtain ⟨i0, hi0, hz0, hzs, hzb⟩ := info_parts info40
 have hsz : (Try.prog.info? 40).map (·.size) = some 7 := by rw [hi0]; simp [hzs]
 have hz1 : ¬ ((m : Int) = 0) := by omega
 have hz2 : ¬ ((i : Int) = (n : Int)) := by omega
 have hz3 : (cap : Int) < (n : Int) + (m : Int) := by omega
 have hkk : (n : Int) + (m : Int) - (i : Int) = ((n + m - i : Nat) : Int) := by omega
 have hik : i + (n + m - i) = n + m := by omega
 have hold : (Builtin.firstCells i0.size i (.slice (some ⟨g, 0, none⟩) i cap)).run Try.prog w.drew = .ok (inner.take (i * 7)).toArray w.drew := by
  rw [hzs]
  exact run_firstCells_some w.drew 7 i ⟨g, 0, none⟩ i cap (inner.take (i * 7)) (by rw [List.length_take]; omega) (fun j v hj => by
   rw [List.getElem?_take] at hj
   split at hj
   ·exact hcs j v hj
   ·cases hj)
 have hrz : ∀ ty, (Builtin.append_ #[26, 3] ty #[.slice (some ⟨g, 0, none⟩) i cap, .int .i64 ((n : Int) + (m : Int) - (i : Int))]).run Try.prog w =
   .ok (.slice (some ⟨w.heap.size, 0, none⟩) (n + m) (grownCap w (n + m) cap 40)) (w.drew.alloc (.cells ((inner.take (i * 7)).toArray ++ Builtin.zeroCells ((.agg #[(.int .i64 0), (.int .i64 0), (.int .i64 0), (.bool false), (.bool false), (.bool false), (.int .i64 0)]) : Value).cells (n + m - i) ++ Builtin.zeroCells ((.agg #[(.int .i64 0), (.int .i64 0), (.int .i64 0), (.bool false), (.bool false), (.bool false), (.int .i64 0)]) : Value).cells (grownCap w (n + m) cap 40 - (n + m))) 40)) := fun ty => by
  have h := Lib.run_append_grow_zeros w 26 3 ty 40 i0 _ .i64 .i64 hut hui hi0 hz0 (some ⟨g, 0, none⟩) i cap (inner.take (i * 7)) hold (n + m - i) (by omega) (by omega) (by omega) (by omega) (by rw [hzb]; omega) (by rw [hzb, hik]; exact growslice_fits hroom hbig)
  rw [hik] at h
  rw [hkk]
  exact h
 obtain ⟨G, hG⟩ : ∃ G, G = grownCap w (n + m) cap 40 := ⟨_, rfl⟩
 obtain ⟨ROW, hROW⟩ : ∃ ROW : Array Value, ROW = (inner.take (i * 7)).toArray ++ Builtin.zeroCells ((.agg #[(.int .i64 0), (.int .i64 0), (.int .i64 0), (.bool false), (.bool false), (.bool false), (.int .i64 0)]) : Value).cells (n + m - i) ++ Builtin.zeroCells ((.agg #[(.int .i64 0), (.int .i64 0), (.int .i64 0), (.bool false), (.bool false), (.bool false), (.int .i64 0)]) : Value).cells (G - (n + m)) := ⟨_, rfl⟩
 rw [← hG] at hrz ⊢
 rw [← hROW] at hrz ⊢
 have hRl : (n + m) * 7 ≤ ROW.size := by
  rw [hROW]
  simp [Builtin.zeroCells, Value.cells]
  omega
 obtain ⟨W1, hW1⟩ : ∃ W1, W1 = w.drew.alloc (.cells ROW 40) := ⟨_, rfl⟩
 rw [← hW1] at hrz
 have hN : ∀ j, j < (n + m) * 7 → (W1.cell? ⟨w.heap.size, j, none⟩).isSome = true := fun j hj => by
  rw [hW1, World.cell?_alloc_at (w := w.drew) ROW _ w.heap.size j rfl, Array.getElem?_eq_getElem (by omega)]; rfl
 have hNf : ∀ j, W1.frozen? ⟨w.heap.size, j, none⟩ = false := fun j => by rw [hW1]; exact World.frozen?_alloc_at (w := w.drew) ROW _ w.heap.size j rfl
 have hOb : ∀ j v, w.cell? ⟨g, j, none⟩ = some v → W1.cell? ⟨g, j, none⟩ = some v := fun j v h => by rw [hW1, World.cell?_alloc_past (w := w.drew) _ g j hbw]; exact h
 have hOv : ∀ j v, w.cell? ⟨vb, j, none⟩ = some v → W1.cell? ⟨vb, j, none⟩ = some v := fun j v h => by rw [hW1, World.cell?_alloc_past (w := w.drew) _ vb j hvw]; exact h
 have hcpA : ∀ (W : World), (∀ x, W.cell? x = W1.cell? x) → (∀ x, W.frozen? x = W1.frozen? x) → ∀ ty dc, (Builtin.copy_ #[26, 26] ty #[.slice (some ⟨w.heap.size, i * 7, none⟩) (n + m - i) dc, .slice (some ⟨vb, 0, none⟩) m vc]).run Try.prog W = .ok (goInt m) (W.setCells w.heap.size (i * 7) vs) := fun W hWc hWf ty dc =>
  run_copy_sz W _ _ ty 40 w.heap.size (i * 7) (n + m - i) dc ⟨vb, 0, none⟩ m vc 7 m vs hut hsz (by simp only [Nat.min_def]; split <;> omega) hvl
   (fun j v hj => by rw [Addr.add_lit, hWc]; refine hOv _ v ?_; have := hvs j v hj; rwa [Addr.add_lit] at this)
   (fun j hj => by rw [hWc]; exact hN _ (by omega)) (fun j hj => by rw [hWf]; exact hNf _) h1v
 have hGn : n + m ≤ G := by rw [hG]; exact grownCap_ge w _ _ _
 have hG63 : G ≤ 9223372036854775807 := by
  have := grownCap_le_maxLen w (n + m) cap 40 (by unfold maxLen; omega)
  rw [← hG] at this
  unfold maxLen at this
  omega
 have hGi : ¬ (G = i) := by omega
 have hGim : ¬ (G = i + m) := by omega
 have hci : ¬ (cap = i) := by omega
 have hbN : g ≠ w.heap.size := by omega
 have hdl : (inner.drop (i * 7)).length = (n - i) * 7 := by rw [List.length_drop, hlen]; omega
 have hcpB : ∀ (W : World), (∀ x, W.cell? x = (W1.setCells w.heap.size (i * 7) vs).cell? x) → (∀ x, W.frozen? x = (W1.setCells w.heap.size (i * 7) vs).frozen? x) → ∀ ty dc sc, (Builtin.copy_ #[26, 26] ty #[.slice (some ⟨w.heap.size, (i + m) * 7, none⟩) (n + m - (i + m)) dc, .slice (some ⟨g, i * 7, none⟩) (n - i) sc]).run Try.prog W = .ok (goInt ((n - i : Nat) : Int)) (W.setCells w.heap.size ((i + m) * 7) (inner.drop (i * 7))) := fun W hWc hWf ty dc sc =>
  run_copy_sz W _ _ ty 40 w.heap.size ((i + m) * 7) (n + m - (i + m)) dc ⟨g, i * 7, none⟩ (n - i) sc 7 (n - i) (inner.drop (i * 7)) hut hsz (by simp only [Nat.min_def]; split <;> omega) hdl
   (fun j v hj => by
    rw [Addr.add_lit, hWc, World.cell?_setCells_out _ _ _ _ _ (fun h _ => absurd h hbN)]
    refine hOb _ v ?_
    have := hcs (i * 7 + j) v (by rwa [List.getElem?_drop] at hj)
    rwa [Addr.add_lit, Nat.zero_add] at this)
   (fun j hj => by rw [hWc]; exact isSome_setCells_ _ _ _ _ (fun t ht => hN _ (by omega)) _ (hN _ (by omega)))
   (fun j hj => by rw [hWf, World.frozen?_setCells]; exact hNf _) (fun v hv => h1c v (List.mem_of_mem_drop hv))
 subst hW1
 have hE1 : ∀ x, ((w.alloc (.cells ROW 40)).drew).cell? x = (w.drew.alloc (.cells ROW 40)).cell? x := fun x => rfl
 have hE2 : ∀ x, ((w.alloc (.cells ROW 40)).drew).frozen? x = (w.drew.alloc (.cells ROW 40)).frozen? x := fun x => rfl
 have hF1 : ∀ x, (((w.alloc (.cells ROW 40)).drew.setCells w.heap.size (i * 7) vs).drew).cell? x = ((w.drew.alloc (.cells ROW 40)).setCells w.heap.size (i * 7) vs).cell? x := fun x => rfl
 have hF2 : ∀ x, (((w.alloc (.cells ROW 40)).drew.setCells w.heap.size (i * 7) vs).drew).frozen? x = ((w.drew.alloc (.cells ROW 40)).setCells w.heap.size (i * 7) vs).frozen? x := fun x => rfl
 have hw1 : IntKind.i64.wrap ((i : Int) + (m : Int)) = (i : Int) + (m : Int) := by rw [IntKind.wrap_i64]; omega
 have hb1 : (0 : Int) ≤ (i : Int) + (m : Int) := by omega
 have hin : i ≤ n := by omega
 have htn : ((i : Int) + (m : Int)).toNat = i + m := by omega
 have hb3 : (i : Int) ≤ (n : Int) := by omega
 have HA := am hcpA
 have HB := am hcpB
 have HE1 := am hE1
 have HE2 := am hE2
 have HF1 := am hF1
 have HF2 := am hF2
 clear hkk hik hold hROW hG hRl hcs hvs hsp hfz hfv ho hv hsa hsb h1c h1v hlen hvl hdl hN hNf hOb hOv hcpA hcpB hE1 hE2 hF1 hF2
 go_enter Try.func69, Try.ntmps69
 have hA := HA.out ((w.alloc (.cells ROW 40)).drew) HE1.out HE2.out
 go_wp2_with (first
  | (at_builtin; refine Lib.wpList_append_run _ rfl _ _ _ _ rfl _ _ rfl rfl _ _ (hrz _) ?_)
  | simp only [hA])
 go_region_law_o (refine step_copy_at rfl _ _ 26 26 rfl (.slice (some ⟨w.heap.size, (i + m) * 7, none⟩) (n + m - (i + m)) (G - (i + m))) (.slice (some ⟨g, i * 7, none⟩) (n - i) (cap - i)) (by simp [Act.eval, Act.put]) (by simp [Act.eval, Act.put]) (HB.out _ HF1.out HF2.out 3 (G - (i + m)) (cap - i)) ?_)
 go_wp2
 go_ret
 exact ⟨rfl, rfl⟩
def impl_Cell_69.f (l0 : List S40) (a1 : Int) (l2 : List S40) : Option (List S40) := if 0 ≤ a1 ∧ a1 < (l0.length : Int) ∧ 0 < l2.length ∧ l0.length + l2.length ≤ 1000000 then some (l0.take a1.toNat ++ l2 ++ l0.drop a1.toNat) else none
theorem impl_Cell_69.calls (P0_ : Nat → Prop) (u9000_ : Value) (l0 : List S40) (a1 : Int) (P2_ : Nat → Prop) (u9001_ : Value) (l2 : List S40) (r : List S40) (w0 w : World) (hB : Below w0.heap.size w0 w) (ho0 : Kd.R k40 40 w w0.heap.size P0_ u9000_ l0) (hp0_2 : ∀ k_, P0_ k_ → ¬ P2_ k_) (ho2 : Kd.R k40 40 w w0.heap.size P2_ u9001_ l2) (hp2_0 : ∀ k_, P2_ k_ → ¬ P0_ k_) (h : impl_Cell_69.f l0 a1 l2 = some r) :
  Calls Try.prog 69 #[u9000_, .int .i64 a1, u9001_] w fun e w' => ∃ v0_ : Value, e = .returned (v0_) ∧ Kd.R k40 40 w' w0.heap.size (fun k_ => ((P0_ k_ ∨ P2_ k_) ∨ w.heap.size ≤ k_)) v0_ r ∧ Below w0.heap.size w0 w' ∧ Kept w w' (fun k_ => P0_ k_ ∨ P2_ k_) := by
 unfold impl_Cell_69.f at h
 by_cases c : 0 ≤ a1 ∧ a1 < (l0.length : Int) ∧ 0 < l2.length ∧ l0.length + l2.length ≤ 1000000
 rotate_left
 ·rw [if_neg c] at h; cases h
 rw [if_pos c] at h
 obtain rfl := Option.some.inj h
 clear h
 obtain ⟨c1, c2, c3, c4⟩ := c
 obtain ⟨i, rfl⟩ := Int.eq_ofNat_of_zero_le c1
 rw [Int.toNat_natCast]
 have hil : i < l0.length := by omega
 obtain ⟨h0, inner, hown, hreps⟩ := ho0
 obtain ⟨h2, vs, hvown, hvreps⟩ := ho2
 have hsz : k40.sz = 7 := rfl
 rw [hsz] at hown hreps hvown hvreps
 rcases hown.2 with ⟨_, hn⟩ | ⟨g, cap, cur, rfl, hb, hg, hnc, hcm, hcs, htk⟩
 ·omega
 rcases hvown.2 with ⟨_, hn⟩ | ⟨vb, vc, vcur, rfl, hvb, hvg, hvnc, hvcm, hvcs, hvtk⟩
 ·omega
 have hPg : P0_ g := h0 g rfl
 have hPv : P2_ vb := h2 vb rfl
 have hne : vb ≠ g := fun e => hp0_2 g hPg (e ▸ hPv)
 have hone := reps_one hreps
 have hvone := reps_one hvreps
 have hil7 : inner.length = l0.length * 7 := hown.1
 have hvl7 : vs.length = l2.length * 7 := hvown.1
 have hrl : (l0.take i ++ l2 ++ l0.drop i).length = l0.length + l2.length := by rw [List.length_append, List.length_append, List.length_take, List.length_drop]; omega
 have hR : ∀ (w' : World) (ok : Nat → Prop), Reps (k40.M w' w0.heap.size ok) 7 (l0.take i ++ l2 ++ l0.drop i) (inner.take (i * 7) ++ vs ++ inner.drop (i * 7)) := fun w' ok =>
  Kd.reps_append (Kd.reps_append (reps_flat (Kd.reps_take hreps (by omega))) (reps_flat hvreps)) (reps_flat (Kd.reps_drop hreps))
 by_cases hroom : l0.length + l2.length ≤ cap
 ·refine (ins_shift w i hown hvown hone hvone hne hil c3 hroom).mono ?_
  rintro e w' ⟨rfl, rfl⟩
  obtain ⟨ys, hys, hyt⟩ := own_longer hown (show l0.length ≤ l0.length + l2.length by omega) hroom
  have hyl : ys.length = (l0.length + l2.length) * 7 := hys.1
  have hys' : w.drew.ownsRow w0.heap.size 40 7 (.slice (some ⟨g, 0, none⟩) (l0.length + l2.length) cap) (l0.length + l2.length) ys := hys
  have hdl : (inner.drop (i * 7)).length = (l0.length - i) * 7 := by rw [List.length_drop, hil7]; omega
  obtain ⟨ha, hga⟩ := own_cells (inner.drop (i * 7)) ((i + l2.length) * 7) w.drew ys hys' (by rw [hdl, hyl]; omega)
  obtain ⟨hb2, hgb⟩ := own_cells vs (i * 7) _ _ ha (by have := ha.1; omega)
  have hgr : w.grownBy w.drew (some g) := ⟨rfl, rfl, rfl, Nat.le_refl _, fun _ _ _ => rfl⟩
  have hgr2 := (hgr.trans hga).trans hgb
  have e1 : (ys.take ((i + l2.length) * 7) ++ inner.drop (i * 7) ++ ys.drop ((i + l2.length) * 7 + (inner.drop (i * 7)).length)).take (i * 7) ++ vs ++ (ys.take ((i + l2.length) * 7) ++ inner.drop (i * 7) ++ ys.drop ((i + l2.length) * 7 + (inner.drop (i * 7)).length)).drop (i * 7 + vs.length) = inner.take (i * 7) ++ vs ++ inner.drop (i * 7) := by
   have p1 : (ys.take ((i + l2.length) * 7) ++ inner.drop (i * 7) ++ ys.drop ((i + l2.length) * 7 + (inner.drop (i * 7)).length)).take (i * 7) = inner.take (i * 7) := by
    rw [List.append_assoc, List.take_append_of_le_length (by rw [List.length_take]; omega), List.take_take, Nat.min_eq_left (by omega), ← hyt, List.take_take, Nat.min_eq_left (by omega)]
   have p2 : (ys.take ((i + l2.length) * 7) ++ inner.drop (i * 7) ++ ys.drop ((i + l2.length) * 7 + (inner.drop (i * 7)).length)).drop (i * 7 + vs.length) = inner.drop (i * 7) := by
    have hz : ys.drop ((i + l2.length) * 7 + (inner.drop (i * 7)).length) = [] := List.drop_eq_nil_of_le (by rw [hdl, hyl]; omega)
    rw [hz, List.append_nil, List.drop_append_of_le_length (by rw [List.length_take]; omega), List.drop_eq_nil_of_le (by rw [List.length_take]; omega), List.nil_append]
   rw [p1, p2]
  rw [e1] at hb2
  refine ⟨_, rfl, ⟨fun k hk => .inl (.inl (h0 k (by simpa [Value.ownBlock] using hk))), inner.take (i * 7) ++ vs ++ inner.drop (i * 7), ?_, hR _ _⟩, ?_, ?_⟩
  ·rw [hrl]; exact hb2
  ·exact Below.grown hB hgr2 hB.size (fun k hk => by injection hk with hk; omega)
  ·exact Kept.of_grown hgr2 (Kept.refl _ _) (fun k hk => .inl (.inl (h0 k (by injection hk with hk; subst hk; rfl))))
 ·refine (ins_grow w i hown hvown hone hvone hil c3 (by omega) (by omega)).mono ?_
  rintro e w' ⟨rfl, rfl⟩
  obtain ⟨G, hG⟩ : ∃ G, G = grownCap w (l0.length + l2.length) cap 40 := ⟨_, rfl⟩
  have hGn : l0.length + l2.length ≤ G := by rw [hG]; exact grownCap_ge w _ _ _
  have hGm : G ≤ maxLen := by rw [hG]; exact grownCap_le_maxLen w _ cap 40 (by unfold maxLen; omega)
  rw [← hG]
  obtain ⟨ROW, hROW⟩ : ∃ ROW : Array Value, ROW = (inner.take (i * 7)).toArray ++ Builtin.zeroCells ((.agg #[(.int .i64 0), (.int .i64 0), (.int .i64 0), (.bool false), (.bool false), (.bool false), (.int .i64 0)]) : Value).cells (l0.length + l2.length - i) ++ Builtin.zeroCells ((.agg #[(.int .i64 0), (.int .i64 0), (.int .i64 0), (.bool false), (.bool false), (.bool false), (.int .i64 0)]) : Value).cells (G - (l0.length + l2.length)) := ⟨_, rfl⟩
  rw [← hROW]
  have hRs : ROW.size = G * 7 := by
   rw [hROW]
   simp [Builtin.zeroCells, Value.cells]
   omega
  have hRt : ROW.toList.take (i * 7) = inner.take (i * 7) := by
   rw [hROW]
   simp only [Array.toList_append, List.append_assoc]
   rw [List.take_append_of_le_length (by rw [List.length_take]; omega), List.take_of_length_le (by rw [List.length_take]; omega)]
  have hw1 : (w.alloc (.cells ROW 40)).drew.ownsRow w0.heap.size 40 7 (.slice (some ⟨w.heap.size, 0, none⟩) (l0.length + l2.length) G) (l0.length + l2.length) (ROW.toList.take ((l0.length + l2.length) * 7)) :=
   ⟨by have : ROW.toList.length = ROW.size := Array.length_toList; have h7 : (l0.length + l2.length) * 7 ≤ G * 7 := Nat.mul_le_mul_right _ hGn; rw [List.length_take, this, hRs]; omega, .inr ⟨w.heap.size, G, ROW, rfl, hB.size, heap_alloc_new w _, hGn, hGm, hRs, rfl⟩⟩
  have hrl2 : (ROW.toList.take ((l0.length + l2.length) * 7)).length = (l0.length + l2.length) * 7 := hw1.1
  have hdl : (inner.drop (i * 7)).length = (l0.length - i) * 7 := by rw [List.length_drop, hil7]; omega
  obtain ⟨ha, hga⟩ := own_cells vs (i * 7) _ _ hw1 (by omega)
  have ha' : (((w.alloc (.cells ROW 40)).drew.setCells w.heap.size (i * 7) vs).drew).ownsRow w0.heap.size 40 7 (.slice (some ⟨w.heap.size, 0, none⟩) (l0.length + l2.length) G) (l0.length + l2.length) _ := ha
  obtain ⟨hb2, hgb⟩ := own_cells (inner.drop (i * 7)) ((i + l2.length) * 7) _ _ ha' (by have := ha.1; omega)
  have hg0 : (w.alloc (.cells ROW 40)).grownBy (w.alloc (.cells ROW 40)).drew (some w.heap.size) := ⟨rfl, rfl, rfl, Nat.le_refl _, fun _ _ _ => rfl⟩
  have hg1 : ((w.alloc (.cells ROW 40)).drew.setCells w.heap.size (i * 7) vs).grownBy (((w.alloc (.cells ROW 40)).drew.setCells w.heap.size (i * 7) vs).drew) (some w.heap.size) := ⟨rfl, rfl, rfl, Nat.le_refl _, fun _ _ _ => rfl⟩
  have hgr := ((((World.grownBy_alloc w (.cells ROW 40) (some w.heap.size)).trans hg0).trans hga).trans hg1).trans hgb
  obtain ⟨S, hS⟩ : ∃ S, S = ROW.toList.take ((l0.length + l2.length) * 7) := ⟨_, rfl⟩
  rw [← hS] at hb2 hrl2
  have hSt : S.take (i * 7) = inner.take (i * 7) := by rw [hS, List.take_take, Nat.min_eq_left (by omega), hRt]
  have e1 : (S.take (i * 7) ++ vs ++ S.drop (i * 7 + vs.length)).take ((i + l2.length) * 7) ++ inner.drop (i * 7) ++ (S.take (i * 7) ++ vs ++ S.drop (i * 7 + vs.length)).drop ((i + l2.length) * 7 + (inner.drop (i * 7)).length) = inner.take (i * 7) ++ vs ++ inner.drop (i * 7) := by
   have hpl : (inner.take (i * 7) ++ vs).length = (i + l2.length) * 7 := by rw [List.length_append, List.length_take]; omega
   have hz : (S.take (i * 7) ++ vs ++ S.drop (i * 7 + vs.length)).drop ((i + l2.length) * 7 + (inner.drop (i * 7)).length) = [] := List.drop_eq_nil_of_le (by rw [List.length_append, List.length_append, List.length_take, List.length_drop, hdl]; omega)
   rw [hz, List.append_nil, hSt, List.take_append_of_le_length (by omega), List.take_of_length_le (by omega)]
  rw [e1] at hb2
  refine ⟨_, rfl, ⟨fun k hk => .inr (by simp [Value.ownBlock] at hk; omega), inner.take (i * 7) ++ vs ++ inner.drop (i * 7), ?_, hR _ _⟩, ?_, ?_⟩
  ·rw [hrl]; exact hb2
  ·exact Below.grown hB hgr hB.size (fun k hk => by injection hk with hk; have := hB.size; omega)
  ·exact Kept.of_grown hgr (Kept.refl _ _) (fun k hk => .inr (by injection hk with hk; omega))
end

/-! ### impl_push: function 40 -/
def impl_push.f (k : Nat) (l0 : List (S40)) (a1 : Int) (a2 : Int) (a3_0 : Int) (a3_1 : Int) (a3_2 : Bool) (a3_3 : Bool) (a3_4 : Bool) : Option ((List (S40))) := (impl_Cell_63.f l0).bind fun t502 => (if a2 = 0 then (some t502) else ((impl_part.f k t502 a1).bind fun t505 => ((impl_blank.f a3_0 a3_1 a3_2 a3_3 a3_4).bind fun bt506 => ((impl_Cell_66.f (([(⟨bt506.1, (⟨bt506.2.1, bt506.2.2.1, bt506.2.2.2.1, bt506.2.2.2.2.1, bt506.2.2.2.2.2.1⟩ : S29), bt506.2.2.2.2.2.2⟩ : S40)] : List (S40))) a2).bind fun t516 => ((impl_Cell_69.f t505 a1 t516).bind fun t519 => ((impl_part.f k t519 (l0.length : Int)).bind fun t522 => (if 0 ≤ (l0.length : Int) then (if (l0.length : Int) ≤ (t519.length : Int) then ((impl_Cell_63.f (t522.take ((l0.length : Int) : Int).toNat)).bind fun t527 => (some t527)) else (none)) else (none))))))))
theorem impl_push.mono : ∀ a0 a1 a2 a3 a4 a5 a6 a7 k, LeO (impl_push.f k a0 a1 a2 a3 a4 a5 a6 a7) (impl_push.f (k + 1) a0 a1 a2 a3 a4 a5 a6 a7) := by
 intro a0 a1 a2 a3 a4 a5 a6 a7 k
 unfold impl_push.f
 repeat' first
   | (with_reducible exact impl_part.mono _ _ _)
   | (with_reducible exact LeO.refl _)
   | (with_reducible exact LeO.none _)
   | (with_reducible refine LeO.ite ?_ ?_)
   | (with_reducible refine LeO.bind ?_ (fun _ => ?_))
set_option maxHeartbeats 8000000 in
set_option maxRecDepth 100000 in
theorem impl_push.calls (k : Nat) (A0 : Option Addr) (c0 : Nat) (l0 : List (S40)) (a1 : Int) (a2 : Int) (a3_0 : Int) (a3_1 : Int) (a3_2 : Bool) (a3_3 : Bool) (a3_4 : Bool) (r : List (S40)) (w : World) (hr0 : Kd.C k40 w A0 l0.length l0) (hc0 : l0.length ≤ c0) (h : impl_push.f k l0 a1 a2 a3_0 a3_1 a3_2 a3_3 a3_4 = some r) :
  Calls Try.prog 40 #[.slice A0 l0.length c0, .int .i64 a1, .int .i64 a2, .agg #[.int .i64 a3_0, .int .i64 a3_1, .bool a3_2, .bool a3_3, .bool a3_4]] w fun e w' => ∃ v0_ : Value, e = .returned (v0_) ∧ Kd.R k40 40 w' w.heap.size (fun _ => True) v0_ r ∧ Below w.heap.size w w' := by
 have hu29 := Try.underlying29
 have HR0 := am hr0
 have HC0 := am hc0
 clear hr0 hc0
 have HB := am (Below.refl w.heap.size w)
 have H := h
 unfold impl_push.f at H
 clear h
 replace H := Option.bind_eq_some_iff.mp H
 obtain ⟨t502, A50, H⟩ := H
 (try dsimp only at H)
 have A5 := am A50
 clear A50
 refine em_ (p := a2 = 0) (fun c6 => ?g2p) (fun c6 => ?g2n)
 case' g2p =>
  rw [if_pos c6] at H
  have c6b0 : (a2 == 0) = true := beq_iff_eq.mpr c6
  have c6b1 : (a2 != 0) = false := bne_eq_false_iff_eq.mpr c6
  clear c6
  obtain rfl := Option.some.inj H
  have lf1_ := trivial
 case' g2n =>
  rw [if_neg c6] at H
  have c6b0 : (a2 == 0) = false := beq_eq_false_iff_ne.mpr c6
  have c6b1 : (a2 != 0) = true := bne_iff_ne.mpr c6
  replace H := Option.bind_eq_some_iff.mp H
  obtain ⟨t505, A90, H⟩ := H
  (try dsimp only at H)
  have A9 := am A90
  clear A90
  replace H := Option.bind_eq_some_iff.mp H
  obtain ⟨⟨t506, t507, t508, t509, t510, t511, t512⟩, A100, H⟩ := H
  (try dsimp only at H)
  have A10 := am A100
  clear A100
  obtain ⟨y513, hy513⟩ : ∃ y_ : List (S40), y_ = (([(⟨t506, (⟨t507, t508, t509, t510, t511⟩ : S29), t512⟩ : S40)] : List (S40))) := ⟨_, rfl⟩
  replace H : ((impl_Cell_66.f y513 a2).bind fun t516 => ((impl_Cell_69.f t505 a1 t516).bind fun t519 => ((impl_part.f k t519 (l0.length : Int)).bind fun t522 => (if 0 ≤ (l0.length : Int) then (if (l0.length : Int) ≤ (t519.length : Int) then ((impl_Cell_63.f (t522.take ((l0.length : Int) : Int).toNat)).bind fun t527 => (some t527)) else (none)) else (none))))) = some r := by first | (rw [hy513]; with_reducible exact H) | (rw [hy513]; exact H) | exact H
  have Ny513 := am hy513
  clear hy513
  replace H := Option.bind_eq_some_iff.mp H
  obtain ⟨t516, A110, H⟩ := H
  (try dsimp only at H)
  have A11 := am A110
  clear A110
  replace H := Option.bind_eq_some_iff.mp H
  obtain ⟨t519, A120, H⟩ := H
  (try dsimp only at H)
  have A12 := am A120
  clear A120
  replace H := Option.bind_eq_some_iff.mp H
  obtain ⟨t522, A130, H⟩ := H
  (try dsimp only at H)
  have A13 := am A130
  clear A130
  refine em_ (p := 0 ≤ (l0.length : Int)) (fun c14 => ?g1p) (fun c14 => ?g1n)
  case' g1p =>
   rw [if_pos c14] at H
   have c14b0 := eq_true c14
   have c14b1 : decide (0 ≤ (l0.length : Int)) = true := decide_eq_true c14
   clear c14
   refine em_ (p := (l0.length : Int) ≤ (t519.length : Int)) (fun c15 => ?g0p) (fun c15 => ?g0n)
   case' g0p =>
    rw [if_pos c15] at H
    have c15b0 := eq_true c15
    have c15b1 : decide ((l0.length : Int) ≤ (t519.length : Int)) = true := decide_eq_true c15
    clear c15
    obtain ⟨y523, hy523⟩ : ∃ y_ : List (S40), y_ = (t522.take ((l0.length : Int) : Int).toNat) := ⟨_, rfl⟩
    replace H : ((impl_Cell_63.f y523).bind fun t527 => (some t527)) = some r := by first | (rw [hy523]; with_reducible exact H) | (rw [hy523]; exact H) | exact H
    have Ny523 := am hy523
    clear hy523
    replace H := Option.bind_eq_some_iff.mp H
    obtain ⟨t527, A160, H⟩ := H
    replace H : (some t527) = some r := H
    have A16 := am A160
    clear A160
    obtain rfl := Option.some.inj H
    have lf2_ := trivial
   case g0n =>
    rw [if_neg c15] at H
    exact absurd H (by simp)
  case g1n =>
   rw [if_neg c14] at H
   exact absurd H (by simp)
 all_goals
  go_enter Try.func40, Try.ntmps40
  go_wp2_with (first | ((with_reducible refine gate_callee (f := 64) rfl ?_); refine gl_ (some 29) Try.func64 #[.slice Ao29 t519.length co29, .int .i64 (l0.length : Int)] ?_; (with_reducible refine (impl_part.calls k (fun k_ => some k_ = (.slice Ao29 t519.length co29 : Value).ownBlock) (.slice Ao29 t519.length co29) t519 (l0.length : Int) t522 w _ ?side1 ?side2 A13.out).mono ?_); (case side1 => repeat (first | (with_reducible first | exact HB.out | apply b1 | apply b2 | apply b3 | refine below_set ?_ GE501.out) | exact HB.out)); (case side2 => exact Kd.R_tight rfl HO521.out); rintro e w30 ⟨rfl, hy0, hb, hkp⟩; refine ⟨_, rfl, ?_⟩; have n0_ := am (blk_kept (rk BK501) hkp (fun hs_ => (fun e_ => (Kd.R_ne HO521.out BK501.out (by decide)) e_) hs_)); have n1_ := am (Kd.R_mono (ok' := fun k_ => some k_ ≠ (.slice Ao29 t519.length co29 : Value).ownBlock) (Kd.R_keptB (HO515.out) hkp (fun k_ hk_ hs_ => (hk_) hs_)) (fun k_ hk_ => hk_.1)); have n2_ := am (Kd.R_reok rfl hy0 (fun k_ e_ => HO521.out.1 k_ e_)); have n3_ := am (hb); clear BK501; clear HO515; clear HO521; clear HB; have BK501 := n0_; have HO515 := n1_; have HO521 := n2_; have HB := n3_; clear n0_ n1_ n2_ n3_; (try clear hb); (try clear hkp); (try clear hy0); have hlx31 := (Kd.R_reads' HO521.out).1; have q31 : ((l0.length : Int) : Int) ≤ ((t519.length : Int) : Int) := dt_; obtain ⟨i031, hi031, _, hsz31, _⟩ := info_parts info40; have hroom31 : t519.length ≤ co29 := (Kd.R_reads' HO521.out).2.1; have hroomc31 : t522.length ≤ co29 := (by rw [← hlx31]; exact hroom31); have hC31 : Kd.C k40 _ Ao29 t522.length t522 := (Kd.R_reads' HO521.out).2.2; have hcut31 := cut_to (P := Try.prog) 26 40 .i64 Try.underlying26 hi031 Ao29 t519.length co29 (l0.length : Int) dt_ q31 hroom31; have hr31 := Kd.C_take (m := ((l0.length : Int) : Int).toNat) hC31 (by omega); have hy31 : y523.length = ((l0.length : Int) : Int).toNat := (by rw [Ny523.out, List.length_take]; omega); rw [← Ny523.out] at hr31; rw [← hy31] at hcut31; have HR526 := am hr31; have HC526 := am (show y523.length ≤ co29 from by omega); clear hr31 hC31 hroom31 hi031 hsz31 hroomc31; have KY31 := am hy31; clear hy31; have KE31 := am hlx31; have KL31 := am (show ((l0.length : Int) : Int).toNat ≤ t522.length from by omega); clear hlx31; replace q31 := eq_true q31) | ((with_reducible refine gate_callee (f := 69) rfl ?_); refine gl_ (some 25) Try.func69 #[.slice Ao19 t502.length co19, .int .i64 a1, .slice Ao27 t516.length co27] ?_; (with_reducible refine (impl_Cell_69.calls (fun k_ => some k_ = (.slice Ao19 t502.length co19 : Value).ownBlock) (.slice Ao19 t502.length co19) t505 a1 (fun k_ => some k_ = (.slice Ao27 t516.length co27 : Value).ownBlock) (.slice Ao27 t516.length co27) t516 t519 w _ ?side1 ?side2 ?side3 ?side4 ?side5 A12.out).mono ?_); (case side1 => repeat (first | (with_reducible first | exact HB.out | apply b1 | apply b2 | apply b3 | refine below_set ?_ GE501.out) | exact HB.out)); (case side2 => exact Kd.R_tight rfl HO504.out); (case side3 => exact fun k_ e_ => (HO504.out.1 k_ e_.symm).2); (case side4 => exact Kd.R_tight rfl HO518.out); (case side5 => exact fun k_ e_ => (HO518.out.1 k_ e_.symm).1.2); rintro e w28 ⟨v520, rfl, ho0, hb, hkp⟩; refine ⟨_, rfl, ?_⟩; have n0_ := am (blk_kept (rk BK501) hkp (fun hs_ => Or.elim hs_ (fun e_ => (fun e_ => (Kd.R_ne HO504.out BK501.out (by decide)) e_) e_) (fun e_ => (fun e_ => (Kd.R_ne HO518.out BK501.out (by decide)) e_) e_))); have n1_ := am (Kd.R_mono (ok' := fun k_ => some k_ ≠ (v520 : Value).ownBlock) (Kd.R_keptB (HO515.out) hkp (fun k_ hk_ hs_ => Or.elim hs_ (fun e_ => (hk_.1.2) e_) (fun e_ => (hk_.2) e_))) (fun k_ hk_ => fun e_ => Or.elim (ho0.1 k_ e_.symm) (fun hs_ => hk_.2.1 hs_) (fun hn_ => Nat.not_le.2 hk_.2.2 hn_))); have n2_ := am (Kd.R_mono (ok' := fun k_ => some k_ ≠ (.slice Ao25 y513.length co25 : Value).ownBlock) ho0 (fun k_ hk_ => Or.elim hk_ (fun hs_ => Or.elim hs_ (fun hs_ => fun e_ => (((HO515.out).1 k_ e_.symm).1.2) hs_) (fun hs_ => fun e_ => (((HO515.out).1 k_ e_.symm).2) hs_)) (fun hn_ => (Kd.fresh' (Kd.R_lt (rr HO515)) k_ hn_)))); have n3_ := am (hb); clear BK501; clear HO515; clear HB; clear HO504; clear HO518; have BK501 := n0_; have HO515 := n1_; have HO521 := n2_; have HB := n3_; clear n0_ n1_ n2_ n3_; (try clear hb); (try clear hkp); (try clear ho0); obtain ⟨Ao29, co29, eo29⟩ := Kd.R_slice HO521.out; subst eo29) | ((with_reducible refine gate_callee (f := 64) rfl ?_); refine gl_ (some 17) Try.func64 #[.slice Ao19 t502.length co19, .int .i64 a1] ?_; (with_reducible refine (impl_part.calls k (fun k_ => some k_ = (.slice Ao19 t502.length co19 : Value).ownBlock) (.slice Ao19 t502.length co19) t502 a1 t505 w _ ?side1 ?side2 A9.out).mono ?_); (case side1 => repeat (first | (with_reducible first | exact HB.out | apply b1 | apply b2 | apply b3 | refine below_set ?_ GE501.out) | exact HB.out)); (case side2 => exact Kd.R_tight rfl HO504.out); rintro e w20 ⟨rfl, hy0, hb, hkp⟩; refine ⟨_, rfl, ?_⟩; have n0_ := am (blk_kept (rk BK501) hkp (fun hs_ => (fun e_ => (Kd.R_ne HO504.out BK501.out (by decide)) e_) hs_)); have n1_ := am (Kd.R_reok rfl hy0 (fun k_ e_ => HO504.out.1 k_ e_)); have n2_ := am (hb); clear BK501; clear HO504; clear HB; have BK501 := n0_; have HO504 := n1_; have HB := n2_; clear n0_ n1_ n2_; (try clear hb); (try clear hkp); (try clear hy0); have hcz21_0 : w20.cell? ⟨gb501, 0, none⟩ = some (.int .i64 a3_0) := (blk_cell BK501.out 0).trans rfl; have hcz21_1 : w20.cell? ⟨gb501, 1, none⟩ = some (.int .i64 a3_1) := (blk_cell BK501.out 1).trans rfl; have hcz21_2 : w20.cell? ⟨gb501, 2, none⟩ = some (.bool a3_2) := (blk_cell BK501.out 2).trans rfl; have hcz21_3 : w20.cell? ⟨gb501, 3, none⟩ = some (.bool a3_3) := (blk_cell BK501.out 3).trans rfl; have hcz21_4 : w20.cell? ⟨gb501, 4, none⟩ = some (.bool a3_4) := (blk_cell BK501.out 4).trans rfl; have hfz21_0 := blk_frozen BK501.out 0; have hfz21_1 := blk_frozen BK501.out 1; have hfz21_2 := blk_frozen BK501.out 2; have hfz21_3 := blk_frozen BK501.out 3; have hfz21_4 := blk_frozen BK501.out 4) | ((with_reducible refine gate_callee (f := 63) rfl ?_); refine gl_ (some 34) Try.func63 #[.slice Ao29 y523.length co29] ?_; (with_reducible refine (impl_Cell_63.calls _ _ y523 t527 _ ?side1 ?side2 A16.out).mono ?_); (case side1 => repeat (first | exact (by repeat (first | (with_reducible exact HR526.out) | (with_reducible refine Kd.C_alloc ?_ _) | (with_reducible refine Kd.C_drewN ?_ _) | (with_reducible refine Kd.C_drew ?_) | exact HR526.out)) | (with_reducible refine Kd.C_alloc ?_ _) | (with_reducible refine Kd.C_drewN ?_ _) | (with_reducible refine Kd.C_drew ?_))); (case side2 => exact HC526.out); rintro e w32 ⟨v528, rfl, ho0, hb⟩; refine ⟨_, rfl, ?_⟩; have n0_ := am (Kd.R_elder' (rr HO515) (Kd.R_base ho0) hb); have n1_ := am (Kd.R_elder' (rr HO521) (Kd.R_base ho0) hb); have n2_ := am (Kd.R_lower (Kd.R_new' (Kd.R_new' ho0 (Kd.R_lt (rr HO515))) (Kd.R_lt (rr HO521))) (below_size (rb1 HB GE501))); have n3_ := am (blk_below (g := gb501) (o := .cells #[.int .i64 a3_0, .int .i64 a3_1, .bool a3_2, .bool a3_3, .bool a3_4] 29 (0, 0)) (rk BK501) hb); have n4_ := am (Kd.C_below (by repeat (first | (with_reducible exact HR526.out) | (with_reducible refine Kd.C_alloc ?_ _) | (with_reducible refine Kd.C_drewN ?_ _) | (with_reducible refine Kd.C_drew ?_) | exact HR526.out)) hb); have n5_ := am (below_step (rb1 HB GE501) hb); clear HO515; clear HO521; clear BK501; clear HR526; clear HB; have HO515 := n0_; have HO521 := n1_; have HO529 := n2_; have BK501 := n3_; have HR526 := n4_; have HB := n5_; clear n0_ n1_ n2_ n3_ n4_ n5_; (try clear hb); (try clear hb2); (try clear hk); (try clear hi); (try clear ho0)) | ((with_reducible refine gate_dst (N := 22) rfl ?_); refine Kd.R_lit k40 _ 40 ?hg (N := 22) ?hd (xs := ([(⟨t506, (⟨t507, t508, t509, t510, t511⟩ : S29), t512⟩ : S40)] : List (S40))) (inner := [.int .i64 t506, .int .i64 t507, .int .i64 t508, .bool t509, .bool t510, .bool t511, .int .i64 t512]) (ok := fun _ => True) (okp := fun _ => True) ?hr ?hp (fun _ hk => hk) trivial (Below.refl _ _) (Nat.le_refl _) (by simp) ?_; (case hd => rfl); (case hg => rfl); (case hr => first | (go_simp; done) | (go_simp; rfl)); (case hp => exact (Reps.c7 (show Kd.M k40 _ _ _ (⟨t506, (⟨t507, t508, t509, t510, t511⟩ : S29), t512⟩ : S40) [.int .i64 t506, .int .i64 t507, .int .i64 t508, .bool t509, .bool t510, .bool t511, .int .i64 t512] from (k40_mkM _ _ _ (⟨t506, (⟨t507, t508, t509, t510, t511⟩ : S29), t512⟩ : S40) )) (Reps.none _ _))); intro v514 w23 ho24 hb hg_ hnew_; clear hg_ hnew_; (first | rw [← Ny513.out] at ho24 | (simp only [Int.reduceToNat] at ho24; rw [← Ny513.out] at ho24)); have n0_ := am (Kd.R_elder' (rr HO504) (Kd.R_base ho24) hb); have n1_ := am (Kd.R_lower (Kd.R_new' ho24 (Kd.R_lt (rr HO504))) (below_size (rb1 HB GE501))); have n2_ := am (blk_below (g := gb501) (o := .cells #[.int .i64 a3_0, .int .i64 a3_1, .bool a3_2, .bool a3_3, .bool a3_4] 29 (0, 0)) (rk BK501) hb); have n3_ := am (below_step (rb1 HB GE501) hb); clear HO504; clear BK501; clear HB; have HO504 := n0_; have HO515 := n1_; have BK501 := n2_; have HB := n3_; clear n0_ n1_ n2_ n3_; clear hb ho24; obtain ⟨Ao25, co25, eo25⟩ := Kd.R_slice HO515.out; subst eo25) | ((with_reducible refine gate_callee (f := 66) rfl ?_); refine gl_ (some 24) Try.func66 #[.slice Ao25 y513.length co25, .int .i64 a2] ?_; (with_reducible refine (impl_Cell_66.calls _ _ y513 a2 t516 _ ?side1 ?side2 A11.out).mono ?_); (case side1 => repeat (first | exact (Kd.R_reads' HO515.out).2.2 | (with_reducible refine Kd.C_alloc ?_ _) | (with_reducible refine Kd.C_drewN ?_ _) | (with_reducible refine Kd.C_drew ?_))); (case side2 => exact (Kd.R_reads' HO515.out).2.1); rintro e w26 ⟨v517, rfl, ho0, hb⟩; refine ⟨_, rfl, ?_⟩; have n0_ := am (Kd.R_elder' (rr HO504) (Kd.R_base ho0) hb); have n1_ := am (Kd.R_elder' (rr HO515) (Kd.R_base ho0) hb); have n2_ := am (Kd.R_lower (Kd.R_new' (Kd.R_new' ho0 (Kd.R_lt (rr HO504))) (Kd.R_lt (rr HO515))) (below_size (rb1 HB GE501))); have n3_ := am (blk_below (g := gb501) (o := .cells #[.int .i64 a3_0, .int .i64 a3_1, .bool a3_2, .bool a3_3, .bool a3_4] 29 (0, 0)) (rk BK501) hb); have n4_ := am (below_step (rb1 HB GE501) hb); clear HO504; clear HO515; clear BK501; clear HB; have HO504 := n0_; have HO515 := n1_; have HO518 := n2_; have BK501 := n3_; have HB := n4_; clear n0_ n1_ n2_ n3_ n4_; (try clear hb); (try clear hb2); (try clear hk); (try clear hi); (try clear ho0); obtain ⟨Ao27, co27, eo27⟩ := Kd.R_slice HO518.out; subst eo27) | ((with_reducible refine gate_callee (f := 63) rfl ?_); refine gl_ (some 11) Try.func63 #[.slice A0 l0.length c0] ?_; (with_reducible refine (impl_Cell_63.calls _ _ l0 t502 _ ?side1 ?side2 A5.out).mono ?_); (case side1 => exact rc ((Kd.C_below HR0.out HB.out))); (case side2 => exact HC0.out); rintro e w18 ⟨v503, rfl, ho0, hb⟩; refine ⟨_, rfl, ?_⟩; have n0_ := am (Kd.R_lower ho0 (below_size (rb1 HB GE501))); have n1_ := am (blk_below (g := gb501) (o := .cells #[.int .i64 a3_0, .int .i64 a3_1, .bool a3_2, .bool a3_3, .bool a3_4] 29 (0, 0)) (rk BK501) hb); have n2_ := am (below_step (rb1 HB GE501) hb); clear BK501; clear HB; have HO504 := n0_; have BK501 := n1_; have HB := n2_; clear n0_ n1_ n2_; (try clear hb); (try clear hb2); (try clear hk); (try clear hi); (try clear ho0); obtain ⟨Ao19, co19, eo19⟩ := Kd.R_slice HO504.out; subst eo19) | ((with_reducible refine gate_callee (f := 63) rfl ?_); refine gl_ (some 11) Try.func63 #[.slice A0 l0.length c0] ?_; (with_reducible refine (impl_Cell_63.calls _ _ l0 t502 _ ?side1 ?side2 A5.out).mono ?_); (case side1 => exact rc ((Kd.C_below HR0.out HB.out))); (case side2 => exact HC0.out); rintro e w8 ⟨v503, rfl, ho0, hb⟩; refine ⟨_, rfl, ?_⟩; have n0_ := am (Kd.R_lower ho0 (below_size (rb1 HB GE501))); have n1_ := am (blk_below (g := gb501) (o := .cells #[.int .i64 a3_0, .int .i64 a3_1, .bool a3_2, .bool a3_3, .bool a3_4] 29 (0, 0)) (rk BK501) hb); have n2_ := am (below_step (rb1 HB GE501) hb); clear BK501; clear HB; have HO504 := n0_; have BK501 := n1_; have HB := n2_; clear n0_ n1_ n2_; (try clear hb); (try clear hb2); (try clear hk); (try clear hi); (try clear ho0)) | ((with_reducible refine gate_callee (f := 67) rfl ?_); refine gl_ (some 21) Try.func67 #[.agg #[.int .i64 a3_0, .int .i64 a3_1, .bool a3_2, .bool a3_3, .bool a3_4]] ?_; (with_reducible refine (impl_blank.calls a3_0 a3_1 a3_2 a3_3 a3_4 t506 t507 t508 t509 t510 t511 t512 _ A10.out).mono ?_); rintro e w22 ⟨rfl, hb⟩; refine ⟨_, rfl, ?_⟩; have n0_ := am (Kd.R_below (rr HO504) hb); have n1_ := am (blk_below (g := gb501) (o := .cells #[.int .i64 a3_0, .int .i64 a3_1, .bool a3_2, .bool a3_3, .bool a3_4] 29 (0, 0)) (rk BK501) hb); have n2_ := am (below_step (rb1 HB GE501) hb); clear HO504; clear BK501; clear HB; have HO504 := n0_; have BK501 := n1_; have HB := n2_; clear n0_ n1_ n2_; (try clear hb); (try clear hb2); (try clear hk); (try clear hi)) | ((with_reducible refine gate_dst (N := 7) rfl ?_); refine box_event ?hg (N := 7) ?hd (cs := #[.int .i64 a3_0, .int .i64 a3_1, .bool a3_2, .bool a3_3, .bool a3_4]) (t := 29) ?hr ?_; (case hd => rfl); (case hg => rfl); (case hr => first | (go_simp; done) | (go_simp; rfl)); intro gb501 hg w7 hbox hb; have n0_ := am (below_step (rb HB) hb); have n1_ := am (hbox); have n2_ := am ((by rw [hg]; exact (below_size (rb HB)) : w.heap.size ≤ gb501)); have n3_ := am ((by rw [hg]; exact (below_size (rb HB)) : w.heap.size ≤ gb501)); clear HB; have HB := n0_; have BK501 := n1_; have GW501 := n2_; have GE501 := n3_; clear n0_ n1_ n2_ n3_; clear hb hbox hg))
  go_ret
  first
  | (
    have q_ := lf2_
    exact ⟨_, by first | rfl | (simp [errW_none, errW_some] <;> rfl) | (simp [*, errW_none, errW_some] <;> rfl), by (with_reducible repeat (first | apply r1 | apply r2 | apply r3)); exact Kd.R_mono HO529.out (fun _ hk => trivial), by repeat (first | (with_reducible first | exact HB.out | apply b1 | apply b2 | apply b3 | refine below_set ?_ GE501.out) | exact HB.out)⟩
    )
  | (
    have q_ := lf1_
    exact ⟨_, by first | rfl | (simp [errW_none, errW_some] <;> rfl) | (simp [*, errW_none, errW_some] <;> rfl), by (with_reducible repeat (first | apply r1 | apply r2 | apply r3)); exact HO504.out, by repeat (first | (with_reducible first | exact HB.out | apply b1 | apply b2 | apply b3 | refine below_set ?_ GE501.out) | exact HB.out)⟩
    )

end Go.Proofs.Ytfhkpneffmcdbaa.QD
