/- Contracts of Go functions that laws of this seat reach: each Lean function answers as its Go function does. No condition. Written by wip/tools/inj.py, over the kit's print. -/
import Derived.Deep.RegionLaw
import Derived.Lib.SliceRun
import Derived.Shelf.Slices.Delete
import Derived.Test.YtfhkpneffmcdbaaQDx0
namespace Go.Proofs.Ytfhkpneffmcdbaa.QD
open Go.RowKit Go.Proofs.YtfhkpneffmcdbaaW.PrintWords Go.Proofs.YtfhkpneffmcdbaaW.PrintLast Go.Proofs.YtfhkpneffmcdbaaW.PrintMore
attribute [local go_sem] max2_int min2_int max_two min_two max_three min_three max_four min_four   -- for this text's walks alone
set_option linter.unusedVariables false
set_option linter.unusedSimpArgs false

/-! ### impl_Cell_65: function 65 -/
section
open Go.Lib
theorem own_cells {base g n cap size : Nat} {e : TypeId} : ∀ (seg : List Value) (o : Nat) (w : World) (xs : List Value), w.ownsRow base e size (.slice (some ⟨g, 0, none⟩) n cap) n xs → o + seg.length ≤ xs.length →
  (w.setCells g o seg).ownsRow base e size (.slice (some ⟨g, 0, none⟩) n cap) n (xs.take o ++ seg ++ xs.drop (o + seg.length)) ∧ w.grownBy (w.setCells g o seg) (some g)
 | [], o, w, xs, h, ho => by
  refine ⟨?_, ⟨rfl, rfl, rfl, Nat.le_refl _, fun _ _ _ => rfl⟩⟩
  show w.ownsRow base e size _ n _
  rw [List.append_nil, List.length_nil, Nat.add_zero, List.take_append_drop]
  exact h
 | u :: seg, o, w, xs, h, ho => by
  rw [List.length_cons] at ho
  have h1 := h.stored o u
  obtain ⟨h2, h3⟩ := own_cells seg (o + 1) (w.setCell ⟨g, o, none⟩ u) (xs.set o u) h1.1 (by rw [List.length_set]; omega)
  refine ⟨?_, h1.2.trans h3⟩
  have hl : (xs.set o u).take (o + 1) ++ seg ++ (xs.set o u).drop (o + 1 + seg.length) = xs.take o ++ (u :: seg) ++ xs.drop (o + (u :: seg).length) := by
   rw [List.take_succ_eq_append_getElem (by rw [List.length_set]; omega), List.getElem_set_self, List.take_set_of_le (Nat.le_refl _), List.drop_set_of_lt (by omega), List.length_cons]
   rw [show o + 1 + seg.length = o + (seg.length + 1) by omega]
   simp
  rw [← hl]
  exact h2
theorem own_there {base g n cap size : Nat} {e : TypeId} {w : World} {xs : List Value} (h : w.ownsRow base e size (.slice (some ⟨g, 0, none⟩) n cap) n xs) : ∀ t, t < n * size → (w.cell? ⟨g, t, none⟩).isSome = true ∧ w.frozen? ⟨g, t, none⟩ = false := by
 intro t ht
 rcases h.2 with ⟨h', _⟩ | ⟨g', cap', cur, h', hb, hg, hnc, hcm, hcs, htake⟩
 ·simp at h'
 ·simp only [Value.slice.injEq, Option.some.injEq, Addr.mk.injEq, and_true, true_and] at h'
  obtain ⟨rfl, rfl⟩ := h'
  refine ⟨?_, frozen_of_row w g t cur e hg⟩
  have : n * size ≤ cap * size := Nat.mul_le_mul_right _ hnc
  rw [cell_of_row w g t cur e (0, 0) hg, Array.getElem?_eq_getElem (by omega)]
  rfl
theorem reps_one {w : World} {base : Nat} {ok : Nat → Prop} {ps : List S40} {cs : List Value} (h : Reps (k40.M w base ok) 7 ps cs) : ∀ u ∈ cs, u.oneCell' = true := by
 intro u hu
 obtain ⟨t, ht, rfl⟩ := List.mem_iff_getElem.mp hu
 have hl := h.1
 have hj : t / 7 < ps.length := by omega
 have hb := k40_openM (h.2 (t / 7) _ (List.getElem?_eq_getElem hj))
 have hm : cs[t] ∈ (cs.drop (t / 7 * 7)).take 7 := by
  rw [List.mem_iff_getElem]
  refine ⟨t % 7, by rw [List.length_take, List.length_drop]; omega, ?_⟩
  rw [List.getElem_take, List.getElem_drop]
  congr 1
  omega
 rw [hb] at hm
 simp only [List.mem_cons, List.not_mem_nil, or_false] at hm
 rcases hm with h | h | h | h | h | h | h
 all_goals (rw [h]; rfl)
theorem reps_flat {w w' : World} {base base' : Nat} {ok ok' : Nat → Prop} {ps : List S40} {cs : List Value} (h : Reps (k40.M w base ok) 7 ps cs) : Reps (k40.M w' base' ok') 7 ps cs := by
 refine Reps.imp_ h (fun p c hR => ?_)
 rw [k40_openM hR]
 exact k40_mkM _ _ _ _
end
section
open Go.Lib
theorem run_clear_cells {P : Program} (w : World) (t e ty : TypeId) (z : Value) (ht : P.underlying t = some (.slice e)) (hv : ∀ w, (zeroValue e).run P w = .ok z w) (zs : List Value) (b o n c : Nat) (hn : 0 < n) (hz : (Builtin.zeroCells z.cells n).toList = zs) (h1 : ∀ u ∈ zs, u.oneCell' = true)
  (hc : ∀ j, j < zs.length → (w.cell? ⟨b, o + j, none⟩).isSome = true) (hf : ∀ j, j < zs.length → w.frozen? ⟨b, o + j, none⟩ = false) :
  (Builtin.clear_ #[t] ty #[.slice (some ⟨b, o, none⟩) n c]).run P w = .ok (.tuple #[]) (w.setCells b o zs) := by
 have hst := run_storeCells_cells (P := P) b o zs 0 w (by simpa using hc) (by simpa using hf) h1
 simp only [Nat.add_zero] at hst
 obtain ⟨m, rfl⟩ : ∃ m, n = m + 1 := ⟨n - 1, by omega⟩
 simp [Builtin.clear_, run_underlying ht, hv, hz, hst]
set_option maxHeartbeats 4000000 in
set_option maxRecDepth 100000 in
theorem del_walk {base g n cap : Nat} {inner : List Value} (w : World) (i j : Nat) (ho : w.ownsRow base 40 7 (.slice (some ⟨g, 0, none⟩) n cap) n inner) (hone : ∀ u ∈ inner, u.oneCell' = true) (hij : i ≤ j) (hj : j ≤ n) :
  Calls Try.prog 65 #[.slice (some ⟨g, 0, none⟩) n cap, .int .i64 i, .int .i64 j] w fun e w' => e = .returned (.slice (some ⟨g, 0, none⟩) (n - (j - i)) cap) ∧ w'.ownsRow base 40 7 (.slice (some ⟨g, 0, none⟩) (n - (j - i)) cap) (n - (j - i)) (inner.take (i * 7) ++ inner.drop (j * 7)) ∧ w.grownBy w' (some g) := by
 have hlen : inner.length = n * 7 := ho.1
 obtain ⟨cur, hgb, hnc, hcm, hcs, htk⟩ : ∃ cur, w.heap[g]? = some (.cells cur 40 (0, 0)) ∧ n ≤ cap ∧ cap ≤ maxLen ∧ cur.size = cap * 7 ∧ cur.toList.take (n * 7) = inner := by
  rcases ho.2 with ⟨h', _⟩ | ⟨g', cap', cur, h', hb, hg, hnc, hcm, hcs, htake⟩
  ·simp at h'
  ·simp only [Value.slice.injEq, Option.some.injEq, Addr.mk.injEq, and_true, true_and] at h'
   obtain ⟨rfl, rfl⟩ := h'
   exact ⟨cur, hg, hnc, hcm, hcs, htake⟩
 have hu26 := Try.underlying26
 have hu40 := Try.underlying40
 have hmx : maxLen = 9223372036854775807 := rfl
 have mixed : Try.prog.follows Departure.mixedOrders = true := by kernel_rfl
 obtain ⟨i0, hi0, hz0, hz1, hz2⟩ := info_parts info40
 by_cases heq : i = j
 ·subst heq
  have h0 : Calls Try.prog 65 #[.slice (some ⟨g, 0, none⟩) n cap, .int .i64 i, .int .i64 i] w fun e w' => e = .returned (.slice (some ⟨g, 0, none⟩) n cap) ∧ w' = w := by
   clear ho hgb htk
   go_enter Try.func65, Try.ntmps65
   go_wp2
   all_goals (go_ret; exact ⟨rfl, rfl⟩)
  refine h0.mono ?_
  rintro e w' ⟨rfl, rfl⟩
  rw [Nat.sub_self, Nat.sub_zero, List.take_append_drop]
  exact ⟨rfl, ho, World.grownBy.refl _ _⟩
 ·have hlt : i < j := by omega
  clear heq
  obtain ⟨news, hnews⟩ : ∃ news, news = inner.drop (j * 7) := ⟨_, rfl⟩
  have hnl : news.length = (n - j) * 7 := by rw [hnews, List.length_drop, hlen]; omega
  have hcell : ∀ t, t < cap * 7 → (w.cell? ⟨g, t, none⟩).isSome = true ∧ w.frozen? ⟨g, t, none⟩ = false := by
   intro t ht
   refine ⟨?_, frozen_of_row w g t cur 40 hgb⟩
   rw [cell_of_row w g t cur 40 (0, 0) hgb, Array.getElem?_eq_getElem (by omega)]
   rfl
  have hat : ∀ t u, inner[t]? = some u → w.cell? ⟨g, t, none⟩ = some u := by
   intro t u hu
   rw [cell_of_row w g t cur 40 (0, 0) hgb]
   rw [← htk, List.getElem?_take] at hu
   split at hu
   ·simpa using hu
   ·cases hu
  obtain ⟨A, hA, hsrc⟩ : ∃ A : Addr, (if cap = j then some (⟨g, 0, none⟩ : Addr) else some ⟨g, j * 7, none⟩) = some A ∧ Hid (∀ t u, news[t]? = some u → w.drew.cell? (A.add t) = some u) := by
   by_cases h : cap = j
   ·refine ⟨⟨g, 0, none⟩, by simp [h], fun t u hu => ?_⟩
    have h0 : news.length = 0 := by rw [hnl]; omega
    rw [List.length_eq_zero_iff.1 h0] at hu
    simp at hu
   ·refine ⟨⟨g, j * 7, none⟩, by simp [h], fun t u hu => ?_⟩
    rw [hnews, List.getElem?_drop] at hu
    rw [Addr.add_lit]
    exact hat (j * 7 + t) u hu
  have s1 : Hid (news.length = (n - j) * 7) := hnl
  have s2 : Hid (∀ u ∈ news, u.oneCell' = true) := fun u hu => hone u (by rw [hnews] at hu; exact List.mem_of_mem_drop hu)
  have s3 : Hid (∀ t, t < news.length → (w.drew.cell? ⟨g, 0 + i * 7 + t, none⟩).isSome = true ∧ w.drew.frozen? ⟨g, 0 + i * 7 + t, none⟩ = false) := by
   intro t ht
   rw [Nat.zero_add]
   exact hcell (i * 7 + t) (by omega)
  obtain ⟨W1, hW1⟩ : ∃ W1, W1 = w.drew.setCells g (0 + i * 7) news := ⟨_, rfl⟩
  have ho0 : w.drew.ownsRow base 40 7 (.slice (some ⟨g, 0, none⟩) n cap) n inner := ho
  have hX := own_cells news (i * 7) w.drew inner ho0 (by omega)
  rw [Nat.zero_add] at hW1
  rw [← hW1] at hX
  obtain ⟨zs, hzs⟩ : ∃ zs, zs = (Builtin.zeroCells (Value.agg #[(.int .i64 0), (.int .i64 0), (.int .i64 0), (.bool false), (.bool false), (.bool false), (.int .i64 0)]).cells (n - (i + (n - j)))).toList := ⟨_, rfl⟩
  have hzl : zs.length = (n - (i + (n - j))) * 7 := by rw [hzs]; simp [Builtin.zeroCells, Value.cells]
  have hz1c : ∀ u ∈ zs, u.oneCell' = true := by
   intro u hu
   rw [hzs] at hu
   simp only [Builtin.zeroCells, Value.cells, Array.toList_map, Array.toList_range, List.mem_map] at hu
   obtain ⟨a, _, rfl⟩ := hu
   show (#[Value.int IntKind.i64 0, .int .i64 0, .int .i64 0, .bool false, .bool false, .bool false, .int .i64 0][a % 7]!).oneCell' = true
   have h7 : a % 7 = 0 ∨ a % 7 = 1 ∨ a % 7 = 2 ∨ a % 7 = 3 ∨ a % 7 = 4 ∨ a % 7 = 5 ∨ a % 7 = 6 := by omega
   rcases h7 with h | h | h | h | h | h | h
   all_goals (rw [h]; rfl)
  have hcl : ∀ ty, (Builtin.clear_ #[26] ty #[.slice (some ⟨g, (i + (n - j)) * 7, none⟩) (n - (i + (n - j))) (cap - (i + (n - j)))]).run Try.prog W1 = .ok (.tuple #[]) (W1.setCells g ((i + (n - j)) * 7) zs) := by
   intro ty
   have hth := own_there hX.1
   refine run_clear_cells W1 26 40 ty _ hu26 (fun w => by simp [zeroValue, typeInfo, hi0, hz0]) zs g ((i + (n - j)) * 7) _ _ (by omega) hzs.symm hz1c (fun t ht => (hth _ (by omega)).1) (fun t ht => (hth _ (by omega)).2)
  have hic : i ≤ cap := by omega
  have hjc : j ≤ cap := by omega
  have hW : Hid (W1 = w.drew.setCells g (0 + i * 7) news) := by rw [Nat.zero_add]; exact hW1
  clear hW1 hat hcell hgb htk ho ho0
  have HX : Aside0 ((W1.ownsRow base 40 7 (.slice (some ⟨g, 0, none⟩) n cap) n (inner.take (i * 7) ++ news ++ inner.drop (i * 7 + news.length))) ∧ w.drew.grownBy W1 (some g)) := am hX
  have HN : Aside0 (news = inner.drop (j * 7)) := am hnews
  have HL : Aside0 (zs.length = (n - (i + (n - j))) * 7) := am hzl
  clear hX hnews hnl hzl hzs hz1c
  go_enter Try.func65, Try.ntmps65
  go_wp2_with fail
  go_region_law_o (refine step_append_room rfl (.tmp 22) (.tmp 25) 26 rfl 40 i0 7 hu26 hi0 hz1 g 0 i cap (by simp [Act.eval, Act.put]) A (n - j) (cap - j) news (by simp [Act.eval, Act.put]) s1.out hsrc.out s2.out (by omega) s3.out ?_; rw [← hW.out])
  go_wp2
  go_ret
  have hl := HL.out
  have hs := s1.out
  have hX := HX.out
  have hLn : (inner.take (i * 7) ++ news ++ inner.drop (i * 7 + news.length)).length = n * 7 := hX.1.1
  obtain ⟨h1, h2⟩ := own_cells zs ((i + (n - j)) * 7) W1 _ hX.1 (by omega)
  have h3 := own_take h1 (m := n - (j - i)) (by omega)
  have hi7 : (inner.take (i * 7)).length = i * 7 := by rw [List.length_take, hlen]; omega
  have hpre : (inner.take (i * 7) ++ news).length = (i + (n - j)) * 7 := by rw [List.length_append, hi7, hs]; omega
  have e1 : (inner.take (i * 7) ++ news ++ inner.drop (i * 7 + news.length)).take ((i + (n - j)) * 7) = inner.take (i * 7) ++ news := by
   rw [← hpre, List.take_left']
   rfl
  rw [e1, List.append_assoc, show (n - (j - i)) * 7 = (inner.take (i * 7) ++ news).length by rw [hpre]; omega, List.take_left' rfl, HN.out] at h3
  have hg0 : w.grownBy w.drew (some g) := ⟨rfl, rfl, rfl, Nat.le_refl _, fun _ _ _ => rfl⟩
  exact ⟨by rw [show n - (j - i) = i + (n - j) by omega]; rfl, h3, (hg0.trans hX.2).trans h2⟩
theorem del_none (w : World) : Calls Try.prog 65 #[.slice none 0 0, .int .i64 (0 : Int), .int .i64 (0 : Int)] w fun e w' => e = .returned (.slice none 0 0) ∧ w' = w := by
 have hu26 := Try.underlying26
 have hu40 := Try.underlying40
 have mixed : Try.prog.follows Departure.mixedOrders = true := by kernel_rfl
 go_enter Try.func65, Try.ntmps65
 go_wp2
 all_goals (go_ret; exact ⟨rfl, rfl⟩)
def impl_Cell_65.f (l0 : List S40) (a1 : Int) (a2 : Int) : Option (List S40) := if 0 ≤ a1 ∧ a1 ≤ a2 ∧ a2 ≤ (l0.length : Int) then some (l0.take a1.toNat ++ l0.drop a2.toNat) else none
theorem impl_Cell_65.calls (P0_ : Nat → Prop) (u9000_ : Value) (l0 : List S40) (a1 a2 : Int) (r : List S40) (w0 w : World) (hB : Below w0.heap.size w0 w) (ho0 : Kd.R k40 40 w w0.heap.size P0_ u9000_ l0) (h : impl_Cell_65.f l0 a1 a2 = some r) :
  Calls Try.prog 65 #[u9000_, .int .i64 a1, .int .i64 a2] w fun e w' => ∃ v0_ : Value, e = .returned (v0_) ∧ Kd.R k40 40 w' w0.heap.size (fun k_ => (P0_ k_ ∨ w.heap.size ≤ k_)) v0_ r ∧ Below w0.heap.size w0 w' ∧ Kept w w' (fun k_ => P0_ k_) := by
 unfold impl_Cell_65.f at h
 by_cases c : 0 ≤ a1 ∧ a1 ≤ a2 ∧ a2 ≤ (l0.length : Int)
 rotate_left
 ·rw [if_neg c] at h; cases h
 rw [if_pos c] at h
 obtain rfl := Option.some.inj h
 clear h
 obtain ⟨i, rfl⟩ := Int.eq_ofNat_of_zero_le c.1
 obtain ⟨j, rfl⟩ := Int.eq_ofNat_of_zero_le (show 0 ≤ a2 by omega)
 rw [Int.toNat_natCast, Int.toNat_natCast]
 obtain ⟨h0, inner, hown, hreps⟩ := ho0
 have hsz : k40.sz = 7 := rfl
 rw [hsz] at hown hreps
 rcases hown.2 with ⟨rfl, hn⟩ | ⟨g, cap, cur, rfl, hb, hg, hnc, hcm, hcs, htk⟩
 ·have hl : l0 = [] := List.eq_nil_of_length_eq_zero hn
  subst hl
  have hi : i = 0 := by have := c.2.1; have := c.2.2; simp only [List.length_nil] at this; omega
  have hj : j = 0 := by have := c.2.2; simp only [List.length_nil] at this; omega
  subst hi
  subst hj
  refine (del_none w).mono ?_
  rintro e w' ⟨rfl, rfl⟩
  exact ⟨_, rfl, Kd.R_nil _ _ _ _ _, hB, Kept.refl _ _⟩
 ·have hone := reps_one hreps
  refine (del_walk w i j hown hone (by omega) (by omega)).mono ?_
  rintro e w' ⟨rfl, hown', hgr⟩
  have hrl : (l0.take i ++ l0.drop j).length = l0.length - (j - i) := by rw [List.length_append, List.length_take, List.length_drop]; omega
  refine ⟨_, rfl, ⟨fun k hk => .inl (h0 k (by simpa [Value.ownBlock] using hk)), inner.take (i * 7) ++ inner.drop (j * 7), ?_, ?_⟩, ?_, ?_⟩
  ·rw [hrl]; exact hown'
  ·exact reps_flat (ok := fun k => P0_ k ∧ some k ≠ (Value.slice (some ⟨g, 0, none⟩) l0.length cap).ownBlock) (w := w) (base := w0.heap.size) (Kd.reps_append (Kd.reps_take hreps (by omega)) (Kd.reps_drop hreps))
  ·exact Below.grown hB hgr hB.size (fun k hk => by injection hk with hk; omega)
  ·exact Kept.of_grown hgr (Kept.refl _ _) (fun k hk => .inl (h0 k (by injection hk with hk; subst hk; rfl)))
end

/-! ### bits_Mul64: function 91 -/
def bits_Mul64.f (a0 : Int) (a1 : Int) : Option (Int × Int) := some (IntKind.u64.wrap ((IntKind.u64.wrap ((IntKind.u64.wrap ((a0 / 4294967296) * (a1 / 4294967296))) + ((IntKind.u64.wrap ((IntKind.u64.wrap ((a0 / 4294967296) * (Go.bits .and .u64 a1 4294967295))) + ((IntKind.u64.wrap ((Go.bits .and .u64 a0 4294967295) * (Go.bits .and .u64 a1 4294967295))) / 4294967296))) / 4294967296))) + ((IntKind.u64.wrap ((Go.bits .and .u64 (IntKind.u64.wrap ((IntKind.u64.wrap ((a0 / 4294967296) * (Go.bits .and .u64 a1 4294967295))) + ((IntKind.u64.wrap ((Go.bits .and .u64 a0 4294967295) * (Go.bits .and .u64 a1 4294967295))) / 4294967296))) 4294967295) + (IntKind.u64.wrap ((Go.bits .and .u64 a0 4294967295) * (a1 / 4294967296))))) / 4294967296)), IntKind.u64.wrap (a0 * a1))
set_option maxHeartbeats 8000000 in
set_option maxRecDepth 100000 in
theorem bits_Mul64.calls (a0 : Int) (a1 : Int) (r1 : Int) (r2 : Int) (w : World) (h : bits_Mul64.f a0 a1 = some (r1, r2)) :
  Calls Try.prog 91 #[.int .u64 a0, .int .u64 a1] w fun e w' => e = .returned (.tuple #[.int .u64 r1, .int .u64 r2]) ∧ Drawn0 w w' := by
 have H := h
 unfold bits_Mul64.f at H
 clear h
 simp only [Option.some.injEq, Prod.mk.injEq] at H
 obtain ⟨rfl, rfl⟩ := H
 go_enter Try.func91, Try.ntmps91
 go_wp2
 go_ret2
 exact ⟨by first | rfl | (simp; done) | (simp [*]; done), by repeat (first | exact Drawn0.refl _ | apply Drawn0.step)⟩

/-! ### bits_Mul: function 82 -/
def bits_Mul.f (a0 : Int) (a1 : Int) : Option (Int × Int) := (bits_Mul64.f a0 a1).bind fun bt334 => (some (bt334.1, bt334.2))
set_option maxHeartbeats 8000000 in
set_option maxRecDepth 100000 in
theorem bits_Mul.calls (a0 : Int) (a1 : Int) (r1 : Int) (r2 : Int) (w : World) (h : bits_Mul.f a0 a1 = some (r1, r2)) :
  Calls Try.prog 82 #[.int .u64 a0, .int .u64 a1] w fun e w' => e = .returned (.tuple #[.int .u64 r1, .int .u64 r2]) ∧ Drawn0 w w' := by
 have H : ((bits_Mul64.f a0 a1).bind fun bt334 => (some (bt334.1, bt334.2))) = some (r1, r2) := h
 clear h
 replace H := Option.bind_eq_some_iff.mp H
 obtain ⟨⟨t334, t335⟩, A30, H⟩ := H
 replace H : (some (t334, t335)) = some (r1, r2) := H
 have A3 := am A30
 clear A30
 simp only [Option.some.injEq, Prod.mk.injEq] at H
 obtain ⟨rfl, rfl⟩ := H
 go_enter Try.func82, Try.ntmps82
 go_wp2_with (first | ((with_reducible refine gate_callee (f := 91) rfl ?_); refine gl_ (some 25) Try.func91 #[.int .u64 a0, .int .u64 a1] ?_; (with_reducible refine (bits_Mul64.calls a0 a1 t334 t335 _ A3.out).mono ?_); rintro e w' ⟨rfl, ⟨nd, rfl⟩⟩; refine ⟨_, rfl, ?_⟩))
 go_ret2
 exact ⟨by first | rfl | (simp; done) | (simp [*]; done), by repeat (first | exact Drawn0.refl _ | apply Drawn0.step)⟩

end Go.Proofs.Ytfhkpneffmcdbaa.QD
