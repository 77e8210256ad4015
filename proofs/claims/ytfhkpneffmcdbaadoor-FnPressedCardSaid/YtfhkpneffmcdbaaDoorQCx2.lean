/- Contracts of Go functions that laws of this seat reach: each Lean function answers as its Go function does. No condition. Written by wip/tools/inj.py, over the kit's print. -/
import Derived.ArgAppend
import Derived.Test.YtfhkpneffmcdbaaDoorQCx0
namespace Go.Proofs.YtfhkpneffmcdbaaDoor.QC
open Go.RowKit Go.Proofs.YtfhkpneffmcdbaaDoorW.PrintWords Go.Proofs.YtfhkpneffmcdbaaDoorW.PrintLast Go.Proofs.YtfhkpneffmcdbaaDoorW.PrintMore
attribute [local go_sem] max2_int min2_int max_two min_two max_three min_three max_four min_four   -- for this text's walks alone
set_option linter.unusedVariables false
set_option linter.unusedSimpArgs false

/-! ### spec_bytesOf: function 102 -/
namespace Mk
/-- A row of bytes of the call's own, whose block may bear a mark that marks no cell of it ('[]byte(s)'). -/
def R (e : Nat) (w : World) (base : Nat) (ok : Nat → Prop) (v : Value) (xs : List Int) : Prop :=
 (∀ k, v.ownBlock = some k → ok k) ∧
 ((v = .slice none 0 0 ∧ xs = []) ∨
 ∃ g cap cur fz, v = .slice (some ⟨g, 0, none⟩) xs.length cap ∧ base ≤ g ∧ w.heap[g]? = some (.cells cur e fz) ∧ (∀ i, i < cur.size → ¬ (fz.1 ≤ i ∧ i < fz.2)) ∧ xs.length ≤ cap ∧ cap ≤ maxLen ∧ cur.size = cap ∧ cur.toList.take xs.length = nums .u8 xs)
section
variable {e : Nat} {w w1 : World} {base : Nat} {ok ok' : Nat → Prop} {v : Value} {xs : List Int}
theorem of_R (h : (Kd.int .u8).R e w base ok v xs) : R e w base ok v xs := by
 have ho : w.ownsRow base e 1 v xs.length (nums .u8 xs) := Kd.own_of_R h
 refine ⟨h.1, ?_⟩
 rcases ho.2 with ⟨rfl, hn⟩ | ⟨g, cap, cur, rfl, hg, hh, hn, hm, hs, ht⟩
 ·exact .inl ⟨rfl, List.eq_nil_of_length_eq_zero hn⟩
 ·exact .inr ⟨g, cap, cur, (0, 0), rfl, hg, hh, fun i _ q => absurd q.2 (Nat.not_lt_zero _), hn, hm, by rw [hs, Nat.mul_one], by rw [← ht, Nat.mul_one]⟩
theorem R_mono (h : R e w base ok v xs) (hok : ∀ k, ok k → ok' k) : R e w base ok' v xs := ⟨fun k hk => hok k (h.1 k hk), h.2⟩
theorem R_lt (h : R e w base ok v xs) : ∀ k, v.ownBlock = some k → k < w.heap.size := by
 intro k hk
 rcases h.2 with ⟨rfl, _⟩ | ⟨g, cap, cur, fz, rfl, _, hh, _⟩
 ·simp [Value.ownBlock] at hk
 ·have : g = k := by simpa [Value.ownBlock] using hk
  subst this
  exact (Array.getElem?_eq_some_iff.1 hh).1
theorem R_base (h : R e w base ok v xs) : ∀ k, v.ownBlock = some k → base ≤ k := by
 intro k hk
 rcases h.2 with ⟨rfl, _⟩ | ⟨g, cap, cur, fz, rfl, hg, _⟩
 ·simp [Value.ownBlock] at hk
 ·have : g = k := by simpa [Value.ownBlock] using hk
  subst this
  exact hg
theorem R_base2 (h : R e w base ok v xs) : v.ownBlock = none ∨ ∃ k, v.ownBlock = some k ∧ base ≤ k := by
 cases hv : v.ownBlock with
 | none => exact .inl rfl
 | some k => exact .inr ⟨k, rfl, R_base h k hv⟩
theorem R_own_step (h : R e w base ok v xs) (hm : ∀ k, v.ownBlock = some k → k < w.heap.size → w1.heap[k]? = w.heap[k]?) : R e w1 base ok v xs := by
 have hl := R_lt h
 obtain ⟨h0, h⟩ := h
 refine ⟨h0, ?_⟩
 rcases h with h | ⟨g, cap, cur, fz, rfl, hg, hh, r⟩
 ·exact .inl h
 ·exact .inr ⟨g, cap, cur, fz, rfl, hg, (hm g (by simp [Value.ownBlock]) (hl g (by simp [Value.ownBlock]))).trans hh, r⟩
theorem R_step (h : R e w base ok v xs) (hm : ∀ k, ok k → k < w.heap.size → w1.heap[k]? = w.heap[k]?) : R e w1 base ok v xs := R_own_step h (fun k hk hl => hm k (h.1 k hk) hl)
theorem R_below (h : R e w base ok v xs) (hb : Below w.heap.size w w1) : R e w1 base ok v xs := R_step h (fun k _ hk => hb.block k hk)
theorem R_alloc (h : R e w base ok v xs) (o : Obj) : R e (w.alloc o) base ok v xs := R_below h (below_alloc (Below.refl _ _) o)
theorem R_drew (h : R e w base ok v xs) : R e w.drew base ok v xs := R_below h (below_drew (Below.refl _ _))
theorem R_drewN (h : R e w base ok v xs) (m : Nat) : R e (w.drewN m) base ok v xs := R_below h (pw_below_drewN (Below.refl _ _) m)
theorem R_lower {base' : Nat} (h : R e w base ok v xs) (hb : base' ≤ base) : R e w base' ok v xs := by
 obtain ⟨h0, h⟩ := h
 refine ⟨h0, ?_⟩
 rcases h with h | ⟨g, cap, cur, fz, rfl, hg, r⟩
 ·exact .inl h
 ·exact .inr ⟨g, cap, cur, fz, rfl, Nat.le_trans hb hg, r⟩
theorem R_keep (h : R e w base ok v xs) {g : Nat} (hk : KeepBut w w1 g none) (hok : ∀ k, ok k → k ≠ g) : R e w1 base ok v xs := R_step h (fun k ho hlt => hk.2 k hlt (hok k ho) (by simp))
theorem R_far (h : R e w base ok v xs) {p : Addr} (hok : ∀ k, ok k → k ≠ p.block) (u : Value) : R e (w.setCell p u) base ok v xs := R_step h (fun k ho _ => Below.heap_setCell w p u k (hok k ho))
theorem R_elder' {u : Value} (h : R e w base ok v xs) (hbase : ∀ k, u.ownBlock = some k → w.heap.size ≤ k) (hb : Below w.heap.size w w1) : R e w1 base (fun k => ok k ∧ some k ≠ u.ownBlock) v xs := by
 have hl := R_lt h
 refine ⟨fun k hk => ⟨h.1 k hk, fun he => ?_⟩, (R_below h hb).2⟩
 have h1 := hl k hk
 have h2 := hbase k he.symm
 omega
theorem R_new' {u : Value} (h : R e w1 w.heap.size ok v xs) (hlt : ∀ k, u.ownBlock = some k → k < w.heap.size) : R e w1 w.heap.size (fun k => ok k ∧ some k ≠ u.ownBlock) v xs := by
 refine ⟨fun k hk => ⟨h.1 k hk, fun he => ?_⟩, h.2⟩
 have h1 := R_base h k hk
 have h2 := hlt k he.symm
 omega
theorem R_after {W : World} {u v1 : Value} (h : R e W base (fun k => ok k ∧ some k ≠ v.ownBlock) u xs) (hg : W.grownBy w1 v.ownBlock) (hat : v1.ownBlock = v.ownBlock ∨ ∃ b, v1.ownBlock = some b ∧ W.heap.size ≤ b) : R e w1 base (fun k => ok k ∧ some k ≠ v1.ownBlock) u xs := by
 have hl := R_lt h
 have h1 : R e w1 base (fun k => ok k ∧ some k ≠ v.ownBlock) u xs := R_step h (fun k hk hlt => hg.block k hlt hk.2)
 refine ⟨fun k hk => ⟨(h.1 k hk).1, ?_⟩, h1.2⟩
 rcases hat with hat | ⟨b, hb, hle⟩
 ·rw [hat]; exact (h.1 k hk).2
 ·rw [hb]
  intro he
  injection he with he
  have := hl k hk
  omega
theorem R_types (h : R e w base ok v xs) {g t : Nat} {cells : Array Value} (hb : w.heap[g]? = some (.cells cells t (0, 0))) (ht : e ≠ t) : R e w base (fun k => ok k ∧ k ≠ g) v xs := by
 refine ⟨fun k hk => ⟨h.1 k hk, ?_⟩, h.2⟩
 rintro rfl
 rcases h.2 with ⟨rfl, _⟩ | ⟨g', cap, cur, fz, rfl, _, hh, _⟩
 ·simp [Value.ownBlock] at hk
 ·have : g' = k := by simpa [Value.ownBlock] using hk
  subst this
  rw [hh] at hb
  injection hb with hb
  injection hb with _ hb
  exact ht hb
theorem R_ne (h : R e w base ok v xs) {g t : Nat} {cells : Array Value} (hb : w.heap[g]? = some (.cells cells t (0, 0))) (ht : e ≠ t) : some g ≠ v.ownBlock := fun he => (R_types h hb ht).1 g he.symm |>.2 rfl
theorem reads_ {g cap : Nat} {cur : Array Value} {fz : Nat × Nat} (hh : w.heap[g]? = some (.cells cur e fz)) (hn : xs.length ≤ cap) (hm : cap ≤ maxLen) (ht : cur.toList.take xs.length = nums .u8 xs) : (Kd.int .u8).C w (some ⟨g, 0, none⟩) xs.length xs := by
 refine ⟨rfl, Nat.le_trans hn (by simpa [maxLen] using hm), fun _ => ⟨_, rfl, fun j p hp => ⟨[.int .u8 p], rfl, rfl, fun i u hu => ?_⟩⟩⟩
 obtain ⟨hj, rfl⟩ := List.getElem?_eq_some_iff.1 hp
 have hi : i = 0 := by
  have := (List.getElem?_eq_some_iff.1 hu).1
  simp at this
  exact this
 subst hi
 have hu' : Value.int .u8 xs[j] = u := by simpa using hu
 subst hu'
 have ha : (⟨g, 0, none⟩ : Addr).add (j * (Kd.int .u8).sz + 0) = ⟨g, j, none⟩ := by
  have : j * (Kd.int .u8).sz + 0 = j := Nat.mul_one j
  rw [this]
  unfold Addr.add
  split <;> simp_all
 rw [ha, cell_of_row w g j cur e fz hh]
 have h1 : (cur.toList.take xs.length)[j]? = some (.int .u8 xs[j]) := by rw [ht]; simp [nums, List.getElem?_eq_getElem hj]
 rw [List.getElem?_take, if_pos hj] at h1
 simpa using h1
theorem R_reads (h : R e w base ok v xs) : ∃ A c, v = .slice A xs.length c ∧ xs.length ≤ c ∧ (Kd.int .u8).C w A xs.length xs := by
 rcases h.2 with ⟨rfl, rfl⟩ | ⟨g, cap, cur, fz, rfl, _, hh, _, hn, hm, _, ht⟩
 ·exact ⟨none, 0, rfl, Nat.le_refl _, rfl, Nat.zero_le _, fun h => absurd h (Nat.lt_irrefl _)⟩
 ·exact ⟨_, cap, rfl, hn, reads_ hh hn hm ht⟩
theorem R_slice (h : R e w base ok v xs) : ∃ A c, v = .slice A xs.length c := by
 obtain ⟨A, c, he, _⟩ := R_reads h
 exact ⟨A, c, he⟩
theorem R_reads' {A : Option Addr} {n c : Nat} (h : R e w base ok (.slice A n c) xs) : n = xs.length ∧ n ≤ c ∧ (Kd.int .u8).C w A xs.length xs := by
 obtain ⟨A', c', he, hl, hr⟩ := R_reads h
 injection he with h1 h2 h3
 subst h1
 exact ⟨h2, by omega, hr⟩
theorem own_string {P : Program} {src dst e0 : TypeId} (hs : P.underlying src = some (.slice e0)) (he : P.underlying e0 = some (.int .u8)) (hd : P.underlying dst = some .string) (h : R e w base ok v xs) : (convert src dst v).run P w = .ok (.string (strOfNums xs)) w := by
 rcases h.2 with ⟨rfl, rfl⟩ | ⟨g, cap, cur, fz, rfl, _, hh, _, hn, hm, _, ht⟩
 ·exact run_convert_bytes_nil w src e0 hs he 0 0 dst hd
 ·refine run_convert_bytes_arg w src e0 hs he g 0 xs.length cap xs rfl (fun i hi => ?_) dst hd
  rw [cell_of_row w g (0 + i) cur e fz hh, Nat.zero_add]
  have h1 : (cur.toList.take xs.length)[i]? = some (.int .u8 xs[i]) := by rw [ht]; simp [nums, List.getElem?_eq_getElem hi]
  rw [List.getElem?_take, if_pos hi] at h1
  simpa [List.getD_eq_getElem?_getD, List.getElem?_eq_getElem hi] using h1
theorem R_form (h : R e w base ok v xs) (hp : 0 < xs.length) : ∃ g cap, v = .slice (some ⟨g, 0, none⟩) xs.length cap ∧ base ≤ g ∧ g < w.heap.size ∧ ∃ cells, ∃ fz, w.heap[g]? = some (.cells cells e fz) := by
 have hl := R_lt h
 rcases h.2 with ⟨_, rfl⟩ | ⟨g, cap, cur, fz, rfl, hg, hh, _⟩
 ·exact absurd hp (Nat.lt_irrefl _)
 ·exact ⟨g, cap, rfl, hg, hl g (by simp [Value.ownBlock]), cur, fz, hh⟩
theorem R_celln (d : Int) {g n cap : Nat} (h : R e w base ok (.slice (some ⟨g, 0, none⟩) n cap) xs) (i : Int) (h0 : 0 ≤ i) (hi : i < n) : w.cell? ⟨g, i.toNat, none⟩ = some (.int .u8 (rdOf d xs i)) ∧ w.frozen? ⟨g, i.toNat, none⟩ = false := by
 rcases h.2 with ⟨he, _⟩ | ⟨g', cap', cur, fz, he, _, hh, hf, hn, _, hs, ht⟩
 ·cases he
 ·injection he with e1 e2 e3
  injection e1 with e1
  injection e1 with e1 _ _
  subst e1
  have hi' : i.toNat < xs.length := by omega
  refine ⟨?_, ?_⟩
  ·rw [cell_of_row w g i.toNat cur e fz hh]
   have h1 : (cur.toList.take xs.length)[i.toNat]? = some (.int .u8 xs[i.toNat]) := by rw [ht]; simp [nums, List.getElem?_eq_getElem hi']
   rw [List.getElem?_take, if_pos hi'] at h1
   have h2 : rdOf d xs i = xs[i.toNat] := by simp [rdOf, List.getD_eq_getElem?_getD, List.getElem?_eq_getElem hi']
   rw [h2]
   simpa using h1
  ·have h3 := hf i.toNat (by omega)
   unfold World.frozen?
   rw [hh]
   obtain ⟨lo, hi2⟩ := fz
   simp only [Bool.and_eq_false_imp, decide_eq_true_eq, decide_eq_false_iff_not]
   intro h4 h5
   exact h3 ⟨h4, h5⟩
theorem R_putg {g n cap : Nat} (h : R e w base ok (.slice (some ⟨g, 0, none⟩) n cap) xs) (i : Int) (x : Int) : R e (w.setCell ⟨g, i.toNat, none⟩ (.int .u8 x)) base ok (.slice (some ⟨g, 0, none⟩) n cap) (xs.set i.toNat x) ∧ w.grownBy (w.setCell ⟨g, i.toNat, none⟩ (.int .u8 x)) (some g) := by
 refine ⟨⟨h.1, ?_⟩, ⟨rfl, rfl, rfl, (by show w.heap.size ≤ (w.heap.modify _ _).size; rw [Array.size_modify]; exact Nat.le_refl _), fun k _ hk => Below.heap_setCell _ _ _ k (fun e => hk (by rw [e]))⟩⟩
 rcases h.2 with ⟨he, _⟩ | ⟨g', cap', cur, fz, he, hg, hh, hf, hn, hm, hs, ht⟩
 ·cases he
 ·injection he with e1 e2 e3
  injection e1 with e1
  injection e1 with e1 _ _
  subst e1
  subst e2
  subst e3
  refine .inr ⟨g, cap, cur.setIfInBounds i.toNat (.int .u8 x), fz, by rw [List.length_set], hg, ?_, by rw [Array.size_setIfInBounds]; exact hf, by rw [List.length_set]; exact hn, hm, by rw [Array.size_setIfInBounds]; exact hs, ?_⟩
  ·obtain ⟨hlt, hk⟩ := Array.getElem?_eq_some_iff.1 hh
   show (w.heap.modify g _)[g]? = _
   rw [Array.getElem?_eq_getElem (by rw [Array.size_modify]; exact hlt), Array.getElem_modify_self, hk]
   rfl
  ·rw [List.length_set, Array.toList_setIfInBounds, List.take_set, ht]
   simp [nums, List.map_set]
theorem R_take {m n c : Nat} {A : Option Addr} (h : R e w base ok (.slice A n c) xs) (hm : m ≤ xs.length) : R e w base ok (.slice A m c) (xs.take m) := by
 have hb : (Value.slice A m c).ownBlock = (Value.slice A n c).ownBlock := by cases A <;> rfl
 refine ⟨fun k hk => h.1 k (by rw [← hb]; exact hk), ?_⟩
 rcases h.2 with ⟨he, rfl⟩ | ⟨g, cap, cur, fz, he, hg, hh, hf, hn, hmx, hs, ht⟩
 ·injection he with e1 e2 e3
  subst e1
  subst e3
  have : m = 0 := Nat.le_zero.mp hm
  subst this
  exact .inl ⟨rfl, rfl⟩
 ·injection he with e1 e2 e3
  subst e1
  subst e3
  have hl : (xs.take m).length = m := by rw [List.length_take]; omega
  refine .inr ⟨g, c, cur, fz, by rw [hl], hg, hh, hf, by omega, hmx, hs, ?_⟩
  rw [hl]
  have h1 : cur.toList.take m = (cur.toList.take xs.length).take m := by rw [List.take_take, Nat.min_eq_left hm]
  rw [h1, ht]
  simp [nums, List.map_take]
end
section
variable {P : Program} {ops : Array Oper} {rest : List Oper} {o : Oper} {a : Act} {Q : Exit → Act → World → Prop}
theorem new_R {W : World} {e : Nat} {s : ByteArray} (hz : s.size ≤ 140737488355328) : R e (Lib.bytesWorld W e s) W.heap.size (fun _ => True) (.slice (some ⟨W.heap.size, 0, none⟩) s.size (grownCap W s.size 0 e)) (bytesOf s) := by
 have hge := grownCap_ge W s.size 0 e
 have hcm := grownCap_le_maxLen W s.size 0 e (by simp only [maxLen]; omega)
 have hcs : (Lib.bytesCells W e s).size = grownCap W s.size 0 e := by
  have hd : s.data.size = s.size := rfl
  simp only [Lib.bytesCells, Array.size_append, Array.size_map, Array.size_replicate, hd]
  omega
 refine ⟨fun _ _ => trivial, .inr ⟨W.heap.size, grownCap W s.size 0 e, Lib.bytesCells W e s, _, by rw [bytesOf_length], Nat.le_refl _, Lib.bytesWorld_at_new W e s, fun i hi q => ?_, by rw [bytesOf_length]; exact hge, hcm, hcs, ?_⟩⟩
 ·simp only at q; omega
 ·rw [bytesOf_length]
  unfold Lib.bytesCells nums bytesOf
  rw [Array.toList_append, Array.toList_map, List.take_append_of_le_length (by simp), List.take_of_length_le (by simp), List.map_map]
  rfl
theorem conv_event {W : World} (hgd : o.guard = none) {N : Tmp} (_hd : o.dst = some N) {src dst e : Nat} {x : Operand} {s : ByteArray} (ho : o.op = .convert src dst x) (hs : P.underlying src = some .string) (hd : P.underlying dst = some (.slice e)) (he : P.underlying e = some (.int .u8)) (hx : a.eval x = .string s) (hz : s.size ≤ 140737488355328)
  (h : ∀ v w1, R e w1 W.heap.size (fun _ => True) v (bytesOf s) → Below W.heap.size W w1 → wpList P ops Q rest (a.put o.dst v) w1) : wpList P ops Q (o :: rest) a W := by
 have hrun : (execOp a.eval o).run P W = .ok (.value (.slice (some ⟨W.heap.size, 0, none⟩) s.size (grownCap W s.size 0 e))) (Lib.bytesWorld W e s) := by
  unfold execOp
  simp [ho, hx, Lib.run_convert_string_bytes W src dst e s hs hd he]
 refine Kd.event_run hgd hrun (h _ _ (new_R hz) ?_)
 exact ⟨rfl, rfl, rfl, by rw [Lib.bytesWorld_size]; omega, fun k hk => Lib.bytesWorld_at_old W e s k hk⟩
theorem R_append (_d : Kd Int) {w0 W : World} (base : Nat) (hgd : o.guard = none) (s x : Operand) (t e : TypeId) (z : Value) (bytes : Nat)
  (ho : o.op = .call { callee := .builtin .append, args := #[s, x], argTypes := #[t, t] })
  (ht : P.underlying t = some (.slice e)) (hinfo : (P.info? e).map (fun i => (i.zero, i.size, i.bytes)) = some (some z, 1, bytes)) (hz : z.cells.size = 1) (hs0 : 0 < 1) (hb0 : 0 < bytes)
  (v : Value) (xs : List Int) (p : Int) (cs : List Value) (ok okp : Nat → Prop) (hs : a.eval s = v) (hx : a.eval x = .slice (some ⟨W.heap.size, 0, none⟩) 1 1) (hp : (Kd.int .u8).M W base okp p cs) (hokp : ∀ k, okp k → ok k ∧ some k ≠ v.ownBlock) (hfresh : ∀ k, W.heap.size ≤ k → ok k)
  (HO : R e W base ok v xs) (HB : Below base w0 W) (hbase : base ≤ W.heap.size) (hl : (xs.length + 1) * bytes ≤ 140737488355328)
  (h : ∀ v1 w1, R e w1 base ok v1 (xs ++ [p]) → Below base w0 w1 → W.grownBy w1 v.ownBlock → (v1.ownBlock = v.ownBlock ∨ ∃ b, v1.ownBlock = some b ∧ W.heap.size ≤ b) → wpList P ops Q rest (a.put o.dst v1) w1) :
  wpList P ops Q (o :: rest) a (W.alloc (.cells cs.toArray e)) := by
 obtain rfl : cs = [.int .u8 p] := hp
 obtain ⟨h0, hrow⟩ := HO
 rcases hrow with ⟨rfl, rfl⟩ | ⟨g, cap, cur, fz, rfl, hbg, hg, hfz, hn, hcm, hcs, htake⟩
 ·refine Kd.R_append (Kd.int .u8) (w0 := w0) base hgd s x t e z bytes ho ht hinfo hz hs0 hb0 _ [] p _ ok okp hs hx (show (Kd.int .u8).M W base okp p [.int .u8 p] from rfl) hokp hfresh (Kd.R_nil _ _ _ _ _) HB hbase hl ?_
  intro v1 w1 h1 h2 h3 h4
  exact h v1 w1 (of_R h1) h2 h3 h4
 ·obtain ⟨i0, hi, hzz⟩ := Option.map_eq_some_iff.1 hinfo
  simp only [Prod.mk.injEq] at hzz
  obtain ⟨hz0, hz1, hz2⟩ := hzz
  have hlen : xs.length + 1 ≤ 140737488355328 := Nat.le_trans (Nat.le_mul_of_pos_right _ hb0) hl
  have hgl : g < W.heap.size := (Array.getElem?_eq_some_iff.1 hg).1
  have hga : (W.alloc (.cells [Value.int .u8 p].toArray e)).heap[g]? = some (.cells cur e fz) := (heap_alloc_old W _ hgl).trans hg
  have hnews : ∀ j u, [Value.int .u8 p][j]? = some u → (W.alloc (.cells [Value.int .u8 p].toArray e)).cell? ((⟨W.heap.size, 0, none⟩ : Addr).add j) = some u := by
   simpa using World.news_of_block (cs := #[Value.int .u8 p]) (t := e) (fr := (0, 0)) (heap_alloc_new W (.cells #[Value.int .u8 p] e))
  have h1 : ∀ u ∈ [Value.int .u8 p], u.oneCell' = true := by intro u hu; rw [List.mem_singleton.1 hu]; rfl
  by_cases hroom : xs.length + 1 ≤ cap
  ·have hadd : ∀ j, j < [Value.int .u8 p].length → j = 0 := by intro j hj; simp at hj; exact hj
   have hr := run_append_room_cells (P := P) (W.alloc (.cells [Value.int .u8 p].toArray e)) t o.type e i0 ht hi g 0 xs.length cap ⟨W.heap.size, 0, none⟩ 1 1 [Value.int .u8 p] (by rw [hz1]; rfl) hnews h1 hroom
    (fun j hj => by
     obtain rfl := hadd j hj
     rw [hz1, Nat.mul_one, Nat.zero_add, Nat.add_zero, cell_of_row _ g xs.length cur e fz hga]
     simp; omega)
    (fun j hj => by
     obtain rfl := hadd j hj
     rw [hz1, Nat.mul_one, Nat.zero_add, Nat.add_zero]
     have q := hfz xs.length (by omega)
     simp only [World.frozen?, hga, Bool.and_eq_false_iff, decide_eq_false_iff_not]
     omega)
   rw [hz1, Nat.mul_one, Nat.zero_add] at hr
   have hset : ((W.alloc (.cells [Value.int .u8 p].toArray e)).setCells g xs.length [Value.int .u8 p]) = (W.alloc (.cells [Value.int .u8 p].toArray e)).setCell ⟨g, xs.length, none⟩ (.int .u8 p) := rfl
   rw [hset] at hr
   have hne : ∀ k, k ≠ g → ((W.alloc (.cells [Value.int .u8 p].toArray e)).setCell ⟨g, xs.length, none⟩ (.int .u8 p)).heap[k]? = (W.alloc (.cells [Value.int .u8 p].toArray e)).heap[k]? := fun k hk => Below.heap_setCell _ ⟨g, xs.length, none⟩ _ k hk
   have hat : ((W.alloc (.cells [Value.int .u8 p].toArray e)).setCell ⟨g, xs.length, none⟩ (.int .u8 p)).heap[g]? = some (.cells (cur.setIfInBounds xs.length (.int .u8 p)) e fz) := by
    simp [World.setCell, Array.getElem?_modify, hga]
   refine wpList_plain hgd fun K hK => ?_
   unfold Oper.wp execOp
   simp only [ho, resolve, invoke, builtin, Sem.run_bind, Sem.run_pure, Result.andThen_ok, List.map_toArray, List.map_cons, List.map_nil, hs, hx, hr]
   refine hK _ _ (h _ _ ⟨fun k hk => h0 k (by simpa [Value.ownBlock] using hk), .inr ⟨g, cap, _, fz, by rw [List.length_append]; rfl, hbg, hat, fun i hi => hfz i (by simpa using hi), by rw [List.length_append]; exact hroom, hcm, by simpa using hcs, ?_⟩⟩ ?_ ?_ (.inl rfl))
   ·have e1 : nums .u8 (xs ++ [p]) = nums .u8 xs ++ [.int .u8 p] := by simp [nums]
    have hcl : cur.toList.length = cap := by rw [Array.length_toList]; exact hcs
    have htl : (cur.toList.take xs.length).length = xs.length := by rw [List.length_take]; omega
    rw [e1, ← htake, List.length_append, List.length_singleton, Array.toList_setIfInBounds, List.take_set, List.take_succ_eq_append_getElem (by omega), List.set_append_right _ _ (by omega), htl, Nat.sub_self]
    rfl
   ·have hb1 := HB.alloc hbase (.cells [Value.int .u8 p].toArray e)
    exact ⟨hb1.os, hb1.tape, hb1.output, by simpa [World.setCell] using hb1.size, fun k hk => (hne k (by omega)).trans (hb1.block k hk)⟩
   ·refine ⟨rfl, rfl, rfl, by simp [World.setCell], fun k hk hkg => ?_⟩
    rw [hne k (fun e => hkg (by simp [Value.ownBlock, e]))]
    exact heap_alloc_old W _ hk
  ·have holds : ∀ j u, (nums .u8 xs)[j]? = some u → (W.alloc (.cells [Value.int .u8 p].toArray e)).cell? ((⟨g, 0, none⟩ : Addr).add j) = some u := by
    intro j u hu
    have ha : (⟨g, 0, none⟩ : Addr).add j = ⟨g, j, none⟩ := by unfold Addr.add; split <;> simp_all
    rw [ha, cell_of_row _ g j cur e fz hga]
    rw [← htake, List.getElem?_take] at hu
    split at hu
    ·simpa using hu
    ·cases hu
   obtain ⟨v', w', hr, hown, hgr⟩ := run_append_arg_grows (P := P) (W.alloc (.cells [Value.int .u8 p].toArray e)) t o.type e i0 z 1 bytes ht hi hz0 hz1 hz2 hz hs0 ⟨g, 0, none⟩ xs.length cap (nums .u8 xs) (by simp [nums]) holds ⟨W.heap.size, 0, none⟩ 1 1 [Value.int .u8 p] (by rfl) hnews (by omega) (by simp only [maxLen]; omega) hl
   refine wpList_plain hgd fun K hK => ?_
   unfold Oper.wp execOp
   simp only [ho, resolve, invoke, builtin, Sem.run_bind, Sem.run_pure, Result.andThen_ok, List.map_toArray, List.map_cons, List.map_nil, hs, hx, hr]
   have e1 : nums .u8 xs ++ [.int .u8 p] = nums .u8 (xs ++ [p]) := by simp [nums]
   have e2 : xs.length + 1 = (xs ++ [p]).length := by simp
   rw [e1, e2] at hown
   have hbl : ∀ k, v'.ownBlock = some k → W.heap.size ≤ k := fun k hk => by have := own_base hown k hk; simp at this; omega
   have hR : (Kd.int .u8).R e w' base ok v' (xs ++ [p]) := Kd.R_lower (Kd.R_of_own hown (fun k hk => hfresh k (hbl k hk))) (by simp; omega)
   refine hK _ _ (h _ _ (of_R hR) ?_ ?_ ?_)
   ·exact (HB.alloc hbase _).grown hgr (by simp; omega) (fun k hk => by cases hk)
   ·exact World.grownBy.trans (World.grownBy_alloc W _ _) ⟨hgr.os, hgr.tape, hgr.output, hgr.size, fun k hk _ => hgr.block k hk (by simp)⟩
   ·cases hv : v'.ownBlock with
    | none =>
     have hpos := hown
     rcases hown.2 with ⟨rfl, hn0⟩ | ⟨g1, _, _, rfl, _⟩
     ·simp at hn0
     ·simp [Value.ownBlock] at hv
    | some k => exact .inr ⟨k, rfl, hbl k hv⟩
end
end Mk
def spec_bytesOf.f (a0 : ByteArray) : Option (List Int) := if a0.size ≤ 140737488355328 then some (bytesOf a0) else none
theorem spec_bytesOf.size {a0 : ByteArray} {r : List Int} (h : spec_bytesOf.f a0 = some r) : a0.size ≤ 140737488355328 := by
 unfold spec_bytesOf.f at h
 by_cases c : a0.size ≤ 140737488355328
 ·exact c
 ·rw [if_neg c] at h; cases h
theorem spec_bytesOf.is {a0 : ByteArray} {r : List Int} (h : spec_bytesOf.f a0 = some r) : bytesOf a0 = r := by
 have c := spec_bytesOf.size h
 unfold spec_bytesOf.f at h
 rw [if_pos c] at h
 exact Option.some.inj h

/-! ### laws_big: function 7 -/
def laws_big.f (l0 : List Int) : Option (Bool) := some (decide ((l0.length : Int) > 4096))
set_option maxHeartbeats 8000000 in
set_option maxRecDepth 100000 in
theorem laws_big.calls (A0 : Option Addr) (c0 : Nat) (l0 : List Int) (r : Bool) (w : World) (hr0 : Kd.C (Kd.int .u8) w A0 l0.length l0) (hc0 : l0.length ≤ c0) (h : laws_big.f l0 = some r) :
  Calls Tryd.prog 7 #[.slice A0 l0.length c0] w fun e w' => e = .returned (.bool r) ∧ Drawn0 w w' := by
 have HR0 := am hr0
 have HC0 := am hc0
 clear hr0 hc0
 have H : (some (decide ((l0.length : Int) > 4096))) = some r := h
 clear h
 obtain rfl := Option.some.inj H
 go_enter Tryd.func7, Tryd.ntmps7
 go_wp2
 go_ret
 exact ⟨by first | rfl | (simp; done) | (simp [*]; done), by repeat (first | exact Drawn0.refl _ | apply Drawn0.step)⟩

end Go.Proofs.YtfhkpneffmcdbaaDoor.QC
