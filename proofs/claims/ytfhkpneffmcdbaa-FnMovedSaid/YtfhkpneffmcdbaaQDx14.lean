/- Contracts of Go functions that laws of this seat reach: each Lean function answers as its Go function does. No condition. Written by wip/tools/inj.py, over the kit's print. -/
import Derived.Test.YtfhkpneffmcdbaaQDx0
import Derived.Test.YtfhkpneffmcdbaaQDx11
import Derived.Test.YtfhkpneffmcdbaaQDx12
import Derived.Test.YtfhkpneffmcdbaaQDx13
namespace Go.Proofs.Ytfhkpneffmcdbaa.QD
open Go.RowKit Go.Proofs.YtfhkpneffmcdbaaW.PrintWords Go.Proofs.YtfhkpneffmcdbaaW.PrintLast Go.Proofs.YtfhkpneffmcdbaaW.PrintMore
attribute [local go_sem] max2_int min2_int max_two min_two max_three min_three max_four min_four   -- for this text's walks alone
set_option linter.unusedVariables false
set_option linter.unusedSimpArgs false

/-! ### impl_Cell_66: function 66 -/
theorem rep_copy {P : Program} {w : World} {o : Oper} {a : Act} {K : Act → World → Prop} {Q : Exit → Act → World → Prop} (d s : Operand) (dT sT : TypeId)
  (ho : o.op = .call { callee := .builtin .copy, args := #[d, s], argTypes := #[dT, sT] }) (elem : TypeId) (hu : P.underlying dT = some (.slice elem)) (sz : Nat) (hsz : (P.info? elem).map (·.size) = some sz)
  (g off dLen dCap : Nat) (ad : Addr) (sLen sCap : Nat) (hd : a.eval d = .slice (some ⟨g, off, none⟩) dLen dCap) (hs : a.eval s = .slice (some ad) sLen sCap)
  (cur : List Value) (t : TypeId) (hg : w.heap[g]? = some (.cells cur.toArray t (0, 0))) (cs : List Value) (m : Nat) (hm : m = Nat.min sLen dLen) (hn : cs.length = m * sz)
  (hsrc : ∀ j v, cs[j]? = some v → w.cell? (ad.add j) = some v) (hfit : off + cs.length ≤ cur.length) (h1 : ∀ v ∈ cs, v.oneCell' = true)
  (h : ∀ w', w' = w.setRow g (cur.take off ++ cs ++ cur.drop (off + cs.length)).toArray → K (a.put o.dst (goInt m)) w') : o.wp P a w K Q := by
 have hl := run_loadCells_list (P := P) w ad cs hsrc
 have hst := run_storeCells_at P g off t cs 0 cur.toArray w hg (by simpa using hfit) h1
 have hrun : (Builtin.copy_ #[dT, sT] o.type #[.slice (some ⟨g, off, none⟩) dLen dCap, .slice (some ad) sLen sCap]).run P w = .ok (goInt m) (w.setRow g (cur.take off ++ cs ++ cur.drop (off + cs.length)).toArray) := by
  cases hq : P.info? elem with
  | none => simp [hq] at hsz
  | some i =>
   have hi : i.size = sz := by simpa [hq] using hsz
   simp only [Nat.add_zero, List.append_assoc] at hst
   simp [Builtin.copy_, run_underlying hu, Builtin.lenOf, Builtin.firstCells, sizeOf, typeInfo, hq, hi, ← hm, ← hn, hl, hst]
 unfold Oper.wp
 simp [execOp, ho, resolve, invoke, builtin, hd, hs, hrun, Result.andThen]
 have := h _ rfl
 simp only [List.append_assoc] at this
 exact this
def rep_ (c : List Value) (k : Nat) : List Value := (List.replicate k c).flatten
theorem rep_len (c : List Value) (k : Nat) : (rep_ c k).length = k * c.length := by simp [rep_]
theorem rep_add (c : List Value) (a b : Nat) : rep_ c a ++ rep_ c b = rep_ c (a + b) := by unfold rep_; rw [← List.flatten_append, List.replicate_append_replicate]
theorem rep_mem {c : List Value} {k : Nat} {v : Value} (h : v ∈ rep_ c k) : v ∈ c := by
 simp only [rep_, List.mem_flatten] at h
 obtain ⟨l, hl, hv⟩ := h
 rwa [(List.mem_replicate.mp hl).2] at hv
theorem rep_reps {α : Type} {R : α → List Value → Prop} {c : List Value} {x : α} {size : Nat} (hc : c.length = size) (h : R x c) : ∀ k, Reps R size (List.replicate k x) (rep_ c k)
 | 0 => Reps.none _ _
 | k + 1 => by
  have := Reps.snoc (rep_reps hc h k) h hc
  rw [show List.replicate (k + 1) x = List.replicate k x ++ [x] by rw [List.replicate_succ'], ← rep_add c k 1]
  simpa [rep_] using this
theorem rep_make {P : Program} {w0 w : World} {ops : Array Oper} {rest : List Oper} {o : Oper} {a : Act} {Q : Exit → Act → World → Prop} (hgd : o.guard = none) (t : TypeId) (x y : Operand) (ho : o.op = .makeSlice t x y)
  (m : Nat) (hx : a.eval x = .int .i64 (m : Int)) (hy : a.eval y = .int .i64 (m : Int)) (e : TypeId) (ht : P.underlying t = some (.slice e)) (z : Value) (sz bytes : Nat)
  (hinfo : (P.info? e).map (fun i => (i.zero, i.size, i.bytes)) = some (some z, sz, bytes)) (hl : m * bytes ≤ 281474976710656) (hm : m ≤ 9223372036854775807) (HB : Below w0.heap.size w0 w)
  (h : ∀ (g : Nat) (w1 : World) (Z : List Value), Z.length = m * sz → w0.heap.size ≤ g → w1.heap[g]? = some (.cells Z.toArray e (0, 0)) → Below w0.heap.size w0 w1 → wpList P ops Q rest (a.put o.dst (.slice (some ⟨g, 0, none⟩) m m)) w1) : wpList P ops Q (o :: rest) a w := by
 obtain ⟨i0, hi, hzz⟩ := Option.map_eq_some_iff.1 hinfo
 simp only [Prod.mk.injEq] at hzz
 obtain ⟨hz0, hz1, hz2⟩ := hzz
 have hr := run_make (P := P) w t e i0 z ht hi hz0 .i64 .i64 (m : Int) (m : Int) (by omega) (by omega)
  (by
   have h3 : ((i0.bytes * m : Nat) : Int) ≤ 281474976710656 := by rw [hz2, Nat.mul_comm]; omega
   rwa [Int.natCast_mul] at h3) (by omega)
 simp only [Int.toNat_natCast] at hr
 rw [hz1] at hr
 refine wpList_plain hgd fun K hK => ?_
 unfold Oper.wp
 simp [execOp, ho, hx, hy, hr, Result.andThen]
 refine hK _ _ (h w.heap.size _ (madeCells z.cells (m * sz)).toList ?_ HB.size ?_ (HB.alloc HB.size _))
 ·rw [Array.length_toList, size_madeCells]
 ·rw [Array.toArray_toList]; exact heap_alloc_new w _
theorem rep_step {P : Program} {w0 w : World} {o : Oper} {a : Act} {K : Act → World → Prop} {Q : Exit → Act → World → Prop} (d s : Operand) (dT sT : TypeId)
  (ho : o.op = .call { callee := .builtin .copy, args := #[d, s], argTypes := #[dT, sT] }) (elem : TypeId) (hu : P.underlying dT = some (.slice elem)) (sz : Nat) (hsz : (P.info? elem).map (·.size) = some sz)
  (c : List Value) (hc : c.length = sz) (h1 : ∀ v ∈ c, v.oneCell' = true) (m k j : Nat) (Z : List Value) (hZ : Z.length = (m - k) * sz) (hkj : k + j ≤ m)
  (g off dLen dCap : Nat) (ad : Addr) (sLen sCap : Nat) (hoff : off = k * sz) (hm : j = Nat.min sLen dLen) (hd : a.eval d = .slice (some ⟨g, off, none⟩) dLen dCap) (hs : a.eval s = .slice (some ad) sLen sCap)
  (t : TypeId) (hg : w.heap[g]? = some (.cells (rep_ c k ++ Z).toArray t (0, 0))) (hB : Below w0.heap.size w0 w) (hgw : w0.heap.size ≤ g)
  (hsrc : ∀ i v, (rep_ c j)[i]? = some v → w.cell? (ad.add i) = some v)
  (h : ∀ (w1 : World) (Z1 : List Value), Z1.length = (m - (k + j)) * sz → w1.heap[g]? = some (.cells (rep_ c (k + j) ++ Z1).toArray t (0, 0)) → Below w0.heap.size w0 w1 → K (a.put o.dst (goInt j)) w1) : o.wp P a w K Q := by
 have hl : (rep_ c j).length = j * sz := by rw [rep_len, hc]
 have hlk : (rep_ c k).length = k * sz := by rw [rep_len, hc]
 have hjk : j * sz ≤ (m - k) * sz := Nat.mul_le_mul_right _ (by omega)
 refine rep_copy d s dT sT ho elem hu sz hsz g off dLen dCap ad sLen sCap hd hs (rep_ c k ++ Z) t hg (rep_ c j) j hm hl hsrc (by rw [List.length_append, hlk, hoff, hl, hZ]; omega) (fun v hv => h1 v (rep_mem hv)) ?_
 rintro w1 rfl
 have e : (rep_ c k ++ Z).take off ++ rep_ c j ++ (rep_ c k ++ Z).drop (off + (rep_ c j).length) = rep_ c (k + j) ++ Z.drop (j * sz) := by
  rw [hoff, hl, ← hlk, List.take_left, List.drop_append, rep_add]
  simp
 rw [e]
 refine h _ (Z.drop (j * sz)) ?_ (setRow_heap w g _ _ t _ hg) (hB.trans ⟨rfl, rfl, rfl, by simp [World.setRow], fun k hk => setRow_other w g k _ (by omega)⟩)
 rw [List.length_drop, hZ, ← Nat.sub_mul, Nat.sub_sub]
theorem rep_step_on {P : Program} {w : World} {ops : Array Oper} {o : Oper} {a : Act} {K : Act → World → Prop} {Q : Exit → Act → World → Prop} {E : Prop} (hgd : o.guard = none) (h : o.wp P a w K Q) :
  if Region.wanted o (yielded ops a.tmps) = true then Oper.wp P o a w K Q else E := by
 have hw : Region.wanted o (yielded ops a.tmps) = true := by simp [Region.wanted, hgd]
 rw [if_pos hw]
 exact h
theorem rep_src {w : World} {g t : Nat} {c Z : List Value} {k j i : Nat} {v : Value} (hg : w.heap[g]? = some (.cells (rep_ c k ++ Z).toArray t (0, 0))) (hj : j ≤ k) (hv : (rep_ c j)[i]? = some v) : w.cell? ((⟨g, 0, none⟩ : Addr).add i) = some v := by
 rw [add_plain]
 obtain ⟨q, rfl⟩ : ∃ q, k = j + q := ⟨k - j, by omega⟩
 rw [← rep_add, List.append_assoc] at hg
 have hi : i < (rep_ c j).length := (List.getElem?_eq_some_iff.1 hv).1
 have h2 : (rep_ c j ++ (rep_ c q ++ Z))[i]? = some v := by rw [List.getElem?_append_left hi]; exact hv
 rw [cell_of_row w g i _ t (0, 0) hg]
 simpa using h2
theorem rep_R {α : Type} {d : Kd α} {e : Nat} {w : World} {base g m : Nat} {c Z : List Value} {x : α} (hc : c.length = d.sz) (hM : ∀ ok, d.M w base ok x c) (hZ : Z.length = (m - m) * d.sz) (hm : m ≤ maxLen) (hg : base ≤ g)
  (hG : w.heap[g]? = some (.cells (rep_ c m ++ Z).toArray e (0, 0))) : d.R e w base (fun _ => True) (.slice (some ⟨g, 0, none⟩) m m) (List.replicate m x) := by
 obtain rfl : Z = [] := List.eq_nil_of_length_eq_zero (by rw [hZ]; simp)
 rw [List.append_nil] at hG
 have hl : (rep_ c m).length = m * d.sz := by rw [rep_len, hc]
 refine ⟨fun _ _ => trivial, rep_ c m, ⟨by rw [hl, List.length_replicate], .inr ⟨g, m, (rep_ c m).toArray, by rw [List.length_replicate], hg, hG, by rw [List.length_replicate]; exact Nat.le_refl _, hm, by rw [List.size_toArray, hl], ?_⟩⟩, rep_reps hc (hM _) m⟩
 rw [List.toList_toArray, List.length_replicate, ← hl, List.take_length]
theorem rep_wrap {n : Int} (h : 0 ≤ n ∧ n ≤ 100000) : wrap64 n = n := by unfold wrap64; omega
theorem rep_mul (m : Nat) (hm : m ≤ 1000) : bits_Mul.f 1 (m : Int) = some (0, (m : Int)) := by
 have w1 : ∀ n : Int, IntKind.u64.wrap n = n % 18446744073709551616 := fun n => by simp [IntKind.wrap, IntKind.bits, IntKind.signed]
 have hb : ∀ n : Int, 0 ≤ n → n < 4294967296 → Go.bits .and .u64 n 4294967295 = n := by
  intro n h0 hn
  have := bits_mask .u64 32 (by decide) (fun n h0 h1 => by rw [w1]; omega) 32 (Nat.le_refl _) n h0 (by omega)
  refine Eq.trans this ?_
  omega
 have b1 := hb 1 (by omega) (by omega)
 have b2 := hb (m : Int) (by omega) (by omega)
 have b0 := hb 0 (by omega) (by omega)
 have d0 : (m : Int) / 4294967296 = 0 := by omega
 have d1 : (1 : Int) / 4294967296 = 0 := by omega
 have d2 : (m : Int) % 18446744073709551616 = (m : Int) := by omega
 unfold bits_Mul.f bits_Mul64.f
 simp only [b1, b2, w1, d0, d1, Int.one_mul, Int.zero_mul, Int.mul_zero, Int.zero_emod, Int.add_zero, d2, Int.zero_ediv, b0, Option.bind_some]
def impl_Cell_66.f (l0 : List (S40)) (a1 : Int) : Option (List (S40)) := if l0.length = 1 ∧ 0 ≤ a1 ∧ a1 ≤ 1000 then some (List.replicate a1.toNat (rd_T40 l0 0)) else none
set_option maxHeartbeats 8000000 in
set_option maxRecDepth 100000 in
theorem impl_Cell_66.calls (A0 : Option Addr) (c0 : Nat) (l0 : List (S40)) (a1 : Int) (r : List (S40)) (w : World) (hr0 : Kd.C k40 w A0 l0.length l0) (hc0 : l0.length ≤ c0) (h : impl_Cell_66.f l0 a1 = some r) :
  Calls Try.prog 66 #[.slice A0 l0.length c0, .int .i64 a1] w fun e w' => ∃ v0_ : Value, e = .returned (v0_) ∧ Kd.R k40 40 w' w.heap.size (fun _ => True) v0_ r ∧ Below w.heap.size w w' := by
 unfold impl_Cell_66.f at h
 by_cases hc : l0.length = 1 ∧ 0 ≤ a1 ∧ a1 ≤ 1000
 ·rw [if_pos hc] at h
  obtain rfl := Option.some.inj h
  clear h
  obtain ⟨hl, h0, h1⟩ := hc
  obtain ⟨m, rfl⟩ := Int.eq_ofNat_of_zero_le h0
  have hm : m ≤ 1000 := by omega
  obtain ⟨ad, cx, hA, hcl, hK, hcx⟩ := Kd.C_get hr0 z40 0 (Int.le_refl 0) (by omega)
  obtain ⟨x, hx⟩ : ∃ x, x = rd_T40 l0 0 := ⟨_, rfl⟩
  rw [show l0.getD (0 : Int).toNat z40 = rd_T40 l0 0 from rfl, ← hx] at hK
  rw [← hx]
  clear hr0
  rw [hl] at hc0
  simp only [hl]
  clear hx hl
  have hM : ∀ (w : World) (b : Nat) (ok : Nat → Prop), k40.M w b ok x cx := by rw [k40_open hK]; exact fun w b ok => k40_mkM w b ok x
  have hone : ∀ v ∈ cx, v.oneCell' = true := k40.K_one hK
  clear hK
  obtain ⟨cs, hcs⟩ : ∃ cs, cs = cx := ⟨_, rfl⟩
  rw [← hcs] at hcx hcl hM hone
  clear hcs
  have hL : cs.length = 7 := hcl
  subst hA
  have huT : Try.prog.underlying 26 = some (.slice 40) := by kernel_rfl
  have hiE : (Try.prog.info? 40).map (·.size) = some 7 := by kernel_rfl
  have c1 : decide ((m : Int) < 0) = false := decide_eq_false (by omega)
  have q1 : IntKind.u64.wrap 1 = 1 := by decide
  have q2 : IntKind.u64.wrap (m : Int) = (m : Int) := by unfold IntKind.wrap; simp [IntKind.bits, IntKind.signed]; omega
  have hsrc1 : ∀ j, j ≤ 1 → ∀ i v, (rep_ cs j)[i]? = some v → w.cell? (ad.add i) = some v := by
   intro j hj i v hv
   have hh : cs[i]? = some v := by
    rcases (show j = 0 ∨ j = 1 by omega) with rfl | rfl
    ·simp [rep_] at hv
    ·simpa [rep_] using hv
   have := hcx i v hh
   rwa [show Int.toNat 0 * k40.sz + i = i by simp] at this
  have hmul := rep_mul m hm
  go_enter Try.func66, Try.ntmps66
  go_wp2_with (first
   | ((with_reducible refine gate_callee (f := 82) rfl ?_); refine goesL_ (some 18) rfl rfl Try.func82 (by kernel_rfl) rfl #[.int .u64 1, .int .u64 (m : Int)] rfl (by (try simp only [List.map_toArray, List.map_cons, List.map_nil]); first | done | rfl | (go_simp; done) | (simp [q1, q2]; done)) ?_; (with_reducible refine (bits_Mul.calls 1 (m : Int) 0 (m : Int) _ hmul).mono ?_); rintro e w' ⟨rfl, ⟨nd, rfl⟩⟩; refine ⟨_, rfl, ?_⟩)
   | ((with_reducible refine gate_dst (N := 30) rfl ?_); refine rep_make (w0 := w) rfl 26 (.tmp 29) (.tmp 29) rfl m ?hx ?hy 40 huT (.agg #[(.int .i64 0), (.int .i64 0), (.int .i64 0), (.bool false), (.bool false), (.bool false), (.int .i64 0)]) 7 40 (by kernel_rfl) (by omega) (by omega) (by repeat (first | exact Below.refl _ _ | apply b1 | apply b2 | apply b3)) ?_; (case hx => first | (go_simp; done) | (go_simp; rfl)); (case hy => first | (go_simp; done) | (go_simp; rfl)); intro g w1 Z hZ hg hG HB; have HG := am hG; have HBB := am HB; have HGE := am hg; have HZ := am hZ; clear hG HB hg hZ)
   | ((with_reducible refine gate_dst (N := 33) rfl ?_); refine wpList_plain rfl fun K_ hK_ => rep_step (w0 := w) (.tmp 31) (.tmp 32) 26 26 rfl 40 huT 7 hiE cs hL hone m 0 (Nat.min 1 m) Z (by rw [HZ.out]; rfl) (by rw [Nat.zero_add]; exact Nat.min_le_right _ _) g 0 m m ad 1 c0 (Nat.zero_mul _).symm rfl ?hd ?hs 40 HG.out HBB.out HGE.out (fun i v hv => pw_cell_below HBB.out (hsrc1 _ (Nat.min_le_left _ _) i v hv)) ?_; (case hd => first | (go_simp; done) | (go_simp; rfl)); (case hs => first | (go_simp; done) | (go_simp; rfl)); intro w2 Z2 hZ hG HB; refine hK_ _ _ ?_; have HG2 := am hG; have HBB2 := am HB; have HZ2 := am hZ; clear hG HB hZ HG HBB HZ))
  go_loopg [8] m (fun gk v8 wr => ∃ (k : Nat) (Z3 : List Value), v8 = .int .i64 (k : Int) ∧ Aside0 (k ≤ m ∧ m - k ≤ gk ∧ (m = 0 ∨ 1 ≤ k) ∧ Z3.length = (m - k) * 7) ∧ Aside0 (wr.heap[g]? = some (.cells (rep_ cs k ++ Z3).toArray 40 (0, 0))) ∧ Aside0 (Below w.heap.size w wr))
  case atStart => exact ⟨0 + Nat.min 1 m, Z2, (by first | rfl | (simp [goInt]; done)), ⟨by rw [Nat.zero_add]; exact Nat.min_le_right _ _, by omega, (by have : Nat.min 1 m = min 1 m := rfl; omega), HZ2.out⟩, HG2, HBB2⟩
  case round =>
   obtain ⟨k, Z3, rfl, H1, HG3, HB3⟩ := hrel
   obtain ⟨hk, hgk, hk1, hZ3⟩ := H1.out
   clear H1
   have HZ3 := am hZ3
   clear hZ3 HG2 HZ2
   by_cases hkm : k < m
   ·obtain ⟨g1, rfl⟩ : ∃ q, gk = q + 1 := ⟨gk - 1, by omega⟩
    have d1 : decide ((k : Int) < (m : Int)) = true := decide_eq_true (by omega)
    obtain ⟨ti, hti, hts⟩ := Option.map_eq_some_iff.1 hiE
    have e41 : ∀ W : World, (Instr.slice 26 (.slice (some ⟨g, 0, none⟩) m m) (some (.int .i64 (k : Int))) none none).run Try.prog W = .ok (.slice (some ⟨g, k * 7, none⟩) (m - k) (m - k)) W := by
     intro W
     rw [cut_from 26 40 .i64 huT hti 7 hts (some ⟨g, 0, none⟩) m m (k : Int) (by omega) (by omega) W, Int.toNat_natCast, if_neg (by omega)]
     simp [add_plain]
    have e44 : ∀ W : World, (Instr.slice 26 (.slice (some ⟨g, 0, none⟩) m m) none (some (.int .i64 (k : Int))) none).run Try.prog W = .ok (.slice (some ⟨g, 0, none⟩) k m) W := by
     intro W
     rw [cut_to 26 40 .i64 huT hti (some ⟨g, 0, none⟩) m m (k : Int) (by omega) (by omega) (Nat.le_refl _) W, Int.toNat_natCast]
    obtain ⟨j, hj⟩ : ∃ j, j = Nat.min k (m - k) := ⟨_, rfl⟩
    have hj2 : j ≤ k ∧ j ≤ m - k ∧ (1 ≤ k → 1 ≤ j) := by
     have : Nat.min k (m - k) = min k (m - k) := rfl
     omega
    have e46 : IntKind.i64.wrap ((k : Int) + (j : Int)) = ((k + j : Nat) : Int) := by rw [IntKind.wrap_i64]; omega
    have HJ := am hj
    clear hj
    have HJK := am (show k + j ≤ m by omega)
    go_wp2
    go_region_held3 (fun _ => True) (trivial) ((refine rep_step_on (by rfl) (rep_step (w0 := w) (.tmp 41) (.tmp 44) 26 26 (by rfl) 40 huT 7 hiE cs hL hone m k j Z3 HZ3.out HJK.out g (k * 7) (m - k) (m - k) ⟨g, 0, none⟩ k m rfl HJ.out (by rfl) (by rfl) 40 (show _ = _ from HG3.out) (below_drew1 HB3.out) HGE.out (fun i v hv => rep_src (show _ = _ from HG3.out) hj2.1 hv) ?_); intro w4 Z4 hZ hG HB; have HG4 := am hG; have HBB4 := am HB; have HZ4 := am hZ; clear hG HB hZ HG3 HB3 HZ3))
    go_wp2
    go_roundg g1
    case measure => omega
    case rel => exact ⟨k + j, Z4, (by first | rfl | (simp [goInt]; done)), ⟨by omega, by omega, by omega, HZ4.out⟩, HG4, HBB4⟩
   ·have d1 : decide ((k : Int) < (m : Int)) = false := decide_eq_false (by omega)
    have hke : k = m := by omega
    subst hke
    go_wp2
    go_ret
    exact ⟨_, rfl, rep_R hL (hM _ _) HZ3.out (by unfold maxLen; omega) HGE.out HG3.out, HB3.out⟩
 ·rw [if_neg hc] at h; cases h

/-! ### impl_pull: function 37 -/
def impl_pull.f (k : Nat) (l0 : List (S40)) (a1 : Int) (a2 : Int) (a3_0 : Int) (a3_1 : Int) (a3_2 : Bool) (a3_3 : Bool) (a3_4 : Bool) : Option ((List (S40))) := (impl_Cell_63.f l0).bind fun t337 => (if (mn a2 (wrap64 ((l0.length : Int) - a1))) = 0 then (some t337) else ((impl_part.f k t337 a1).bind fun t340 => ((impl_part.f k t340 (wrap64 (a1 + (mn a2 (wrap64 ((l0.length : Int) - a1)))))).bind fun t341 => ((impl_Cell_65.f t341 a1 (wrap64 (a1 + (mn a2 (wrap64 ((l0.length : Int) - a1)))))).bind fun t342 => ((impl_blank.f a3_0 a3_1 a3_2 a3_3 a3_4).bind fun bt345 => ((impl_Cell_66.f (([(⟨bt345.1, (⟨bt345.2.1, bt345.2.2.1, bt345.2.2.2.1, bt345.2.2.2.2.1, bt345.2.2.2.2.2.1⟩ : S29), bt345.2.2.2.2.2.2⟩ : S40)] : List (S40))) (mn a2 (wrap64 ((l0.length : Int) - a1)))).bind fun t355 => (if t342.length + t355.length < 3518437208883 then (some (t342 ++ t355)) else (none))))))))
theorem impl_pull.mono : ∀ a0 a1 a2 a3 a4 a5 a6 a7 k, LeO (impl_pull.f k a0 a1 a2 a3 a4 a5 a6 a7) (impl_pull.f (k + 1) a0 a1 a2 a3 a4 a5 a6 a7) := by
 intro a0 a1 a2 a3 a4 a5 a6 a7 k
 unfold impl_pull.f
 repeat' first
   | (with_reducible exact impl_part.mono _ _ _)
   | (with_reducible exact LeO.refl _)
   | (with_reducible exact LeO.none _)
   | (with_reducible refine LeO.ite ?_ ?_)
   | (with_reducible refine LeO.bind ?_ (fun _ => ?_))
set_option maxHeartbeats 8000000 in
set_option maxRecDepth 100000 in
theorem impl_pull.calls (k : Nat) (A0 : Option Addr) (c0 : Nat) (l0 : List (S40)) (a1 : Int) (a2 : Int) (a3_0 : Int) (a3_1 : Int) (a3_2 : Bool) (a3_3 : Bool) (a3_4 : Bool) (r : List (S40)) (w : World) (hr0 : Kd.C k40 w A0 l0.length l0) (hc0 : l0.length ≤ c0) (h : impl_pull.f k l0 a1 a2 a3_0 a3_1 a3_2 a3_3 a3_4 = some r) :
  Calls Try.prog 37 #[.slice A0 l0.length c0, .int .i64 a1, .int .i64 a2, .agg #[.int .i64 a3_0, .int .i64 a3_1, .bool a3_2, .bool a3_3, .bool a3_4]] w fun e w' => ∃ v0_ : Value, e = .returned (v0_) ∧ Kd.R k40 40 w' w.heap.size (fun _ => True) v0_ r ∧ Below w.heap.size w w' := by
 have hu29 := Try.underlying29
 have HR0 := am hr0
 have HC0 := am hc0
 clear hr0 hc0
 have HB := am (Below.refl w.heap.size w)
 have H := h
 unfold impl_pull.f at H
 clear h
 replace H := Option.bind_eq_some_iff.mp H
 obtain ⟨t337, A50, H⟩ := H
 (try dsimp only at H)
 have A5 := am A50
 clear A50
 obtain ⟨ji6, hji6⟩ : ∃ j_ : Int, (mn a2 (wrap64 ((l0.length : Int) - a1))) = j_ := ⟨_, rfl⟩
 replace H : (if (ji6) = 0 then (some t337) else ((impl_part.f k t337 a1).bind fun t340 => ((impl_part.f k t340 (wrap64 (a1 + (ji6)))).bind fun t341 => ((impl_Cell_65.f t341 a1 (wrap64 (a1 + (ji6)))).bind fun t342 => ((impl_blank.f a3_0 a3_1 a3_2 a3_3 a3_4).bind fun bt345 => ((impl_Cell_66.f (([(⟨bt345.1, (⟨bt345.2.1, bt345.2.2.1, bt345.2.2.2.1, bt345.2.2.2.2.1, bt345.2.2.2.2.2.1⟩ : S29), bt345.2.2.2.2.2.2⟩ : S40)] : List (S40))) (ji6)).bind fun t355 => (if t342.length + t355.length < 3518437208883 then (some (t342 ++ t355)) else (none)))))))) = some r := by first | (rw [hji6] at H; exact H) | (simp only [hji6] at H ⊢; exact H)
 (try rw [hji6] at A5)
 have hji6_ : (if (wrap64 ((l0.length : Int) - a1)) < a2 then (wrap64 ((l0.length : Int) - a1)) else a2) = ji6 := hji6
 refine em_ (p := (ji6) = 0) (fun c7 => ?g1p) (fun c7 => ?g1n)
 case' g1p =>
  rw [if_pos c7] at H
  have c7b0 : ((ji6) == 0) = true := beq_iff_eq.mpr c7
  have c7b1 : ((ji6) != 0) = false := bne_eq_false_iff_eq.mpr c7
  clear c7
  obtain rfl := Option.some.inj H
  have lf1_ := trivial
 case' g1n =>
  rw [if_neg c7] at H
  have c7b0 : ((ji6) == 0) = false := beq_eq_false_iff_ne.mpr c7
  have c7b1 : ((ji6) != 0) = true := bne_iff_ne.mpr c7
  replace H := Option.bind_eq_some_iff.mp H
  obtain ⟨t340, A100, H⟩ := H
  (try dsimp only at H)
  have A10 := am A100
  clear A100
  replace H := Option.bind_eq_some_iff.mp H
  obtain ⟨t341, A110, H⟩ := H
  (try dsimp only at H)
  have A11 := am A110
  clear A110
  replace H := Option.bind_eq_some_iff.mp H
  obtain ⟨t342, A120, H⟩ := H
  (try dsimp only at H)
  have A12 := am A120
  clear A120
  replace H := Option.bind_eq_some_iff.mp H
  obtain ⟨⟨t345, t346, t347, t348, t349, t350, t351⟩, A130, H⟩ := H
  (try dsimp only at H)
  have A13 := am A130
  clear A130
  obtain ⟨y352, hy352⟩ : ∃ y_ : List (S40), y_ = (([(⟨t345, (⟨t346, t347, t348, t349, t350⟩ : S29), t351⟩ : S40)] : List (S40))) := ⟨_, rfl⟩
  replace H : ((impl_Cell_66.f y352 (ji6)).bind fun t355 => (if t342.length + t355.length < 3518437208883 then (some (t342 ++ t355)) else (none))) = some r := by first | (rw [hy352]; with_reducible exact H) | (rw [hy352]; exact H) | exact H
  have Ny352 := am hy352
  clear hy352
  replace H := Option.bind_eq_some_iff.mp H
  obtain ⟨t355, A140, H⟩ := H
  (try dsimp only at H)
  have A14 := am A140
  clear A140
  refine em_ (p := t342.length + t355.length < 3518437208883) (fun c15 => ?g0p) (fun c15 => ?g0n)
  case' g0p =>
   rw [if_pos c15] at H
   have LMc15 := am c15
   clear c15
   obtain ⟨y358, hy358⟩ : ∃ y_ : List (S40), y_ = (t342 ++ t355) := ⟨_, rfl⟩
   replace H : (some y358) = some r := by first | (rw [hy358]; with_reducible exact H) | (rw [hy358]; exact H) | exact H
   have Ny358 := am hy358
   clear hy358
   obtain rfl := Option.some.inj H
   have lf2_ := trivial
  case g0n =>
   rw [if_neg c15] at H
   exact absurd H (by simp)
 all_goals
  go_enter Try.func37, Try.ntmps37
  go_wp2_with (first | ((with_reducible refine gate_builtin (b := .append) (xs := #[.tmp 35, .tmp 40]) rfl ?_); at_builtin; refine Kd.R_append_rows k40 (w0 := w) w.heap.size rfl (.tmp 35) (.tmp 40) 26 40 (.agg #[(.int .i64 0), (.int .i64 0), (.int .i64 0), (.bool false), (.bool false), (.bool false), (.int .i64 0)]) 40 rfl Try.underlying26 info40 rfl (by decide) (by omega) v343 t342 t355 _ _ _ (fun k_ => some k_ ≠ (.slice Ao26 y352.length co26 : Value).ownBlock ∧ some k_ ≠ (.slice Ao29 t355.length co29 : Value).ownBlock) (fun _ => False) rfl rfl ?aO ?aR (fun _ _ h => h) (fun _ h => h.elim) ?aF ?aB ?aS ?aL ?_; (case aR => repeat (first | exact (Kd.R_reads' HO357.out).2.2 | (with_reducible refine Kd.C_alloc ?_ _) | (with_reducible refine Kd.C_drewN ?_ _) | (with_reducible refine Kd.C_drew ?_))); (case aB => exact (rb1 HB GE336)); (case aF => exact (fun k_ hk => ⟨Kd.fresh' (Kd.R_lt (rr HO354)) k_ hk, Kd.fresh' (Kd.R_lt (rr HO357)) k_ hk⟩)); (case aO => exact (by (with_reducible repeat (first | apply r1 | apply r2 | apply r3)); exact Kd.R_mono HO344.out (fun _ hk => ⟨hk.1.2, hk.2⟩))); (case aS => exact (below_size (rb1 HB GE336))); (case aL => have := LMc15.out; omega); intro v359 w28 ho hb hg hat; rw [← Ny358.out] at ho; have n0_ := am (blk_grown (g := gb336) (o := .cells #[.int .i64 a3_0, .int .i64 a3_1, .bool a3_2, .bool a3_3, .bool a3_4] 29 (0, 0)) (rk BK336) hg (Kd.R_ne HO344.out BK336.out (by decide))); have n1_ := am (Kd.R_after (ok := (fun k_ => some k_ ≠ (.slice Ao29 t355.length co29 : Value).ownBlock)) (by (with_reducible repeat (first | apply r1 | apply r2 | apply r3)); exact Kd.R_mono HO354.out (fun _ hk => ⟨hk.2, hk.1.2⟩)) hg hat); have n2_ := am (Kd.R_after (ok := (fun k_ => some k_ ≠ (.slice Ao26 y352.length co26 : Value).ownBlock)) (by (with_reducible repeat (first | apply r1 | apply r2 | apply r3)); exact Kd.R_mono HO357.out (fun _ hk => ⟨hk.2, hk.1.2⟩)) hg hat); have n3_ := am (hb); have n4_ := am (ho); clear BK336; clear HO354; clear HO357; clear HB; clear HO344; have BK336 := n0_; have HO354 := n1_; have HO357 := n2_; have HB := n3_; have HO360 := n4_; clear n0_ n1_ n2_ n3_ n4_; clear ho hb hg hat) | ((with_reducible refine gate_callee (f := 65) rfl ?_); refine goesL_ (some 34) rfl rfl Try.func65 (by kernel_rfl) rfl #[.slice Ao18 t337.length co18, .int .i64 a1, .int .i64 (wrap64 (a1 + (ji6)))] rfl (by (try simp only [List.map_toArray, List.map_cons, List.map_nil]); first | done | (simp only [hji6]; rfl) | rfl | (simp only [List.length_drop, List.length_take]; rfl)) ?_; (with_reducible refine (impl_Cell_65.calls (fun k_ => some k_ = (.slice Ao18 t337.length co18 : Value).ownBlock) (.slice Ao18 t337.length co18) t341 a1 (wrap64 (a1 + (ji6))) t342 w _ ?side1 ?side2 A12.out).mono ?_); (case side1 => repeat (first | (with_reducible first | exact HB.out | apply b1 | apply b2 | apply b3 | refine below_set ?_ GE336.out) | exact HB.out)); (case side2 => exact Kd.R_tight rfl HO339.out); rintro e w21 ⟨v343, rfl, ho0, hb, hkp⟩; refine ⟨_, rfl, ?_⟩; have n0_ := am (blk_kept (rk BK336) hkp (fun hs_ => (fun e_ => (Kd.R_ne HO339.out BK336.out (by decide)) e_) hs_)); have n1_ := am (Kd.R_mono (ok' := fun k_ => True) ho0 (fun k_ hk_ => trivial)); have n2_ := am (hb); clear BK336; clear HB; clear HO339; have BK336 := n0_; have HO344 := n1_; have HB := n2_; clear n0_ n1_ n2_; (try clear hb); (try clear hkp); (try clear ho0); have hcz22_0 : w21.cell? ⟨gb336, 0, none⟩ = some (.int .i64 a3_0) := (blk_cell BK336.out 0).trans rfl; have hcz22_1 : w21.cell? ⟨gb336, 1, none⟩ = some (.int .i64 a3_1) := (blk_cell BK336.out 1).trans rfl; have hcz22_2 : w21.cell? ⟨gb336, 2, none⟩ = some (.bool a3_2) := (blk_cell BK336.out 2).trans rfl; have hcz22_3 : w21.cell? ⟨gb336, 3, none⟩ = some (.bool a3_3) := (blk_cell BK336.out 3).trans rfl; have hcz22_4 : w21.cell? ⟨gb336, 4, none⟩ = some (.bool a3_4) := (blk_cell BK336.out 4).trans rfl; have hfz22_0 := blk_frozen BK336.out 0; have hfz22_1 := blk_frozen BK336.out 1; have hfz22_2 := blk_frozen BK336.out 2; have hfz22_3 := blk_frozen BK336.out 3; have hfz22_4 := blk_frozen BK336.out 4) | ((with_reducible refine gate_dst (N := 38) rfl ?_); refine Kd.R_lit k40 _ 40 ?hg (N := 38) ?hd (xs := ([(⟨t345, (⟨t346, t347, t348, t349, t350⟩ : S29), t351⟩ : S40)] : List (S40))) (inner := [.int .i64 t345, .int .i64 t346, .int .i64 t347, .bool t348, .bool t349, .bool t350, .int .i64 t351]) (ok := fun _ => True) (okp := fun _ => True) ?hr ?hp (fun _ hk => hk) trivial (Below.refl _ _) (Nat.le_refl _) (by simp) ?_; (case hd => rfl); (case hg => rfl); (case hr => first | (go_simp; done) | (go_simp; rfl)); (case hp => exact (Reps.c7 (show Kd.M k40 _ _ _ (⟨t345, (⟨t346, t347, t348, t349, t350⟩ : S29), t351⟩ : S40) [.int .i64 t345, .int .i64 t346, .int .i64 t347, .bool t348, .bool t349, .bool t350, .int .i64 t351] from (k40_mkM _ _ _ (⟨t345, (⟨t346, t347, t348, t349, t350⟩ : S29), t351⟩ : S40) )) (Reps.none _ _))); intro v353 w24 ho25 hb hg_ hnew_; clear hg_ hnew_; (first | rw [← Ny352.out] at ho25 | (simp only [Int.reduceToNat] at ho25; rw [← Ny352.out] at ho25)); have n0_ := am (Kd.R_elder' (rr HO344) (Kd.R_base ho25) hb); have n1_ := am (Kd.R_lower (Kd.R_new' ho25 (Kd.R_lt (rr HO344))) (below_size (rb1 HB GE336))); have n2_ := am (blk_below (g := gb336) (o := .cells #[.int .i64 a3_0, .int .i64 a3_1, .bool a3_2, .bool a3_3, .bool a3_4] 29 (0, 0)) (rk BK336) hb); have n3_ := am (below_step (rb1 HB GE336) hb); clear HO344; clear BK336; clear HB; have HO344 := n0_; have HO354 := n1_; have BK336 := n2_; have HB := n3_; clear n0_ n1_ n2_ n3_; clear hb ho25; obtain ⟨Ao26, co26, eo26⟩ := Kd.R_slice HO354.out; subst eo26) | ((with_reducible refine gate_callee (f := 66) rfl ?_); refine goesL_ (some 40) rfl rfl Try.func66 (by kernel_rfl) rfl #[.slice Ao26 y352.length co26, .int .i64 ji6] rfl (by (try simp only [List.map_toArray, List.map_cons, List.map_nil]); first | done | (simp only [hji6]; rfl) | rfl | (simp only [List.length_drop, List.length_take]; rfl)) ?_; (with_reducible refine (impl_Cell_66.calls _ _ y352 ji6 t355 _ ?side1 ?side2 A14.out).mono ?_); (case side1 => repeat (first | exact (Kd.R_reads' HO354.out).2.2 | (with_reducible refine Kd.C_alloc ?_ _) | (with_reducible refine Kd.C_drewN ?_ _) | (with_reducible refine Kd.C_drew ?_))); (case side2 => exact (Kd.R_reads' HO354.out).2.1); rintro e w27 ⟨v356, rfl, ho0, hb⟩; refine ⟨_, rfl, ?_⟩; have n0_ := am (Kd.R_elder' (rr HO344) (Kd.R_base ho0) hb); have n1_ := am (Kd.R_elder' (rr HO354) (Kd.R_base ho0) hb); have n2_ := am (Kd.R_lower (Kd.R_new' (Kd.R_new' ho0 (Kd.R_lt (rr HO344))) (Kd.R_lt (rr HO354))) (below_size (rb1 HB GE336))); have n3_ := am (blk_below (g := gb336) (o := .cells #[.int .i64 a3_0, .int .i64 a3_1, .bool a3_2, .bool a3_3, .bool a3_4] 29 (0, 0)) (rk BK336) hb); have n4_ := am (below_step (rb1 HB GE336) hb); clear HO344; clear HO354; clear BK336; clear HB; have HO344 := n0_; have HO354 := n1_; have HO357 := n2_; have BK336 := n3_; have HB := n4_; clear n0_ n1_ n2_ n3_ n4_; (try clear hb); (try clear hb2); (try clear hk); (try clear hi); (try clear ho0); obtain ⟨Ao29, co29, eo29⟩ := Kd.R_slice HO357.out; subst eo29) | ((with_reducible refine gate_callee (f := 64) rfl ?_); refine goesL_ (some 28) rfl rfl Try.func64 (by kernel_rfl) rfl #[.slice Ao18 t337.length co18, .int .i64 (wrap64 (a1 + (ji6)))] rfl (by (try simp only [List.map_toArray, List.map_cons, List.map_nil]); first | done | (simp only [hji6]; rfl) | rfl | (simp only [List.length_drop, List.length_take]; rfl)) ?_; (with_reducible refine (impl_part.calls k (fun k_ => some k_ = (.slice Ao18 t337.length co18 : Value).ownBlock) (.slice Ao18 t337.length co18) t340 (wrap64 (a1 + (ji6))) t341 w _ ?side1 ?side2 A11.out).mono ?_); (case side1 => repeat (first | (with_reducible first | exact HB.out | apply b1 | apply b2 | apply b3 | refine below_set ?_ GE336.out) | exact HB.out)); (case side2 => exact Kd.R_tight rfl HO339.out); rintro e w20 ⟨rfl, hy0, hb, hkp⟩; refine ⟨_, rfl, ?_⟩; have n0_ := am (blk_kept (rk BK336) hkp (fun hs_ => (fun e_ => (Kd.R_ne HO339.out BK336.out (by decide)) e_) hs_)); have n1_ := am (Kd.R_reok rfl hy0 (fun k_ e_ => HO339.out.1 k_ e_)); have n2_ := am (hb); clear BK336; clear HO339; clear HB; have BK336 := n0_; have HO339 := n1_; have HB := n2_; clear n0_ n1_ n2_; (try clear hb); (try clear hkp); (try clear hy0)) | ((with_reducible refine gate_callee (f := 64) rfl ?_); refine gl_ (some 23) Try.func64 #[.slice Ao18 t337.length co18, .int .i64 a1] ?_; (with_reducible refine (impl_part.calls k (fun k_ => some k_ = (.slice Ao18 t337.length co18 : Value).ownBlock) (.slice Ao18 t337.length co18) t337 a1 t340 w _ ?side1 ?side2 A10.out).mono ?_); (case side1 => repeat (first | (with_reducible first | exact HB.out | apply b1 | apply b2 | apply b3 | refine below_set ?_ GE336.out) | exact HB.out)); (case side2 => exact Kd.R_tight rfl HO339.out); rintro e w19 ⟨rfl, hy0, hb, hkp⟩; refine ⟨_, rfl, ?_⟩; have n0_ := am (blk_kept (rk BK336) hkp (fun hs_ => (fun e_ => (Kd.R_ne HO339.out BK336.out (by decide)) e_) hs_)); have n1_ := am (Kd.R_reok rfl hy0 (fun k_ e_ => HO339.out.1 k_ e_)); have n2_ := am (hb); clear BK336; clear HO339; clear HB; have BK336 := n0_; have HO339 := n1_; have HB := n2_; clear n0_ n1_ n2_; (try clear hb); (try clear hkp); (try clear hy0)) | ((with_reducible refine gate_callee (f := 63) rfl ?_); refine gl_ (some 11) Try.func63 #[.slice A0 l0.length c0] ?_; (with_reducible refine (impl_Cell_63.calls _ _ l0 t337 _ ?side1 ?side2 A5.out).mono ?_); (case side1 => exact rc ((Kd.C_below HR0.out HB.out))); (case side2 => exact HC0.out); rintro e w17 ⟨v338, rfl, ho0, hb⟩; refine ⟨_, rfl, ?_⟩; have n0_ := am (Kd.R_lower ho0 (below_size (rb1 HB GE336))); have n1_ := am (blk_below (g := gb336) (o := .cells #[.int .i64 a3_0, .int .i64 a3_1, .bool a3_2, .bool a3_3, .bool a3_4] 29 (0, 0)) (rk BK336) hb); have n2_ := am (below_step (rb1 HB GE336) hb); clear BK336; clear HB; have HO339 := n0_; have BK336 := n1_; have HB := n2_; clear n0_ n1_ n2_; (try clear hb); (try clear hb2); (try clear hk); (try clear hi); (try clear ho0); obtain ⟨Ao18, co18, eo18⟩ := Kd.R_slice HO339.out; subst eo18) | ((with_reducible refine gate_callee (f := 63) rfl ?_); refine gl_ (some 11) Try.func63 #[.slice A0 l0.length c0] ?_; (with_reducible refine (impl_Cell_63.calls _ _ l0 t337 _ ?side1 ?side2 A5.out).mono ?_); (case side1 => exact rc ((Kd.C_below HR0.out HB.out))); (case side2 => exact HC0.out); rintro e w9 ⟨v338, rfl, ho0, hb⟩; refine ⟨_, rfl, ?_⟩; have n0_ := am (Kd.R_lower ho0 (below_size (rb1 HB GE336))); have n1_ := am (blk_below (g := gb336) (o := .cells #[.int .i64 a3_0, .int .i64 a3_1, .bool a3_2, .bool a3_3, .bool a3_4] 29 (0, 0)) (rk BK336) hb); have n2_ := am (below_step (rb1 HB GE336) hb); clear BK336; clear HB; have HO339 := n0_; have BK336 := n1_; have HB := n2_; clear n0_ n1_ n2_; (try clear hb); (try clear hb2); (try clear hk); (try clear hi); (try clear ho0)) | ((with_reducible refine gate_callee (f := 67) rfl ?_); refine gl_ (some 37) Try.func67 #[.agg #[.int .i64 a3_0, .int .i64 a3_1, .bool a3_2, .bool a3_3, .bool a3_4]] ?_; (with_reducible refine (impl_blank.calls a3_0 a3_1 a3_2 a3_3 a3_4 t345 t346 t347 t348 t349 t350 t351 _ A13.out).mono ?_); rintro e w23 ⟨rfl, hb⟩; refine ⟨_, rfl, ?_⟩; have n0_ := am (Kd.R_below (rr HO344) hb); have n1_ := am (blk_below (g := gb336) (o := .cells #[.int .i64 a3_0, .int .i64 a3_1, .bool a3_2, .bool a3_3, .bool a3_4] 29 (0, 0)) (rk BK336) hb); have n2_ := am (below_step (rb1 HB GE336) hb); clear HO344; clear BK336; clear HB; have HO344 := n0_; have BK336 := n1_; have HB := n2_; clear n0_ n1_ n2_; (try clear hb); (try clear hb2); (try clear hk); (try clear hi)) | ((with_reducible refine gate_dst (N := 7) rfl ?_); refine box_event ?hg (N := 7) ?hd (cs := #[.int .i64 a3_0, .int .i64 a3_1, .bool a3_2, .bool a3_3, .bool a3_4]) (t := 29) ?hr ?_; (case hd => rfl); (case hg => rfl); (case hr => first | (go_simp; done) | (go_simp; rfl)); intro gb336 hg w8 hbox hb; have n0_ := am (below_step (rb HB) hb); have n1_ := am (hbox); have n2_ := am ((by rw [hg]; exact (below_size (rb HB)) : w.heap.size ≤ gb336)); have n3_ := am ((by rw [hg]; exact (below_size (rb HB)) : w.heap.size ≤ gb336)); clear HB; have HB := n0_; have BK336 := n1_; have GW336 := n2_; have GE336 := n3_; clear n0_ n1_ n2_ n3_; clear hb hbox hg))
  go_ret
  first
  | (
    have q_ := lf2_
    exact ⟨_, by first | rfl | (simp [errW_none, errW_some] <;> rfl) | (simp only [← hji6]; first | rfl | (simp [errW_none, errW_some] <;> rfl)) | (simp [*, errW_none, errW_some] <;> rfl), by (with_reducible repeat (first | apply r1 | apply r2 | apply r3)); exact Kd.R_mono HO360.out (fun _ hk => trivial), by repeat (first | (with_reducible first | exact HB.out | apply b1 | apply b2 | apply b3 | refine below_set ?_ GE336.out) | exact HB.out)⟩
    )
  | (
    have q_ := lf1_
    exact ⟨_, by first | rfl | (simp [errW_none, errW_some] <;> rfl) | (simp only [← hji6]; first | rfl | (simp [errW_none, errW_some] <;> rfl)) | (simp [*, errW_none, errW_some] <;> rfl), by (with_reducible repeat (first | apply r1 | apply r2 | apply r3)); exact HO339.out, by repeat (first | (with_reducible first | exact HB.out | apply b1 | apply b2 | apply b3 | refine below_set ?_ GE336.out) | exact HB.out)⟩
    )

/-! ### impl_Pulled: function 12 -/
def impl_Pulled.f (k : Nat) (l0 : List (S40)) (a1 : Int) (a2 : Int) (a3_0 : Int) (a3_1 : Int) (a3_2 : Bool) (a3_3 : Bool) (a3_4 : Bool) : Option ((List (S40))) := (impl_isMove.f k l0 a1 a2 a3_0 a3_1 a3_2 a3_3 a3_4).bind fun t362 => (if t362 = true then ((impl_pull.f k l0 a1 a2 a3_0 a3_1 a3_2 a3_3 a3_4).bind fun t363 => (some t363)) else (some ([] : List (S40))))
theorem impl_Pulled.mono : ∀ a0 a1 a2 a3 a4 a5 a6 a7 k, LeO (impl_Pulled.f k a0 a1 a2 a3 a4 a5 a6 a7) (impl_Pulled.f (k + 1) a0 a1 a2 a3 a4 a5 a6 a7) := by
 intro a0 a1 a2 a3 a4 a5 a6 a7 k
 unfold impl_Pulled.f
 repeat' first
   | (with_reducible exact impl_isMove.mono _ _ _ _ _ _ _ _ _)
   | (with_reducible exact impl_pull.mono _ _ _ _ _ _ _ _ _)
   | (with_reducible exact LeO.refl _)
   | (with_reducible exact LeO.none _)
   | (with_reducible refine LeO.ite ?_ ?_)
   | (with_reducible refine LeO.bind ?_ (fun _ => ?_))
set_option maxHeartbeats 8000000 in
set_option maxRecDepth 100000 in
theorem impl_Pulled.calls (k : Nat) (A0 : Option Addr) (c0 : Nat) (l0 : List (S40)) (a1 : Int) (a2 : Int) (a3_0 : Int) (a3_1 : Int) (a3_2 : Bool) (a3_3 : Bool) (a3_4 : Bool) (r : List (S40)) (w : World) (hr0 : Kd.C k40 w A0 l0.length l0) (hc0 : l0.length ≤ c0) (h : impl_Pulled.f k l0 a1 a2 a3_0 a3_1 a3_2 a3_3 a3_4 = some r) :
  Calls Try.prog 12 #[.slice A0 l0.length c0, .int .i64 a1, .int .i64 a2, .agg #[.int .i64 a3_0, .int .i64 a3_1, .bool a3_2, .bool a3_3, .bool a3_4]] w fun e w' => ∃ v0_ : Value, e = .returned (v0_) ∧ Kd.R k40 40 w' w.heap.size (fun _ => True) v0_ r ∧ Below w.heap.size w w' := by
 have hu29 := Try.underlying29
 have HR0 := am hr0
 have HC0 := am hc0
 clear hr0 hc0
 have HB := am (Below.refl w.heap.size w)
 have H := h
 unfold impl_Pulled.f at H
 clear h
 replace H := Option.bind_eq_some_iff.mp H
 obtain ⟨t362, A50, H⟩ := H
 (try dsimp only at H)
 have A5 := am A50
 clear A50
 refine em_ (p := t362 = true) (fun c6 => ?g2p) (fun c6 => ?g2n)
 case' g2p =>
  subst c6
  rw [if_pos rfl] at H
  replace H := Option.bind_eq_some_iff.mp H
  obtain ⟨t363, A70, H⟩ := H
  replace H : (some t363) = some r := H
  have A7 := am A70
  clear A70
  obtain rfl := Option.some.inj H
  have lf3_ := trivial
 case' g2n =>
  replace c6 := Bool.eq_false_iff.mpr c6
  subst c6
  have H1 : (some ([] : List (S40))) = some r := by rw [if_neg (show ¬ (false = true) by decide)] at H; exact H
  clear H
  have H := H1
  clear H1
  obtain rfl := Option.some.inj H
  have lf4_ := trivial
 all_goals
  go_enter Try.func12, Try.ntmps12
  go_wp2_with (first | ((with_reducible refine gate_callee (f := 36) rfl ?_); refine gl_ (some 13) Try.func36 #[.slice A0 l0.length c0, .int .i64 a1, .int .i64 a2, .agg #[.int .i64 a3_0, .int .i64 a3_1, .bool a3_2, .bool a3_3, .bool a3_4]] ?_; (with_reducible refine (impl_isMove.calls k _ _ l0 a1 a2 a3_0 a3_1 a3_2 a3_3 a3_4 true _ ?side1 ?side2 A5.out).mono ?_); (case side1 => exact rc ((Kd.C_below HR0.out HB.out))); (case side2 => exact HC0.out); rintro e w10 ⟨rfl, hb⟩; refine ⟨_, rfl, ?_⟩; have n0_ := am (blk_below (g := gb361) (o := .cells #[.int .i64 a3_0, .int .i64 a3_1, .bool a3_2, .bool a3_3, .bool a3_4] 29 (0, 0)) (rk BK361) hb); have n1_ := am (below_step (rb1 HB GE361) hb); clear BK361; clear HB; have BK361 := n0_; have HB := n1_; clear n0_ n1_; (try clear hb); (try clear hb2); (try clear hk); (try clear hi); have hcz11_0 : w10.cell? ⟨gb361, 0, none⟩ = some (.int .i64 a3_0) := (blk_cell BK361.out 0).trans rfl; have hcz11_1 : w10.cell? ⟨gb361, 1, none⟩ = some (.int .i64 a3_1) := (blk_cell BK361.out 1).trans rfl; have hcz11_2 : w10.cell? ⟨gb361, 2, none⟩ = some (.bool a3_2) := (blk_cell BK361.out 2).trans rfl; have hcz11_3 : w10.cell? ⟨gb361, 3, none⟩ = some (.bool a3_3) := (blk_cell BK361.out 3).trans rfl; have hcz11_4 : w10.cell? ⟨gb361, 4, none⟩ = some (.bool a3_4) := (blk_cell BK361.out 4).trans rfl; have hfz11_0 := blk_frozen BK361.out 0; have hfz11_1 := blk_frozen BK361.out 1; have hfz11_2 := blk_frozen BK361.out 2; have hfz11_3 := blk_frozen BK361.out 3; have hfz11_4 := blk_frozen BK361.out 4) | ((with_reducible refine gate_dst (N := 7) rfl ?_); refine box_event ?hg (N := 7) ?hd (cs := #[.int .i64 a3_0, .int .i64 a3_1, .bool a3_2, .bool a3_3, .bool a3_4]) (t := 29) ?hr ?_; (case hd => rfl); (case hg => rfl); (case hr => first | (go_simp; done) | (go_simp; rfl)); intro gb361 hg w8 hbox hb; have n0_ := am (below_step (rb HB) hb); have n1_ := am (hbox); have n2_ := am ((by rw [hg]; exact (below_size (rb HB)) : w.heap.size ≤ gb361)); have n3_ := am ((by rw [hg]; exact (below_size (rb HB)) : w.heap.size ≤ gb361)); clear HB; have HB := n0_; have BK361 := n1_; have GW361 := n2_; have GE361 := n3_; clear n0_ n1_ n2_ n3_; clear hb hbox hg; have hcz9_0 : w8.cell? ⟨gb361, 0, none⟩ = some (.int .i64 a3_0) := (blk_cell BK361.out 0).trans rfl; have hcz9_1 : w8.cell? ⟨gb361, 1, none⟩ = some (.int .i64 a3_1) := (blk_cell BK361.out 1).trans rfl; have hcz9_2 : w8.cell? ⟨gb361, 2, none⟩ = some (.bool a3_2) := (blk_cell BK361.out 2).trans rfl; have hcz9_3 : w8.cell? ⟨gb361, 3, none⟩ = some (.bool a3_3) := (blk_cell BK361.out 3).trans rfl; have hcz9_4 : w8.cell? ⟨gb361, 4, none⟩ = some (.bool a3_4) := (blk_cell BK361.out 4).trans rfl; have hfz9_0 := blk_frozen BK361.out 0; have hfz9_1 := blk_frozen BK361.out 1; have hfz9_2 := blk_frozen BK361.out 2; have hfz9_3 := blk_frozen BK361.out 3; have hfz9_4 := blk_frozen BK361.out 4) | ((with_reducible refine gate_callee (f := 37) rfl ?_); refine gl_ (some 19) Try.func37 #[.slice A0 l0.length c0, .int .i64 a1, .int .i64 a2, .agg #[.int .i64 a3_0, .int .i64 a3_1, .bool a3_2, .bool a3_3, .bool a3_4]] ?_; (with_reducible refine (impl_pull.calls k _ _ l0 a1 a2 a3_0 a3_1 a3_2 a3_3 a3_4 t363 _ ?side1 ?side2 A7.out).mono ?_); (case side1 => exact rc ((Kd.C_below HR0.out HB.out))); (case side2 => exact HC0.out); rintro e w12 ⟨v364, rfl, ho0, hb⟩; refine ⟨_, rfl, ?_⟩; have n0_ := am (Kd.R_lower ho0 (below_size (rb1 HB GE361))); have n1_ := am (blk_below (g := gb361) (o := .cells #[.int .i64 a3_0, .int .i64 a3_1, .bool a3_2, .bool a3_3, .bool a3_4] 29 (0, 0)) (rk BK361) hb); have n2_ := am (below_step (rb1 HB GE361) hb); clear BK361; clear HB; have HO365 := n0_; have BK361 := n1_; have HB := n2_; clear n0_ n1_ n2_; (try clear hb); (try clear hb2); (try clear hk); (try clear hi); (try clear ho0)) | ((with_reducible refine gate_callee (f := 36) rfl ?_); refine gl_ (some 13) Try.func36 #[.slice A0 l0.length c0, .int .i64 a1, .int .i64 a2, .agg #[.int .i64 a3_0, .int .i64 a3_1, .bool a3_2, .bool a3_3, .bool a3_4]] ?_; (with_reducible refine (impl_isMove.calls k _ _ l0 a1 a2 a3_0 a3_1 a3_2 a3_3 a3_4 false _ ?side1 ?side2 A5.out).mono ?_); (case side1 => exact rc ((Kd.C_below HR0.out HB.out))); (case side2 => exact HC0.out); rintro e w15 ⟨rfl, hb⟩; refine ⟨_, rfl, ?_⟩; have n0_ := am (blk_below (g := gb361) (o := .cells #[.int .i64 a3_0, .int .i64 a3_1, .bool a3_2, .bool a3_3, .bool a3_4] 29 (0, 0)) (rk BK361) hb); have n1_ := am (below_step (rb1 HB GE361) hb); clear BK361; clear HB; have BK361 := n0_; have HB := n1_; clear n0_ n1_; (try clear hb); (try clear hb2); (try clear hk); (try clear hi)))
  go_ret
  first
  | (
    have q_ := lf4_
    exact ⟨_, by first | rfl | (simp [errW_none, errW_some] <;> rfl) | (simp [*, errW_none, errW_some] <;> rfl), by first | exact Kd.R_nil _ _ _ _ _ | exact Kd.N_nil _ _ _ _ _ | exact Kd.V_nil _ _ _ _ _ | exact Kd.Q_nil _ _ _ _ _ | exact Kd.S_nil _ _ _ _ _, by repeat (first | (with_reducible first | exact HB.out | apply b1 | apply b2 | apply b3 | refine below_set ?_ GE361.out) | exact HB.out)⟩
    )
  | (
    have q_ := lf3_
    exact ⟨_, by first | rfl | (simp [errW_none, errW_some] <;> rfl) | (simp [*, errW_none, errW_some] <;> rfl), by (with_reducible repeat (first | apply r1 | apply r2 | apply r3)); exact HO365.out, by repeat (first | (with_reducible first | exact HB.out | apply b1 | apply b2 | apply b3 | refine below_set ?_ GE361.out) | exact HB.out)⟩
    )

/-! ### laws_eqStyle: function 68 -/
def laws_eqStyle.f (a0_0 : Int) (a0_1 : Int) (a0_2 : Bool) (a0_3 : Bool) (a0_4 : Bool) (a1_0 : Int) (a1_1 : Int) (a1_2 : Bool) (a1_3 : Bool) (a1_4 : Bool) : Option (Bool) := if a0_0 = a1_0 then (if a0_1 = a1_1 then (if (a0_2 != a1_2) = true then (some false) else (if (a0_3 != a1_3) = true then (some false) else (if (a0_4 != a1_4) = true then (some false) else (some true)))) else (some false)) else (some false)
set_option maxHeartbeats 8000000 in
set_option maxRecDepth 100000 in
theorem laws_eqStyle.calls (a0_0 : Int) (a0_1 : Int) (a0_2 : Bool) (a0_3 : Bool) (a0_4 : Bool) (a1_0 : Int) (a1_1 : Int) (a1_2 : Bool) (a1_3 : Bool) (a1_4 : Bool) (r : Bool) (w : World) (h : laws_eqStyle.f a0_0 a0_1 a0_2 a0_3 a0_4 a1_0 a1_1 a1_2 a1_3 a1_4 = some r) :
  Calls Try.prog 68 #[.agg #[.int .i64 a0_0, .int .i64 a0_1, .bool a0_2, .bool a0_3, .bool a0_4], .agg #[.int .i64 a1_0, .int .i64 a1_1, .bool a1_2, .bool a1_3, .bool a1_4]] w fun e w' => e = .returned (.bool r) ∧ Below w.heap.size w w' := by
 have hu29 := Try.underlying29
 have HB := am (Below.refl w.heap.size w)
 have H := h
 unfold laws_eqStyle.f at H
 clear h
 refine em_ (p := a0_0 = a1_0) (fun c3 => ?g7p) (fun c3 => ?g7n)
 case' g7p =>
  rw [if_pos c3] at H
  have c3b0 : (a0_0 == a1_0) = true := beq_iff_eq.mpr c3
  have c3b1 : (a0_0 != a1_0) = false := bne_eq_false_iff_eq.mpr c3
  clear c3
  refine em_ (p := a0_1 = a1_1) (fun c4 => ?g6p) (fun c4 => ?g6n)
  case' g6p =>
   rw [if_pos c4] at H
   have c4b0 : (a0_1 == a1_1) = true := beq_iff_eq.mpr c4
   have c4b1 : (a0_1 != a1_1) = false := bne_eq_false_iff_eq.mpr c4
   clear c4
   refine em_ (p := (a0_2 != a1_2) = true) (fun c5 => ?g5p) (fun c5 => ?g5n)
   case' g5p =>
    rw [if_pos c5] at H
    have c5b0 : (a0_2 != a1_2) = true := c5
    (try (have c5b1 : decide (a0_2 = a1_2) = false := by simpa using c5))
    (try (have c5b2 : (a0_2 == a1_2) = false := by simpa using c5))
    (try (have c5b3 : ¬ (a0_2 = a1_2) := by simpa using c5))
    clear c5
    obtain rfl := Option.some.inj H
    have lf5_ := trivial
   case' g5n =>
    rw [if_neg c5] at H
    have c5b0 : (a0_2 != a1_2) = false := by simpa using c5
    (try (have c5b1 : decide (a0_2 = a1_2) = true := by simpa using c5))
    (try (have c5b2 : (a0_2 == a1_2) = true := by simpa using c5))
    clear c5
    refine em_ (p := (a0_3 != a1_3) = true) (fun c11 => ?g4p) (fun c11 => ?g4n)
    case' g4p =>
     rw [if_pos c11] at H
     have c11b0 : (a0_3 != a1_3) = true := c11
     (try (have c11b1 : decide (a0_3 = a1_3) = false := by simpa using c11))
     (try (have c11b2 : (a0_3 == a1_3) = false := by simpa using c11))
     (try (have c11b3 : ¬ (a0_3 = a1_3) := by simpa using c11))
     clear c11
     obtain rfl := Option.some.inj H
     have lf6_ := trivial
    case' g4n =>
     rw [if_neg c11] at H
     have c11b0 : (a0_3 != a1_3) = false := by simpa using c11
     (try (have c11b1 : decide (a0_3 = a1_3) = true := by simpa using c11))
     (try (have c11b2 : (a0_3 == a1_3) = true := by simpa using c11))
     clear c11
     refine em_ (p := (a0_4 != a1_4) = true) (fun c17 => ?g3p) (fun c17 => ?g3n)
     case' g3p =>
      rw [if_pos c17] at H
      have c17b0 : (a0_4 != a1_4) = true := c17
      (try (have c17b1 : decide (a0_4 = a1_4) = false := by simpa using c17))
      (try (have c17b2 : (a0_4 == a1_4) = false := by simpa using c17))
      (try (have c17b3 : ¬ (a0_4 = a1_4) := by simpa using c17))
      clear c17
      obtain rfl := Option.some.inj H
      have lf7_ := trivial
     case' g3n =>
      rw [if_neg c17] at H
      have c17b0 : (a0_4 != a1_4) = false := by simpa using c17
      (try (have c17b1 : decide (a0_4 = a1_4) = true := by simpa using c17))
      (try (have c17b2 : (a0_4 == a1_4) = true := by simpa using c17))
      clear c17
      obtain rfl := Option.some.inj H
      have lf8_ := trivial
  case' g6n =>
   rw [if_neg c4] at H
   have c4b0 : (a0_1 == a1_1) = false := beq_eq_false_iff_ne.mpr c4
   have c4b1 : (a0_1 != a1_1) = true := bne_iff_ne.mpr c4
   obtain rfl := Option.some.inj H
   have lf9_ := trivial
 case' g7n =>
  rw [if_neg c3] at H
  have c3b0 : (a0_0 == a1_0) = false := beq_eq_false_iff_ne.mpr c3
  have c3b1 : (a0_0 != a1_0) = true := bne_iff_ne.mpr c3
  obtain rfl := Option.some.inj H
  have lf10_ := trivial
 all_goals
  go_enter Try.func68, Try.ntmps68
  go_wp2_with (first | ((with_reducible refine gate_dst (N := 2) rfl ?_); refine box_event ?hg (N := 2) ?hd (cs := #[.int .i64 a0_0, .int .i64 a0_1, .bool a0_2, .bool a0_3, .bool a0_4]) (t := 29) ?hr ?_; (case hd => rfl); (case hg => rfl); (case hr => first | (go_simp; done) | (go_simp; rfl)); intro gb366 hg w6 hbox hb; have n0_ := am (below_step (rb HB) hb); have n1_ := am (hbox); have n2_ := am ((by rw [hg]; exact (below_size (rb HB)) : w.heap.size ≤ gb366)); have n3_ := am ((by rw [hg]; exact (below_size (rb HB)) : w.heap.size ≤ gb366)); clear HB; have HB := n0_; have BK366 := n1_; have GW366 := n2_; have GE366 := n3_; clear n0_ n1_ n2_ n3_; clear hb hbox hg) | ((with_reducible refine gate_dst (N := 3) rfl ?_); refine box_event ?hg (N := 3) ?hd (cs := #[.int .i64 a1_0, .int .i64 a1_1, .bool a1_2, .bool a1_3, .bool a1_4]) (t := 29) ?hr ?_; (case hd => rfl); (case hg => rfl); (case hr => first | (go_simp; done) | (go_simp; rfl)); intro gb367 hg w7 hbox hb; have n0_ := am (blk_below (g := gb366) (o := .cells #[.int .i64 a0_0, .int .i64 a0_1, .bool a0_2, .bool a0_3, .bool a0_4] 29 (0, 0)) (rk BK366) hb); have n1_ := am (below_step (rb1 HB GE366) hb); have n2_ := am (hbox); have n3_ := am ((by rw [hg]; exact (below_size (rb1 HB GE366)) : w.heap.size ≤ gb367)); have n4_ := am ((by rw [hg]; exact (below_size (rb1 HB GE366)) : w.heap.size ≤ gb367)); have n5_ := am ((by rw [hg]; exact Nat.ne_of_lt (blk_lt (g := gb366) (o := .cells #[.int .i64 a0_0, .int .i64 a0_1, .bool a0_2, .bool a0_3, .bool a0_4] 29 (0, 0)) (rk BK366)) : gb366 ≠ gb367)); have n6_ := am ((by rw [hg]; exact Nat.ne_of_gt (blk_lt (g := gb366) (o := .cells #[.int .i64 a0_0, .int .i64 a0_1, .bool a0_2, .bool a0_3, .bool a0_4] 29 (0, 0)) (rk BK366)) : gb367 ≠ gb366)); clear BK366; clear HB; have BK366 := n0_; have HB := n1_; have BK367 := n2_; have GW367 := n3_; have GE367 := n4_; have NB366_367 := n5_; have NB367_366 := n6_; clear n0_ n1_ n2_ n3_ n4_ n5_ n6_; clear hb hbox hg; have hnb8 := NB366_367.out; have hnc8 := NB367_366.out; have hcz9_0 : w7.cell? ⟨gb366, 0, none⟩ = some (.int .i64 a0_0) := (blk_cell BK366.out 0).trans rfl; have hcz9_1 : w7.cell? ⟨gb366, 1, none⟩ = some (.int .i64 a0_1) := (blk_cell BK366.out 1).trans rfl; have hcz9_2 : w7.cell? ⟨gb366, 2, none⟩ = some (.bool a0_2) := (blk_cell BK366.out 2).trans rfl; have hcz9_3 : w7.cell? ⟨gb366, 3, none⟩ = some (.bool a0_3) := (blk_cell BK366.out 3).trans rfl; have hcz9_4 : w7.cell? ⟨gb366, 4, none⟩ = some (.bool a0_4) := (blk_cell BK366.out 4).trans rfl; have hfz9_0 := blk_frozen BK366.out 0; have hfz9_1 := blk_frozen BK366.out 1; have hfz9_2 := blk_frozen BK366.out 2; have hfz9_3 := blk_frozen BK366.out 3; have hfz9_4 := blk_frozen BK366.out 4; have hcz10_0 : w7.cell? ⟨gb367, 0, none⟩ = some (.int .i64 a1_0) := (blk_cell BK367.out 0).trans rfl; have hcz10_1 : w7.cell? ⟨gb367, 1, none⟩ = some (.int .i64 a1_1) := (blk_cell BK367.out 1).trans rfl; have hcz10_2 : w7.cell? ⟨gb367, 2, none⟩ = some (.bool a1_2) := (blk_cell BK367.out 2).trans rfl; have hcz10_3 : w7.cell? ⟨gb367, 3, none⟩ = some (.bool a1_3) := (blk_cell BK367.out 3).trans rfl; have hcz10_4 : w7.cell? ⟨gb367, 4, none⟩ = some (.bool a1_4) := (blk_cell BK367.out 4).trans rfl; have hfz10_0 := blk_frozen BK367.out 0; have hfz10_1 := blk_frozen BK367.out 1; have hfz10_2 := blk_frozen BK367.out 2; have hfz10_3 := blk_frozen BK367.out 3; have hfz10_4 := blk_frozen BK367.out 4))
  go_ret
  exact ⟨by first | rfl | (simp [errW_none, errW_some] <;> rfl) | (simp [*, errW_none, errW_some] <;> rfl), rb2 HB GE366 GE367⟩

end Go.Proofs.Ytfhkpneffmcdbaa.QD
