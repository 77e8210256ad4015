/- Contracts of Go functions that laws of this seat reach: each Lean function answers as its Go function does. No condition. Written by wip/tools/inj.py, over the kit's print. -/
import Derived.Test.YtalopdcephohgaaRCx0
import Derived.Test.YtalopdcephohgaaRCx20
import Derived.Test.YtalopdcephohgaaRCx21
import Derived.Test.YtalopdcephohgaaRCx23
namespace Go.Proofs.Ytalopdcephohgaa.RC
open Go.RowKit Go.Proofs.YtalopdcephohgaaW.PrintWords Go.Proofs.YtalopdcephohgaaW.PrintLast Go.Proofs.YtalopdcephohgaaW.PrintMore
attribute [local go_sem] max2_int min2_int max_two min_two max_three min_three max_four min_four   -- for this text's walks alone
set_option linter.unusedVariables false
set_option linter.unusedSimpArgs false

/-! ### bits_Mul64: function 145 -/
def bits_Mul64.f (a0 : Int) (a1 : Int) : Option (Int × Int) := some (IntKind.u64.wrap ((IntKind.u64.wrap ((IntKind.u64.wrap ((a0 / 4294967296) * (a1 / 4294967296))) + ((IntKind.u64.wrap ((IntKind.u64.wrap ((a0 / 4294967296) * (Go.bits .and .u64 a1 4294967295))) + ((IntKind.u64.wrap ((Go.bits .and .u64 a0 4294967295) * (Go.bits .and .u64 a1 4294967295))) / 4294967296))) / 4294967296))) + ((IntKind.u64.wrap ((Go.bits .and .u64 (IntKind.u64.wrap ((IntKind.u64.wrap ((a0 / 4294967296) * (Go.bits .and .u64 a1 4294967295))) + ((IntKind.u64.wrap ((Go.bits .and .u64 a0 4294967295) * (Go.bits .and .u64 a1 4294967295))) / 4294967296))) 4294967295) + (IntKind.u64.wrap ((Go.bits .and .u64 a0 4294967295) * (a1 / 4294967296))))) / 4294967296)), IntKind.u64.wrap (a0 * a1))
set_option maxHeartbeats 8000000 in
set_option maxRecDepth 100000 in
theorem bits_Mul64.calls (a0 : Int) (a1 : Int) (r1 : Int) (r2 : Int) (w : World) (h : bits_Mul64.f a0 a1 = some (r1, r2)) :
  Calls Try.prog 145 #[.int .u64 a0, .int .u64 a1] w fun e w' => e = .returned (.tuple #[.int .u64 r1, .int .u64 r2]) ∧ Drawn0 w w' := by
 (
have H := h
unfold bits_Mul64.f at H
clear h
simp only [Option.some.injEq, Prod.mk.injEq] at H
obtain ⟨rfl, rfl⟩ := H
go_enter Try.func145, Try.ntmps145
go_wp2
go_ret2
exact ⟨by first | rfl | (simp; done) | (simp [*]; done), by repeat (first | exact Drawn0.refl _ | apply Drawn0.step)⟩
)

/-! ### bits_Mul: function 143 -/
def bits_Mul.f (a0 : Int) (a1 : Int) : Option (Int × Int) := (bits_Mul64.f a0 a1).bind fun bt420 => (some (bt420.1, bt420.2))
set_option maxHeartbeats 8000000 in
set_option maxRecDepth 100000 in
theorem bits_Mul.calls (a0 : Int) (a1 : Int) (r1 : Int) (r2 : Int) (w : World) (h : bits_Mul.f a0 a1 = some (r1, r2)) :
  Calls Try.prog 143 #[.int .u64 a0, .int .u64 a1] w fun e w' => e = .returned (.tuple #[.int .u64 r1, .int .u64 r2]) ∧ Drawn0 w w' := by
 (
have H : ((bits_Mul64.f a0 a1).bind fun bt420 => (some (bt420.1, bt420.2))) = some (r1, r2) := h
clear h
replace H := Option.bind_eq_some_iff.mp H
obtain ⟨⟨t420, t421⟩, A30, H⟩ := H
replace H : (some (t420, t421)) = some (r1, r2) := H
have A3 := am A30
clear A30
simp only [Option.some.injEq, Prod.mk.injEq] at H
obtain ⟨rfl, rfl⟩ := H
go_enter Try.func143, Try.ntmps143
go_wp2_with (first | ((with_reducible refine gate_callee (f := 145) rfl ?_); refine gl_ (some 25) Try.func145 #[.int .u64 a0, .int .u64 a1] ?_; (with_reducible refine (bits_Mul64.calls a0 a1 t420 t421 _ A3.out).mono ?_); rintro e w' ⟨rfl, ⟨nd, rfl⟩⟩; refine ⟨_, rfl, ?_⟩))
go_ret2
exact ⟨by first | rfl | (simp; done) | (simp [*]; done), by repeat (first | exact Drawn0.refl _ | apply Drawn0.step)⟩
)

/-! ### impl_Cell_137: function 137 -/
theorem rep_copy {P : Program} {w : World} {o : Oper} {a : Act} {K : Act → World → Prop} {Q : Exit → Act → World → Prop} (d s : Operand) (dT sT : TypeId)
  (ho : o.op = .call { callee := .builtin .copy, args := #[d, s], argTypes := #[dT, sT] }) (elem : TypeId) (hu : P.underlying dT = some (.slice elem)) (sz : Nat) (hsz : (P.info? elem).map (·.size) = some sz)
  (g off dLen dCap : Nat) (ad : Addr) (sLen sCap : Nat) (hd : a.eval d = .slice (some ⟨g, off, none⟩) dLen dCap) (hs : a.eval s = .slice (some ad) sLen sCap)
  (cur : List Value) (t : TypeId) (hg : w.heap[g]? = some (.cells cur.toArray t (0, 0))) (cs : List Value) (m : Nat) (hm : m = Nat.min sLen dLen) (hn : cs.length = m * sz)
  (hsrc : ∀ j v, cs[j]? = some v → w.cell? (ad.add j) = some v) (hfit : off + cs.length ≤ cur.length) (h1 : ∀ v ∈ cs, v.oneCell' = true)
  (h : ∀ w', w' = w.setRow g (cur.take off ++ cs ++ cur.drop (off + cs.length)).toArray → K (a.put o.dst (goInt m)) w') : o.wp P a w K Q := by
 have hl := run_loadCells_list (P := P) w ad cs hsrc
 have hst := run_storeCells_at P g off t cs 0 cur.toArray w hg (by simpa using hfit) h1
 have hrun : (Builtin.copy_ #[dT, sT] o.type #[.slice (some ⟨g, off, none⟩) dLen dCap, .slice (some ad) sLen sCap]).run P w = .ok (goInt m) (w.setRow g (cur.take off ++ cs ++ cur.drop (off + cs.length)).toArray) := by
  cases hq : P.info? elem with
  | none => simp [hq] at hsz
  | some i =>
   have hi : i.size = sz := by simpa [hq] using hsz
   simp only [Nat.add_zero, List.append_assoc] at hst
   simp [Builtin.copy_, run_underlying hu, Builtin.lenOf, Builtin.firstCells, sizeOf, typeInfo, hq, hi, ← hm, ← hn, hl, hst]
 unfold Oper.wp
 simp [execOp, ho, resolve, invoke, builtin, hd, hs, hrun, Result.andThen]
 have := h _ rfl
 simp only [List.append_assoc] at this
 exact this
def rep_ (c : List Value) (k : Nat) : List Value := (List.replicate k c).flatten
theorem rep_len (c : List Value) (k : Nat) : (rep_ c k).length = k * c.length := by simp [rep_]
theorem rep_add (c : List Value) (a b : Nat) : rep_ c a ++ rep_ c b = rep_ c (a + b) := by unfold rep_; rw [← List.flatten_append, List.replicate_append_replicate]
theorem rep_mem {c : List Value} {k : Nat} {v : Value} (h : v ∈ rep_ c k) : v ∈ c := by
 simp only [rep_, List.mem_flatten] at h
 obtain ⟨l, hl, hv⟩ := h
 rwa [(List.mem_replicate.mp hl).2] at hv
theorem rep_reps {α : Type} {R : α → List Value → Prop} {c : List Value} {x : α} {size : Nat} (hc : c.length = size) (h : R x c) : ∀ k, Reps R size (List.replicate k x) (rep_ c k)
 | 0 => Reps.none _ _
 | k + 1 => by
  have := Reps.snoc (rep_reps hc h k) h hc
  rw [show List.replicate (k + 1) x = List.replicate k x ++ [x] by rw [List.replicate_succ'], ← rep_add c k 1]
  simpa [rep_] using this
theorem rep_make {P : Program} {w0 w : World} {ops : Array Oper} {rest : List Oper} {o : Oper} {a : Act} {Q : Exit → Act → World → Prop} (hgd : o.guard = none) (t : TypeId) (x y : Operand) (ho : o.op = .makeSlice t x y)
  (m : Nat) (hx : a.eval x = .int .i64 (m : Int)) (hy : a.eval y = .int .i64 (m : Int)) (e : TypeId) (ht : P.underlying t = some (.slice e)) (z : Value) (sz bytes : Nat)
  (hinfo : (P.info? e).map (fun i => (i.zero, i.size, i.bytes)) = some (some z, sz, bytes)) (hl : m * bytes ≤ 281474976710656) (hm : m ≤ 9223372036854775807) (HB : Below w0.heap.size w0 w)
  (h : ∀ (g : Nat) (w1 : World) (Z : List Value), Z.length = m * sz → w0.heap.size ≤ g → w1.heap[g]? = some (.cells Z.toArray e (0, 0)) → Below w0.heap.size w0 w1 → wpList P ops Q rest (a.put o.dst (.slice (some ⟨g, 0, none⟩) m m)) w1) : wpList P ops Q (o :: rest) a w := by
 obtain ⟨i0, hi, hzz⟩ := Option.map_eq_some_iff.1 hinfo
 simp only [Prod.mk.injEq] at hzz
 obtain ⟨hz0, hz1, hz2⟩ := hzz
 have hr := run_make (P := P) w t e i0 z ht hi hz0 .i64 .i64 (m : Int) (m : Int) (by omega) (by omega)
  (by
   have h3 : ((i0.bytes * m : Nat) : Int) ≤ 281474976710656 := by rw [hz2, Nat.mul_comm]; omega
   rwa [Int.natCast_mul] at h3) (by omega)
 simp only [Int.toNat_natCast] at hr
 rw [hz1] at hr
 refine wpList_plain hgd fun K hK => ?_
 unfold Oper.wp
 simp [execOp, ho, hx, hy, hr, Result.andThen]
 refine hK _ _ (h w.heap.size _ (madeCells z.cells (m * sz)).toList ?_ HB.size ?_ (HB.alloc HB.size _))
 ·rw [Array.length_toList, size_madeCells]
 ·rw [Array.toArray_toList]; exact heap_alloc_new w _
theorem rep_step {P : Program} {w0 w : World} {o : Oper} {a : Act} {K : Act → World → Prop} {Q : Exit → Act → World → Prop} (d s : Operand) (dT sT : TypeId)
  (ho : o.op = .call { callee := .builtin .copy, args := #[d, s], argTypes := #[dT, sT] }) (elem : TypeId) (hu : P.underlying dT = some (.slice elem)) (sz : Nat) (hsz : (P.info? elem).map (·.size) = some sz)
  (c : List Value) (hc : c.length = sz) (h1 : ∀ v ∈ c, v.oneCell' = true) (m k j : Nat) (Z : List Value) (hZ : Z.length = (m - k) * sz) (hkj : k + j ≤ m)
  (g off dLen dCap : Nat) (ad : Addr) (sLen sCap : Nat) (hoff : off = k * sz) (hm : j = Nat.min sLen dLen) (hd : a.eval d = .slice (some ⟨g, off, none⟩) dLen dCap) (hs : a.eval s = .slice (some ad) sLen sCap)
  (t : TypeId) (hg : w.heap[g]? = some (.cells (rep_ c k ++ Z).toArray t (0, 0))) (hB : Below w0.heap.size w0 w) (hgw : w0.heap.size ≤ g)
  (hsrc : ∀ i v, (rep_ c j)[i]? = some v → w.cell? (ad.add i) = some v)
  (h : ∀ (w1 : World) (Z1 : List Value), Z1.length = (m - (k + j)) * sz → w1.heap[g]? = some (.cells (rep_ c (k + j) ++ Z1).toArray t (0, 0)) → Below w0.heap.size w0 w1 → K (a.put o.dst (goInt j)) w1) : o.wp P a w K Q := by
 have hl : (rep_ c j).length = j * sz := by rw [rep_len, hc]
 have hlk : (rep_ c k).length = k * sz := by rw [rep_len, hc]
 have hjk : j * sz ≤ (m - k) * sz := Nat.mul_le_mul_right _ (by omega)
 refine rep_copy d s dT sT ho elem hu sz hsz g off dLen dCap ad sLen sCap hd hs (rep_ c k ++ Z) t hg (rep_ c j) j hm hl hsrc (by rw [List.length_append, hlk, hoff, hl, hZ]; omega) (fun v hv => h1 v (rep_mem hv)) ?_
 rintro w1 rfl
 have e : (rep_ c k ++ Z).take off ++ rep_ c j ++ (rep_ c k ++ Z).drop (off + (rep_ c j).length) = rep_ c (k + j) ++ Z.drop (j * sz) := by
  rw [hoff, hl, ← hlk, List.take_left, List.drop_append, rep_add]
  simp
 rw [e]
 refine h _ (Z.drop (j * sz)) ?_ (setRow_heap w g _ _ t _ hg) (hB.trans ⟨rfl, rfl, rfl, by simp [World.setRow], fun k hk => setRow_other w g k _ (by omega)⟩)
 rw [List.length_drop, hZ, ← Nat.sub_mul, Nat.sub_sub]
theorem rep_step_on {P : Program} {w : World} {ops : Array Oper} {o : Oper} {a : Act} {K : Act → World → Prop} {Q : Exit → Act → World → Prop} {E : Prop} (hgd : o.guard = none) (h : o.wp P a w K Q) :
  if Region.wanted o (yielded ops a.tmps) = true then Oper.wp P o a w K Q else E := by
 have hw : Region.wanted o (yielded ops a.tmps) = true := by simp [Region.wanted, hgd]
 rw [if_pos hw]
 exact h
theorem rep_src {w : World} {g t : Nat} {c Z : List Value} {k j i : Nat} {v : Value} (hg : w.heap[g]? = some (.cells (rep_ c k ++ Z).toArray t (0, 0))) (hj : j ≤ k) (hv : (rep_ c j)[i]? = some v) : w.cell? ((⟨g, 0, none⟩ : Addr).add i) = some v := by
 rw [add_plain]
 obtain ⟨q, rfl⟩ : ∃ q, k = j + q := ⟨k - j, by omega⟩
 rw [← rep_add, List.append_assoc] at hg
 have hi : i < (rep_ c j).length := (List.getElem?_eq_some_iff.1 hv).1
 have h2 : (rep_ c j ++ (rep_ c q ++ Z))[i]? = some v := by rw [List.getElem?_append_left hi]; exact hv
 rw [cell_of_row w g i _ t (0, 0) hg]
 simpa using h2
theorem rep_R {α : Type} {d : Kd α} {e : Nat} {w : World} {base g m : Nat} {c Z : List Value} {x : α} (hc : c.length = d.sz) (hM : ∀ ok, d.M w base ok x c) (hZ : Z.length = (m - m) * d.sz) (hm : m ≤ maxLen) (hg : base ≤ g)
  (hG : w.heap[g]? = some (.cells (rep_ c m ++ Z).toArray e (0, 0))) : d.R e w base (fun _ => True) (.slice (some ⟨g, 0, none⟩) m m) (List.replicate m x) := by
 obtain rfl : Z = [] := List.eq_nil_of_length_eq_zero (by rw [hZ]; simp)
 rw [List.append_nil] at hG
 have hl : (rep_ c m).length = m * d.sz := by rw [rep_len, hc]
 refine ⟨fun _ _ => trivial, rep_ c m, ⟨by rw [hl, List.length_replicate], .inr ⟨g, m, (rep_ c m).toArray, by rw [List.length_replicate], hg, hG, by rw [List.length_replicate]; exact Nat.le_refl _, hm, by rw [List.size_toArray, hl], ?_⟩⟩, rep_reps hc (hM _) m⟩
 rw [List.toList_toArray, List.length_replicate, ← hl, List.take_length]
theorem rep_wrap {n : Int} (h : 0 ≤ n ∧ n ≤ 100000) : wrap64 n = n := by unfold wrap64; omega
theorem rep_mul (m : Nat) (hm : m ≤ 1000) : bits_Mul.f 1 (m : Int) = some (0, (m : Int)) := by
 have w1 : ∀ n : Int, IntKind.u64.wrap n = n % 18446744073709551616 := fun n => by simp [IntKind.wrap, IntKind.bits, IntKind.signed]
 have hb : ∀ n : Int, 0 ≤ n → n < 4294967296 → Go.bits .and .u64 n 4294967295 = n := by
  intro n h0 hn
  have := bits_mask .u64 32 (by decide) (fun n h0 h1 => by rw [w1]; omega) 32 (Nat.le_refl _) n h0 (by omega)
  refine Eq.trans this ?_
  omega
 have b1 := hb 1 (by omega) (by omega)
 have b2 := hb (m : Int) (by omega) (by omega)
 have b0 := hb 0 (by omega) (by omega)
 have d0 : (m : Int) / 4294967296 = 0 := by omega
 have d1 : (1 : Int) / 4294967296 = 0 := by omega
 have d2 : (m : Int) % 18446744073709551616 = (m : Int) := by omega
 unfold bits_Mul.f bits_Mul64.f
 simp only [b1, b2, w1, d0, d1, Int.one_mul, Int.zero_mul, Int.mul_zero, Int.zero_emod, Int.add_zero, d2, Int.zero_ediv, b0, Option.bind_some]
def impl_Cell_137.f (l0 : List (S98)) (a1 : Int) : Option (List (S98)) := if l0.length = 1 ∧ 0 ≤ a1 ∧ a1 ≤ 1000 then some (List.replicate a1.toNat (rd_T98 l0 0)) else none
set_option maxHeartbeats 8000000 in
set_option maxRecDepth 100000 in
theorem impl_Cell_137.calls (A0 : Option Addr) (c0 : Nat) (l0 : List (S98)) (a1 : Int) (r : List (S98)) (w : World) (hr0 : Kd.C k98 w A0 l0.length l0) (hc0 : l0.length ≤ c0) (h : impl_Cell_137.f l0 a1 = some r) :
  Calls Try.prog 137 #[.slice A0 l0.length c0, .int .i64 a1] w fun e w' => ∃ v0_ : Value, e = .returned (v0_) ∧ Kd.R k98 98 w' w.heap.size (fun _ => True) v0_ r ∧ Below w.heap.size w w' := by
 (
unfold impl_Cell_137.f at h
by_cases hc : l0.length = 1 ∧ 0 ≤ a1 ∧ a1 ≤ 1000
·(
rw [if_pos hc] at h
obtain rfl := Option.some.inj h
clear h
obtain ⟨hl, h0, h1⟩ := hc
obtain ⟨m, rfl⟩ := Int.eq_ofNat_of_zero_le h0
have hm : m ≤ 1000 := by omega
obtain ⟨ad, cx, hA, hcl, hK, hcx⟩ := Kd.C_get hr0 z98 0 (Int.le_refl 0) (by omega)
obtain ⟨x, hx⟩ : ∃ x, x = rd_T98 l0 0 := ⟨_, rfl⟩
rw [show l0.getD (0 : Int).toNat z98 = rd_T98 l0 0 from rfl, ← hx] at hK
rw [← hx]
clear hr0
rw [hl] at hc0
simp only [hl]
clear hx hl
have hM : ∀ (w : World) (b : Nat) (ok : Nat → Prop), k98.M w b ok x cx := by rw [k98_open hK]; exact fun w b ok => k98_mkM w b ok x
have hone : ∀ v ∈ cx, v.oneCell' = true := k98.K_one hK
clear hK
obtain ⟨cs, hcs⟩ : ∃ cs, cs = cx := ⟨_, rfl⟩
rw [← hcs] at hcx hcl hM hone
clear hcs
have hL : cs.length = 7 := hcl
subst hA
have huT : Try.prog.underlying 99 = some (.slice 98) := by kernel_rfl
have hiE : (Try.prog.info? 98).map (·.size) = some 7 := by kernel_rfl
have c1 : decide ((m : Int) < 0) = false := decide_eq_false (by omega)
have q1 : IntKind.u64.wrap 1 = 1 := by decide
have q2 : IntKind.u64.wrap (m : Int) = (m : Int) := by unfold IntKind.wrap; simp [IntKind.bits, IntKind.signed]; omega
have hsrc1 : ∀ j, j ≤ 1 → ∀ i v, (rep_ cs j)[i]? = some v → w.cell? (ad.add i) = some v := by
 intro j hj i v hv
 have hh : cs[i]? = some v := by
  rcases (show j = 0 ∨ j = 1 by omega) with rfl | rfl
  ·simp [rep_] at hv
  ·simpa [rep_] using hv
 have := hcx i v hh
 rwa [show Int.toNat 0 * k98.sz + i = i by simp] at this
have hmul := rep_mul m hm
go_enter Try.func137, Try.ntmps137
go_wp2_with (first
 | ((with_reducible refine gate_callee (f := 143) rfl ?_); refine goesL_ (some 18) rfl rfl Try.func143 (by kernel_rfl) rfl #[.int .u64 1, .int .u64 (m : Int)] rfl (by (try simp only [List.map_toArray, List.map_cons, List.map_nil]); first | done | rfl | (go_simp; done) | (simp [q1, q2]; done)) ?_; (with_reducible refine (bits_Mul.calls 1 (m : Int) 0 (m : Int) _ hmul).mono ?_); rintro e w' ⟨rfl, ⟨nd, rfl⟩⟩; refine ⟨_, rfl, ?_⟩)
 | ((with_reducible refine gate_dst (N := 30) rfl ?_); refine rep_make (w0 := w) rfl 99 (.tmp 29) (.tmp 29) rfl m ?hx ?hy 98 huT (.agg #[(.int .i64 0), (.int .i64 0), (.int .i64 0), (.bool false), (.bool false), (.bool false), (.int .i64 0)]) 7 40 (by kernel_rfl) (by omega) (by omega) (by repeat (first | exact Below.refl _ _ | apply b1 | apply b2 | apply b3)) ?_; (case hx => first | (go_simp; done) | (go_simp; rfl)); (case hy => first | (go_simp; done) | (go_simp; rfl)); intro g w1 Z hZ hg hG HB; have HG := am hG; have HBB := am HB; have HGE := am hg; have HZ := am hZ; clear hG HB hg hZ)
 | ((with_reducible refine gate_dst (N := 33) rfl ?_); refine wpList_plain rfl fun K_ hK_ => rep_step (w0 := w) (.tmp 31) (.tmp 32) 99 99 rfl 98 huT 7 hiE cs hL hone m 0 (Nat.min 1 m) Z (by rw [HZ.out]; rfl) (by rw [Nat.zero_add]; exact Nat.min_le_right _ _) g 0 m m ad 1 c0 (Nat.zero_mul _).symm rfl ?hd ?hs 98 HG.out HBB.out HGE.out (fun i v hv => pw_cell_below HBB.out (hsrc1 _ (Nat.min_le_left _ _) i v hv)) ?_; (case hd => first | (go_simp; done) | (go_simp; rfl)); (case hs => first | (go_simp; done) | (go_simp; rfl)); intro w2 Z2 hZ hG HB; refine hK_ _ _ ?_; have HG2 := am hG; have HBB2 := am HB; have HZ2 := am hZ; clear hG HB hZ HG HBB HZ))
go_loopg [8] m (fun gk v8 wr => ∃ (k : Nat) (Z3 : List Value), v8 = .int .i64 (k : Int) ∧ Aside0 (k ≤ m ∧ m - k ≤ gk ∧ (m = 0 ∨ 1 ≤ k) ∧ Z3.length = (m - k) * 7) ∧ Aside0 (wr.heap[g]? = some (.cells (rep_ cs k ++ Z3).toArray 98 (0, 0))) ∧ Aside0 (Below w.heap.size w wr))
case atStart => exact ⟨0 + Nat.min 1 m, Z2, (by first | rfl | (simp [goInt]; done)), ⟨by rw [Nat.zero_add]; exact Nat.min_le_right _ _, by omega, (by have : Nat.min 1 m = min 1 m := rfl; omega), HZ2.out⟩, HG2, HBB2⟩
case round => (
obtain ⟨k, Z3, rfl, H1, HG3, HB3⟩ := hrel
obtain ⟨hk, hgk, hk1, hZ3⟩ := H1.out
clear H1
have HZ3 := am hZ3
clear hZ3 HG2 HZ2
by_cases hkm : k < m
·(
obtain ⟨g1, rfl⟩ : ∃ q, gk = q + 1 := ⟨gk - 1, by omega⟩
have d1 : decide ((k : Int) < (m : Int)) = true := decide_eq_true (by omega)
obtain ⟨ti, hti, hts⟩ := Option.map_eq_some_iff.1 hiE
have e41 : ∀ W : World, (Instr.slice 99 (.slice (some ⟨g, 0, none⟩) m m) (some (.int .i64 (k : Int))) none none).run Try.prog W = .ok (.slice (some ⟨g, k * 7, none⟩) (m - k) (m - k)) W := by
 intro W
 rw [cut_from 99 98 .i64 huT hti 7 hts (some ⟨g, 0, none⟩) m m (k : Int) (by omega) (by omega) W, Int.toNat_natCast, if_neg (by omega)]
 simp [add_plain]
have e44 : ∀ W : World, (Instr.slice 99 (.slice (some ⟨g, 0, none⟩) m m) none (some (.int .i64 (k : Int))) none).run Try.prog W = .ok (.slice (some ⟨g, 0, none⟩) k m) W := by
 intro W
 rw [cut_to 99 98 .i64 huT hti (some ⟨g, 0, none⟩) m m (k : Int) (by omega) (by omega) (Nat.le_refl _) W, Int.toNat_natCast]
obtain ⟨j, hj⟩ : ∃ j, j = Nat.min k (m - k) := ⟨_, rfl⟩
have hj2 : j ≤ k ∧ j ≤ m - k ∧ (1 ≤ k → 1 ≤ j) := by
 have : Nat.min k (m - k) = min k (m - k) := rfl
 omega
have e46 : IntKind.i64.wrap ((k : Int) + (j : Int)) = ((k + j : Nat) : Int) := by rw [IntKind.wrap_i64]; omega
have HJ := am hj
clear hj
have HJK := am (show k + j ≤ m by omega)
go_wp2
go_region_held3 (fun _ => True) (trivial) ((refine rep_step_on (by rfl) (rep_step (w0 := w) (.tmp 41) (.tmp 44) 99 99 (by rfl) 98 huT 7 hiE cs hL hone m k j Z3 HZ3.out HJK.out g (k * 7) (m - k) (m - k) ⟨g, 0, none⟩ k m rfl HJ.out (by rfl) (by rfl) 98 (show _ = _ from HG3.out) (below_drew1 HB3.out) HGE.out (fun i v hv => rep_src (show _ = _ from HG3.out) hj2.1 hv) ?_); intro w4 Z4 hZ hG HB; have HG4 := am hG; have HBB4 := am HB; have HZ4 := am hZ; clear hG HB hZ HG3 HB3 HZ3))
go_wp2
go_roundg g1
case measure => omega
case rel => exact ⟨k + j, Z4, (by first | rfl | (simp [goInt]; done)), ⟨by omega, by omega, by omega, HZ4.out⟩, HG4, HBB4⟩
)
·(
have d1 : decide ((k : Int) < (m : Int)) = false := decide_eq_false (by omega)
have hke : k = m := by omega
subst hke
go_wp2
go_ret
exact ⟨_, rfl, rep_R hL (hM _ _) HZ3.out (by unfold maxLen; omega) HGE.out HG3.out, HB3.out⟩
)
)
)
·rw [if_neg hc] at h; cases h
)

/-! ### impl_Blank: function 123 -/
def impl_Blank.j0 : Nat → Int → Bool → Int → Int → Bool → Bool → Bool → Option ((List (S98)))
 | 0, _, _, _, _, _, _, _ => none
 | k + 1, x0, x12, x423000, x423001, x423002, x423003, x423004 => if x12 = true then (some ([] : List (S98))) else ((impl_blank.f x423000 x423001 x423002 x423003 x423004).bind fun bt425 => ((impl_Cell_137.f (([(⟨bt425.1, (⟨bt425.2.1, bt425.2.2.1, bt425.2.2.2.1, bt425.2.2.2.2.1, bt425.2.2.2.2.2.1⟩ : S96), bt425.2.2.2.2.2.2⟩ : S98)] : List (S98))) x0).bind fun t435 => (some t435)))
def impl_Blank.f (k : Nat) (a0 : Int) (a1_0 : Int) (a1_1 : Int) (a1_2 : Bool) (a1_3 : Bool) (a1_4 : Bool) : Option ((List (S98))) := (impl_in.f a0 1 60).bind fun t423 => (if t423 = true then ((impl_StyleOk.f a1_0 a1_1 a1_2 a1_3 a1_4).bind fun t424 => (impl_Blank.j0 k a0 (!t424) a1_0 a1_1 a1_2 a1_3 a1_4)) else (impl_Blank.j0 k a0 true a1_0 a1_1 a1_2 a1_3 a1_4))
theorem impl_Blank.mono_l : ∀ k, (∀ y0 y1 y2 y3 y4 y5 y6, LeO (impl_Blank.j0 k y0 y1 y2 y3 y4 y5 y6) (impl_Blank.j0 (k + 1) y0 y1 y2 y3 y4 y5 y6))
 | 0 => fun _ _ _ _ _ _ _ r h => by simp [impl_Blank.j0] at h
 | k + 1 => by
  have ih0 := impl_Blank.mono_l k
  ·intro y0 y1 y2 y3 y4 y5 y6
   unfold impl_Blank.j0
   repeat' first
   | (with_reducible exact ih0 _ _ _ _ _ _ _)
   | (with_reducible exact LeO.refl _)
   | (with_reducible exact LeO.none _)
   | (with_reducible refine LeO.ite ?_ ?_)
   | (with_reducible refine LeO.bind ?_ (fun _ => ?_))
theorem impl_Blank.mono : ∀ a0 a1 a2 a3 a4 a5 k, LeO (impl_Blank.f k a0 a1 a2 a3 a4 a5) (impl_Blank.f (k + 1) a0 a1 a2 a3 a4 a5) := by
 intro a0 a1 a2 a3 a4 a5 k
 have ih0 := impl_Blank.mono_l k
 unfold impl_Blank.f
 repeat' first
   | (with_reducible exact ih0 _ _ _ _ _ _ _)
   | (with_reducible exact LeO.refl _)
   | (with_reducible exact LeO.none _)
   | (with_reducible refine LeO.ite ?_ ?_)
   | (with_reducible refine LeO.bind ?_ (fun _ => ?_))
set_option maxHeartbeats 8000000 in
set_option maxRecDepth 100000 in
theorem impl_Blank.calls (k : Nat) (a0 : Int) (a1_0 : Int) (a1_1 : Int) (a1_2 : Bool) (a1_3 : Bool) (a1_4 : Bool) (r : List (S98)) (w : World) (h : impl_Blank.f k a0 a1_0 a1_1 a1_2 a1_3 a1_4 = some r) :
  Calls Try.prog 123 #[.int .i64 a0, .agg #[.int .i64 a1_0, .int .i64 a1_1, .bool a1_2, .bool a1_3, .bool a1_4]] w fun e w' => ∃ v0_ : Value, e = .returned (v0_) ∧ Kd.R k98 98 w' w.heap.size (fun _ => True) v0_ r ∧ Below w.heap.size w w' := by
 (
have hu96 := Try.underlying96
have HB := am (Below.refl w.heap.size w)
have H := h
unfold impl_Blank.f at H
clear h
have HC3 := am H
clear H
go_enter Try.func123, Try.ntmps123
go_upto_region 1 with (first | ((with_reducible refine gate_dst (N := 3) rfl ?_); refine box_event ?hg (N := 3) ?hd (cs := #[.int .i64 a1_0, .int .i64 a1_1, .bool a1_2, .bool a1_3, .bool a1_4]) (t := 96) ?hr ?_; (case hd => rfl); (case hg => rfl); (case hr => first | (go_simp; done) | (go_simp; rfl)); intro gb422 hg w4 hbox hb; have BK422 := am (hbox); have GW422 := am (gw hg (rb HB)); have GE422 := GW422; replace HB := am (below_step (rb HB) hb); clear hb hbox hg))
(try simp only [Act.put, List.setIfInBounds_toArray, List.set_cons_zero, List.set_cons_succ])
go_cut [12] (fun v12 wc => ∃ (kq : Nat) (x12_2 : Bool), v12 = .bool x12_2 ∧ Aside0 (impl_Blank.j0 kq a0 x12_2 a1_0 a1_1 a1_2 a1_3 a1_4 = some r) ∧ Aside0 (kq ≤ k) ∧ Aside0 (wc.heap[gb422]? = some (.cells #[.int .i64 a1_0, .int .i64 a1_1, .bool a1_2, .bool a1_3, .bool a1_4] 96 (0, 0))) ∧ Aside0 (Below w.heap.size w wc))
case first => (
have H := HC3.out
clear HC3
replace H := Option.bind_eq_some_iff.mp H
obtain ⟨t423, A50, H⟩ := H
(try dsimp only at H)
have A5 := am A50
clear A50
by_cases c6 : t423 = true
·(
subst c6
rw [if_pos rfl] at H
replace H := Option.bind_eq_some_iff.mp H
obtain ⟨t424, A70, H⟩ := H
(try dsimp only at H)
have A7 := am A70
clear A70
have H' := am H
clear H
go_wp2_with (first | ((with_reducible refine gate_callee (f := 56) rfl ?_); refine gl_ (some 6) Try.func56 #[.int .i64 a0, .int .i64 1, .int .i64 60] ?_; (with_reducible refine (impl_in.calls a0 1 60 true _ A5.out).mono ?_); rintro e w' ⟨rfl, ⟨nd, rfl⟩⟩; refine ⟨_, rfl, ?_⟩; have hcz8_0 : w4.cell? ⟨gb422, 0, none⟩ = some (.int .i64 a1_0) := (blk_cell BK422.out 0).trans rfl; have hcz8_1 : w4.cell? ⟨gb422, 1, none⟩ = some (.int .i64 a1_1) := (blk_cell BK422.out 1).trans rfl; have hcz8_2 : w4.cell? ⟨gb422, 2, none⟩ = some (.bool a1_2) := (blk_cell BK422.out 2).trans rfl; have hcz8_3 : w4.cell? ⟨gb422, 3, none⟩ = some (.bool a1_3) := (blk_cell BK422.out 3).trans rfl; have hcz8_4 : w4.cell? ⟨gb422, 4, none⟩ = some (.bool a1_4) := (blk_cell BK422.out 4).trans rfl; have hfz8_0 := blk_frozen BK422.out 0; have hfz8_1 := blk_frozen BK422.out 1; have hfz8_2 := blk_frozen BK422.out 2; have hfz8_3 := blk_frozen BK422.out 3; have hfz8_4 := blk_frozen BK422.out 4) | (go_at_call 130; (with_reducible refine (impl_StyleOk.calls a1_0 a1_1 a1_2 a1_3 a1_4 t424 _ A7.out).mono ?_); rintro e w9 ⟨rfl, hb⟩; replace BK422 := am (blk_below (rk BK422) hb); replace HB := am (below_step (rb1 HB GE422) hb); (try clear hb); (try clear hb2); (try clear hk); (try clear hi)))
go_meet
case rel => exact ⟨_, (!t424), (by first | rfl | (simp; done) | (simp [*]; done)), H', ⟨by first | omega | exact Nat.le_refl _⟩, ⟨rk BK422⟩, ⟨by repeat (first | (with_reducible first | exact HB.out | apply b1 | apply b2 | apply b3 | refine below_set ?_ GE422.out) | exact HB.out)⟩⟩
)
·(
replace c6 := Bool.eq_false_iff.mpr c6
subst c6
rw [if_neg (show ¬ (false = true) by decide)] at H
have H' := am H
clear H
go_wp2_with (first | ((with_reducible refine gate_callee (f := 56) rfl ?_); refine gl_ (some 6) Try.func56 #[.int .i64 a0, .int .i64 1, .int .i64 60] ?_; (with_reducible refine (impl_in.calls a0 1 60 false _ A5.out).mono ?_); rintro e w' ⟨rfl, ⟨nd, rfl⟩⟩; refine ⟨_, rfl, ?_⟩))
go_meet
case rel => exact ⟨_, (true), (by first | rfl | (simp; done) | (simp [*]; done)), H', ⟨by first | omega | exact Nat.le_refl _⟩, ⟨rk BK422⟩, ⟨by repeat (first | (with_reducible first | exact HB.out | apply b1 | apply b2 | apply b3 | refine below_set ?_ GE422.out) | exact HB.out)⟩⟩
)
)
case rest => (
clear HC3
try clear c1
try clear p2
try clear c5
try clear c6
try clear hcz8_0
try clear hcz8_1
try clear hcz8_2
try clear hcz8_3
try clear hcz8_4
try clear hfz8_0
try clear hfz8_1
try clear hfz8_2
try clear hfz8_3
try clear hfz8_4
obtain ⟨kq, x12_2, rfl, HA, HJ2, BK422, HB⟩ := hcut
cases kq with
| zero => exact absurd HA.out (by simp [impl_Blank.j0])
| succ kj2 => (
have H := HA.out
clear HA
simp only [impl_Blank.j0] at H
by_cases c10 : x12_2 = true
·(
subst c10
have H1 : (some ([] : List (S98))) = some r := by rw [if_pos rfl] at H; exact H
clear H
have H := H1
clear H1
obtain rfl := Option.some.inj H
go_wp2
go_ret
exact ⟨_, by first | rfl | (simp [errW_none, errW_some] <;> rfl) | (simp [*, errW_none, errW_some] <;> rfl), by first | exact Kd.R_nil _ _ _ _ _ | exact Kd.N_nil _ _ _ _ _ | exact Kd.V_nil _ _ _ _ _ | exact Kd.Q_nil _ _ _ _ _ | exact Kd.S_nil _ _ _ _ _, by repeat (first | (with_reducible first | exact HB.out | apply b1 | apply b2 | apply b3 | refine below_set ?_ GE422.out) | exact HB.out)⟩
)
·(
replace c10 := Bool.eq_false_iff.mpr c10
subst c10
rw [if_neg (show ¬ (false = true) by decide)] at H
replace H := Option.bind_eq_some_iff.mp H
obtain ⟨⟨t425, t426, t427, t428, t429, t430, t431⟩, A110, H⟩ := H
(try dsimp only at H)
have A11 := am A110
clear A110
obtain ⟨y432, hy432⟩ : ∃ y_ : List (S98), y_ = (([(⟨t425, (⟨t426, t427, t428, t429, t430⟩ : S96), t431⟩ : S98)] : List (S98))) := ⟨_, rfl⟩
replace H : ((impl_Cell_137.f y432 a0).bind fun t435 => (some t435)) = some r := by first | (rw [hy432]; with_reducible exact H) | (rw [hy432]; exact H) | exact H
have Ny432 := am hy432
clear hy432
replace H := Option.bind_eq_some_iff.mp H
obtain ⟨t435, A120, H⟩ := H
replace H : (some t435) = some r := H
have A12 := am A120
clear A120
obtain rfl := Option.some.inj H
have hcz13_0 : wc.cell? ⟨gb422, 0, none⟩ = some (.int .i64 a1_0) := (blk_cell BK422.out 0).trans rfl
have hcz13_1 : wc.cell? ⟨gb422, 1, none⟩ = some (.int .i64 a1_1) := (blk_cell BK422.out 1).trans rfl
have hcz13_2 : wc.cell? ⟨gb422, 2, none⟩ = some (.bool a1_2) := (blk_cell BK422.out 2).trans rfl
have hcz13_3 : wc.cell? ⟨gb422, 3, none⟩ = some (.bool a1_3) := (blk_cell BK422.out 3).trans rfl
have hcz13_4 : wc.cell? ⟨gb422, 4, none⟩ = some (.bool a1_4) := (blk_cell BK422.out 4).trans rfl
have hfz13_0 := blk_frozen BK422.out 0
have hfz13_1 := blk_frozen BK422.out 1
have hfz13_2 := blk_frozen BK422.out 2
have hfz13_3 := blk_frozen BK422.out 3
have hfz13_4 := blk_frozen BK422.out 4
go_wp2_with (first | ((with_reducible refine gate_callee (f := 104) rfl ?_); refine gl_ (some 14) Try.func104 #[.agg #[.int .i64 a1_0, .int .i64 a1_1, .bool a1_2, .bool a1_3, .bool a1_4]] ?_; (with_reducible refine (impl_blank.calls a1_0 a1_1 a1_2 a1_3 a1_4 t425 t426 t427 t428 t429 t430 t431 _ A11.out).mono ?_); rintro e w14 ⟨rfl, hb⟩; refine ⟨_, rfl, ?_⟩; replace BK422 := am (blk_below (rk BK422) hb); replace HB := am (below_step (rb1 HB GE422) hb); (try clear hb); (try clear hb2); (try clear hk); (try clear hi)) | ((with_reducible refine gate_dst (N := 15) rfl ?_); refine Kd.R_lit k98 _ 98 ?hg (N := 15) ?hd (xs := ([(⟨t425, (⟨t426, t427, t428, t429, t430⟩ : S96), t431⟩ : S98)] : List (S98))) (inner := [.int .i64 t425, .int .i64 t426, .int .i64 t427, .bool t428, .bool t429, .bool t430, .int .i64 t431]) (ok := fun _ => True) (okp := fun _ => True) ?hr ?hp (fun _ hk => hk) trivial (Below.refl _ _) (Nat.le_refl _) (by simp) ?_; (case hd => rfl); (case hg => rfl); (case hr => first | (go_simp; done) | (go_simp; rfl)); (case hp => exact (Reps.c7 (show Kd.M k98 _ _ _ (⟨t425, (⟨t426, t427, t428, t429, t430⟩ : S96), t431⟩ : S98) [.int .i64 t425, .int .i64 t426, .int .i64 t427, .bool t428, .bool t429, .bool t430, .int .i64 t431] from (k98_mkM _ _ _ (⟨t425, (⟨t426, t427, t428, t429, t430⟩ : S96), t431⟩ : S98) )) (Reps.none _ _))); intro v433 w15 ho16 hb hg_ hnew_; clear hg_ hnew_; (first | rw [← Ny432.out] at ho16 | (simp only [Int.reduceToNat] at ho16; rw [← Ny432.out] at ho16)); have HO434 := am (Kd.R_lower ho16 (below_size (rb1 HB GE422))); replace BK422 := am (blk_below (rk BK422) hb); replace HB := am (below_step (rb1 HB GE422) hb); clear hb ho16; obtain ⟨Ao17, co17, eo17⟩ := Kd.R_slice HO434.out; subst eo17) | ((with_reducible refine gate_callee (f := 137) rfl ?_); refine gl_ (some 17) Try.func137 #[.slice Ao17 y432.length co17, .int .i64 a0] ?_; (with_reducible refine (impl_Cell_137.calls _ _ y432 a0 t435 _ ?side1 ?side2 A12.out).mono ?_); (case side1 => repeat (first | exact (Kd.R_reads' HO434.out).2.2 | (with_reducible refine Kd.C_alloc ?_ _) | (with_reducible refine Kd.C_drewN ?_ _) | (with_reducible refine Kd.C_drew ?_))); (case side2 => exact (Kd.R_reads' HO434.out).2.1); rintro e w18 ⟨v436, rfl, ho0, hb⟩; refine ⟨_, rfl, ?_⟩; have HO437 := am (Kd.R_lower (Kd.R_new' ho0 (Kd.R_lt (rr HO434))) (below_size (rb1 HB GE422))); replace HO434 := am (Kd.R_elder' (rr HO434) (Kd.R_base ho0) hb); replace BK422 := am (blk_below (rk BK422) hb); replace HB := am (below_step (rb1 HB GE422) hb); (try clear hb); (try clear hb2); (try clear hk); (try clear hi); (try clear ho0)))
go_ret
exact ⟨_, by first | rfl | (simp [errW_none, errW_some] <;> rfl) | (simp [*, errW_none, errW_some] <;> rfl), by (with_reducible repeat (first | apply r1 | apply r2 | apply r3)); exact Kd.R_mono HO437.out (fun _ hk => trivial), by repeat (first | (with_reducible first | exact HB.out | apply b1 | apply b2 | apply b3 | refine below_set ?_ GE422.out) | exact HB.out)⟩
)
)
)
)

end Go.Proofs.Ytalopdcephohgaa.RC
