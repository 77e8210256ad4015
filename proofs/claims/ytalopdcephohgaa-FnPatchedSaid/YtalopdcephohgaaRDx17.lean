/- Contracts of Go functions that laws of this seat reach: each Lean function answers as its Go function does. No condition. Written by wip/tools/inj.py, over the kit's print. -/
import Derived.Test.YtalopdcephohgaaRDx0
import Derived.Test.YtalopdcephohgaaRDx11
import Derived.Test.YtalopdcephohgaaRDx14
namespace Go.Proofs.Ytalopdcephohgaa.RD
open Go.RowKit Go.Proofs.YtalopdcephohgaaW.PrintWords Go.Proofs.YtalopdcephohgaaW.PrintLast Go.Proofs.YtalopdcephohgaaW.PrintMore
attribute [local go_sem] max2_int min2_int max_two min_two max_three min_three max_four min_four   -- for this text's walks alone
set_option linter.unusedVariables false
set_option linter.unusedSimpArgs false

/-! ### bits_Mul32: function 144 -/
def bits_Mul32.f (a0 : Int) (a1 : Int) : Option (Int × Int) := some (((IntKind.u64.wrap ((IntKind.u64.wrap (a0)) * (IntKind.u64.wrap (a1)))) / 4294967296) % 4294967296, (IntKind.u64.wrap ((IntKind.u64.wrap (a0)) * (IntKind.u64.wrap (a1)))) % 4294967296)
set_option maxHeartbeats 8000000 in
set_option maxRecDepth 100000 in
theorem bits_Mul32.calls (a0 : Int) (a1 : Int) (r1 : Int) (r2 : Int) (w : World) (h : bits_Mul32.f a0 a1 = some (r1, r2)) :
  Calls Try.prog 144 #[.int .u32 a0, .int .u32 a1] w fun e w' => e = .returned (.tuple #[.int .u32 r1, .int .u32 r2]) ∧ Drawn0 w w' := by
 (
have H := h
unfold bits_Mul32.f at H
clear h
simp only [Option.some.injEq, Prod.mk.injEq] at H
obtain ⟨rfl, rfl⟩ := H
go_enter Try.func144, Try.ntmps144
go_wp2
go_ret2
exact ⟨sd, dw⟩
)

/-! ### bits_Mul64: function 145 -/
def bits_Mul64.f (a0 : Int) (a1 : Int) : Option (Int × Int) := some (IntKind.u64.wrap ((IntKind.u64.wrap ((IntKind.u64.wrap ((a0 / 4294967296) * (a1 / 4294967296))) + ((IntKind.u64.wrap ((IntKind.u64.wrap ((a0 / 4294967296) * (Go.bits .and .u64 a1 4294967295))) + ((IntKind.u64.wrap ((Go.bits .and .u64 a0 4294967295) * (Go.bits .and .u64 a1 4294967295))) / 4294967296))) / 4294967296))) + ((IntKind.u64.wrap ((Go.bits .and .u64 (IntKind.u64.wrap ((IntKind.u64.wrap ((a0 / 4294967296) * (Go.bits .and .u64 a1 4294967295))) + ((IntKind.u64.wrap ((Go.bits .and .u64 a0 4294967295) * (Go.bits .and .u64 a1 4294967295))) / 4294967296))) 4294967295) + (IntKind.u64.wrap ((Go.bits .and .u64 a0 4294967295) * (a1 / 4294967296))))) / 4294967296)), IntKind.u64.wrap (a0 * a1))
set_option maxHeartbeats 8000000 in
set_option maxRecDepth 100000 in
theorem bits_Mul64.calls (a0 : Int) (a1 : Int) (r1 : Int) (r2 : Int) (w : World) (h : bits_Mul64.f a0 a1 = some (r1, r2)) :
  Calls Try.prog 145 #[.int .u64 a0, .int .u64 a1] w fun e w' => e = .returned (.tuple #[.int .u64 r1, .int .u64 r2]) ∧ Drawn0 w w' := by
 (
have H := h
unfold bits_Mul64.f at H
clear h
simp only [Option.some.injEq, Prod.mk.injEq] at H
obtain ⟨rfl, rfl⟩ := H
go_enter Try.func145, Try.ntmps145
go_wp2
go_ret2
exact ⟨sd, dw⟩
)

/-! ### bits_Mul: function 143 -/
def bits_Mul.f (a0 : Int) (a1 : Int) : Option (Int × Int) := (bits_Mul64.f a0 a1).bind fun a8 => (some (a8.1, a8.2))
set_option maxHeartbeats 8000000 in
set_option maxRecDepth 100000 in
theorem bits_Mul.calls (a0 : Int) (a1 : Int) (r1 : Int) (r2 : Int) (w : World) (h : bits_Mul.f a0 a1 = some (r1, r2)) :
  Calls Try.prog 143 #[.int .u64 a0, .int .u64 a1] w fun e w' => e = .returned (.tuple #[.int .u64 r1, .int .u64 r2]) ∧ Drawn0 w w' := by
 (
have H : ((bits_Mul64.f a0 a1).bind fun a8 => (some (a8.1, a8.2))) = some (r1, r2) := h
clear h
replace H := Option.bind_eq_some_iff.mp H
obtain ⟨⟨a9, aa⟩, ac, H⟩ := H
replace H : (some (a9, aa)) = some (r1, r2) := H
have A3 := am ac
clear ac
simp only [Option.some.injEq, Prod.mk.injEq] at H
obtain ⟨rfl, rfl⟩ := H
go_enter Try.func143, Try.ntmps143
go_wp2_with (first | ((with_reducible refine cg 145 rfl ?_); refine gl_ (some 25) Try.func145 #[.int .u64 a0, .int .u64 a1] ?_; (with_reducible refine (bits_Mul64.calls a0 a1 a9 aa _ A3.out).mono ?_); rintro e w' ⟨rfl, ⟨nd, rfl⟩⟩; refine ⟨_, rfl, ?_⟩))
go_ret2
exact ⟨sd, dw⟩
)

/-! ### impl_Cell_137: function 137 -/
theorem rep_copy {P : Program} {w : World} {o : Oper} {a : Act} {K : Act → World → Prop} {Q : Exit → Act → World → Prop} (d s : Operand) (dT sT : TypeId)
  (ho : o.op = .call { callee := .builtin .copy, args := #[d, s], argTypes := #[dT, sT] }) (elem : TypeId) (hu : P.underlying dT = some (.slice elem)) (sz : Nat) (hsz : (P.info? elem).map (·.size) = some sz)
  (g off dLen dCap : Nat) (ad : Addr) (sLen sCap : Nat) (hd : a.eval d = .slice (some ⟨g, off, none⟩) dLen dCap) (hs : a.eval s = .slice (some ad) sLen sCap)
  (cur : List Value) (t : TypeId) (hg : w.heap[g]? = some (.cells cur.toArray t (0, 0))) (cs : List Value) (m : Nat) (hm : m = Nat.min sLen dLen) (hn : cs.length = m * sz)
  (hsrc : ∀ j v, cs[j]? = some v → w.cell? (ad.add j) = some v) (hfit : off + cs.length ≤ cur.length) (h1 : ∀ v ∈ cs, v.oneCell' = true)
  (h : ∀ w', w' = w.setRow g (cur.take off ++ cs ++ cur.drop (off + cs.length)).toArray → K (a.put o.dst (goInt m)) w') : o.wp P a w K Q := by
 have hl := run_loadCells_list (P := P) w ad cs hsrc
 have hst := run_storeCells_at P g off t cs 0 cur.toArray w hg (by simpa using hfit) h1
 have hrun : (Builtin.copy_ #[dT, sT] o.type #[.slice (some ⟨g, off, none⟩) dLen dCap, .slice (some ad) sLen sCap]).run P w = .ok (goInt m) (w.setRow g (cur.take off ++ cs ++ cur.drop (off + cs.length)).toArray) := by
  cases hq : P.info? elem with
  | none => simp [hq] at hsz
  | some i =>
   have hi : i.size = sz := by simpa [hq] using hsz
   simp only [Nat.add_zero, List.append_assoc] at hst
   simp [Builtin.copy_, run_underlying hu, Builtin.lenOf, Builtin.firstCells, sizeOf, typeInfo, hq, hi, ← hm, ← hn, hl, hst]
 unfold Oper.wp
 simp [execOp, ho, resolve, invoke, builtin, hd, hs, hrun, Result.andThen]
 have := h _ rfl
 simp only [List.append_assoc] at this
 exact this
def rep_ (c : List Value) (k : Nat) : List Value := (List.replicate k c).flatten
theorem rep_len (c : List Value) (k : Nat) : (rep_ c k).length = k * c.length := by simp [rep_]
theorem rep_add (c : List Value) (a b : Nat) : rep_ c a ++ rep_ c b = rep_ c (a + b) := by unfold rep_; rw [← List.flatten_append, List.replicate_append_replicate]
theorem rep_mem {c : List Value} {k : Nat} {v : Value} (h : v ∈ rep_ c k) : v ∈ c := by
 simp only [rep_, List.mem_flatten] at h
 obtain ⟨l, hl, hv⟩ := h
 rwa [(List.mem_replicate.mp hl).2] at hv
theorem rep_reps {α : Type} {R : α → List Value → Prop} {c : List Value} {x : α} {size : Nat} (hc : c.length = size) (h : R x c) : ∀ k, Reps R size (List.replicate k x) (rep_ c k)
 | 0 => Reps.none _ _
 | k + 1 => by
  have := Reps.snoc (rep_reps hc h k) h hc
  rw [show List.replicate (k + 1) x = List.replicate k x ++ [x] by rw [List.replicate_succ'], ← rep_add c k 1]
  simpa [rep_] using this
theorem rep_make {P : Program} {w0 w : World} {ops : Array Oper} {rest : List Oper} {o : Oper} {a : Act} {Q : Exit → Act → World → Prop} (hgd : o.guard = none) (t : TypeId) (x y : Operand) (ho : o.op = .makeSlice t x y)
  (m : Nat) (hx : a.eval x = .int .i64 (m : Int)) (hy : a.eval y = .int .i64 (m : Int)) (e : TypeId) (ht : P.underlying t = some (.slice e)) (z : Value) (sz bytes : Nat)
  (hinfo : (P.info? e).map (fun i => (i.zero, i.size, i.bytes)) = some (some z, sz, bytes)) (hl : m * bytes ≤ 281474976710656) (hm : m ≤ 9223372036854775807) (HB : Below w0.heap.size w0 w)
  (h : ∀ (g : Nat) (w1 : World) (Z : List Value), Z.length = m * sz → w0.heap.size ≤ g → w1.heap[g]? = some (.cells Z.toArray e (0, 0)) → Below w0.heap.size w0 w1 → wpList P ops Q rest (a.put o.dst (.slice (some ⟨g, 0, none⟩) m m)) w1) : wpList P ops Q (o :: rest) a w := by
 obtain ⟨i0, hi, hzz⟩ := Option.map_eq_some_iff.1 hinfo
 simp only [Prod.mk.injEq] at hzz
 obtain ⟨hz0, hz1, hz2⟩ := hzz
 have hr := run_make (P := P) w t e i0 z ht hi hz0 .i64 .i64 (m : Int) (m : Int) (by omega) (by omega)
  (by
   have h3 : ((i0.bytes * m : Nat) : Int) ≤ 281474976710656 := by rw [hz2, Nat.mul_comm]; omega
   rwa [Int.natCast_mul] at h3) (by omega)
 simp only [Int.toNat_natCast] at hr
 rw [hz1] at hr
 refine wpList_plain hgd fun K hK => ?_
 unfold Oper.wp
 simp [execOp, ho, hx, hy, hr, Result.andThen]
 refine hK _ _ (h w.heap.size _ (madeCells z.cells (m * sz)).toList ?_ HB.size ?_ (HB.alloc HB.size _))
 ·rw [Array.length_toList, size_madeCells]
 ·rw [Array.toArray_toList]; exact heap_alloc_new w _
theorem rep_step {P : Program} {w0 w : World} {o : Oper} {a : Act} {K : Act → World → Prop} {Q : Exit → Act → World → Prop} (d s : Operand) (dT sT : TypeId)
  (ho : o.op = .call { callee := .builtin .copy, args := #[d, s], argTypes := #[dT, sT] }) (elem : TypeId) (hu : P.underlying dT = some (.slice elem)) (sz : Nat) (hsz : (P.info? elem).map (·.size) = some sz)
  (c : List Value) (hc : c.length = sz) (h1 : ∀ v ∈ c, v.oneCell' = true) (m k j : Nat) (Z : List Value) (hZ : Z.length = (m - k) * sz) (hkj : k + j ≤ m)
  (g off dLen dCap : Nat) (ad : Addr) (sLen sCap : Nat) (hoff : off = k * sz) (hm : j = Nat.min sLen dLen) (hd : a.eval d = .slice (some ⟨g, off, none⟩) dLen dCap) (hs : a.eval s = .slice (some ad) sLen sCap)
  (t : TypeId) (hg : w.heap[g]? = some (.cells (rep_ c k ++ Z).toArray t (0, 0))) (hB : Below w0.heap.size w0 w) (hgw : w0.heap.size ≤ g)
  (hsrc : ∀ i v, (rep_ c j)[i]? = some v → w.cell? (ad.add i) = some v)
  (h : ∀ (w1 : World) (Z1 : List Value), Z1.length = (m - (k + j)) * sz → w1.heap[g]? = some (.cells (rep_ c (k + j) ++ Z1).toArray t (0, 0)) → Below w0.heap.size w0 w1 → K (a.put o.dst (goInt j)) w1) : o.wp P a w K Q := by
 have hl : (rep_ c j).length = j * sz := by rw [rep_len, hc]
 have hlk : (rep_ c k).length = k * sz := by rw [rep_len, hc]
 have hjk : j * sz ≤ (m - k) * sz := Nat.mul_le_mul_right _ (by omega)
 refine rep_copy d s dT sT ho elem hu sz hsz g off dLen dCap ad sLen sCap hd hs (rep_ c k ++ Z) t hg (rep_ c j) j hm hl hsrc (by rw [List.length_append, hlk, hoff, hl, hZ]; omega) (fun v hv => h1 v (rep_mem hv)) ?_
 rintro w1 rfl
 have e : (rep_ c k ++ Z).take off ++ rep_ c j ++ (rep_ c k ++ Z).drop (off + (rep_ c j).length) = rep_ c (k + j) ++ Z.drop (j * sz) := by
  rw [hoff, hl, ← hlk, List.take_left, List.drop_append, rep_add]
  simp
 rw [e]
 refine h _ (Z.drop (j * sz)) ?_ (setRow_heap w g _ _ t _ hg) (hB.trans ⟨rfl, rfl, rfl, by simp [World.setRow], fun k hk => setRow_other w g k _ (by omega)⟩)
 rw [List.length_drop, hZ, ← Nat.sub_mul, Nat.sub_sub]
theorem rep_step_on {P : Program} {w : World} {ops : Array Oper} {o : Oper} {a : Act} {K : Act → World → Prop} {Q : Exit → Act → World → Prop} {E : Prop} (hgd : o.guard = none) (h : o.wp P a w K Q) :
  if Region.wanted o (yielded ops a.tmps) = true then Oper.wp P o a w K Q else E := by
 have hw : Region.wanted o (yielded ops a.tmps) = true := by simp [Region.wanted, hgd]
 rw [if_pos hw]
 exact h
theorem rep_src {w : World} {g t : Nat} {c Z : List Value} {k j i : Nat} {v : Value} (hg : w.heap[g]? = some (.cells (rep_ c k ++ Z).toArray t (0, 0))) (hj : j ≤ k) (hv : (rep_ c j)[i]? = some v) : w.cell? ((⟨g, 0, none⟩ : Addr).add i) = some v := by
 rw [add_plain]
 obtain ⟨q, rfl⟩ : ∃ q, k = j + q := ⟨k - j, by omega⟩
 rw [← rep_add, List.append_assoc] at hg
 have hi : i < (rep_ c j).length := (List.getElem?_eq_some_iff.1 hv).1
 have h2 : (rep_ c j ++ (rep_ c q ++ Z))[i]? = some v := by rw [List.getElem?_append_left hi]; exact hv
 rw [cell_of_row w g i _ t (0, 0) hg]
 simpa using h2
theorem rep_R {α : Type} {d : Kd α} {e : Nat} {w : World} {base g m : Nat} {c Z : List Value} {x : α} (hc : c.length = d.sz) (hM : ∀ ok, d.M w base ok x c) (hZ : Z.length = (m - m) * d.sz) (hm : m ≤ maxLen) (hg : base ≤ g)
  (hG : w.heap[g]? = some (.cells (rep_ c m ++ Z).toArray e (0, 0))) : d.R e w base (fun _ => True) (.slice (some ⟨g, 0, none⟩) m m) (List.replicate m x) := by
 obtain rfl : Z = [] := List.eq_nil_of_length_eq_zero (by rw [hZ]; simp)
 rw [List.append_nil] at hG
 have hl : (rep_ c m).length = m * d.sz := by rw [rep_len, hc]
 refine ⟨fun _ _ => trivial, rep_ c m, ⟨by rw [hl, List.length_replicate], .inr ⟨g, m, (rep_ c m).toArray, by rw [List.length_replicate], hg, hG, by rw [List.length_replicate]; exact Nat.le_refl _, hm, by rw [List.size_toArray, hl], ?_⟩⟩, rep_reps hc (hM _) m⟩
 rw [List.toList_toArray, List.length_replicate, ← hl, List.take_length]
theorem rep_mul (m : Nat) (hm : m ≤ 1000) : bits_Mul.f 1 (m : Int) = some (0, (m : Int)) := by
 have w1 : ∀ n : Int, IntKind.u64.wrap n = n % 18446744073709551616 := fun n => by simp [IntKind.wrap, IntKind.bits, IntKind.signed]
 have hb : ∀ n : Int, 0 ≤ n → n < 4294967296 → Go.bits .and .u64 n 4294967295 = n := by
  intro n h0 hn
  have := bits_mask .u64 32 (by decide) (fun n h0 h1 => by rw [w1]; omega) 32 (Nat.le_refl _) n h0 (by omega)
  refine Eq.trans this ?_
  omega
 have b1 := hb 1 (by omega) (by omega)
 have b2 := hb (m : Int) (by omega) (by omega)
 have b0 := hb 0 (by omega) (by omega)
 have d0 : (m : Int) / 4294967296 = 0 := by omega
 have d1 : (1 : Int) / 4294967296 = 0 := by omega
 have d2 : (m : Int) % 18446744073709551616 = (m : Int) := by omega
 unfold bits_Mul.f bits_Mul64.f
 simp only [b1, b2, w1, d0, d1, Int.one_mul, Int.zero_mul, Int.mul_zero, Int.zero_emod, Int.add_zero, d2, Int.zero_ediv, b0, Option.bind_some]
def impl_Cell_137.f (l0 : List (S98)) (a1 : Int) : Option (List (S98)) := if l0.length = 1 ∧ 0 ≤ a1 ∧ a1 ≤ 1000 then some (List.replicate a1.toNat (rd_T98 l0 0)) else none
set_option maxHeartbeats 8000000 in
set_option maxRecDepth 100000 in
theorem impl_Cell_137.calls (A0 : Option Addr) (c0 : Nat) (l0 : List (S98)) (a1 : Int) (r : List (S98)) (w : World) (ag : Kd.C k98 w A0 l0.length l0) (al : l0.length ≤ c0) (h : impl_Cell_137.f l0 a1 = some r) :
  Calls Try.prog 137 #[.slice A0 l0.length c0, .int .i64 a1] w fun e w' => ∃ v0_ : Value, e = .returned (v0_) ∧ Kd.R k98 98 w' w.heap.size (fun _ => True) v0_ r ∧ Below w.heap.size w w' := by
 (
unfold impl_Cell_137.f at h
by_cases hc : l0.length = 1 ∧ 0 ≤ a1 ∧ a1 ≤ 1000
·(
rw [if_pos hc] at h
obtain rfl := Option.some.inj h
clear h
obtain ⟨hl, h0, h1⟩ := hc
obtain ⟨m, rfl⟩ := Int.eq_ofNat_of_zero_le h0
have hm : m ≤ 1000 := by omega
obtain ⟨ad, cx, hA, hcl, hK, hcx⟩ := Kd.C_get ag z98 0 (Int.le_refl 0) (by omega)
obtain ⟨x, hx⟩ : ∃ x, x = rd_T98 l0 0 := ⟨_, rfl⟩
rw [show l0.getD (0 : Int).toNat z98 = rd_T98 l0 0 from rfl, ← hx] at hK
rw [← hx]
clear ag
rw [hl] at al
simp only [hl]
clear hx hl
have hM : ∀ (w : World) (b : Nat) (ok : Nat → Prop), k98.M w b ok x cx := by rw [k98_open hK]; exact fun w b ok => k98_mkM w b ok x
have hone : ∀ v ∈ cx, v.oneCell' = true := k98.K_one hK
clear hK
obtain ⟨cs, hcs⟩ : ∃ cs, cs = cx := ⟨_, rfl⟩
rw [← hcs] at hcx hcl hM hone
clear hcs
have hL : cs.length = 7 := hcl
subst hA
have huT : Try.prog.underlying 99 = some (.slice 98) := by kernel_rfl
have hiE : (Try.prog.info? 98).map (·.size) = some 7 := by kernel_rfl
have c1 : decide ((m : Int) < 0) = false := decide_eq_false (by omega)
have q1 : IntKind.u64.wrap 1 = 1 := by decide
have q2 : IntKind.u64.wrap (m : Int) = (m : Int) := by unfold IntKind.wrap; simp [IntKind.bits, IntKind.signed]; omega
have ac : ∀ j, j ≤ 1 → ∀ i v, (rep_ cs j)[i]? = some v → w.cell? (ad.add i) = some v := by
 intro j hj i v hv
 have hh : cs[i]? = some v := by
  rcases (show j = 0 ∨ j = 1 by omega) with rfl | rfl
  ·simp [rep_] at hv
  ·simpa [rep_] using hv
 have := hcx i v hh
 rwa [show Int.toNat 0 * k98.sz + i = i by simp] at this
have hmul := rep_mul m hm
go_enter Try.func137, Try.ntmps137
go_wp2_with (first
 | ((with_reducible refine gate_callee (f := 143) rfl ?_); refine goesL_ (some 18) rfl rfl Try.func143 (by kernel_rfl) rfl #[.int .u64 1, .int .u64 (m : Int)] rfl (by (try simp only [List.map_toArray, List.map_cons, List.map_nil]); first | done | rfl | (go_simp; done) | (simp [q1, q2]; done)) ?_; (with_reducible refine (bits_Mul.calls 1 (m : Int) 0 (m : Int) _ hmul).mono ?_); rintro e w' ⟨rfl, ⟨nd, rfl⟩⟩; refine ⟨_, rfl, ?_⟩)
 | ((with_reducible refine gate_dst (N := 30) rfl ?_); refine rep_make (w0 := w) rfl 99 (.tmp 29) (.tmp 29) rfl m ?hx ?hy 98 huT (.agg #[(.int .i64 0), (.int .i64 0), (.int .i64 0), (.bool false), (.bool false), (.bool false), (.int .i64 0)]) 7 40 (by kernel_rfl) (by omega) (by omega) (by repeat (first | exact Below.refl _ _ | apply b1 | apply b2 | apply b3)) ?_; (case hx => first | (go_simp; done) | (go_simp; rfl)); (case hy => first | (go_simp; done) | (go_simp; rfl)); intro g w1 Z hZ hg hG HB; have HG := am hG; have HBB := am HB; have HGE := am hg; have HZ := am hZ; clear hG HB hg hZ)
 | ((with_reducible refine gate_dst (N := 33) rfl ?_); refine wpList_plain rfl fun K_ hK_ => rep_step (w0 := w) (.tmp 31) (.tmp 32) 99 99 rfl 98 huT 7 hiE cs hL hone m 0 (Nat.min 1 m) Z (by rw [HZ.out]; rfl) (by rw [Nat.zero_add]; exact Nat.min_le_right _ _) g 0 m m ad 1 c0 (Nat.zero_mul _).symm rfl ?hd ?hs 98 HG.out HBB.out HGE.out (fun i v hv => pw_cell_below HBB.out (ac _ (Nat.min_le_left _ _) i v hv)) ?_; (case hd => first | (go_simp; done) | (go_simp; rfl)); (case hs => first | (go_simp; done) | (go_simp; rfl)); intro w2 Z2 hZ hG HB; refine hK_ _ _ ?_; have ae := am hG; have ah := am HB; have af := am hZ; clear hG HB hZ HG HBB HZ))
go_loopg [8] m (fun gk v8 wr => ∃ (k : Nat) (Z3 : List Value), v8 = .int .i64 (k : Int) ∧ Aside0 (k ≤ m ∧ m - k ≤ gk ∧ (m = 0 ∨ 1 ≤ k) ∧ Z3.length = (m - k) * 7) ∧ Aside0 (wr.heap[g]? = some (.cells (rep_ cs k ++ Z3).toArray 98 (0, 0))) ∧ Aside0 (Below w.heap.size w wr))
case atStart => exact ⟨0 + Nat.min 1 m, Z2, (by first | rfl | (simp [goInt]; done)), ⟨by rw [Nat.zero_add]; exact Nat.min_le_right _ _, by omega, (by have : Nat.min 1 m = min 1 m := rfl; omega), af.out⟩, ae, ah⟩
case round => (
obtain ⟨k, Z3, rfl, H1, a8, a9⟩ := hrel
obtain ⟨hk, hgk, av, hZ3⟩ := H1.out
clear H1
have aa := am hZ3
clear hZ3 ae af
by_cases hkm : k < m
·(
obtain ⟨g1, rfl⟩ : ∃ q, gk = q + 1 := ⟨gk - 1, by omega⟩
have d1 : decide ((k : Int) < (m : Int)) = true := decide_eq_true (by omega)
obtain ⟨ti, hti, hts⟩ := Option.map_eq_some_iff.1 hiE
have ap : ∀ W : World, (Instr.slice 99 (.slice (some ⟨g, 0, none⟩) m m) (some (.int .i64 (k : Int))) none none).run Try.prog W = .ok (.slice (some ⟨g, k * 7, none⟩) (m - k) (m - k)) W := by
 intro W
 rw [cut_from 99 98 .i64 huT hti 7 hts (some ⟨g, 0, none⟩) m m (k : Int) (by omega) (by omega) W, Int.toNat_natCast, if_neg (by omega)]
 simp [add_plain]
have aq : ∀ W : World, (Instr.slice 99 (.slice (some ⟨g, 0, none⟩) m m) none (some (.int .i64 (k : Int))) none).run Try.prog W = .ok (.slice (some ⟨g, 0, none⟩) k m) W := by
 intro W
 rw [cut_to 99 98 .i64 huT hti (some ⟨g, 0, none⟩) m m (k : Int) (by omega) (by omega) (Nat.le_refl _) W, Int.toNat_natCast]
obtain ⟨j, hj⟩ : ∃ j, j = Nat.min k (m - k) := ⟨_, rfl⟩
have ao : j ≤ k ∧ j ≤ m - k ∧ (1 ≤ k → 1 ≤ j) := by
 have : Nat.min k (m - k) = min k (m - k) := rfl
 omega
have au : IntKind.i64.wrap ((k : Int) + (j : Int)) = ((k + j : Nat) : Int) := by rw [IntKind.wrap_i64]; omega
have HJ := am hj
clear hj
have HJK := am (show k + j ≤ m by omega)
go_wp2
go_region_held3 (fun _ => True) (trivial) ((refine rep_step_on (by rfl) (rep_step (w0 := w) (.tmp 41) (.tmp 44) 99 99 (by rfl) 98 huT 7 hiE cs hL hone m k j Z3 aa.out HJK.out g (k * 7) (m - k) (m - k) ⟨g, 0, none⟩ k m rfl HJ.out (by rfl) (by rfl) 98 (show _ = _ from a8.out) (below_drew1 a9.out) HGE.out (fun i v hv => rep_src (show _ = _ from a8.out) ao.1 hv) ?_); intro w4 Z4 hZ hG HB; have aj := am hG; have ai := am HB; have ak := am hZ; clear hG HB hZ a8 a9 aa))
go_wp2
go_roundg g1
case measure => omega
case rel => exact ⟨k + j, Z4, (by first | rfl | (simp [goInt]; done)), ⟨by omega, by omega, by omega, ak.out⟩, aj, ai⟩
)
·(
have d1 : decide ((k : Int) < (m : Int)) = false := decide_eq_false (by omega)
have hke : k = m := by omega
subst hke
go_wp2
go_ret
exact ⟨_, rfl, rep_R hL (hM _ _) aa.out (by unfold maxLen; omega) HGE.out a8.out, a9.out⟩
)
)
)
·rw [if_neg hc] at h; cases h
)

/-! ### impl_Blank: function 123 -/
def impl_Blank.j0 : Nat → Int → Bool → Int → Int → Bool → Bool → Bool → Option ((List (S98)))
 | 0, _, _, _, _, _, _, _ => none
 | k + 1, x0, ah, a9, aa, ac, ae, af => if ah = true then (some ([] : List (S98))) else ((impl_blank.f a9 aa ac ae af).bind fun a8 => ((impl_Cell_137.f (([(⟨a8.1, (⟨a8.2.1, a8.2.2.1, a8.2.2.2.1, a8.2.2.2.2.1, a8.2.2.2.2.2.1⟩ : S96), a8.2.2.2.2.2.2⟩ : S98)] : List (S98))) x0).bind fun ag => (some ag)))
def impl_Blank.f (k : Nat) (a0 : Int) (a8 : Int) (a9 : Int) (aa : Bool) (ac : Bool) (ae : Bool) : Option ((List (S98))) := (impl_in.f a0 1 60).bind fun af => (if af = true then ((impl_StyleOk.f a8 a9 aa ac ae).bind fun ag => (impl_Blank.j0 k a0 (!ag) a8 a9 aa ac ae)) else (impl_Blank.j0 k a0 true a8 a9 aa ac ae))
theorem impl_Blank.mono_l : ∀ k, (∀ y0 y1 y2 y3 y4 y5 y6, LeO (impl_Blank.j0 k y0 y1 y2 y3 y4 y5 y6) (impl_Blank.j0 (k + 1) y0 y1 y2 y3 y4 y5 y6))
 | 0 => fun _ _ _ _ _ _ _ r h => by simp [impl_Blank.j0] at h
 | k + 1 => by
  have ih0 := impl_Blank.mono_l k
  ·intro y0 y1 y2 y3 y4 y5 y6
   unfold impl_Blank.j0
   repeat' first
   | (with_reducible exact ih0 _ _ _ _ _ _ _)
   | (with_reducible exact LeO.refl _)
   | (with_reducible exact LeO.none _)
   | (with_reducible refine LeO.ite ?_ ?_)
   | (with_reducible refine LeO.bind ?_ (fun _ => ?_))
theorem impl_Blank.mono : ∀ a0 a1 a2 a3 a4 a5 k, LeO (impl_Blank.f k a0 a1 a2 a3 a4 a5) (impl_Blank.f (k + 1) a0 a1 a2 a3 a4 a5) := by
 intro a0 a1 a2 a3 a4 a5 k
 have ih0 := impl_Blank.mono_l k
 unfold impl_Blank.f
 repeat' first
   | (with_reducible exact ih0 _ _ _ _ _ _ _)
   | (with_reducible exact LeO.refl _)
   | (with_reducible exact LeO.none _)
   | (with_reducible refine LeO.ite ?_ ?_)
   | (with_reducible refine LeO.bind ?_ (fun _ => ?_))
set_option maxHeartbeats 8000000 in
set_option maxRecDepth 100000 in
theorem impl_Blank.calls (k : Nat) (a0 : Int) (a9 : Int) (aa : Int) (ac : Bool) (ae : Bool) (af : Bool) (r : List (S98)) (w : World) (h : impl_Blank.f k a0 a9 aa ac ae af = some r) :
  Calls Try.prog 123 #[.int .i64 a0, .agg #[.int .i64 a9, .int .i64 aa, .bool ac, .bool ae, .bool af]] w fun e w' => ∃ v0_ : Value, e = .returned (v0_) ∧ Kd.R k98 98 w' w.heap.size (fun _ => True) v0_ r ∧ Below w.heap.size w w' := by
 (
have aR := Try.underlying96
have HB := am (Below.refl w.heap.size w)
have H := h
unfold impl_Blank.f at H
clear h
have aC := am H
clear H
go_enter Try.func123, Try.ntmps123
go_upto_region 1 with (first | (refine bx 3 #[.int .i64 a9, .int .i64 aa, .bool ac, .bool ae, .bool af] 96 ?_; intro aH hg w4 hbox hb; have a8 := am (hbox); have aF := am (gw hg (rb HB)); have aQ := aF; replace HB := bs HB hb; clear hb hbox hg))
(try simp only [Act.put, List.setIfInBounds_toArray, List.set_cons_zero, List.set_cons_succ])
go_cut [12] (fun aP wc => ∃ (kq : Nat) (au : Bool), aP = .bool au ∧ Aside0 (impl_Blank.j0 kq a0 au a9 aa ac ae af = some r) ∧ Aside0 (kq ≤ k) ∧ Aside0 (wc.heap[aH]? = some (.cells #[.int .i64 a9, .int .i64 aa, .bool ac, .bool ae, .bool af] 96 (0, 0))) ∧ Aside0 (Below w.heap.size w wc))
case first => (
have H := aC.out
clear aC
obtain ⟨aM, A5, H⟩ := bd H
(try dsimp only at H)
by_cases c6 : aM = true
·(
subst c6
rw [if_pos rfl] at H
obtain ⟨aE, A7, H⟩ := bd H
(try dsimp only at H)
have H' := am H
clear H
go_wp2_with (first | ((with_reducible refine cg 56 rfl ?_); refine gl_ (some 6) Try.func56 #[.int .i64 a0, .int .i64 1, .int .i64 60] ?_; (with_reducible refine (impl_in.calls a0 1 60 true _ A5.out).mono ?_); rintro e w' ⟨rfl, ⟨nd, rfl⟩⟩; refine ⟨_, rfl, ?_⟩; have b4 := z5 a8) | (go_at_call 130; (with_reducible refine (impl_StyleOk.calls a9 aa ac ae af aE _ A7.out).mono ?_); rintro e w9 ⟨rfl, hb⟩; replace a8 := kk a8 hb; replace HB := bs HB hb; (try clear hb); (try clear aI); (try clear hk); (try clear hi)))
go_meet
case rel => exact ⟨_, (!aE), sd, H', ⟨by first | omega | exact Nat.le_refl _⟩, ⟨rk a8⟩, ⟨rb HB⟩⟩
)
·(
replace c6 := Bool.eq_false_iff.mpr c6
subst c6
rw [if_neg (show ¬ (false = true) by decide)] at H
have H' := am H
clear H
go_wp2_with (first | ((with_reducible refine cg 56 rfl ?_); refine gl_ (some 6) Try.func56 #[.int .i64 a0, .int .i64 1, .int .i64 60] ?_; (with_reducible refine (impl_in.calls a0 1 60 false _ A5.out).mono ?_); rintro e w' ⟨rfl, ⟨nd, rfl⟩⟩; refine ⟨_, rfl, ?_⟩))
go_meet
case rel => exact ⟨_, (true), sd, H', ⟨by first | omega | exact Nat.le_refl _⟩, ⟨rk a8⟩, ⟨rb HB⟩⟩
)
)
case rest => (
clear aC
obtain ⟨kq, au, rfl, HA, aV, a8, HB⟩ := hcut
cases kq with
| zero => exact absurd HA.out (by simp [impl_Blank.j0])
| succ aW => (
have H := HA.out
clear HA
simp only [impl_Blank.j0] at H
by_cases aA : au = true
·(
subst aA
have H1 : (some ([] : List (S98))) = some r := by rw [if_pos rfl] at H; exact H
clear H
have H := H1
clear H1
obtain rfl := Option.some.inj H
go_wp2
go_ret
exact ⟨_, ew, by first | exact Kd.R_nil _ _ _ _ _ | exact Kd.N_nil _ _ _ _ _ | exact Kd.V_nil _ _ _ _ _ | exact Kd.Q_nil _ _ _ _ _ | exact Kd.S_nil _ _ _ _ _, rb HB⟩
)
·(
replace aA := Bool.eq_false_iff.mpr aA
subst aA
rw [if_neg (show ¬ (false = true) by decide)] at H
obtain ⟨⟨ah, ai, aj, ak, al, ao, ap⟩, aN, H⟩ := bd H
(try dsimp only at H)
obtain ⟨ay, aq⟩ : ∃ y_ : List (S98), y_ = (([(⟨ah, (⟨ai, aj, ak, al, ao⟩ : S96), ap⟩ : S98)] : List (S98))) := ⟨_, rfl⟩
replace H : ((impl_Cell_137.f ay a0).bind fun ax => (some ax)) = some r := by first | (rw [aq]; with_reducible exact H) | (rw [aq]; exact H) | exact H
have az := am aq
clear aq
replace H := Option.bind_eq_some_iff.mp H
obtain ⟨ax, aB, H⟩ := H
replace H : (some ax) = some r := H
have aO := am aB
clear aB
obtain rfl := Option.some.inj H
have aU := z5 a8
go_wp2_with (first | ((with_reducible refine cg 104 rfl ?_); refine gl_ (some 14) Try.func104 #[.agg #[.int .i64 a9, .int .i64 aa, .bool ac, .bool ae, .bool af]] ?_; (with_reducible refine (impl_blank.calls a9 aa ac ae af ah ai aj ak al ao ap _ aN.out).mono ?_); rintro e aX ⟨rfl, hb⟩; refine ⟨_, rfl, ?_⟩; replace a8 := kk a8 hb; replace HB := bs HB hb; (try clear hb); (try clear aI); (try clear hk); (try clear hi)) | ((with_reducible refine gate_dst (N := 15) rfl ?_); refine Kd.R_lit k98 _ 98 ?hg (N := 15) ?hd (xs := ([(⟨ah, (⟨ai, aj, ak, al, ao⟩ : S96), ap⟩ : S98)] : List (S98))) (inner := [.int .i64 ah, .int .i64 ai, .int .i64 aj, .bool ak, .bool al, .bool ao, .int .i64 ap]) (ok := fun _ => True) (okp := fun _ => True) ?hr ?hp (fun _ hk => hk) trivial (Below.refl _ _) (Nat.le_refl _) (by simp) ?_; (case hd => rfl); (case hg => rfl); (case hr => first | (go_simp; done) | (go_simp; rfl)); (case hp => exact (Reps.c7 (show Kd.M k98 _ _ _ (⟨ah, (⟨ai, aj, ak, al, ao⟩ : S96), ap⟩ : S98) [.int .i64 ah, .int .i64 ai, .int .i64 aj, .bool ak, .bool al, .bool ao, .int .i64 ap] from (k98_mkM _ _ _ (⟨ah, (⟨ai, aj, ak, al, ao⟩ : S96), ap⟩ : S98) )) (Reps.none _ _))); intro aS aY av hb hg_ hnew_; clear hg_ hnew_; (first | rw [← az.out] at av | (simp only [Int.reduceToNat] at av; rw [← az.out] at av)); have ag := am (Kd.R_lower av (below_size (rb HB))); replace a8 := kk a8 hb; replace HB := bs HB hb; clear hb av; obtain ⟨aJ, aK, aL⟩ := Kd.R_slice ag.out; subst aL) | ((with_reducible refine cg 137 rfl ?_); refine gl_ (some 17) Try.func137 #[.slice aJ ay.length aK, .int .i64 a0] ?_; (with_reducible refine (impl_Cell_137.calls _ _ ay a0 ax _ ?side1 ?side2 aO.out).mono ?_); (case side1 => repeat (first | exact (Kd.R_reads' ag.out).2.2 | (with_reducible refine Kd.C_alloc ?_ _) | (with_reducible refine Kd.C_drewN ?_ _) | (with_reducible refine Kd.C_drew ?_))); (case side2 => exact (Kd.R_reads' ag.out).2.1); rintro e aZ ⟨aT, rfl, aD, hb⟩; refine ⟨_, rfl, ?_⟩; have aG := am (Kd.R_lower (Kd.R_new' aD (Kd.R_lt (rr ag))) (below_size (rb HB))); replace ag := am (Kd.R_elder' (rr ag) (Kd.R_base aD) hb); replace a8 := kk a8 hb; replace HB := bs HB hb; (try clear hb); (try clear aI); (try clear hk); (try clear hi); (try clear aD)))
go_ret
exact ⟨_, ew, qR_ aG, rb HB⟩
)
)
)
)

end Go.Proofs.Ytalopdcephohgaa.RD

namespace Go.Proofs.Ytalopdcephohgaa.RD
open Go.RowKit Go.Proofs.YtalopdcephohgaaW.PrintWords Go.Proofs.YtalopdcephohgaaW.PrintLast Go.Proofs.YtalopdcephohgaaW.PrintMore
attribute [local go_sem] max2_int min2_int max_two min_two max_three min_three max_four min_four   -- for this text's walks alone
set_option linter.unusedVariables false
set_option linter.unusedSimpArgs false

/-! ### impl_Grid_blanks: function 105 -/
def impl_Grid_blanks.l0 : Nat → List (List (S98)) → Int → Int → Int → List (List (S98)) → Int → Int → Bool → Bool → Bool → Option ((List (List (S98))))
 | 0, _, _, _, _, _, _, _, _, _, _ => none
 | k + 1, x7, x9, ah, a8, ag, a9, aa, ac, ae, af => if ah < x9 then ((impl_Blank.f k a8 a9 aa ac ae af).bind fun ai => (if x7.length < 5864062014805 then (impl_Grid_blanks.l0 k (x7 ++ [ai]) x9 (wrap64 (ah + 1)) a8 ag a9 aa ac ae af) else (none))) else (some x7)
def impl_Grid_blanks.f (k : Nat) (a8 : Int) (ag : List (List (S98))) (a1 : Int) (a9 : Int) (aa : Int) (ac : Bool) (ae : Bool) (af : Bool) : Option ((List (List (S98)))) := impl_Grid_blanks.l0 k (([] : List (List (S98)))) a1 0 a8 ag a9 aa ac ae af
theorem impl_Grid_blanks.mono_l : ∀ k, (∀ y0 y1 y2 y3 y4 y5 y6 y7 y8 y9, LeO (impl_Grid_blanks.l0 k y0 y1 y2 y3 y4 y5 y6 y7 y8 y9) (impl_Grid_blanks.l0 (k + 1) y0 y1 y2 y3 y4 y5 y6 y7 y8 y9))
 | 0 => fun _ _ _ _ _ _ _ _ _ _ r h => by simp [impl_Grid_blanks.l0] at h
 | k + 1 => by
  have ih0 := impl_Grid_blanks.mono_l k
  ·intro y0 y1 y2 y3 y4 y5 y6 y7 y8 y9
   unfold impl_Grid_blanks.l0
   repeat' first
   | (with_reducible exact ih0 _ _ _ _ _ _ _ _ _ _)
   | (with_reducible exact impl_Blank.mono _ _ _ _ _ _ _)
   | (with_reducible exact LeO.refl _)
   | (with_reducible exact LeO.none _)
   | (with_reducible refine LeO.ite ?_ ?_)
   | (with_reducible refine LeO.bind ?_ (fun _ => ?_))
theorem impl_Grid_blanks.mono : ∀ a0 a1 a2 a3 a4 a5 a6 a7 k, LeO (impl_Grid_blanks.f k a0 a1 a2 a3 a4 a5 a6 a7) (impl_Grid_blanks.f (k + 1) a0 a1 a2 a3 a4 a5 a6 a7) := by
 intro a0 a1 a2 a3 a4 a5 a6 a7 k
 have ih0 := impl_Grid_blanks.mono_l k
 unfold impl_Grid_blanks.f
 repeat' first
   | (with_reducible exact ih0 _ _ _ _ _ _ _ _ _ _)
   | (with_reducible exact impl_Blank.mono _ _ _ _ _ _ _)
   | (with_reducible exact LeO.refl _)
   | (with_reducible exact LeO.none _)
   | (with_reducible refine LeO.ite ?_ ?_)
   | (with_reducible refine LeO.bind ?_ (fun _ => ?_))
set_option maxHeartbeats 8000000 in
set_option maxRecDepth 100000 in
theorem impl_Grid_blanks.calls (k : Nat) (ae : Int) (ax : Option Addr) (ay : Nat) (aa : List (List (S98))) (a1 : Int) (af : Int) (ag : Int) (ah : Bool) (ai : Bool) (aj : Bool) (r : List (List (S98))) (w : World) (aE : Kd.C (Kd.slice 98 k98) w ax aa.length aa) (aD : aa.length ≤ ay) (h : impl_Grid_blanks.f k ae aa a1 af ag ah ai aj = some r) :
  Calls Try.prog 105 #[.agg #[.int .i64 ae, .slice ax aa.length ay], .int .i64 a1, .agg #[.int .i64 af, .int .i64 ag, .bool ah, .bool ai, .bool aj]] w fun e w' => ∃ v0_ : Value, e = .returned (v0_) ∧ Kd.S (Kd.slice 98 k98) 99 w' w.heap.size (fun _ => True) v0_ r ∧ Below w.heap.size w w' := by
 (
have bb := Try.underlying58
have bc := Try.underlying96
have ba := am aE
have b9 := am aD
clear aE aD
have HB := am (Below.refl w.heap.size w)
have H : (impl_Grid_blanks.l0 k (([] : List (List (S98)))) a1 0 ae aa af ag ah ai aj) = some r := h
clear h
obtain ⟨aJ, aq⟩ : ∃ y_ : List (List (S98)), y_ = (([] : List (List (S98)))) := ⟨_, rfl⟩
replace H : (impl_Grid_blanks.l0 k aJ a1 0 ae aa af ag ah ai aj) = some r := by first | (rw [aq]; with_reducible exact H) | (rw [aq]; exact H) | exact H
have aC := am aq
clear aq
have H' := am H
clear H
go_enter Try.func105, Try.ntmps105
go_wp2_with (first | (refine bx 3 #[.int .i64 ae, .slice ax aa.length ay] 58 ?_; intro aU hg w4 hbox hb; have a8 := am (hbox); have aM := am (gw hg (rb HB)); have b7 := aM; replace HB := bs HB hb; clear hb hbox hg) | (refine bx 5 #[.int .i64 af, .int .i64 ag, .bool ah, .bool ai, .bool aj] 96 ?_; intro aV hg w5 hbox hb; have a9 := am (hbox); have aN := am (gw hg (rb HB)); have b8 := aN; replace HB := bs HB hb; have ao := am (nl hg (rk a8)); have aX := ns ao; replace a8 := kk a8 hb; clear hb hbox hg) | ((with_reducible refine gate_dst (N := 8) rfl ?_); refine Kd.S_lit (Kd.slice 98 k98) _ 99 ?hg (N := 8) ?hd (xs := ([] : List (List (S98)))) (inner := []) (ok := fun _ => True) (okp := fun _ => True) ?hr ?hp (fun _ hk => hk) trivial (Below.refl _ _) (Nat.le_refl _) (by simp) ?_; (case hd => rfl); (case hg => rfl); (case hr => first | (go_simp; done) | (go_simp; rfl)); (case hp => exact (Reps.none _ _)); intro bh w6 aA hb hg_ hnew_; clear hg_ hnew_; (first | rw [← aC.out] at aA | (simp only [Int.reduceToNat] at aA; rw [← aC.out] at aA)); have aQ := am (Kd.S_lower aA (below_size (rb HB))); replace a8 := kk a8 hb; replace a9 := kk a9 hb; replace HB := bs HB hb; clear hb aA))
go_loopg [7, 10] k (fun kq v7 b6 w' => ∃ (al : List (List (S98))) (ac : Int), b6 = .int .i64 ac ∧ Aside0 (impl_Grid_blanks.l0 kq al a1 ac ae aa af ag ah ai aj = some r) ∧ Aside0 (kq ≤ k) ∧ Aside0 (Kd.S (Kd.slice 98 k98) 99 w' w.heap.size (fun _ => True) v7 al) ∧ Aside0 (w'.heap[aU]? = some (.cells #[.int .i64 ae, (.slice ax aa.length ay)] 58 (0, 0))) ∧ Aside0 (w'.heap[aV]? = some (.cells #[.int .i64 af, .int .i64 ag, .bool ah, .bool ai, .bool aj] 96 (0, 0))) ∧ Aside0 (Below w.heap.size w w'))
case atStart => exact ⟨(aJ), (0), sd, H', ⟨Nat.le_refl _⟩, ⟨rs aQ⟩, ⟨rk a8⟩, ⟨rk a9⟩, ⟨rb HB⟩⟩
case round => (
clear H'
obtain ⟨al, ac, rfl, HA, aW, ak, a8, a9, HB⟩ := hrel
cases gk with
| zero => exact absurd HA.out (by simp [impl_Grid_blanks.l0])
| succ k1 => (
have H := HA.out
clear HA
simp only [impl_Grid_blanks.l0] at H
by_cases c8 : ac < a1
·(
rw [if_pos c8] at H
have aY : decide (ac < a1) = true := decide_eq_true c8
clear c8
obtain ⟨av, A9, H⟩ := bd H
(try dsimp only at H)
refine em_ (p := al.length < 5864062014805) (fun az => ?b5) (fun az => ?b4)
case' b5 => (
rw [if_pos az] at H
have LMc10 := am az
clear az
obtain ⟨aK, au⟩ : ∃ y_ : List (List (S98)), y_ = (al ++ [av]) := ⟨_, rfl⟩
replace H : (impl_Grid_blanks.l0 k1 aK a1 (wrap64 (ac + 1)) ae aa af ag ah ai aj) = some r := by first | (rw [au]; with_reducible exact H) | (rw [au]; exact H) | exact H
have aT := am au
clear au
have H' := am H
clear H
have bf := trivial
)
case b4 => (
rw [if_neg az] at H
exact absurd H (by simp)
)
all_goals (
have bg := nN ao
have bl := z2 a8
have bn := z5 a9
go_wp2_with (first | ((with_reducible refine cg 123 rfl ?_); refine gl_ (some 16) Try.func123 #[.int .i64 ae, .agg #[.int .i64 af, .int .i64 ag, .bool ah, .bool ai, .bool aj]] ?_; (with_reducible refine (impl_Blank.calls k1 ae af ag ah ai aj av _ A9.out).mono ?_); rintro e bp ⟨bi, rfl, aI, hb⟩; refine ⟨_, rfl, ?_⟩; replace ak := am (Kd.S_elder' (rs ak) (Kd.R_base aI) hb); have ap := am (Kd.R_lower aI (below_size (rb HB))); replace a8 := kk a8 hb; replace a9 := kk a9 hb; replace HB := bs HB hb; (try clear hb); (try clear bo); (try clear hk); (try clear hi); (try clear aI); obtain ⟨aG, aH, aZ⟩ := Kd.R_slice ap.out; subst aZ) | ((with_reducible refine gate_builtin (b := .append) (xs := #[.tmp 12, .tmp 17]) rfl ?_); at_builtin; refine Kd.S_append (Kd.slice 98 k98) (w0 := w) w.heap.size rfl (.tmp 12) (.tmp 17) 56 99 (.slice none 0 0) 24 rfl Try.underlying56 info99 rfl (by decide) (by omega) u7 al av [.slice aG av.length aH] (fun _ => True) (fun k_ => some k_ = (.slice aG av.length aH : Value).ownBlock) rfl rfl ?aP (fun k_ hk_ => ((Kd.R_mono (ok' := fun k_ => ((fun _ => True)) k_ ∧ some k_ ≠ (u7 : Value).ownBlock) (Kd.R_apart' (ap.out) (Kd.S_typed ak.out) (by decide)) (fun k_ hk => ⟨trivial, hk.2⟩))).1 k_ hk_.symm) ?aF ?aO ?aB ?aS ?aL ?_; (case aP => exact Kd.M_row (Kd.R_mono (Kd.R_tight rfl (Kd.R_mono (ok' := fun k_ => ((fun _ => True)) k_ ∧ some k_ ≠ (u7 : Value).ownBlock) (Kd.R_apart' (ap.out) (Kd.S_typed ak.out) (by decide)) (fun k_ hk => ⟨trivial, hk.2⟩))) (fun _ h_ => h_))); (case aB => exact (rb HB)); (case aF => exact (fun _ _ => trivial)); (case aO => exact (by (with_reducible repeat (first | apply Kd.S_alloc | apply Kd.S_drewN | apply Kd.S_drew)); exact Kd.S_mono ak.out (fun k_ hk => ⟨trivial, fun e_ => hk.2 e_⟩))); (case aS => exact (below_size (rb HB))); (case aL => have := LMc10.out; omega); intro bj bq ho hb hg hat; rw [← aT.out] at ho; replace a8 := am (blk_grown (rk a8) hg (Kd.S_ne ak.out a8.out (by decide))); replace a9 := am (blk_grown (rk a9) hg (Kd.S_ne ak.out a9.out (by decide))); replace HB := am (hb); have aR := am (ho); clear ak ap; clear ho hb hg hat))
go_roundg k1
case measure => have := aW.out; omega
case rel => exact ⟨(aK), (wrap64 (ac + 1)), sd, H', ⟨by have := aW.out; omega⟩, ⟨rs aR⟩, ⟨rk a8⟩, ⟨rk a9⟩, ⟨rb HB⟩⟩
)
)
·(
rw [if_neg c8] at H
have aY : decide (ac < a1) = false := decide_eq_false c8
clear c8
obtain rfl := Option.some.inj H
go_wp2
go_ret
exact ⟨_, ew, qS_ ak, rb HB⟩
)
)
)
)

end Go.Proofs.Ytalopdcephohgaa.RD
