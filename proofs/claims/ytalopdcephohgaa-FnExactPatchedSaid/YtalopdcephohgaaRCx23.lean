/- Contracts of Go functions that laws of this seat reach: each Lean function answers as its Go function does. No condition. Written by wip/tools/inj.py, over the kit's print. -/
import Derived.Test.YtalopdcephohgaaRCx0
import Derived.Test.YtalopdcephohgaaRCx20
import Derived.Test.YtalopdcephohgaaRCx22
namespace Go.Proofs.Ytalopdcephohgaa.RC
open Go.RowKit Go.Proofs.YtalopdcephohgaaW.PrintWords Go.Proofs.YtalopdcephohgaaW.PrintLast Go.Proofs.YtalopdcephohgaaW.PrintMore
attribute [local go_sem] max2_int min2_int max_two min_two max_three min_three max_four min_four   -- for this text's walks alone
set_option linter.unusedVariables false
set_option linter.unusedSimpArgs false

-- NOT PRINTED: function 88 (impl_GridOk_1)

/-! ### impl_GridOk: function 48 -/
def impl_GridOk.l0 (k : Nat) (c : Int) : List (List S98) → Option Bool
 | [] => some false
 | r :: l => if (r.length : Int) = c then (impl_RowOk.f k r).bind fun t => if t = true then impl_GridOk.l0 k c l else some true else some true
theorem impl_GridOk.mono_l : ∀ (l : List (List S98)) (k : Nat) (c : Int), LeO (impl_GridOk.l0 k c l) (impl_GridOk.l0 (k + 1) c l)
 | [], _, _ => LeO.refl _
 | r :: l, k, c => by
  simp only [impl_GridOk.l0]
  exact LeO.ite (LeO.bind (impl_RowOk.mono _ _) (fun _ => LeO.ite (impl_GridOk.mono_l l k c) (LeO.refl _))) (LeO.refl _)
def impl_GridOk.f (k : Nat) (a0_0 : Int) (l0_1 : List (List S98)) : Option Bool :=
 (impl_in.f a0_0 1 60).bind fun t => if t = true then ((impl_in.f (l0_1.length : Int) 1 30).bind fun u => if u = true then ((impl_GridOk.l0 k a0_0 l0_1).bind fun b => some (!b)) else some false) else some false
theorem impl_GridOk.mono : ∀ a0 a1 k, LeO (impl_GridOk.f k a0 a1) (impl_GridOk.f (k + 1) a0 a1) := by
 intro a0 a1 k
 unfold impl_GridOk.f
 exact LeO.bind (LeO.refl _) (fun _ => LeO.ite (LeO.bind (LeO.refl _) (fun _ => LeO.ite (LeO.bind (impl_GridOk.mono_l _ _ _) (fun _ => LeO.refl _)) (LeO.refl _))) (LeO.refl _))
set_option maxHeartbeats 8000000 in
set_option maxRecDepth 100000 in
theorem impl_GridOk.lit (k : Nat) (g : Nat) (c : Int) (A0 : Option Addr) (c0 : Nat) (l0 : List S98) (w : World) (hr0 : Kd.C k98 w A0 l0.length l0) (hc0 : l0.length ≤ c0) (hg : w.cell? ⟨g, 0, none⟩ = some (.int .i64 c))
  (b : Bool) (h : (if (l0.length : Int) = c then (impl_RowOk.f k l0).bind fun t => some (!t) else some true) = some b) :
  Calls Try.prog 88 #[.slice A0 l0.length c0, .pointer (some ⟨g, 0, none⟩)] w fun e w' => e = .returned (.bool b) ∧ Below w.heap.size w w' := by
 have HR := am hr0
 have HC := am hc0
 clear hr0 hc0
 by_cases e : (l0.length : Int) = c
 ·rw [if_pos e] at h
  obtain ⟨t, et, h⟩ := Option.bind_eq_some_iff.mp h
  obtain rfl := Option.some.inj h
  have ET := am et
  clear et h
  subst e
  have d1 : ((l0.length : Int) != (l0.length : Int)) = false := bne_self_eq_false _
  go_enter Try.func88, Try.ntmps88
  go_wp2_with ((with_reducible refine gate_callee (f := 89) rfl ?_); (try (refine gate_guard (by rfl) ?_; dsimp only)); refine gl_ (some 11) Try.func89 #[.slice A0 l0.length c0] ?_; (with_reducible refine (impl_RowOk.calls k A0 c0 l0 t _ HR.out HC.out ET.out).mono ?_); rintro e w' ⟨rfl, hb⟩; refine ⟨_, rfl, ?_⟩; have HB := am hb; clear hb)
  go_ret
  exact ⟨rfl, HB.out⟩
 ·rw [if_neg e] at h
  obtain rfl := Option.some.inj h
  have d1 : ((l0.length : Int) != c) = true := bne_iff_ne.mpr e
  go_enter Try.func88, Try.ntmps88
  go_wp2
  go_ret
  exact ⟨rfl, Below.refl _ _⟩
set_option maxHeartbeats 8000000 in
set_option maxRecDepth 100000 in
theorem impl_GridOk.idx (k : Nat) (g : Nat) (c : Int) (A0 : Option Addr) (c0 : Nat) (rows : List (List S98)) (w : World) (hl : rows.length ≤ 30) (hr0 : Kd.C (Kd.slice 98 k98) w A0 rows.length rows) (hg : w.cell? ⟨g, 0, none⟩ = some (.int .i64 c))
  (b : Bool) (h : impl_GridOk.l0 k c rows = some b) :
  Calls Try.prog 116 #[.slice A0 rows.length c0, .func (.func 88) #[] #[.pointer (some ⟨g, 0, none⟩)]] w fun e w' => (∃ v : Int, e = .returned (.int .i64 v) ∧ decide (v ≥ 0) = b) ∧ Below w.heap.size w w' := by
 have HR := am hr0
 have HG := am hg
 clear hr0 hg
 have H0 := am h
 clear h
 go_enter Try.func116, Try.ntmps116
 go_wp2
 go_loopg [5, 8] rows.length (fun gk v5 v8 wr => ∃ i : Nat, v8 = .int .i64 (i : Int) ∧ Aside0 (i ≤ rows.length ∧ rows.length - i ≤ gk) ∧ Aside0 (impl_GridOk.l0 k c (rows.drop i) = some b) ∧ Aside0 (Below w.heap.size w wr))
 case atStart => exact ⟨0, rfl, ⟨Nat.zero_le _, Nat.le_refl _⟩, H0, ⟨Below.refl _ _⟩⟩
 case round =>
  clear H0
  obtain ⟨i, rfl, H1, H0, HB⟩ := hrel
  by_cases ci : i < rows.length
  ·obtain ⟨g1, rfl⟩ : ∃ q, gk = q + 1 := ⟨gk - 1, by have := H1.out; omega⟩
   obtain ⟨ad, cx, hA, -, hK, hcx⟩ := Kd.C_get HR.out [] (i : Int) (by omega) (by omega)
   obtain ⟨rw_, hrw⟩ : ∃ r, r = rows[i] := ⟨_, rfl⟩
   rw [show rows.getD (i : Int).toNat [] = rw_ by rw [hrw, Int.toNat_natCast, List.getD_eq_getElem?_getD, List.getElem?_eq_getElem ci]; rfl] at hK
   obtain ⟨Ar, cr, rfl, hlr, hCr⟩ := hK
   have hx : wr.cell? (ad.add i) = some (.slice Ar rw_.length cr) := by
    have := hcx 0 _ rfl
    rw [show (Kd.slice 98 k98).sz = 1 from rfl, Nat.mul_one, Nat.add_zero, Int.toNat_natCast] at this
    exact pw_cell_below HB.out this
   subst hA
   have HCr := am (Kd.C_below hCr HB.out)
   have HLr := am hlr
   have HGr := am (pw_cell_below HB.out HG.out)
   clear hcx hCr hlr
   have HH := H0.out
   rw [List.drop_eq_getElem_cons ci, ← hrw] at HH
   obtain ⟨lb, hlb, hnext⟩ : ∃ lb : Bool, (if (rw_.length : Int) = c then (impl_RowOk.f k rw_).bind fun t => some (!t) else some true) = some lb ∧ ((lb = true ∧ b = true) ∨ (lb = false ∧ impl_GridOk.l0 k c (rows.drop (i + 1)) = some b)) := by
    simp only [impl_GridOk.l0] at HH
    by_cases q : (rw_.length : Int) = c
    ·rw [if_pos q] at HH ⊢
     obtain ⟨t, et, HH⟩ := Option.bind_eq_some_iff.mp HH
     rw [et]
     cases t with
     | true => exact ⟨false, rfl, .inr ⟨rfl, by simpa using HH⟩⟩
     | false => exact ⟨true, rfl, .inl ⟨rfl, by simpa using HH.symm⟩⟩
    ·rw [if_neg q] at HH ⊢
     exact ⟨true, rfl, .inl ⟨rfl, (Option.some.inj HH).symm⟩⟩
   have HLB := am hlb
   clear hlb HH H0
   have p0 : 0 ≤ (i : Int) := Int.natCast_nonneg i
   have q0 : (i : Int) < (rows.length : Int) := by omega
   have dl : decide ((i : Int) < (rows.length : Int)) = true := decide_eq_true q0
   clear hrw
   rcases hnext with ⟨rfl, rfl⟩ | ⟨rfl, hnext⟩
   ·go_wp2_with (go_at_call 88; refine (impl_GridOk.lit k g c Ar cr rw_ _ HCr.out HLr.out HGr.out true HLB.out).mono ?_; rintro e w' ⟨rfl, hb⟩; have HB2 := am (below_step HB.out hb); clear hb)
    go_ret
    exact ⟨⟨(i : Int), rfl, decide_eq_true p0⟩, HB2.out⟩
   ·have HN := am hnext
    clear hnext
    have w1 : wrap64 ((i : Int) + 1) = ((i + 1 : Nat) : Int) := by unfold wrap64; omega
    go_wp2_with (go_at_call 88; refine (impl_GridOk.lit k g c Ar cr rw_ _ HCr.out HLr.out HGr.out false HLB.out).mono ?_; rintro e w' ⟨rfl, hb⟩; have HB2 := am (below_step HB.out hb); clear hb)
    go_roundg g1
    case measure => omega
    case rel => exact ⟨i + 1, (by first | rfl | (simp; done) | (simp [*]; done)), ⟨by omega, by have := H1.out; omega⟩, HN, HB2⟩
  ·have hi : i = rows.length := by have := H1.out; omega
   subst hi
   have dl : decide ((rows.length : Int) < (rows.length : Int)) = false := decide_eq_false (by omega)
   have HH := H0.out
   rw [List.drop_length] at HH
   obtain rfl := Option.some.inj HH
   go_wp2
   go_ret
   exact ⟨⟨-1, rfl, by decide⟩, HB.out⟩
set_option maxHeartbeats 8000000 in
set_option maxRecDepth 100000 in
theorem impl_GridOk.con (k : Nat) (g : Nat) (c : Int) (A0 : Option Addr) (c0 : Nat) (rows : List (List S98)) (w : World) (hl : rows.length ≤ 30) (hr0 : Kd.C (Kd.slice 98 k98) w A0 rows.length rows) (hg : w.cell? ⟨g, 0, none⟩ = some (.int .i64 c))
  (b : Bool) (h : impl_GridOk.l0 k c rows = some b) :
  Calls Try.prog 87 #[.slice A0 rows.length c0, .func (.func 88) #[] #[.pointer (some ⟨g, 0, none⟩)]] w fun e w' => e = .returned (.bool b) ∧ Below w.heap.size w w' := by
 have HI := am (impl_GridOk.idx k g c A0 c0 rows w hl hr0 hg b h)
 clear hr0 hg h
 go_enter Try.func87, Try.ntmps87
 go_wp2_with (go_at_call 116; refine HI.out.mono ?_; rintro e w' ⟨⟨v, rfl, hv⟩, hb⟩; have HV := am hv; have HB := am hb; clear hv hb)
 go_ret
 exact ⟨by first | rfl | (rw [← HV.out]; rfl) | (rw [← HV.out]), HB.out⟩
set_option maxHeartbeats 8000000 in
set_option maxRecDepth 100000 in
theorem impl_GridOk.calls (k : Nat) (a0_0 : Int) (A0_1 : Option Addr) (c0_1 : Nat) (l0_1 : List (List S98)) (r : Bool) (w : World) (hr0_1 : Kd.C (Kd.slice 98 k98) w A0_1 l0_1.length l0_1) (hc0_1 : l0_1.length ≤ c0_1) (h : impl_GridOk.f k a0_0 l0_1 = some r) :
  Calls Try.prog 48 #[.agg #[.int .i64 a0_0, .slice A0_1 l0_1.length c0_1]] w fun e w' => e = .returned (.bool r) ∧ Below w.heap.size w w' := by
 (
have huG := Try.underlying58
have hmf : ∀ (fn : Fn) (first cap : Array Value) (w : World), (Instr.makeFunc fn first cap).run Try.prog w = .ok (.func fn first cap) w := fun _ _ _ _ => rfl
have HR := am hr0_1
clear hr0_1 hc0_1
unfold impl_GridOk.f at h
obtain ⟨t, et, h⟩ := Option.bind_eq_some_iff.mp h
have ET := am et
clear et
cases t with
| false => (
rw [if_neg (by decide)] at h
obtain rfl := Option.some.inj h
clear h
go_enter Try.func48, Try.ntmps48
go_wp2_with (first | ((with_reducible refine gate_dst (N := 1) rfl ?_); refine box_event ?hg (N := 1) ?hd (cs := #[.int .i64 a0_0, .slice A0_1 l0_1.length c0_1]) (t := 58) ?hr ?_; (case hd => rfl); (case hg => rfl); (case hr => first | (go_simp; done) | (go_simp; rfl)); intro gb hg w2 hbox hb; have HB := am hb; have hz0 : w2.cell? ⟨gb, 0, none⟩ = some (.int .i64 a0_0) := (blk_cell hbox 0).trans rfl; have hz1 : w2.cell? ⟨gb, 1, none⟩ = some (.slice A0_1 l0_1.length c0_1) := (blk_cell hbox 1).trans rfl; have HZ0 := am hz0; clear hb hg hbox) | ((with_reducible refine gate_callee (f := 56) rfl ?_); (try (refine gate_guard (by rfl) ?_; dsimp only)); refine gl_ (some 5) Try.func56 #[.int .i64 a0_0, .int .i64 1, .int .i64 60] ?_; (with_reducible refine (impl_in.calls a0_0 1 60 false _ ET.out).mono ?_); rintro e w' ⟨rfl, ⟨nd, rfl⟩⟩; refine ⟨_, rfl, ?_⟩))
go_ret
exact ⟨rfl, (by repeat (first | exact HB.out | apply b1 | apply b2 | apply b3))⟩
)
| true => (
rw [if_pos rfl] at h
obtain ⟨u, eu, h⟩ := Option.bind_eq_some_iff.mp h
have EU := am eu
cases u with
| false => (
rw [if_neg (by decide)] at h
obtain rfl := Option.some.inj h
clear h eu
go_enter Try.func48, Try.ntmps48
go_wp2_with (first | ((with_reducible refine gate_dst (N := 1) rfl ?_); refine box_event ?hg (N := 1) ?hd (cs := #[.int .i64 a0_0, .slice A0_1 l0_1.length c0_1]) (t := 58) ?hr ?_; (case hd => rfl); (case hg => rfl); (case hr => first | (go_simp; done) | (go_simp; rfl)); intro gb hg w2 hbox hb; have HB := am hb; have hz0 : w2.cell? ⟨gb, 0, none⟩ = some (.int .i64 a0_0) := (blk_cell hbox 0).trans rfl; have hz1 : w2.cell? ⟨gb, 1, none⟩ = some (.slice A0_1 l0_1.length c0_1) := (blk_cell hbox 1).trans rfl; have HZ0 := am hz0; clear hb hg hbox) | ((with_reducible refine gate_callee (f := 56) rfl ?_); (try (refine gate_guard (by rfl) ?_; dsimp only)); refine gl_ (some 5) Try.func56 #[.int .i64 a0_0, .int .i64 1, .int .i64 60] ?_; (with_reducible refine (impl_in.calls a0_0 1 60 true _ ET.out).mono ?_); rintro e w' ⟨rfl, ⟨nd, rfl⟩⟩; refine ⟨_, rfl, ?_⟩) | ((with_reducible refine gate_callee (f := 56) rfl ?_); (try (refine gate_guard (by rfl) ?_; dsimp only)); refine gl_ (some 10) Try.func56 #[.int .i64 (l0_1.length : Int), .int .i64 1, .int .i64 30] ?_; (with_reducible refine (impl_in.calls (l0_1.length : Int) 1 30 false _ EU.out).mono ?_); rintro e w' ⟨rfl, ⟨nd, rfl⟩⟩; refine ⟨_, rfl, ?_⟩))
go_ret
exact ⟨rfl, (by repeat (first | exact HB.out | apply b1 | apply b2 | apply b3))⟩
)
| true => (
rw [if_pos rfl] at h
obtain ⟨b, eb, h⟩ := Option.bind_eq_some_iff.mp h
obtain rfl := Option.some.inj h
have EB := am eb
have hlen : l0_1.length ≤ 30 := by
 unfold impl_in.f at eu
 by_cases q : (1 : Int) ≤ (l0_1.length : Int)
 ·rw [if_pos q] at eu
  have := of_decide_eq_true (Option.some.inj eu)
  omega
 ·omega
have HLN := am hlen
clear h eb eu hlen
go_enter Try.func48, Try.ntmps48
go_wp2_with (first | ((with_reducible refine gate_dst (N := 1) rfl ?_); refine box_event ?hg (N := 1) ?hd (cs := #[.int .i64 a0_0, .slice A0_1 l0_1.length c0_1]) (t := 58) ?hr ?_; (case hd => rfl); (case hg => rfl); (case hr => first | (go_simp; done) | (go_simp; rfl)); intro gb hg w2 hbox hb; have HB := am hb; have hz0 : w2.cell? ⟨gb, 0, none⟩ = some (.int .i64 a0_0) := (blk_cell hbox 0).trans rfl; have hz1 : w2.cell? ⟨gb, 1, none⟩ = some (.slice A0_1 l0_1.length c0_1) := (blk_cell hbox 1).trans rfl; have HZ0 := am hz0; clear hb hg hbox) | ((with_reducible refine gate_callee (f := 56) rfl ?_); (try (refine gate_guard (by rfl) ?_; dsimp only)); refine gl_ (some 5) Try.func56 #[.int .i64 a0_0, .int .i64 1, .int .i64 60] ?_; (with_reducible refine (impl_in.calls a0_0 1 60 true _ ET.out).mono ?_); rintro e w' ⟨rfl, ⟨nd, rfl⟩⟩; refine ⟨_, rfl, ?_⟩) | ((with_reducible refine gate_callee (f := 56) rfl ?_); (try (refine gate_guard (by rfl) ?_; dsimp only)); refine gl_ (some 10) Try.func56 #[.int .i64 (l0_1.length : Int), .int .i64 1, .int .i64 30] ?_; (with_reducible refine (impl_in.calls (l0_1.length : Int) 1 30 true _ EU.out).mono ?_); rintro e w' ⟨rfl, ⟨nd, rfl⟩⟩; refine ⟨_, rfl, ?_⟩) | (go_at_call 87; refine (impl_GridOk.con k gb a0_0 A0_1 c0_1 l0_1 _ HLN.out ?s1 ?s2 b EB.out).mono ?_; (case s1 => exact Kd.C_below HR.out (by repeat (first | exact HB.out | apply b1 | apply b2 | apply b3))); (case s2 => exact HZ0.out); rintro e w' ⟨rfl, hb⟩; have HB2 := am (below_step (by repeat (first | exact HB.out | apply b1 | apply b2 | apply b3)) hb); clear hb))
go_ret
exact ⟨rfl, HB2.out⟩
)
)
)

/-! ### impl_Cell_102: function 102 -/
def impl_Cell_102.f (l0 : List (S98)) : Option ((List (S98))) := (some (([] : List (S98)) : List (S98))).bind fun y392 => (if y392.length + l0.length < 3518437208883 then (some (y392 ++ l0)) else (none))
theorem impl_Cell_102.eqnilIn {P : Program} (w : World) (d : Nat) (t e : TypeId) (a : Option Addr) (n c n' c' : Nat) (h : P.underlying t = some (.slice e)) :
  (Op.equalIn (d + 1) t (.slice a n c) (.slice none n' c')).run P w = .ok a.isNone w := by
 cases a <;> simp [Op.equalIn, run_underlying h]
theorem impl_Cell_102.eqnil (W : World) (A : Option Addr) (n c : Nat) : (binOp .eql 99 (.slice A n c) (.slice none 0 0)).run Try.prog W = .ok (.bool A.isNone) W := by
 have hu : Try.prog.underlying 99 = some (.slice 98) := by kernel_rfl
 simp only [binOp]
 simp [Op.equal, Op.maxDepth, impl_Cell_102.eqnilIn W 9999 99 98 A n c 0 0 hu]
set_option maxHeartbeats 8000000 in
set_option maxRecDepth 100000 in
theorem impl_Cell_102.calls (A0 : Option Addr) (c0 : Nat) (l0 : List (S98)) (r : List (S98)) (w : World) (hr0 : Kd.C k98 w A0 l0.length l0) (hc0 : l0.length ≤ c0) (h : impl_Cell_102.f l0 = some r) :
  Calls Try.prog 102 #[.slice A0 l0.length c0] w fun e w' => ∃ v0_ : Value, e = .returned (v0_) ∧ Kd.R k98 98 w' w.heap.size (fun _ => True) v0_ r ∧ Below w.heap.size w w' := by
 (
cases A0 with
| none => (
have hl : l0 = [] := List.eq_nil_of_length_eq_zero (Nat.eq_zero_of_not_pos fun hp => by obtain ⟨ad, e, _⟩ := hr0.2.2 hp; cases e)
subst hl
have hn : ([] : List _) = r := Option.some.inj ((show impl_Cell_102.f [] = some [] from rfl).symm.trans h)
subst hn
clear h hr0
have heq := impl_Cell_102.eqnil
go_enter Try.func102, Try.ntmps102
go_wp2
go_ret
exact ⟨_, rfl, Kd.R_nil _ _ _ _ _, Below.refl _ _⟩
)
| some a0_ => (
have HR0 := am hr0
have HC0 := am hc0
clear hr0 hc0
have HB := am (Below.refl w.heap.size w)
have H := h
unfold impl_Cell_102.f at H
clear h
obtain ⟨y392, hy392⟩ : ∃ y_ : List (S98), y_ = (([] : List (S98))) := ⟨_, rfl⟩
replace H : (if y392.length + l0.length < 3518437208883 then (some (y392 ++ l0)) else (none)) = some r := by first | (rw [hy392]; with_reducible exact H) | (rw [hy392]; exact H) | exact H
have Ny392 := am hy392
clear hy392
by_cases c2 : y392.length + l0.length < 3518437208883
·(
rw [if_pos c2] at H
have LMc2 := am c2
clear c2
obtain ⟨y395, hy395⟩ : ∃ y_ : List (S98), y_ = (y392 ++ l0) := ⟨_, rfl⟩
replace H : (some y395) = some r := by first | (rw [hy395]; with_reducible exact H) | (rw [hy395]; exact H) | exact H
have Ny395 := am hy395
clear hy395
obtain rfl := Option.some.inj H
have heq := impl_Cell_102.eqnil
go_enter Try.func102, Try.ntmps102
go_wp2_with (first | ((with_reducible refine gate_dst (N := 5) rfl ?_); refine Kd.R_lit k98 _ 98 ?hg (N := 5) ?hd (xs := ([] : List (S98))) (inner := []) (ok := fun _ => True) (okp := fun _ => True) ?hr ?hp (fun _ hk => hk) trivial (Below.refl _ _) (Nat.le_refl _) (by simp) ?_; (case hd => rfl); (case hg => rfl); (case hr => first | (go_simp; done) | (go_simp; rfl)); (case hp => exact (Reps.none _ _)); intro v393 w3 ho4 hb hg_ hnew_; clear hg_ hnew_; (first | rw [← Ny392.out] at ho4 | (simp only [Int.reduceToNat] at ho4; rw [← Ny392.out] at ho4)); have HO394 := am (Kd.R_lower ho4 (below_size (rb HB))); replace HB := am (below_step (rb HB) hb); clear hb ho4) | ((with_reducible refine gate_builtin (b := .append) (xs := #[.tmp 5, .tmp 6]) rfl ?_); at_builtin; refine Kd.R_append_rows k98 (w0 := w) w.heap.size rfl (.tmp 5) (.tmp 6) 99 98 (.agg #[(.int .i64 0), (.int .i64 0), (.int .i64 0), (.bool false), (.bool false), (.bool false), (.int .i64 0)]) 40 rfl Try.underlying99 info98 rfl (by decide) (by omega) v393 y392 l0 _ _ _ (fun _ => True) (fun _ => False) rfl rfl ?aO ?aR (fun _ _ h => h) (fun _ h => h.elim) ?aF ?aB ?aS ?aL ?_; (case aR => repeat (first | exact (Kd.C_below HR0.out HB.out) | (with_reducible refine Kd.C_alloc ?_ _) | (with_reducible refine Kd.C_drewN ?_ _) | (with_reducible refine Kd.C_drew ?_))); (case aB => exact (rb HB)); (case aF => exact (fun _ _ => trivial)); (case aO => exact (rr HO394)); (case aS => exact (below_size (rb HB))); (case aL => have := LMc2.out; omega); intro v396 w5 ho hb hg hat; rw [← Ny395.out] at ho; replace HB := am (hb); have HO397 := am (ho); clear HO394; clear ho hb hg hat))
go_ret
exact ⟨_, by first | rfl | (simp [errW_none, errW_some] <;> rfl) | (simp [*, errW_none, errW_some] <;> rfl), by (with_reducible repeat (first | apply r1 | apply r2 | apply r3)); exact HO397.out, by repeat (first | (with_reducible first | exact HB.out | apply b1 | apply b2 | apply b3) | exact HB.out)⟩
)
·(
rw [if_neg c2] at H
exact absurd H (by simp)
)
)
)

/-! ### impl_blank: function 104 -/
def impl_blank.f (a0_0 : Int) (a0_1 : Int) (a0_2 : Bool) (a0_3 : Bool) (a0_4 : Bool) : Option (Int × Int × Int × Bool × Bool × Bool × Int) := some (32, a0_0, a0_1, a0_2, a0_3, a0_4, 0)
set_option maxHeartbeats 8000000 in
set_option maxRecDepth 100000 in
theorem impl_blank.calls (a0_0 : Int) (a0_1 : Int) (a0_2 : Bool) (a0_3 : Bool) (a0_4 : Bool) (r1 : Int) (r2 : Int) (r3 : Int) (r4 : Bool) (r5 : Bool) (r6 : Bool) (r7 : Int) (w : World) (h : impl_blank.f a0_0 a0_1 a0_2 a0_3 a0_4 = some (r1, r2, r3, r4, r5, r6, r7)) :
  Calls Try.prog 104 #[.agg #[.int .i64 a0_0, .int .i64 a0_1, .bool a0_2, .bool a0_3, .bool a0_4]] w fun e w' => e = .returned (.agg #[.int .i64 r1, .int .i64 r2, .int .i64 r3, .bool r4, .bool r5, .bool r6, .int .i64 r7]) ∧ Below w.heap.size w w' := by
 (
have hu96 := Try.underlying96
have hu98 := Try.underlying98
have HB := am (Below.refl w.heap.size w)
have H : (some (32, a0_0, a0_1, a0_2, a0_3, a0_4, 0)) = some (r1, r2, r3, r4, r5, r6, r7) := h
clear h
simp only [Option.some.injEq, Prod.mk.injEq] at H
obtain ⟨rfl, rfl, rfl, rfl, rfl, rfl, rfl⟩ := H
go_enter Try.func104, Try.ntmps104
go_wp2_with (first | ((with_reducible refine gate_dst (N := 1) rfl ?_); refine box_event ?hg (N := 1) ?hd (cs := #[.int .i64 a0_0, .int .i64 a0_1, .bool a0_2, .bool a0_3, .bool a0_4]) (t := 96) ?hr ?_; (case hd => rfl); (case hg => rfl); (case hr => first | (go_simp; done) | (go_simp; rfl)); intro gb398 hg w2 hbox hb; have BK398 := am (hbox); have GW398 := am (gw hg (rb HB)); have GE398 := GW398; replace HB := am (below_step (rb HB) hb); clear hb hbox hg) | ((with_reducible refine gate_dst (N := 2) rfl ?_); refine box_event ?hg (N := 2) ?hd (cs := #[.int .i64 0, .int .i64 0, .int .i64 0, .bool false, .bool false, .bool false, .int .i64 0]) (t := 98) ?hr ?_; (case hd => rfl); (case hg => rfl); (case hr => first | (go_simp; done) | (go_simp; rfl)); intro gb399 hg w3 hbox hb; have BK399 := am (hbox); have GW399 := am (gw hg (rb1 HB GE398)); have GE399 := GW399; replace HB := am (below_step (rb1 HB GE398) hb); have NB398_399 := am (nl hg (rk BK398)); have NB399_398 := am (ng hg (rk BK398)); replace BK398 := am (blk_below (rk BK398) hb); clear hb hbox hg; have hnb4 := NB398_399.out; have hnc4 := NB399_398.out; have hcz5_0 : w3.cell? ⟨gb398, 0, none⟩ = some (.int .i64 a0_0) := (blk_cell BK398.out 0).trans rfl; have hcz5_1 : w3.cell? ⟨gb398, 1, none⟩ = some (.int .i64 a0_1) := (blk_cell BK398.out 1).trans rfl; have hcz5_2 : w3.cell? ⟨gb398, 2, none⟩ = some (.bool a0_2) := (blk_cell BK398.out 2).trans rfl; have hcz5_3 : w3.cell? ⟨gb398, 3, none⟩ = some (.bool a0_3) := (blk_cell BK398.out 3).trans rfl; have hcz5_4 : w3.cell? ⟨gb398, 4, none⟩ = some (.bool a0_4) := (blk_cell BK398.out 4).trans rfl; have hfz5_0 := blk_frozen BK398.out 0; have hfz5_1 := blk_frozen BK398.out 1; have hfz5_2 := blk_frozen BK398.out 2; have hfz5_3 := blk_frozen BK398.out 3; have hfz5_4 := blk_frozen BK398.out 4; have hcz6_0 : w3.cell? ⟨gb399, 0, none⟩ = some (.int .i64 0) := (blk_cell BK399.out 0).trans rfl; have hcz6_1 : w3.cell? ⟨gb399, 1, none⟩ = some (.int .i64 0) := (blk_cell BK399.out 1).trans rfl; have hcz6_2 : w3.cell? ⟨gb399, 2, none⟩ = some (.int .i64 0) := (blk_cell BK399.out 2).trans rfl; have hcz6_3 : w3.cell? ⟨gb399, 3, none⟩ = some (.bool false) := (blk_cell BK399.out 3).trans rfl; have hcz6_4 : w3.cell? ⟨gb399, 4, none⟩ = some (.bool false) := (blk_cell BK399.out 4).trans rfl; have hcz6_5 : w3.cell? ⟨gb399, 5, none⟩ = some (.bool false) := (blk_cell BK399.out 5).trans rfl; have hcz6_6 : w3.cell? ⟨gb399, 6, none⟩ = some (.int .i64 0) := (blk_cell BK399.out 6).trans rfl; have hfz6_0 := blk_frozen BK399.out 0; have hfz6_1 := blk_frozen BK399.out 1; have hfz6_2 := blk_frozen BK399.out 2; have hfz6_3 := blk_frozen BK399.out 3; have hfz6_4 := blk_frozen BK399.out 4; have hfz6_5 := blk_frozen BK399.out 5; have hfz6_6 := blk_frozen BK399.out 6))
refine bodyPost_ret (results_cell_row rfl _ _ gb399 98 #[.int .i64 32, .int .i64 a0_0, .int .i64 a0_1, .bool a0_2, .bool a0_3, .bool a0_4, .int .i64 0] (0, 0) _ rfl (rp_0_1_2_3_4_5_6 BK399) Try.underlying98 rfl (by kernel_rfl)) rfl ?_
exact ⟨by first | rfl | (simp [errW_none, errW_some] <;> rfl) | (simp [*, errW_none, errW_some] <;> rfl), rb2 HB GE398 GE399⟩
)

end Go.Proofs.Ytalopdcephohgaa.RC
