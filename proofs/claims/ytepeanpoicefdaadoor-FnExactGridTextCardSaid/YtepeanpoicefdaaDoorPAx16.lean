/- Contracts of Go functions that laws of this seat reach: each Lean function answers as its Go function does. No condition. Written by wip/tools/inj.py, over the kit's print. -/
import Derived.Test.YtepeanpoicefdaaDoorPAx0
import Derived.Test.YtepeanpoicefdaaDoorPAx9
import Derived.Test.YtepeanpoicefdaaDoorPAx11
import Derived.Test.YtepeanpoicefdaaDoorPAx15
namespace Go.Proofs.YtepeanpoicefdaaDoor.PA
open Go.RowKit Go.Proofs.YtepeanpoicefdaaDoorW.PrintWords Go.Proofs.YtepeanpoicefdaaDoorW.PrintLast Go.Proofs.YtepeanpoicefdaaDoorW.PrintMore
attribute [local go_sem] max2_int min2_int max_two min_two max_three min_three max_four min_four   -- for this text's walks alone
set_option linter.unusedVariables false
set_option linter.unusedSimpArgs false

/-! ### impl_GridOk: function 30 -/
def impl_GridOk.l0 (k : Nat) (c : Int) : List (List S48) → Option Bool
 | [] => some false
 | r :: l => if (r.length : Int) = c then (impl_RowOk.f k r).bind fun t => if t = true then impl_GridOk.l0 k c l else some true else some true
theorem impl_GridOk.mono_l : ∀ (l : List (List S48)) (k : Nat) (c : Int), LeO (impl_GridOk.l0 k c l) (impl_GridOk.l0 (k + 1) c l)
 | [], _, _ => LeO.refl _
 | r :: l, k, c => by
  simp only [impl_GridOk.l0]
  exact LeO.ite (LeO.bind (impl_RowOk.mono _ _) (fun _ => LeO.ite (impl_GridOk.mono_l l k c) (LeO.refl _))) (LeO.refl _)
def impl_GridOk.f (k : Nat) (a0_0 : Int) (l0_1 : List (List S48)) : Option Bool :=
 (impl_in.f a0_0 1 60).bind fun t => if t = true then ((impl_in.f (l0_1.length : Int) 1 30).bind fun u => if u = true then ((impl_GridOk.l0 k a0_0 l0_1).bind fun b => some (!b)) else some false) else some false
theorem impl_GridOk.mono : ∀ a0 a1 k, LeO (impl_GridOk.f k a0 a1) (impl_GridOk.f (k + 1) a0 a1) := by
 intro a0 a1 k
 unfold impl_GridOk.f
 exact LeO.bind (LeO.refl _) (fun _ => LeO.ite (LeO.bind (LeO.refl _) (fun _ => LeO.ite (LeO.bind (impl_GridOk.mono_l _ _ _) (fun _ => LeO.refl _)) (LeO.refl _))) (LeO.refl _))
set_option maxHeartbeats 8000000 in
set_option maxRecDepth 100000 in
theorem impl_GridOk.lit (k : Nat) (g : Nat) (c : Int) (A0 : Option Addr) (c0 : Nat) (l0 : List S48) (w : World) (hr0 : Kd.C k48 w A0 l0.length l0) (hc0 : l0.length ≤ c0) (hg : w.cell? ⟨g, 0, none⟩ = some (.int .i64 c))
  (b : Bool) (h : (if (l0.length : Int) = c then (impl_RowOk.f k l0).bind fun t => some (!t) else some true) = some b) :
  Calls Tryd.prog 64 #[.slice A0 l0.length c0, .pointer (some ⟨g, 0, none⟩)] w fun e w' => e = .returned (.bool b) ∧ Below w.heap.size w w' := by
 have HR := am hr0
 have HC := am hc0
 clear hr0 hc0
 by_cases e : (l0.length : Int) = c
 ·rw [if_pos e] at h
  obtain ⟨t, et, h⟩ := Option.bind_eq_some_iff.mp h
  obtain rfl := Option.some.inj h
  have ET := am et
  clear et h
  subst e
  have d1 : ((l0.length : Int) != (l0.length : Int)) = false := bne_self_eq_false _
  go_enter Tryd.func64, Tryd.ntmps64
  go_wp2_with ((with_reducible refine gate_callee (f := 21) rfl ?_); (try (refine gate_guard (by rfl) ?_; dsimp only)); refine gl_ (some 11) Tryd.func21 #[.slice A0 l0.length c0] ?_; (with_reducible refine (impl_RowOk.calls k A0 c0 l0 t _ HR.out HC.out ET.out).mono ?_); rintro e w' ⟨rfl, hb⟩; refine ⟨_, rfl, ?_⟩; have HB := am hb; clear hb)
  go_ret
  exact ⟨rfl, HB.out⟩
 ·rw [if_neg e] at h
  obtain rfl := Option.some.inj h
  have d1 : ((l0.length : Int) != c) = true := bne_iff_ne.mpr e
  go_enter Tryd.func64, Tryd.ntmps64
  go_wp2
  go_ret
  exact ⟨rfl, Below.refl _ _⟩
set_option maxHeartbeats 8000000 in
set_option maxRecDepth 100000 in
theorem impl_GridOk.idx (k : Nat) (g : Nat) (c : Int) (A0 : Option Addr) (c0 : Nat) (rows : List (List S48)) (w : World) (hl : rows.length ≤ 30) (hr0 : Kd.C (Kd.slice 48 k48) w A0 rows.length rows) (hg : w.cell? ⟨g, 0, none⟩ = some (.int .i64 c))
  (b : Bool) (h : impl_GridOk.l0 k c rows = some b) :
  Calls Tryd.prog 84 #[.slice A0 rows.length c0, .func (.func 64) #[] #[.pointer (some ⟨g, 0, none⟩)]] w fun e w' => (∃ v : Int, e = .returned (.int .i64 v) ∧ decide (v ≥ 0) = b) ∧ Below w.heap.size w w' := by
 have HR := am hr0
 have HG := am hg
 clear hr0 hg
 have H0 := am h
 clear h
 go_enter Tryd.func84, Tryd.ntmps84
 go_wp2
 go_loopg [5, 8] rows.length (fun gk v5 v8 wr => ∃ i : Nat, v8 = .int .i64 (i : Int) ∧ Aside0 (i ≤ rows.length ∧ rows.length - i ≤ gk) ∧ Aside0 (impl_GridOk.l0 k c (rows.drop i) = some b) ∧ Aside0 (Below w.heap.size w wr))
 case atStart => exact ⟨0, rfl, ⟨Nat.zero_le _, Nat.le_refl _⟩, H0, ⟨Below.refl _ _⟩⟩
 case round =>
  clear H0
  obtain ⟨i, rfl, H1, H0, HB⟩ := hrel
  by_cases ci : i < rows.length
  ·obtain ⟨g1, rfl⟩ : ∃ q, gk = q + 1 := ⟨gk - 1, by have := H1.out; omega⟩
   obtain ⟨ad, cx, hA, -, hK, hcx⟩ := Kd.C_get HR.out [] (i : Int) (by omega) (by omega)
   obtain ⟨rw_, hrw⟩ : ∃ r, r = rows[i] := ⟨_, rfl⟩
   rw [show rows.getD (i : Int).toNat [] = rw_ by rw [hrw, Int.toNat_natCast, List.getD_eq_getElem?_getD, List.getElem?_eq_getElem ci]; rfl] at hK
   obtain ⟨Ar, cr, rfl, hlr, hCr⟩ := hK
   have hx : wr.cell? (ad.add i) = some (.slice Ar rw_.length cr) := by
    have := hcx 0 _ rfl
    rw [show (Kd.slice 48 k48).sz = 1 from rfl, Nat.mul_one, Nat.add_zero, Int.toNat_natCast] at this
    exact pw_cell_below HB.out this
   subst hA
   have HCr := am (Kd.C_below hCr HB.out)
   have HLr := am hlr
   have HGr := am (pw_cell_below HB.out HG.out)
   clear hcx hCr hlr
   have HH := H0.out
   rw [List.drop_eq_getElem_cons ci, ← hrw] at HH
   obtain ⟨lb, hlb, hnext⟩ : ∃ lb : Bool, (if (rw_.length : Int) = c then (impl_RowOk.f k rw_).bind fun t => some (!t) else some true) = some lb ∧ ((lb = true ∧ b = true) ∨ (lb = false ∧ impl_GridOk.l0 k c (rows.drop (i + 1)) = some b)) := by
    simp only [impl_GridOk.l0] at HH
    by_cases q : (rw_.length : Int) = c
    ·rw [if_pos q] at HH ⊢
     obtain ⟨t, et, HH⟩ := Option.bind_eq_some_iff.mp HH
     rw [et]
     cases t with
     | true => exact ⟨false, rfl, .inr ⟨rfl, by simpa using HH⟩⟩
     | false => exact ⟨true, rfl, .inl ⟨rfl, by simpa using HH.symm⟩⟩
    ·rw [if_neg q] at HH ⊢
     exact ⟨true, rfl, .inl ⟨rfl, (Option.some.inj HH).symm⟩⟩
   have HLB := am hlb
   clear hlb HH H0
   have p0 : 0 ≤ (i : Int) := Int.natCast_nonneg i
   have q0 : (i : Int) < (rows.length : Int) := by omega
   have dl : decide ((i : Int) < (rows.length : Int)) = true := decide_eq_true q0
   clear hrw
   rcases hnext with ⟨rfl, rfl⟩ | ⟨rfl, hnext⟩
   ·go_wp2_with (go_at_call 64; refine (impl_GridOk.lit k g c Ar cr rw_ _ HCr.out HLr.out HGr.out true HLB.out).mono ?_; rintro e w' ⟨rfl, hb⟩; have HB2 := am (below_step HB.out hb); clear hb)
    go_ret
    exact ⟨⟨(i : Int), rfl, decide_eq_true p0⟩, HB2.out⟩
   ·have HN := am hnext
    clear hnext
    have w1 : wrap64 ((i : Int) + 1) = ((i + 1 : Nat) : Int) := by unfold wrap64; omega
    go_wp2_with (go_at_call 64; refine (impl_GridOk.lit k g c Ar cr rw_ _ HCr.out HLr.out HGr.out false HLB.out).mono ?_; rintro e w' ⟨rfl, hb⟩; have HB2 := am (below_step HB.out hb); clear hb)
    go_roundg g1
    case measure => omega
    case rel => exact ⟨i + 1, (by first | rfl | (simp; done) | (simp [*]; done)), ⟨by omega, by have := H1.out; omega⟩, HN, HB2⟩
  ·have hi : i = rows.length := by have := H1.out; omega
   subst hi
   have dl : decide ((rows.length : Int) < (rows.length : Int)) = false := decide_eq_false (by omega)
   have HH := H0.out
   rw [List.drop_length] at HH
   obtain rfl := Option.some.inj HH
   go_wp2
   go_ret
   exact ⟨⟨-1, rfl, by decide⟩, HB.out⟩
set_option maxHeartbeats 8000000 in
set_option maxRecDepth 100000 in
theorem impl_GridOk.con (k : Nat) (g : Nat) (c : Int) (A0 : Option Addr) (c0 : Nat) (rows : List (List S48)) (w : World) (hl : rows.length ≤ 30) (hr0 : Kd.C (Kd.slice 48 k48) w A0 rows.length rows) (hg : w.cell? ⟨g, 0, none⟩ = some (.int .i64 c))
  (b : Bool) (h : impl_GridOk.l0 k c rows = some b) :
  Calls Tryd.prog 63 #[.slice A0 rows.length c0, .func (.func 64) #[] #[.pointer (some ⟨g, 0, none⟩)]] w fun e w' => e = .returned (.bool b) ∧ Below w.heap.size w w' := by
 have HI := am (impl_GridOk.idx k g c A0 c0 rows w hl hr0 hg b h)
 clear hr0 hg h
 go_enter Tryd.func63, Tryd.ntmps63
 go_wp2_with (go_at_call 84; refine HI.out.mono ?_; rintro e w' ⟨⟨v, rfl, hv⟩, hb⟩; have HV := am hv; have HB := am hb; clear hv hb)
 go_ret
 exact ⟨by first | rfl | (rw [← HV.out]; rfl) | (rw [← HV.out]), HB.out⟩
set_option maxHeartbeats 8000000 in
set_option maxRecDepth 100000 in
theorem impl_GridOk.calls (k : Nat) (a0_0 : Int) (A0_1 : Option Addr) (c0_1 : Nat) (l0_1 : List (List S48)) (r : Bool) (w : World) (hr0_1 : Kd.C (Kd.slice 48 k48) w A0_1 l0_1.length l0_1) (hc0_1 : l0_1.length ≤ c0_1) (h : impl_GridOk.f k a0_0 l0_1 = some r) :
  Calls Tryd.prog 30 #[.agg #[.int .i64 a0_0, .slice A0_1 l0_1.length c0_1]] w fun e w' => e = .returned (.bool r) ∧ Below w.heap.size w w' := by
 have huG := Tryd.underlying29
 have hmf : ∀ (fn : Fn) (first cap : Array Value) (w : World), (Instr.makeFunc fn first cap).run Tryd.prog w = .ok (.func fn first cap) w := fun _ _ _ _ => rfl
 have HR := am hr0_1
 clear hr0_1 hc0_1
 unfold impl_GridOk.f at h
 obtain ⟨t, et, h⟩ := Option.bind_eq_some_iff.mp h
 have ET := am et
 clear et
 cases t with
 | false =>
  rw [if_neg (by decide)] at h
  obtain rfl := Option.some.inj h
  clear h
  go_enter Tryd.func30, Tryd.ntmps30
  go_wp2_with (first | ((with_reducible refine gate_dst (N := 1) rfl ?_); refine box_event ?hg (N := 1) ?hd (cs := #[.int .i64 a0_0, .slice A0_1 l0_1.length c0_1]) (t := 29) ?hr ?_; (case hd => rfl); (case hg => rfl); (case hr => first | (go_simp; done) | (go_simp; rfl)); intro gb hg w2 hbox hb; have HB := am hb; have hz0 : w2.cell? ⟨gb, 0, none⟩ = some (.int .i64 a0_0) := (blk_cell hbox 0).trans rfl; have hz1 : w2.cell? ⟨gb, 1, none⟩ = some (.slice A0_1 l0_1.length c0_1) := (blk_cell hbox 1).trans rfl; have HZ0 := am hz0; clear hb hg hbox) | ((with_reducible refine gate_callee (f := 43) rfl ?_); (try (refine gate_guard (by rfl) ?_; dsimp only)); refine gl_ (some 5) Tryd.func43 #[.int .i64 a0_0, .int .i64 1, .int .i64 60] ?_; (with_reducible refine (impl_in.calls a0_0 1 60 false _ ET.out).mono ?_); rintro e w' ⟨rfl, ⟨nd, rfl⟩⟩; refine ⟨_, rfl, ?_⟩))
  go_ret
  exact ⟨rfl, (by repeat (first | exact HB.out | apply b1 | apply b2 | apply b3))⟩
 | true =>
  rw [if_pos rfl] at h
  obtain ⟨u, eu, h⟩ := Option.bind_eq_some_iff.mp h
  have EU := am eu
  cases u with
  | false =>
   rw [if_neg (by decide)] at h
   obtain rfl := Option.some.inj h
   clear h eu
   go_enter Tryd.func30, Tryd.ntmps30
   go_wp2_with (first | ((with_reducible refine gate_dst (N := 1) rfl ?_); refine box_event ?hg (N := 1) ?hd (cs := #[.int .i64 a0_0, .slice A0_1 l0_1.length c0_1]) (t := 29) ?hr ?_; (case hd => rfl); (case hg => rfl); (case hr => first | (go_simp; done) | (go_simp; rfl)); intro gb hg w2 hbox hb; have HB := am hb; have hz0 : w2.cell? ⟨gb, 0, none⟩ = some (.int .i64 a0_0) := (blk_cell hbox 0).trans rfl; have hz1 : w2.cell? ⟨gb, 1, none⟩ = some (.slice A0_1 l0_1.length c0_1) := (blk_cell hbox 1).trans rfl; have HZ0 := am hz0; clear hb hg hbox) | ((with_reducible refine gate_callee (f := 43) rfl ?_); (try (refine gate_guard (by rfl) ?_; dsimp only)); refine gl_ (some 5) Tryd.func43 #[.int .i64 a0_0, .int .i64 1, .int .i64 60] ?_; (with_reducible refine (impl_in.calls a0_0 1 60 true _ ET.out).mono ?_); rintro e w' ⟨rfl, ⟨nd, rfl⟩⟩; refine ⟨_, rfl, ?_⟩) | ((with_reducible refine gate_callee (f := 43) rfl ?_); (try (refine gate_guard (by rfl) ?_; dsimp only)); refine gl_ (some 10) Tryd.func43 #[.int .i64 (l0_1.length : Int), .int .i64 1, .int .i64 30] ?_; (with_reducible refine (impl_in.calls (l0_1.length : Int) 1 30 false _ EU.out).mono ?_); rintro e w' ⟨rfl, ⟨nd, rfl⟩⟩; refine ⟨_, rfl, ?_⟩))
   go_ret
   exact ⟨rfl, (by repeat (first | exact HB.out | apply b1 | apply b2 | apply b3))⟩
  | true =>
   rw [if_pos rfl] at h
   obtain ⟨b, eb, h⟩ := Option.bind_eq_some_iff.mp h
   obtain rfl := Option.some.inj h
   have EB := am eb
   have hlen : l0_1.length ≤ 30 := by
    unfold impl_in.f at eu
    by_cases q : (1 : Int) ≤ (l0_1.length : Int)
    ·rw [if_pos q] at eu
     have := of_decide_eq_true (Option.some.inj eu)
     omega
    ·omega
   have HLN := am hlen
   clear h eb eu hlen
   go_enter Tryd.func30, Tryd.ntmps30
   go_wp2_with (first | ((with_reducible refine gate_dst (N := 1) rfl ?_); refine box_event ?hg (N := 1) ?hd (cs := #[.int .i64 a0_0, .slice A0_1 l0_1.length c0_1]) (t := 29) ?hr ?_; (case hd => rfl); (case hg => rfl); (case hr => first | (go_simp; done) | (go_simp; rfl)); intro gb hg w2 hbox hb; have HB := am hb; have hz0 : w2.cell? ⟨gb, 0, none⟩ = some (.int .i64 a0_0) := (blk_cell hbox 0).trans rfl; have hz1 : w2.cell? ⟨gb, 1, none⟩ = some (.slice A0_1 l0_1.length c0_1) := (blk_cell hbox 1).trans rfl; have HZ0 := am hz0; clear hb hg hbox) | ((with_reducible refine gate_callee (f := 43) rfl ?_); (try (refine gate_guard (by rfl) ?_; dsimp only)); refine gl_ (some 5) Tryd.func43 #[.int .i64 a0_0, .int .i64 1, .int .i64 60] ?_; (with_reducible refine (impl_in.calls a0_0 1 60 true _ ET.out).mono ?_); rintro e w' ⟨rfl, ⟨nd, rfl⟩⟩; refine ⟨_, rfl, ?_⟩) | ((with_reducible refine gate_callee (f := 43) rfl ?_); (try (refine gate_guard (by rfl) ?_; dsimp only)); refine gl_ (some 10) Tryd.func43 #[.int .i64 (l0_1.length : Int), .int .i64 1, .int .i64 30] ?_; (with_reducible refine (impl_in.calls (l0_1.length : Int) 1 30 true _ EU.out).mono ?_); rintro e w' ⟨rfl, ⟨nd, rfl⟩⟩; refine ⟨_, rfl, ?_⟩) | (go_at_call 63; refine (impl_GridOk.con k gb a0_0 A0_1 c0_1 l0_1 _ HLN.out ?s1 ?s2 b EB.out).mono ?_; (case s1 => exact Kd.C_below HR.out (by repeat (first | exact HB.out | apply b1 | apply b2 | apply b3))); (case s2 => exact HZ0.out); rintro e w' ⟨rfl, hb⟩; have HB2 := am (below_step (by repeat (first | exact HB.out | apply b1 | apply b2 | apply b3)) hb); clear hb))
   go_ret
   exact ⟨rfl, HB2.out⟩

/-! ### impl_GridText: function 8 -/
def impl_GridText.l0 : Nat → List (List (S48)) → List UInt8 → Int → Option (ByteArray)
 | 0, _, _, _ => none
 | k + 1, l, bs, i => if i < (l.length : Int) then (if 0 ≤ i then ((impl_RowText.f k (l.getD i.toNat [])).bind fun t => (if t.size + 1 ≤ 9223372036854775807 then (if bs.length + (t ++ (⟨#[10]⟩ : ByteArray)).size ≤ 140737488355328 then (impl_GridText.l0 k l (bs ++ (t ++ (⟨#[10]⟩ : ByteArray)).data.toList) (wrap64 (i + 1))) else none) else none)) else none) else some (⟨bs.toArray⟩ : ByteArray)
def impl_GridText.f (k : Nat) (a0_0 : Int) (l0_1 : List (List (S48))) : Option (ByteArray) := (impl_GridOk.f k a0_0 l0_1).bind fun t => if t = true then (impl_GridText.l0 k l0_1 [] 0) else some (⟨#[]⟩ : ByteArray)
theorem impl_GridText.mono_l : ∀ k y0 y1 y2, LeO (impl_GridText.l0 k y0 y1 y2) (impl_GridText.l0 (k + 1) y0 y1 y2)
 | 0, _, _, _ => fun r h => by simp [impl_GridText.l0] at h
 | k + 1, y0, y1, y2 => by
  have ih := impl_GridText.mono_l k
  unfold impl_GridText.l0
  exact LeO.ite (LeO.ite (LeO.bind (impl_RowText.mono _ _) (fun _ => LeO.ite (LeO.ite (ih _ _ _) (LeO.refl _)) (LeO.refl _))) (LeO.refl _)) (LeO.refl _)
theorem impl_GridText.mono : ∀ a0 a1 k, LeO (impl_GridText.f k a0 a1) (impl_GridText.f (k + 1) a0 a1) := by
 intro a0 a1 k
 unfold impl_GridText.f
 exact LeO.bind (impl_GridOk.mono _ _ _) (fun _ => LeO.ite (impl_GridText.mono_l _ _ _ _) (LeO.refl _))
set_option maxHeartbeats 8000000 in
set_option maxRecDepth 100000 in
theorem impl_GridText.calls (k : Nat) (a0_0 : Int) (A0_1 : Option Addr) (c0_1 : Nat) (l0_1 : List (List S48)) (r : ByteArray) (w : World) (hr0_1 : Kd.C (Kd.slice 48 k48) w A0_1 l0_1.length l0_1) (hc0_1 : l0_1.length ≤ c0_1) (h : impl_GridText.f k a0_0 l0_1 = some r) :
  Calls Tryd.prog 8 #[.agg #[.int .i64 a0_0, .slice A0_1 l0_1.length c0_1]] w fun e w' => e = .returned (.string r) ∧ Below w.heap.size w w' := by
 have hu29 := Tryd.underlying29
 have hu55 := Tryd.underlying55
 have HR0 := am hr0_1
 have HC0 := am hc0_1
 have HB := am (Below.refl w.heap.size w)
 obtain ⟨t0, A10, H⟩ := Option.bind_eq_some_iff.mp h
 have A1 := am A10
 clear hr0_1 hc0_1 h A10
 by_cases c1 : t0 = true
 ·subst c1
  rw [if_pos rfl] at H
  have H' := am H
  clear H
  go_enter Tryd.func8, Tryd.ntmps8
  go_wp2_with (first | ((with_reducible refine gate_dst (N := 1) rfl ?_); refine box_event ?hg (N := 1) ?hd (cs := #[.int .i64 a0_0, .slice A0_1 l0_1.length c0_1]) (t := 29) ?hr ?_; (case hd => rfl); (case hg => rfl); (case hr => first | (go_simp; done) | (go_simp; rfl)); intro gb hg w2 hbox hb; have n0_ := am (below_step (rb HB) hb); have BK0 := am hbox; clear HB; have HB := n0_; clear n0_ hb hbox hg; have hz00 : w2.cell? ⟨gb, 0, none⟩ = some (.int .i64 a0_0) := (blk_cell BK0.out 0).trans rfl; have hz01 : w2.cell? ⟨gb, 1, none⟩ = some (.slice A0_1 l0_1.length c0_1) := (blk_cell BK0.out 1).trans rfl) | ((with_reducible refine gate_callee (f := 30) rfl ?_); refine goesL_ (some 7) rfl rfl Tryd.func30 (by kernel_rfl) rfl #[.agg #[.int .i64 a0_0, .slice A0_1 l0_1.length c0_1]] rfl (by (try simp only [List.map_toArray, List.map_cons, List.map_nil]); first | done | rfl) ?_; (with_reducible refine (impl_GridOk.calls k a0_0 A0_1 c0_1 l0_1 true _ ?s1 HC0.out A1.out).mono ?_); (case s1 => exact Kd.C_below HR0.out (rb HB)); rintro e w3 ⟨rfl, hb⟩; refine ⟨_, rfl, ?_⟩; have n0_ := am (below_step (rb HB) hb); have n1_ := am (blk_below (g := gb) (o := .cells #[.int .i64 a0_0, .slice A0_1 l0_1.length c0_1] 29 (0, 0)) (rk BK0) hb); clear HB BK0 hb; have HB := n0_; have BK0 := n1_; clear n0_ n1_) | ((with_reducible refine gate_dst (N := 10) rfl ?_); refine box_event ?hg (N := 10) ?hd (cs := #[.pointer none, .slice none 0 0]) (t := 55) ?hr ?_; (case hd => rfl); (case hg => rfl); (case hr => first | (go_simp; done) | (go_simp; rfl)); intro g1 hg w4 hbox hb; have n0_ := am (below_step (rb HB) hb); have n1_ := am (blk_below (g := gb) (o := .cells #[.int .i64 a0_0, .slice A0_1 l0_1.length c0_1] 29 (0, 0)) (rk BK0) hb); have GE1 := am ((by rw [hg]; exact below_size (rb HB)) : w.heap.size ≤ g1); have HU := am (bld_new GE1.out hbox); clear HB BK0; have HB := n0_; have BK0 := n1_; clear n0_ n1_ hb hbox hg; have hz20 : w4.cell? ⟨gb, 0, none⟩ = some (.int .i64 a0_0) := (blk_cell BK0.out 0).trans rfl; have hz21 : w4.cell? ⟨gb, 1, none⟩ = some (.slice A0_1 l0_1.length c0_1) := (blk_cell BK0.out 1).trans rfl))
  clear hz00 hz01 hz20 hz21 BK0 A1
  go_loopg [14] k (fun kq v14 w' => ∃ (x14 : Int) (x3 : List UInt8), v14 = .int .i64 x14 ∧ Aside0 (impl_GridText.l0 kq l0_1 x3 x14 = some r) ∧ Aside0 (kq ≤ k) ∧ Aside0 (Lib.IsBuilder 55 5 w.heap.size g1 (Lib.byteCells x3) w') ∧ Aside0 (Below w.heap.size w w'))
  case atStart => exact ⟨0, [], rfl, H', ⟨Nat.le_refl _⟩, ⟨bld_below HU.out (by repeat (first | exact Below.refl _ _ | apply b1 | apply b2 | apply b3))⟩, ⟨(rb HB)⟩⟩
  case round =>
   clear H' HU HB
   obtain ⟨x14, x3, rfl, HA, HK1, HU, HB⟩ := hrel
   cases gk with
   | zero => exact absurd HA.out (by simp [impl_GridText.l0])
   | succ k1 =>
    have H := HA.out
    clear HA
    simp only [impl_GridText.l0] at H
    by_cases c2 : x14 < (l0_1.length : Int)
    ·rw [if_pos c2] at H
     have c2b0 : decide (x14 < (l0_1.length : Int)) = true := decide_eq_true c2
     by_cases c3 : 0 ≤ x14
     ·rw [if_pos c3] at H
      have c3b0 : decide (0 ≤ x14) = true := decide_eq_true c3
      obtain ⟨rw_, hrw⟩ : ∃ q, q = l0_1.getD x14.toNat [] := ⟨_, rfl⟩
      rw [← hrw] at H
      obtain ⟨t, A20, H⟩ := Option.bind_eq_some_iff.mp H
      have A2 := am A20
      clear A20
      by_cases c7 : t.size + 1 ≤ 9223372036854775807
      ·rw [if_pos c7] at H
       have c7b0 := eq_true c7
       have c7b1 : decide (t.size + 1 ≤ 9223372036854775807) = true := decide_eq_true c7
       try have c7b2 : (9223372036854775807 < t.size + 1) = False := eq_false (Nat.not_lt.2 c7)
       by_cases c5 : x3.length + (t ++ (⟨#[10]⟩ : ByteArray)).size ≤ 140737488355328
       ·rw [if_pos c5] at H
        have C4 := am c5
        have H' := am H
        clear H c5 c7
        have HR := am (Below.refl wr.heap.size wr)
        obtain ⟨ad, cx, hA, -, hK, hcx⟩ := Kd.C_get HR0.out [] x14 c3 c2
        rw [← hrw] at hK
        obtain ⟨Ar, cr, rfl, hlr, hCr⟩ := hK
        have hx : wr.cell? (ad.add x14.toNat) = some (.slice Ar rw_.length cr) := by
         have := hcx 0 _ rfl
         rw [show (Kd.slice 48 k48).sz = 1 from rfl, Nat.mul_one, Nat.add_zero] at this
         exact pw_cell_below HB.out this
        subst hA
        have HCr := am (Kd.C_below hCr HB.out)
        have HLr := am hlr
        clear hcx hCr hlr hrw
        have p1 := eq_true c3
        have q1 := eq_true c2
        clear c2 c3
        go_wp2_with (first | ((with_reducible refine gate_callee (f := 23) rfl ?_); refine goesL_ (some 20) rfl rfl Tryd.func23 (by kernel_rfl) rfl #[.slice Ar rw_.length cr] rfl (by (try simp only [List.map_toArray, List.map_cons, List.map_nil]); first | done | rfl) ?_; (with_reducible refine (impl_RowText.calls k1 Ar cr rw_ t _ ?s1 HLr.out A2.out).mono ?_); (case s1 => exact Kd.C_below HCr.out (rb HR)); rintro e w10 ⟨rfl, hb⟩; refine ⟨_, rfl, ?_⟩; have n0_ := am (below_step (rb HR) hb); clear HR hb; have HR := n0_; clear n0_) | ((with_reducible refine gate_callee (f := 31) rfl ?_); refine goesL_ (some 22) rfl rfl Tryd.func31 (by kernel_rfl) rfl #[.pointer (some ⟨g1, 0, none⟩), .string (t ++ (⟨#[10]⟩ : ByteArray))] rfl (by (try simp only [List.map_toArray, List.map_cons, List.map_nil]); first | done | rfl) ?_; refine (bld_write w.heap.size g1 x3 (t ++ (⟨#[10]⟩ : ByteArray)) _ (bld_below HU.out (rb HR)) C4.out (Nat.le_trans (below_size HB.out) (below_size (rb HR)))).mono ?_; rintro e w11 ⟨rfl, hu, hb⟩; refine ⟨_, rfl, ?_⟩; have n0_ := am hu; have n1_ := am (below_weaken (below_step HB.out (rb HR)) (Nat.le_refl _) hb); clear HU HB HR hu hb; have HU := n0_; have HB := n1_; clear n0_ n1_))
        go_roundg k1
        case measure => have := HK1.out; omega
        case rel => exact ⟨(wrap64 (x14 + 1)), x3 ++ (t ++ (⟨#[10]⟩ : ByteArray)).data.toList, (by first | rfl | (simp; done) | (simp [*]; done)), H', ⟨by have := HK1.out; omega⟩, HU, HB⟩
       ·rw [if_neg c5] at H
        exact absurd H (by simp)
      ·rw [if_neg c7] at H
       exact absurd H (by simp)
     ·rw [if_neg c3] at H
      exact absurd H (by simp)
    ·rw [if_neg c2] at H
     have c2b0 : decide (x14 < (l0_1.length : Int)) = false := decide_eq_false c2
     clear c2
     obtain rfl := Option.some.inj H
     clear H
     go_wp2_with (first | ((with_reducible refine gate_callee (f := 32) rfl ?_); refine goesL_ (some 25) rfl rfl Tryd.func32 (by kernel_rfl) rfl #[.pointer (some ⟨g1, 0, none⟩)] rfl (by (try simp only [List.map_toArray, List.map_cons, List.map_nil]); first | done | rfl) ?_; refine (Tryd.Builder_String_any w.heap.size g1 x3 _ HU.out (below_size HB.out)).mono ?_; rintro e w6 ⟨rfl, hb⟩; refine ⟨_, rfl, ?_⟩; have n1_ := am (below_weaken HB.out (Nat.le_refl _) hb); clear HU HB hb; have HB := n1_; clear n1_))
     go_ret
     exact ⟨rfl, (rb HB)⟩
 ·replace c1 := Bool.eq_false_iff.mpr c1
  subst c1
  rw [if_neg (by decide)] at H
  obtain rfl := Option.some.inj H
  go_enter Tryd.func8, Tryd.ntmps8
  go_wp2_with (first | ((with_reducible refine gate_dst (N := 1) rfl ?_); refine box_event ?hg (N := 1) ?hd (cs := #[.int .i64 a0_0, .slice A0_1 l0_1.length c0_1]) (t := 29) ?hr ?_; (case hd => rfl); (case hg => rfl); (case hr => first | (go_simp; done) | (go_simp; rfl)); intro gb hg w2 hbox hb; have n0_ := am (below_step (rb HB) hb); have BK0 := am hbox; clear HB; have HB := n0_; clear n0_ hb hbox hg; have hz00 : w2.cell? ⟨gb, 0, none⟩ = some (.int .i64 a0_0) := (blk_cell BK0.out 0).trans rfl; have hz01 : w2.cell? ⟨gb, 1, none⟩ = some (.slice A0_1 l0_1.length c0_1) := (blk_cell BK0.out 1).trans rfl) | ((with_reducible refine gate_callee (f := 30) rfl ?_); refine goesL_ (some 7) rfl rfl Tryd.func30 (by kernel_rfl) rfl #[.agg #[.int .i64 a0_0, .slice A0_1 l0_1.length c0_1]] rfl (by (try simp only [List.map_toArray, List.map_cons, List.map_nil]); first | done | rfl) ?_; (with_reducible refine (impl_GridOk.calls k a0_0 A0_1 c0_1 l0_1 false _ ?s1 HC0.out A1.out).mono ?_); (case s1 => exact Kd.C_below HR0.out (rb HB)); rintro e w3 ⟨rfl, hb⟩; refine ⟨_, rfl, ?_⟩; have n0_ := am (below_step (rb HB) hb); have n1_ := am (blk_below (g := gb) (o := .cells #[.int .i64 a0_0, .slice A0_1 l0_1.length c0_1] 29 (0, 0)) (rk BK0) hb); clear HB BK0 hb; have HB := n0_; have BK0 := n1_; clear n0_ n1_))
  go_ret
  exact ⟨rfl, (rb HB)⟩

/-! ### laws_eqStyle: function 95 -/
def laws_eqStyle.f (a0_0 : Int) (a0_1 : Int) (a0_2 : Bool) (a0_3 : Bool) (a0_4 : Bool) (a1_0 : Int) (a1_1 : Int) (a1_2 : Bool) (a1_3 : Bool) (a1_4 : Bool) : Option (Bool) := if a0_0 = a1_0 then (if a0_1 = a1_1 then (if (a0_2 != a1_2) = true then (some false) else (if (a0_3 != a1_3) = true then (some false) else (if (a0_4 != a1_4) = true then (some false) else (some true)))) else (some false)) else (some false)
set_option maxHeartbeats 8000000 in
set_option maxRecDepth 100000 in
theorem laws_eqStyle.calls (a0_0 : Int) (a0_1 : Int) (a0_2 : Bool) (a0_3 : Bool) (a0_4 : Bool) (a1_0 : Int) (a1_1 : Int) (a1_2 : Bool) (a1_3 : Bool) (a1_4 : Bool) (r : Bool) (w : World) (h : laws_eqStyle.f a0_0 a0_1 a0_2 a0_3 a0_4 a1_0 a1_1 a1_2 a1_3 a1_4 = some r) :
  Calls Tryd.prog 95 #[.agg #[.int .i64 a0_0, .int .i64 a0_1, .bool a0_2, .bool a0_3, .bool a0_4], .agg #[.int .i64 a1_0, .int .i64 a1_1, .bool a1_2, .bool a1_3, .bool a1_4]] w fun e w' => e = .returned (.bool r) ∧ Below w.heap.size w w' := by
 have hu37 := Tryd.underlying37
 have HB := am (Below.refl w.heap.size w)
 have H : (if a0_0 = a1_0 then (if a0_1 = a1_1 then (if (a0_2 != a1_2) = true then (some false) else (if (a0_3 != a1_3) = true then (some false) else (if (a0_4 != a1_4) = true then (some false) else (some true)))) else (some false)) else (some false)) = some r := h
 clear h
 by_cases c3 : a0_0 = a1_0
 ·rw [if_pos c3] at H
  have c3b0 : (a0_0 == a1_0) = true := beq_iff_eq.mpr c3
  have c3b1 : (a0_0 != a1_0) = false := bne_eq_false_iff_eq.mpr c3
  clear c3
  by_cases c4 : a0_1 = a1_1
  ·rw [if_pos c4] at H
   have c4b0 : (a0_1 == a1_1) = true := beq_iff_eq.mpr c4
   have c4b1 : (a0_1 != a1_1) = false := bne_eq_false_iff_eq.mpr c4
   clear c4
   by_cases c5 : (a0_2 != a1_2) = true
   ·rw [if_pos c5] at H
    have c5b0 : (a0_2 != a1_2) = true := c5
    (try (have c5b1 : decide (a0_2 = a1_2) = false := by simpa using c5))
    (try (have c5b2 : (a0_2 == a1_2) = false := by simpa using c5))
    (try (have c5b3 : ¬ (a0_2 = a1_2) := by simpa using c5))
    clear c5
    obtain rfl := Option.some.inj H
    go_enter Tryd.func95, Tryd.ntmps95
    go_wp2_with (first | ((with_reducible refine gate_dst (N := 2) rfl ?_); refine box_event ?hg (N := 2) ?hd (cs := #[.int .i64 a0_0, .int .i64 a0_1, .bool a0_2, .bool a0_3, .bool a0_4]) (t := 37) ?hr ?_; (case hd => rfl); (case hg => rfl); (case hr => first | (go_simp; done) | (go_simp; rfl)); intro gb283 hg w6 hbox hb; have n0_ := am (below_step (rb HB) hb); have n1_ := am (hbox); have n2_ := am ((by rw [hg]; exact (below_size (rb HB)) : w.heap.size ≤ gb283)); have n3_ := am ((by rw [hg]; exact (below_size (rb HB)) : w.heap.size ≤ gb283)); clear HB; have HB := n0_; have BK283 := n1_; have GW283 := n2_; have GE283 := n3_; clear n0_ n1_ n2_ n3_; clear hb hbox hg) | ((with_reducible refine gate_dst (N := 3) rfl ?_); refine box_event ?hg (N := 3) ?hd (cs := #[.int .i64 a1_0, .int .i64 a1_1, .bool a1_2, .bool a1_3, .bool a1_4]) (t := 37) ?hr ?_; (case hd => rfl); (case hg => rfl); (case hr => first | (go_simp; done) | (go_simp; rfl)); intro gb284 hg w7 hbox hb; have n0_ := am (blk_below (g := gb283) (o := .cells #[.int .i64 a0_0, .int .i64 a0_1, .bool a0_2, .bool a0_3, .bool a0_4] 37 (0, 0)) (rk BK283) hb); have n1_ := am (below_step (rb1 HB GE283) hb); have n2_ := am (hbox); have n3_ := am ((by rw [hg]; exact (below_size (rb1 HB GE283)) : w.heap.size ≤ gb284)); have n4_ := am ((by rw [hg]; exact (below_size (rb1 HB GE283)) : w.heap.size ≤ gb284)); have n5_ := am ((by rw [hg]; exact Nat.ne_of_lt (blk_lt (g := gb283) (o := .cells #[.int .i64 a0_0, .int .i64 a0_1, .bool a0_2, .bool a0_3, .bool a0_4] 37 (0, 0)) (rk BK283)) : gb283 ≠ gb284)); have n6_ := am ((by rw [hg]; exact Nat.ne_of_gt (blk_lt (g := gb283) (o := .cells #[.int .i64 a0_0, .int .i64 a0_1, .bool a0_2, .bool a0_3, .bool a0_4] 37 (0, 0)) (rk BK283)) : gb284 ≠ gb283)); clear BK283; clear HB; have BK283 := n0_; have HB := n1_; have BK284 := n2_; have GW284 := n3_; have GE284 := n4_; have NB283_284 := n5_; have NB284_283 := n6_; clear n0_ n1_ n2_ n3_ n4_ n5_ n6_; clear hb hbox hg; have hnb8 := NB283_284.out; have hnc8 := NB284_283.out; have hcz9_0 : w7.cell? ⟨gb283, 0, none⟩ = some (.int .i64 a0_0) := (blk_cell BK283.out 0).trans rfl; have hcz9_1 : w7.cell? ⟨gb283, 1, none⟩ = some (.int .i64 a0_1) := (blk_cell BK283.out 1).trans rfl; have hcz9_2 : w7.cell? ⟨gb283, 2, none⟩ = some (.bool a0_2) := (blk_cell BK283.out 2).trans rfl; have hcz9_3 : w7.cell? ⟨gb283, 3, none⟩ = some (.bool a0_3) := (blk_cell BK283.out 3).trans rfl; have hcz9_4 : w7.cell? ⟨gb283, 4, none⟩ = some (.bool a0_4) := (blk_cell BK283.out 4).trans rfl; have hfz9_0 := blk_frozen BK283.out 0; have hfz9_1 := blk_frozen BK283.out 1; have hfz9_2 := blk_frozen BK283.out 2; have hfz9_3 := blk_frozen BK283.out 3; have hfz9_4 := blk_frozen BK283.out 4; have hcz10_0 : w7.cell? ⟨gb284, 0, none⟩ = some (.int .i64 a1_0) := (blk_cell BK284.out 0).trans rfl; have hcz10_1 : w7.cell? ⟨gb284, 1, none⟩ = some (.int .i64 a1_1) := (blk_cell BK284.out 1).trans rfl; have hcz10_2 : w7.cell? ⟨gb284, 2, none⟩ = some (.bool a1_2) := (blk_cell BK284.out 2).trans rfl; have hcz10_3 : w7.cell? ⟨gb284, 3, none⟩ = some (.bool a1_3) := (blk_cell BK284.out 3).trans rfl; have hcz10_4 : w7.cell? ⟨gb284, 4, none⟩ = some (.bool a1_4) := (blk_cell BK284.out 4).trans rfl; have hfz10_0 := blk_frozen BK284.out 0; have hfz10_1 := blk_frozen BK284.out 1; have hfz10_2 := blk_frozen BK284.out 2; have hfz10_3 := blk_frozen BK284.out 3; have hfz10_4 := blk_frozen BK284.out 4))
    go_ret
    exact ⟨by first | rfl | (simp [errW_none, errW_some] <;> rfl) | (simp [*, errW_none, errW_some] <;> rfl), by repeat (first | (with_reducible first | exact HB.out | apply b1 | apply b2 | apply b3 | refine below_set ?_ GE283.out | refine below_set ?_ GE284.out) | exact HB.out)⟩
   ·rw [if_neg c5] at H
    have c5b0 : (a0_2 != a1_2) = false := by simpa using c5
    (try (have c5b1 : decide (a0_2 = a1_2) = true := by simpa using c5))
    (try (have c5b2 : (a0_2 == a1_2) = true := by simpa using c5))
    clear c5
    by_cases c11 : (a0_3 != a1_3) = true
    ·rw [if_pos c11] at H
     have c11b0 : (a0_3 != a1_3) = true := c11
     (try (have c11b1 : decide (a0_3 = a1_3) = false := by simpa using c11))
     (try (have c11b2 : (a0_3 == a1_3) = false := by simpa using c11))
     (try (have c11b3 : ¬ (a0_3 = a1_3) := by simpa using c11))
     clear c11
     obtain rfl := Option.some.inj H
     go_enter Tryd.func95, Tryd.ntmps95
     go_wp2_with (first | ((with_reducible refine gate_dst (N := 2) rfl ?_); refine box_event ?hg (N := 2) ?hd (cs := #[.int .i64 a0_0, .int .i64 a0_1, .bool a0_2, .bool a0_3, .bool a0_4]) (t := 37) ?hr ?_; (case hd => rfl); (case hg => rfl); (case hr => first | (go_simp; done) | (go_simp; rfl)); intro gb283 hg w12 hbox hb; have n0_ := am (below_step (rb HB) hb); have n1_ := am (hbox); have n2_ := am ((by rw [hg]; exact (below_size (rb HB)) : w.heap.size ≤ gb283)); have n3_ := am ((by rw [hg]; exact (below_size (rb HB)) : w.heap.size ≤ gb283)); clear HB; have HB := n0_; have BK283 := n1_; have GW283 := n2_; have GE283 := n3_; clear n0_ n1_ n2_ n3_; clear hb hbox hg) | ((with_reducible refine gate_dst (N := 3) rfl ?_); refine box_event ?hg (N := 3) ?hd (cs := #[.int .i64 a1_0, .int .i64 a1_1, .bool a1_2, .bool a1_3, .bool a1_4]) (t := 37) ?hr ?_; (case hd => rfl); (case hg => rfl); (case hr => first | (go_simp; done) | (go_simp; rfl)); intro gb284 hg w13 hbox hb; have n0_ := am (blk_below (g := gb283) (o := .cells #[.int .i64 a0_0, .int .i64 a0_1, .bool a0_2, .bool a0_3, .bool a0_4] 37 (0, 0)) (rk BK283) hb); have n1_ := am (below_step (rb1 HB GE283) hb); have n2_ := am (hbox); have n3_ := am ((by rw [hg]; exact (below_size (rb1 HB GE283)) : w.heap.size ≤ gb284)); have n4_ := am ((by rw [hg]; exact (below_size (rb1 HB GE283)) : w.heap.size ≤ gb284)); have n5_ := am ((by rw [hg]; exact Nat.ne_of_lt (blk_lt (g := gb283) (o := .cells #[.int .i64 a0_0, .int .i64 a0_1, .bool a0_2, .bool a0_3, .bool a0_4] 37 (0, 0)) (rk BK283)) : gb283 ≠ gb284)); have n6_ := am ((by rw [hg]; exact Nat.ne_of_gt (blk_lt (g := gb283) (o := .cells #[.int .i64 a0_0, .int .i64 a0_1, .bool a0_2, .bool a0_3, .bool a0_4] 37 (0, 0)) (rk BK283)) : gb284 ≠ gb283)); clear BK283; clear HB; have BK283 := n0_; have HB := n1_; have BK284 := n2_; have GW284 := n3_; have GE284 := n4_; have NB283_284 := n5_; have NB284_283 := n6_; clear n0_ n1_ n2_ n3_ n4_ n5_ n6_; clear hb hbox hg; have hnb14 := NB283_284.out; have hnc14 := NB284_283.out; have hcz15_0 : w13.cell? ⟨gb283, 0, none⟩ = some (.int .i64 a0_0) := (blk_cell BK283.out 0).trans rfl; have hcz15_1 : w13.cell? ⟨gb283, 1, none⟩ = some (.int .i64 a0_1) := (blk_cell BK283.out 1).trans rfl; have hcz15_2 : w13.cell? ⟨gb283, 2, none⟩ = some (.bool a0_2) := (blk_cell BK283.out 2).trans rfl; have hcz15_3 : w13.cell? ⟨gb283, 3, none⟩ = some (.bool a0_3) := (blk_cell BK283.out 3).trans rfl; have hcz15_4 : w13.cell? ⟨gb283, 4, none⟩ = some (.bool a0_4) := (blk_cell BK283.out 4).trans rfl; have hfz15_0 := blk_frozen BK283.out 0; have hfz15_1 := blk_frozen BK283.out 1; have hfz15_2 := blk_frozen BK283.out 2; have hfz15_3 := blk_frozen BK283.out 3; have hfz15_4 := blk_frozen BK283.out 4; have hcz16_0 : w13.cell? ⟨gb284, 0, none⟩ = some (.int .i64 a1_0) := (blk_cell BK284.out 0).trans rfl; have hcz16_1 : w13.cell? ⟨gb284, 1, none⟩ = some (.int .i64 a1_1) := (blk_cell BK284.out 1).trans rfl; have hcz16_2 : w13.cell? ⟨gb284, 2, none⟩ = some (.bool a1_2) := (blk_cell BK284.out 2).trans rfl; have hcz16_3 : w13.cell? ⟨gb284, 3, none⟩ = some (.bool a1_3) := (blk_cell BK284.out 3).trans rfl; have hcz16_4 : w13.cell? ⟨gb284, 4, none⟩ = some (.bool a1_4) := (blk_cell BK284.out 4).trans rfl; have hfz16_0 := blk_frozen BK284.out 0; have hfz16_1 := blk_frozen BK284.out 1; have hfz16_2 := blk_frozen BK284.out 2; have hfz16_3 := blk_frozen BK284.out 3; have hfz16_4 := blk_frozen BK284.out 4))
     go_ret
     exact ⟨by first | rfl | (simp [errW_none, errW_some] <;> rfl) | (simp [*, errW_none, errW_some] <;> rfl), by repeat (first | (with_reducible first | exact HB.out | apply b1 | apply b2 | apply b3 | refine below_set ?_ GE283.out | refine below_set ?_ GE284.out) | exact HB.out)⟩
    ·rw [if_neg c11] at H
     have c11b0 : (a0_3 != a1_3) = false := by simpa using c11
     (try (have c11b1 : decide (a0_3 = a1_3) = true := by simpa using c11))
     (try (have c11b2 : (a0_3 == a1_3) = true := by simpa using c11))
     clear c11
     by_cases c17 : (a0_4 != a1_4) = true
     ·rw [if_pos c17] at H
      have c17b0 : (a0_4 != a1_4) = true := c17
      (try (have c17b1 : decide (a0_4 = a1_4) = false := by simpa using c17))
      (try (have c17b2 : (a0_4 == a1_4) = false := by simpa using c17))
      (try (have c17b3 : ¬ (a0_4 = a1_4) := by simpa using c17))
      clear c17
      obtain rfl := Option.some.inj H
      go_enter Tryd.func95, Tryd.ntmps95
      go_wp2_with (first | ((with_reducible refine gate_dst (N := 2) rfl ?_); refine box_event ?hg (N := 2) ?hd (cs := #[.int .i64 a0_0, .int .i64 a0_1, .bool a0_2, .bool a0_3, .bool a0_4]) (t := 37) ?hr ?_; (case hd => rfl); (case hg => rfl); (case hr => first | (go_simp; done) | (go_simp; rfl)); intro gb283 hg w18 hbox hb; have n0_ := am (below_step (rb HB) hb); have n1_ := am (hbox); have n2_ := am ((by rw [hg]; exact (below_size (rb HB)) : w.heap.size ≤ gb283)); have n3_ := am ((by rw [hg]; exact (below_size (rb HB)) : w.heap.size ≤ gb283)); clear HB; have HB := n0_; have BK283 := n1_; have GW283 := n2_; have GE283 := n3_; clear n0_ n1_ n2_ n3_; clear hb hbox hg) | ((with_reducible refine gate_dst (N := 3) rfl ?_); refine box_event ?hg (N := 3) ?hd (cs := #[.int .i64 a1_0, .int .i64 a1_1, .bool a1_2, .bool a1_3, .bool a1_4]) (t := 37) ?hr ?_; (case hd => rfl); (case hg => rfl); (case hr => first | (go_simp; done) | (go_simp; rfl)); intro gb284 hg w19 hbox hb; have n0_ := am (blk_below (g := gb283) (o := .cells #[.int .i64 a0_0, .int .i64 a0_1, .bool a0_2, .bool a0_3, .bool a0_4] 37 (0, 0)) (rk BK283) hb); have n1_ := am (below_step (rb1 HB GE283) hb); have n2_ := am (hbox); have n3_ := am ((by rw [hg]; exact (below_size (rb1 HB GE283)) : w.heap.size ≤ gb284)); have n4_ := am ((by rw [hg]; exact (below_size (rb1 HB GE283)) : w.heap.size ≤ gb284)); have n5_ := am ((by rw [hg]; exact Nat.ne_of_lt (blk_lt (g := gb283) (o := .cells #[.int .i64 a0_0, .int .i64 a0_1, .bool a0_2, .bool a0_3, .bool a0_4] 37 (0, 0)) (rk BK283)) : gb283 ≠ gb284)); have n6_ := am ((by rw [hg]; exact Nat.ne_of_gt (blk_lt (g := gb283) (o := .cells #[.int .i64 a0_0, .int .i64 a0_1, .bool a0_2, .bool a0_3, .bool a0_4] 37 (0, 0)) (rk BK283)) : gb284 ≠ gb283)); clear BK283; clear HB; have BK283 := n0_; have HB := n1_; have BK284 := n2_; have GW284 := n3_; have GE284 := n4_; have NB283_284 := n5_; have NB284_283 := n6_; clear n0_ n1_ n2_ n3_ n4_ n5_ n6_; clear hb hbox hg; have hnb20 := NB283_284.out; have hnc20 := NB284_283.out; have hcz21_0 : w19.cell? ⟨gb283, 0, none⟩ = some (.int .i64 a0_0) := (blk_cell BK283.out 0).trans rfl; have hcz21_1 : w19.cell? ⟨gb283, 1, none⟩ = some (.int .i64 a0_1) := (blk_cell BK283.out 1).trans rfl; have hcz21_2 : w19.cell? ⟨gb283, 2, none⟩ = some (.bool a0_2) := (blk_cell BK283.out 2).trans rfl; have hcz21_3 : w19.cell? ⟨gb283, 3, none⟩ = some (.bool a0_3) := (blk_cell BK283.out 3).trans rfl; have hcz21_4 : w19.cell? ⟨gb283, 4, none⟩ = some (.bool a0_4) := (blk_cell BK283.out 4).trans rfl; have hfz21_0 := blk_frozen BK283.out 0; have hfz21_1 := blk_frozen BK283.out 1; have hfz21_2 := blk_frozen BK283.out 2; have hfz21_3 := blk_frozen BK283.out 3; have hfz21_4 := blk_frozen BK283.out 4; have hcz22_0 : w19.cell? ⟨gb284, 0, none⟩ = some (.int .i64 a1_0) := (blk_cell BK284.out 0).trans rfl; have hcz22_1 : w19.cell? ⟨gb284, 1, none⟩ = some (.int .i64 a1_1) := (blk_cell BK284.out 1).trans rfl; have hcz22_2 : w19.cell? ⟨gb284, 2, none⟩ = some (.bool a1_2) := (blk_cell BK284.out 2).trans rfl; have hcz22_3 : w19.cell? ⟨gb284, 3, none⟩ = some (.bool a1_3) := (blk_cell BK284.out 3).trans rfl; have hcz22_4 : w19.cell? ⟨gb284, 4, none⟩ = some (.bool a1_4) := (blk_cell BK284.out 4).trans rfl; have hfz22_0 := blk_frozen BK284.out 0; have hfz22_1 := blk_frozen BK284.out 1; have hfz22_2 := blk_frozen BK284.out 2; have hfz22_3 := blk_frozen BK284.out 3; have hfz22_4 := blk_frozen BK284.out 4))
      go_ret
      exact ⟨by first | rfl | (simp [errW_none, errW_some] <;> rfl) | (simp [*, errW_none, errW_some] <;> rfl), by repeat (first | (with_reducible first | exact HB.out | apply b1 | apply b2 | apply b3 | refine below_set ?_ GE283.out | refine below_set ?_ GE284.out) | exact HB.out)⟩
     ·rw [if_neg c17] at H
      have c17b0 : (a0_4 != a1_4) = false := by simpa using c17
      (try (have c17b1 : decide (a0_4 = a1_4) = true := by simpa using c17))
      (try (have c17b2 : (a0_4 == a1_4) = true := by simpa using c17))
      clear c17
      obtain rfl := Option.some.inj H
      go_enter Tryd.func95, Tryd.ntmps95
      go_wp2_with (first | ((with_reducible refine gate_dst (N := 2) rfl ?_); refine box_event ?hg (N := 2) ?hd (cs := #[.int .i64 a0_0, .int .i64 a0_1, .bool a0_2, .bool a0_3, .bool a0_4]) (t := 37) ?hr ?_; (case hd => rfl); (case hg => rfl); (case hr => first | (go_simp; done) | (go_simp; rfl)); intro gb283 hg w23 hbox hb; have n0_ := am (below_step (rb HB) hb); have n1_ := am (hbox); have n2_ := am ((by rw [hg]; exact (below_size (rb HB)) : w.heap.size ≤ gb283)); have n3_ := am ((by rw [hg]; exact (below_size (rb HB)) : w.heap.size ≤ gb283)); clear HB; have HB := n0_; have BK283 := n1_; have GW283 := n2_; have GE283 := n3_; clear n0_ n1_ n2_ n3_; clear hb hbox hg) | ((with_reducible refine gate_dst (N := 3) rfl ?_); refine box_event ?hg (N := 3) ?hd (cs := #[.int .i64 a1_0, .int .i64 a1_1, .bool a1_2, .bool a1_3, .bool a1_4]) (t := 37) ?hr ?_; (case hd => rfl); (case hg => rfl); (case hr => first | (go_simp; done) | (go_simp; rfl)); intro gb284 hg w24 hbox hb; have n0_ := am (blk_below (g := gb283) (o := .cells #[.int .i64 a0_0, .int .i64 a0_1, .bool a0_2, .bool a0_3, .bool a0_4] 37 (0, 0)) (rk BK283) hb); have n1_ := am (below_step (rb1 HB GE283) hb); have n2_ := am (hbox); have n3_ := am ((by rw [hg]; exact (below_size (rb1 HB GE283)) : w.heap.size ≤ gb284)); have n4_ := am ((by rw [hg]; exact (below_size (rb1 HB GE283)) : w.heap.size ≤ gb284)); have n5_ := am ((by rw [hg]; exact Nat.ne_of_lt (blk_lt (g := gb283) (o := .cells #[.int .i64 a0_0, .int .i64 a0_1, .bool a0_2, .bool a0_3, .bool a0_4] 37 (0, 0)) (rk BK283)) : gb283 ≠ gb284)); have n6_ := am ((by rw [hg]; exact Nat.ne_of_gt (blk_lt (g := gb283) (o := .cells #[.int .i64 a0_0, .int .i64 a0_1, .bool a0_2, .bool a0_3, .bool a0_4] 37 (0, 0)) (rk BK283)) : gb284 ≠ gb283)); clear BK283; clear HB; have BK283 := n0_; have HB := n1_; have BK284 := n2_; have GW284 := n3_; have GE284 := n4_; have NB283_284 := n5_; have NB284_283 := n6_; clear n0_ n1_ n2_ n3_ n4_ n5_ n6_; clear hb hbox hg; have hnb25 := NB283_284.out; have hnc25 := NB284_283.out; have hcz26_0 : w24.cell? ⟨gb283, 0, none⟩ = some (.int .i64 a0_0) := (blk_cell BK283.out 0).trans rfl; have hcz26_1 : w24.cell? ⟨gb283, 1, none⟩ = some (.int .i64 a0_1) := (blk_cell BK283.out 1).trans rfl; have hcz26_2 : w24.cell? ⟨gb283, 2, none⟩ = some (.bool a0_2) := (blk_cell BK283.out 2).trans rfl; have hcz26_3 : w24.cell? ⟨gb283, 3, none⟩ = some (.bool a0_3) := (blk_cell BK283.out 3).trans rfl; have hcz26_4 : w24.cell? ⟨gb283, 4, none⟩ = some (.bool a0_4) := (blk_cell BK283.out 4).trans rfl; have hfz26_0 := blk_frozen BK283.out 0; have hfz26_1 := blk_frozen BK283.out 1; have hfz26_2 := blk_frozen BK283.out 2; have hfz26_3 := blk_frozen BK283.out 3; have hfz26_4 := blk_frozen BK283.out 4; have hcz27_0 : w24.cell? ⟨gb284, 0, none⟩ = some (.int .i64 a1_0) := (blk_cell BK284.out 0).trans rfl; have hcz27_1 : w24.cell? ⟨gb284, 1, none⟩ = some (.int .i64 a1_1) := (blk_cell BK284.out 1).trans rfl; have hcz27_2 : w24.cell? ⟨gb284, 2, none⟩ = some (.bool a1_2) := (blk_cell BK284.out 2).trans rfl; have hcz27_3 : w24.cell? ⟨gb284, 3, none⟩ = some (.bool a1_3) := (blk_cell BK284.out 3).trans rfl; have hcz27_4 : w24.cell? ⟨gb284, 4, none⟩ = some (.bool a1_4) := (blk_cell BK284.out 4).trans rfl; have hfz27_0 := blk_frozen BK284.out 0; have hfz27_1 := blk_frozen BK284.out 1; have hfz27_2 := blk_frozen BK284.out 2; have hfz27_3 := blk_frozen BK284.out 3; have hfz27_4 := blk_frozen BK284.out 4))
      go_ret
      exact ⟨by first | rfl | (simp [errW_none, errW_some] <;> rfl) | (simp [*, errW_none, errW_some] <;> rfl), by repeat (first | (with_reducible first | exact HB.out | apply b1 | apply b2 | apply b3 | refine below_set ?_ GE283.out | refine below_set ?_ GE284.out) | exact HB.out)⟩
  ·rw [if_neg c4] at H
   have c4b0 : (a0_1 == a1_1) = false := beq_eq_false_iff_ne.mpr c4
   have c4b1 : (a0_1 != a1_1) = true := bne_iff_ne.mpr c4
   obtain rfl := Option.some.inj H
   go_enter Tryd.func95, Tryd.ntmps95
   go_wp2_with (first | ((with_reducible refine gate_dst (N := 2) rfl ?_); refine box_event ?hg (N := 2) ?hd (cs := #[.int .i64 a0_0, .int .i64 a0_1, .bool a0_2, .bool a0_3, .bool a0_4]) (t := 37) ?hr ?_; (case hd => rfl); (case hg => rfl); (case hr => first | (go_simp; done) | (go_simp; rfl)); intro gb283 hg w28 hbox hb; have n0_ := am (below_step (rb HB) hb); have n1_ := am (hbox); have n2_ := am ((by rw [hg]; exact (below_size (rb HB)) : w.heap.size ≤ gb283)); have n3_ := am ((by rw [hg]; exact (below_size (rb HB)) : w.heap.size ≤ gb283)); clear HB; have HB := n0_; have BK283 := n1_; have GW283 := n2_; have GE283 := n3_; clear n0_ n1_ n2_ n3_; clear hb hbox hg) | ((with_reducible refine gate_dst (N := 3) rfl ?_); refine box_event ?hg (N := 3) ?hd (cs := #[.int .i64 a1_0, .int .i64 a1_1, .bool a1_2, .bool a1_3, .bool a1_4]) (t := 37) ?hr ?_; (case hd => rfl); (case hg => rfl); (case hr => first | (go_simp; done) | (go_simp; rfl)); intro gb284 hg w29 hbox hb; have n0_ := am (blk_below (g := gb283) (o := .cells #[.int .i64 a0_0, .int .i64 a0_1, .bool a0_2, .bool a0_3, .bool a0_4] 37 (0, 0)) (rk BK283) hb); have n1_ := am (below_step (rb1 HB GE283) hb); have n2_ := am (hbox); have n3_ := am ((by rw [hg]; exact (below_size (rb1 HB GE283)) : w.heap.size ≤ gb284)); have n4_ := am ((by rw [hg]; exact (below_size (rb1 HB GE283)) : w.heap.size ≤ gb284)); have n5_ := am ((by rw [hg]; exact Nat.ne_of_lt (blk_lt (g := gb283) (o := .cells #[.int .i64 a0_0, .int .i64 a0_1, .bool a0_2, .bool a0_3, .bool a0_4] 37 (0, 0)) (rk BK283)) : gb283 ≠ gb284)); have n6_ := am ((by rw [hg]; exact Nat.ne_of_gt (blk_lt (g := gb283) (o := .cells #[.int .i64 a0_0, .int .i64 a0_1, .bool a0_2, .bool a0_3, .bool a0_4] 37 (0, 0)) (rk BK283)) : gb284 ≠ gb283)); clear BK283; clear HB; have BK283 := n0_; have HB := n1_; have BK284 := n2_; have GW284 := n3_; have GE284 := n4_; have NB283_284 := n5_; have NB284_283 := n6_; clear n0_ n1_ n2_ n3_ n4_ n5_ n6_; clear hb hbox hg; have hnb30 := NB283_284.out; have hnc30 := NB284_283.out; have hcz31_0 : w29.cell? ⟨gb283, 0, none⟩ = some (.int .i64 a0_0) := (blk_cell BK283.out 0).trans rfl; have hcz31_1 : w29.cell? ⟨gb283, 1, none⟩ = some (.int .i64 a0_1) := (blk_cell BK283.out 1).trans rfl; have hcz31_2 : w29.cell? ⟨gb283, 2, none⟩ = some (.bool a0_2) := (blk_cell BK283.out 2).trans rfl; have hcz31_3 : w29.cell? ⟨gb283, 3, none⟩ = some (.bool a0_3) := (blk_cell BK283.out 3).trans rfl; have hcz31_4 : w29.cell? ⟨gb283, 4, none⟩ = some (.bool a0_4) := (blk_cell BK283.out 4).trans rfl; have hfz31_0 := blk_frozen BK283.out 0; have hfz31_1 := blk_frozen BK283.out 1; have hfz31_2 := blk_frozen BK283.out 2; have hfz31_3 := blk_frozen BK283.out 3; have hfz31_4 := blk_frozen BK283.out 4; have hcz32_0 : w29.cell? ⟨gb284, 0, none⟩ = some (.int .i64 a1_0) := (blk_cell BK284.out 0).trans rfl; have hcz32_1 : w29.cell? ⟨gb284, 1, none⟩ = some (.int .i64 a1_1) := (blk_cell BK284.out 1).trans rfl; have hcz32_2 : w29.cell? ⟨gb284, 2, none⟩ = some (.bool a1_2) := (blk_cell BK284.out 2).trans rfl; have hcz32_3 : w29.cell? ⟨gb284, 3, none⟩ = some (.bool a1_3) := (blk_cell BK284.out 3).trans rfl; have hcz32_4 : w29.cell? ⟨gb284, 4, none⟩ = some (.bool a1_4) := (blk_cell BK284.out 4).trans rfl; have hfz32_0 := blk_frozen BK284.out 0; have hfz32_1 := blk_frozen BK284.out 1; have hfz32_2 := blk_frozen BK284.out 2; have hfz32_3 := blk_frozen BK284.out 3; have hfz32_4 := blk_frozen BK284.out 4))
   go_ret
   exact ⟨by first | rfl | (simp [errW_none, errW_some] <;> rfl) | (simp [*, errW_none, errW_some] <;> rfl), by repeat (first | (with_reducible first | exact HB.out | apply b1 | apply b2 | apply b3 | refine below_set ?_ GE283.out | refine below_set ?_ GE284.out) | exact HB.out)⟩
 ·rw [if_neg c3] at H
  have c3b0 : (a0_0 == a1_0) = false := beq_eq_false_iff_ne.mpr c3
  have c3b1 : (a0_0 != a1_0) = true := bne_iff_ne.mpr c3
  obtain rfl := Option.some.inj H
  go_enter Tryd.func95, Tryd.ntmps95
  go_wp2_with (first | ((with_reducible refine gate_dst (N := 2) rfl ?_); refine box_event ?hg (N := 2) ?hd (cs := #[.int .i64 a0_0, .int .i64 a0_1, .bool a0_2, .bool a0_3, .bool a0_4]) (t := 37) ?hr ?_; (case hd => rfl); (case hg => rfl); (case hr => first | (go_simp; done) | (go_simp; rfl)); intro gb283 hg w33 hbox hb; have n0_ := am (below_step (rb HB) hb); have n1_ := am (hbox); have n2_ := am ((by rw [hg]; exact (below_size (rb HB)) : w.heap.size ≤ gb283)); have n3_ := am ((by rw [hg]; exact (below_size (rb HB)) : w.heap.size ≤ gb283)); clear HB; have HB := n0_; have BK283 := n1_; have GW283 := n2_; have GE283 := n3_; clear n0_ n1_ n2_ n3_; clear hb hbox hg) | ((with_reducible refine gate_dst (N := 3) rfl ?_); refine box_event ?hg (N := 3) ?hd (cs := #[.int .i64 a1_0, .int .i64 a1_1, .bool a1_2, .bool a1_3, .bool a1_4]) (t := 37) ?hr ?_; (case hd => rfl); (case hg => rfl); (case hr => first | (go_simp; done) | (go_simp; rfl)); intro gb284 hg w34 hbox hb; have n0_ := am (blk_below (g := gb283) (o := .cells #[.int .i64 a0_0, .int .i64 a0_1, .bool a0_2, .bool a0_3, .bool a0_4] 37 (0, 0)) (rk BK283) hb); have n1_ := am (below_step (rb1 HB GE283) hb); have n2_ := am (hbox); have n3_ := am ((by rw [hg]; exact (below_size (rb1 HB GE283)) : w.heap.size ≤ gb284)); have n4_ := am ((by rw [hg]; exact (below_size (rb1 HB GE283)) : w.heap.size ≤ gb284)); have n5_ := am ((by rw [hg]; exact Nat.ne_of_lt (blk_lt (g := gb283) (o := .cells #[.int .i64 a0_0, .int .i64 a0_1, .bool a0_2, .bool a0_3, .bool a0_4] 37 (0, 0)) (rk BK283)) : gb283 ≠ gb284)); have n6_ := am ((by rw [hg]; exact Nat.ne_of_gt (blk_lt (g := gb283) (o := .cells #[.int .i64 a0_0, .int .i64 a0_1, .bool a0_2, .bool a0_3, .bool a0_4] 37 (0, 0)) (rk BK283)) : gb284 ≠ gb283)); clear BK283; clear HB; have BK283 := n0_; have HB := n1_; have BK284 := n2_; have GW284 := n3_; have GE284 := n4_; have NB283_284 := n5_; have NB284_283 := n6_; clear n0_ n1_ n2_ n3_ n4_ n5_ n6_; clear hb hbox hg; have hnb35 := NB283_284.out; have hnc35 := NB284_283.out; have hcz36_0 : w34.cell? ⟨gb283, 0, none⟩ = some (.int .i64 a0_0) := (blk_cell BK283.out 0).trans rfl; have hcz36_1 : w34.cell? ⟨gb283, 1, none⟩ = some (.int .i64 a0_1) := (blk_cell BK283.out 1).trans rfl; have hcz36_2 : w34.cell? ⟨gb283, 2, none⟩ = some (.bool a0_2) := (blk_cell BK283.out 2).trans rfl; have hcz36_3 : w34.cell? ⟨gb283, 3, none⟩ = some (.bool a0_3) := (blk_cell BK283.out 3).trans rfl; have hcz36_4 : w34.cell? ⟨gb283, 4, none⟩ = some (.bool a0_4) := (blk_cell BK283.out 4).trans rfl; have hfz36_0 := blk_frozen BK283.out 0; have hfz36_1 := blk_frozen BK283.out 1; have hfz36_2 := blk_frozen BK283.out 2; have hfz36_3 := blk_frozen BK283.out 3; have hfz36_4 := blk_frozen BK283.out 4; have hcz37_0 : w34.cell? ⟨gb284, 0, none⟩ = some (.int .i64 a1_0) := (blk_cell BK284.out 0).trans rfl; have hcz37_1 : w34.cell? ⟨gb284, 1, none⟩ = some (.int .i64 a1_1) := (blk_cell BK284.out 1).trans rfl; have hcz37_2 : w34.cell? ⟨gb284, 2, none⟩ = some (.bool a1_2) := (blk_cell BK284.out 2).trans rfl; have hcz37_3 : w34.cell? ⟨gb284, 3, none⟩ = some (.bool a1_3) := (blk_cell BK284.out 3).trans rfl; have hcz37_4 : w34.cell? ⟨gb284, 4, none⟩ = some (.bool a1_4) := (blk_cell BK284.out 4).trans rfl; have hfz37_0 := blk_frozen BK284.out 0; have hfz37_1 := blk_frozen BK284.out 1; have hfz37_2 := blk_frozen BK284.out 2; have hfz37_3 := blk_frozen BK284.out 3; have hfz37_4 := blk_frozen BK284.out 4))
  go_ret
  exact ⟨by first | rfl | (simp [errW_none, errW_some] <;> rfl) | (simp [*, errW_none, errW_some] <;> rfl), by repeat (first | (with_reducible first | exact HB.out | apply b1 | apply b2 | apply b3 | refine below_set ?_ GE283.out | refine below_set ?_ GE284.out) | exact HB.out)⟩

/-! ### laws_eqCell: function 86 -/
def laws_eqCell.f (a0_0 : Int) (a0_1 : Int) (a0_2 : Int) (a0_3 : Bool) (a0_4 : Bool) (a0_5 : Bool) (a0_6 : Int) (a1_0 : Int) (a1_1 : Int) (a1_2 : Int) (a1_3 : Bool) (a1_4 : Bool) (a1_5 : Bool) (a1_6 : Int) : Option (Bool) := if a0_0 = a1_0 then ((laws_eqStyle.f a0_1 a0_2 a0_3 a0_4 a0_5 a1_1 a1_2 a1_3 a1_4 a1_5).bind fun t287 => (if t287 = true then (if a0_6 = a1_6 then (some true) else (some false)) else (some false))) else (some false)
set_option maxHeartbeats 8000000 in
set_option maxRecDepth 100000 in
theorem laws_eqCell.calls (a0_0 : Int) (a0_1 : Int) (a0_2 : Int) (a0_3 : Bool) (a0_4 : Bool) (a0_5 : Bool) (a0_6 : Int) (a1_0 : Int) (a1_1 : Int) (a1_2 : Int) (a1_3 : Bool) (a1_4 : Bool) (a1_5 : Bool) (a1_6 : Int) (r : Bool) (w : World) (h : laws_eqCell.f a0_0 a0_1 a0_2 a0_3 a0_4 a0_5 a0_6 a1_0 a1_1 a1_2 a1_3 a1_4 a1_5 a1_6 = some r) :
  Calls Tryd.prog 86 #[.agg #[.int .i64 a0_0, .int .i64 a0_1, .int .i64 a0_2, .bool a0_3, .bool a0_4, .bool a0_5, .int .i64 a0_6], .agg #[.int .i64 a1_0, .int .i64 a1_1, .int .i64 a1_2, .bool a1_3, .bool a1_4, .bool a1_5, .int .i64 a1_6]] w fun e w' => e = .returned (.bool r) ∧ Below w.heap.size w w' := by
 have hu48 := Tryd.underlying48
 have hu37 := Tryd.underlying37
 have HB := am (Below.refl w.heap.size w)
 have H : (if a0_0 = a1_0 then ((laws_eqStyle.f a0_1 a0_2 a0_3 a0_4 a0_5 a1_1 a1_2 a1_3 a1_4 a1_5).bind fun t287 => (if t287 = true then (if a0_6 = a1_6 then (some true) else (some false)) else (some false))) else (some false)) = some r := h
 clear h
 by_cases c3 : a0_0 = a1_0
 ·rw [if_pos c3] at H
  have c3b0 : (a0_0 == a1_0) = true := beq_iff_eq.mpr c3
  have c3b1 : (a0_0 != a1_0) = false := bne_eq_false_iff_eq.mpr c3
  clear c3
  replace H := Option.bind_eq_some_iff.mp H
  obtain ⟨t287, A40, H⟩ := H
  replace H : (if t287 = true then (if a0_6 = a1_6 then (some true) else (some false)) else (some false)) = some r := H
  have A4 := am A40
  clear A40
  by_cases c5 : t287 = true
  ·subst c5
   have H1 : (if a0_6 = a1_6 then (some true) else (some false)) = some r := by rw [if_pos rfl] at H; exact H
   clear H
   have H := H1
   clear H1
   by_cases c6 : a0_6 = a1_6
   ·rw [if_pos c6] at H
    have c6b0 : (a0_6 == a1_6) = true := beq_iff_eq.mpr c6
    have c6b1 : (a0_6 != a1_6) = false := bne_eq_false_iff_eq.mpr c6
    clear c6
    obtain rfl := Option.some.inj H
    go_enter Tryd.func86, Tryd.ntmps86
    go_wp2_with (first | ((with_reducible refine gate_dst (N := 2) rfl ?_); refine box_event ?hg (N := 2) ?hd (cs := #[.int .i64 a0_0, .int .i64 a0_1, .int .i64 a0_2, .bool a0_3, .bool a0_4, .bool a0_5, .int .i64 a0_6]) (t := 48) ?hr ?_; (case hd => rfl); (case hg => rfl); (case hr => first | (go_simp; done) | (go_simp; rfl)); intro gb285 hg w7 hbox hb; have n0_ := am (below_step (rb HB) hb); have n1_ := am (hbox); have n2_ := am ((by rw [hg]; exact (below_size (rb HB)) : w.heap.size ≤ gb285)); have n3_ := am ((by rw [hg]; exact (below_size (rb HB)) : w.heap.size ≤ gb285)); clear HB; have HB := n0_; have BK285 := n1_; have GW285 := n2_; have GE285 := n3_; clear n0_ n1_ n2_ n3_; clear hb hbox hg) | ((with_reducible refine gate_dst (N := 3) rfl ?_); refine box_event ?hg (N := 3) ?hd (cs := #[.int .i64 a1_0, .int .i64 a1_1, .int .i64 a1_2, .bool a1_3, .bool a1_4, .bool a1_5, .int .i64 a1_6]) (t := 48) ?hr ?_; (case hd => rfl); (case hg => rfl); (case hr => first | (go_simp; done) | (go_simp; rfl)); intro gb286 hg w8 hbox hb; have n0_ := am (blk_below (g := gb285) (o := .cells #[.int .i64 a0_0, .int .i64 a0_1, .int .i64 a0_2, .bool a0_3, .bool a0_4, .bool a0_5, .int .i64 a0_6] 48 (0, 0)) (rk BK285) hb); have n1_ := am (below_step (rb1 HB GE285) hb); have n2_ := am (hbox); have n3_ := am ((by rw [hg]; exact (below_size (rb1 HB GE285)) : w.heap.size ≤ gb286)); have n4_ := am ((by rw [hg]; exact (below_size (rb1 HB GE285)) : w.heap.size ≤ gb286)); have n5_ := am ((by rw [hg]; exact Nat.ne_of_lt (blk_lt (g := gb285) (o := .cells #[.int .i64 a0_0, .int .i64 a0_1, .int .i64 a0_2, .bool a0_3, .bool a0_4, .bool a0_5, .int .i64 a0_6] 48 (0, 0)) (rk BK285)) : gb285 ≠ gb286)); have n6_ := am ((by rw [hg]; exact Nat.ne_of_gt (blk_lt (g := gb285) (o := .cells #[.int .i64 a0_0, .int .i64 a0_1, .int .i64 a0_2, .bool a0_3, .bool a0_4, .bool a0_5, .int .i64 a0_6] 48 (0, 0)) (rk BK285)) : gb286 ≠ gb285)); clear BK285; clear HB; have BK285 := n0_; have HB := n1_; have BK286 := n2_; have GW286 := n3_; have GE286 := n4_; have NB285_286 := n5_; have NB286_285 := n6_; clear n0_ n1_ n2_ n3_ n4_ n5_ n6_; clear hb hbox hg; have hnb9 := NB285_286.out; have hnc9 := NB286_285.out; have hcz10_0 : w8.cell? ⟨gb285, 0, none⟩ = some (.int .i64 a0_0) := (blk_cell BK285.out 0).trans rfl; have hcz10_1 : w8.cell? ⟨gb285, 1, none⟩ = some (.int .i64 a0_1) := (blk_cell BK285.out 1).trans rfl; have hcz10_2 : w8.cell? ⟨gb285, 2, none⟩ = some (.int .i64 a0_2) := (blk_cell BK285.out 2).trans rfl; have hcz10_3 : w8.cell? ⟨gb285, 3, none⟩ = some (.bool a0_3) := (blk_cell BK285.out 3).trans rfl; have hcz10_4 : w8.cell? ⟨gb285, 4, none⟩ = some (.bool a0_4) := (blk_cell BK285.out 4).trans rfl; have hcz10_5 : w8.cell? ⟨gb285, 5, none⟩ = some (.bool a0_5) := (blk_cell BK285.out 5).trans rfl; have hcz10_6 : w8.cell? ⟨gb285, 6, none⟩ = some (.int .i64 a0_6) := (blk_cell BK285.out 6).trans rfl; have hfz10_0 := blk_frozen BK285.out 0; have hfz10_1 := blk_frozen BK285.out 1; have hfz10_2 := blk_frozen BK285.out 2; have hfz10_3 := blk_frozen BK285.out 3; have hfz10_4 := blk_frozen BK285.out 4; have hfz10_5 := blk_frozen BK285.out 5; have hfz10_6 := blk_frozen BK285.out 6; have hcz11_0 : w8.cell? ⟨gb286, 0, none⟩ = some (.int .i64 a1_0) := (blk_cell BK286.out 0).trans rfl; have hcz11_1 : w8.cell? ⟨gb286, 1, none⟩ = some (.int .i64 a1_1) := (blk_cell BK286.out 1).trans rfl; have hcz11_2 : w8.cell? ⟨gb286, 2, none⟩ = some (.int .i64 a1_2) := (blk_cell BK286.out 2).trans rfl; have hcz11_3 : w8.cell? ⟨gb286, 3, none⟩ = some (.bool a1_3) := (blk_cell BK286.out 3).trans rfl; have hcz11_4 : w8.cell? ⟨gb286, 4, none⟩ = some (.bool a1_4) := (blk_cell BK286.out 4).trans rfl; have hcz11_5 : w8.cell? ⟨gb286, 5, none⟩ = some (.bool a1_5) := (blk_cell BK286.out 5).trans rfl; have hcz11_6 : w8.cell? ⟨gb286, 6, none⟩ = some (.int .i64 a1_6) := (blk_cell BK286.out 6).trans rfl; have hfz11_0 := blk_frozen BK286.out 0; have hfz11_1 := blk_frozen BK286.out 1; have hfz11_2 := blk_frozen BK286.out 2; have hfz11_3 := blk_frozen BK286.out 3; have hfz11_4 := blk_frozen BK286.out 4; have hfz11_5 := blk_frozen BK286.out 5; have hfz11_6 := blk_frozen BK286.out 6) | ((with_reducible refine gate_callee (f := 95) rfl ?_); refine gl_ (some 14) Tryd.func95 #[.agg #[.int .i64 a0_1, .int .i64 a0_2, .bool a0_3, .bool a0_4, .bool a0_5], .agg #[.int .i64 a1_1, .int .i64 a1_2, .bool a1_3, .bool a1_4, .bool a1_5]] ?_; (with_reducible refine (laws_eqStyle.calls a0_1 a0_2 a0_3 a0_4 a0_5 a1_1 a1_2 a1_3 a1_4 a1_5 true _ A4.out).mono ?_); rintro e w12 ⟨rfl, hb⟩; refine ⟨_, rfl, ?_⟩; have n0_ := am (blk_below (g := gb285) (o := .cells #[.int .i64 a0_0, .int .i64 a0_1, .int .i64 a0_2, .bool a0_3, .bool a0_4, .bool a0_5, .int .i64 a0_6] 48 (0, 0)) (rk BK285) hb); have n1_ := am (blk_below (g := gb286) (o := .cells #[.int .i64 a1_0, .int .i64 a1_1, .int .i64 a1_2, .bool a1_3, .bool a1_4, .bool a1_5, .int .i64 a1_6] 48 (0, 0)) (rk BK286) hb); have n2_ := am (below_step (by repeat (first | (with_reducible first | exact HB.out | apply b1 | apply b2 | apply b3 | refine below_set ?_ GE285.out | refine below_set ?_ GE286.out) | exact HB.out)) hb); clear BK285; clear BK286; clear HB; have BK285 := n0_; have BK286 := n1_; have HB := n2_; clear n0_ n1_ n2_; (try clear hb); (try clear hb2); (try clear hk); (try clear hi); have hcz13_0 : w12.cell? ⟨gb285, 0, none⟩ = some (.int .i64 a0_0) := (blk_cell BK285.out 0).trans rfl; have hcz13_1 : w12.cell? ⟨gb285, 1, none⟩ = some (.int .i64 a0_1) := (blk_cell BK285.out 1).trans rfl; have hcz13_2 : w12.cell? ⟨gb285, 2, none⟩ = some (.int .i64 a0_2) := (blk_cell BK285.out 2).trans rfl; have hcz13_3 : w12.cell? ⟨gb285, 3, none⟩ = some (.bool a0_3) := (blk_cell BK285.out 3).trans rfl; have hcz13_4 : w12.cell? ⟨gb285, 4, none⟩ = some (.bool a0_4) := (blk_cell BK285.out 4).trans rfl; have hcz13_5 : w12.cell? ⟨gb285, 5, none⟩ = some (.bool a0_5) := (blk_cell BK285.out 5).trans rfl; have hcz13_6 : w12.cell? ⟨gb285, 6, none⟩ = some (.int .i64 a0_6) := (blk_cell BK285.out 6).trans rfl; have hfz13_0 := blk_frozen BK285.out 0; have hfz13_1 := blk_frozen BK285.out 1; have hfz13_2 := blk_frozen BK285.out 2; have hfz13_3 := blk_frozen BK285.out 3; have hfz13_4 := blk_frozen BK285.out 4; have hfz13_5 := blk_frozen BK285.out 5; have hfz13_6 := blk_frozen BK285.out 6; have hcz14_0 : w12.cell? ⟨gb286, 0, none⟩ = some (.int .i64 a1_0) := (blk_cell BK286.out 0).trans rfl; have hcz14_1 : w12.cell? ⟨gb286, 1, none⟩ = some (.int .i64 a1_1) := (blk_cell BK286.out 1).trans rfl; have hcz14_2 : w12.cell? ⟨gb286, 2, none⟩ = some (.int .i64 a1_2) := (blk_cell BK286.out 2).trans rfl; have hcz14_3 : w12.cell? ⟨gb286, 3, none⟩ = some (.bool a1_3) := (blk_cell BK286.out 3).trans rfl; have hcz14_4 : w12.cell? ⟨gb286, 4, none⟩ = some (.bool a1_4) := (blk_cell BK286.out 4).trans rfl; have hcz14_5 : w12.cell? ⟨gb286, 5, none⟩ = some (.bool a1_5) := (blk_cell BK286.out 5).trans rfl; have hcz14_6 : w12.cell? ⟨gb286, 6, none⟩ = some (.int .i64 a1_6) := (blk_cell BK286.out 6).trans rfl; have hfz14_0 := blk_frozen BK286.out 0; have hfz14_1 := blk_frozen BK286.out 1; have hfz14_2 := blk_frozen BK286.out 2; have hfz14_3 := blk_frozen BK286.out 3; have hfz14_4 := blk_frozen BK286.out 4; have hfz14_5 := blk_frozen BK286.out 5; have hfz14_6 := blk_frozen BK286.out 6))
    go_ret
    exact ⟨by first | rfl | (simp [errW_none, errW_some] <;> rfl) | (simp [*, errW_none, errW_some] <;> rfl), by repeat (first | (with_reducible first | exact HB.out | apply b1 | apply b2 | apply b3 | refine below_set ?_ GE285.out | refine below_set ?_ GE286.out) | exact HB.out)⟩
   ·rw [if_neg c6] at H
    have c6b0 : (a0_6 == a1_6) = false := beq_eq_false_iff_ne.mpr c6
    have c6b1 : (a0_6 != a1_6) = true := bne_iff_ne.mpr c6
    obtain rfl := Option.some.inj H
    go_enter Tryd.func86, Tryd.ntmps86
    go_wp2_with (first | ((with_reducible refine gate_dst (N := 2) rfl ?_); refine box_event ?hg (N := 2) ?hd (cs := #[.int .i64 a0_0, .int .i64 a0_1, .int .i64 a0_2, .bool a0_3, .bool a0_4, .bool a0_5, .int .i64 a0_6]) (t := 48) ?hr ?_; (case hd => rfl); (case hg => rfl); (case hr => first | (go_simp; done) | (go_simp; rfl)); intro gb285 hg w15 hbox hb; have n0_ := am (below_step (rb HB) hb); have n1_ := am (hbox); have n2_ := am ((by rw [hg]; exact (below_size (rb HB)) : w.heap.size ≤ gb285)); have n3_ := am ((by rw [hg]; exact (below_size (rb HB)) : w.heap.size ≤ gb285)); clear HB; have HB := n0_; have BK285 := n1_; have GW285 := n2_; have GE285 := n3_; clear n0_ n1_ n2_ n3_; clear hb hbox hg) | ((with_reducible refine gate_dst (N := 3) rfl ?_); refine box_event ?hg (N := 3) ?hd (cs := #[.int .i64 a1_0, .int .i64 a1_1, .int .i64 a1_2, .bool a1_3, .bool a1_4, .bool a1_5, .int .i64 a1_6]) (t := 48) ?hr ?_; (case hd => rfl); (case hg => rfl); (case hr => first | (go_simp; done) | (go_simp; rfl)); intro gb286 hg w16 hbox hb; have n0_ := am (blk_below (g := gb285) (o := .cells #[.int .i64 a0_0, .int .i64 a0_1, .int .i64 a0_2, .bool a0_3, .bool a0_4, .bool a0_5, .int .i64 a0_6] 48 (0, 0)) (rk BK285) hb); have n1_ := am (below_step (rb1 HB GE285) hb); have n2_ := am (hbox); have n3_ := am ((by rw [hg]; exact (below_size (rb1 HB GE285)) : w.heap.size ≤ gb286)); have n4_ := am ((by rw [hg]; exact (below_size (rb1 HB GE285)) : w.heap.size ≤ gb286)); have n5_ := am ((by rw [hg]; exact Nat.ne_of_lt (blk_lt (g := gb285) (o := .cells #[.int .i64 a0_0, .int .i64 a0_1, .int .i64 a0_2, .bool a0_3, .bool a0_4, .bool a0_5, .int .i64 a0_6] 48 (0, 0)) (rk BK285)) : gb285 ≠ gb286)); have n6_ := am ((by rw [hg]; exact Nat.ne_of_gt (blk_lt (g := gb285) (o := .cells #[.int .i64 a0_0, .int .i64 a0_1, .int .i64 a0_2, .bool a0_3, .bool a0_4, .bool a0_5, .int .i64 a0_6] 48 (0, 0)) (rk BK285)) : gb286 ≠ gb285)); clear BK285; clear HB; have BK285 := n0_; have HB := n1_; have BK286 := n2_; have GW286 := n3_; have GE286 := n4_; have NB285_286 := n5_; have NB286_285 := n6_; clear n0_ n1_ n2_ n3_ n4_ n5_ n6_; clear hb hbox hg; have hnb17 := NB285_286.out; have hnc17 := NB286_285.out; have hcz18_0 : w16.cell? ⟨gb285, 0, none⟩ = some (.int .i64 a0_0) := (blk_cell BK285.out 0).trans rfl; have hcz18_1 : w16.cell? ⟨gb285, 1, none⟩ = some (.int .i64 a0_1) := (blk_cell BK285.out 1).trans rfl; have hcz18_2 : w16.cell? ⟨gb285, 2, none⟩ = some (.int .i64 a0_2) := (blk_cell BK285.out 2).trans rfl; have hcz18_3 : w16.cell? ⟨gb285, 3, none⟩ = some (.bool a0_3) := (blk_cell BK285.out 3).trans rfl; have hcz18_4 : w16.cell? ⟨gb285, 4, none⟩ = some (.bool a0_4) := (blk_cell BK285.out 4).trans rfl; have hcz18_5 : w16.cell? ⟨gb285, 5, none⟩ = some (.bool a0_5) := (blk_cell BK285.out 5).trans rfl; have hcz18_6 : w16.cell? ⟨gb285, 6, none⟩ = some (.int .i64 a0_6) := (blk_cell BK285.out 6).trans rfl; have hfz18_0 := blk_frozen BK285.out 0; have hfz18_1 := blk_frozen BK285.out 1; have hfz18_2 := blk_frozen BK285.out 2; have hfz18_3 := blk_frozen BK285.out 3; have hfz18_4 := blk_frozen BK285.out 4; have hfz18_5 := blk_frozen BK285.out 5; have hfz18_6 := blk_frozen BK285.out 6; have hcz19_0 : w16.cell? ⟨gb286, 0, none⟩ = some (.int .i64 a1_0) := (blk_cell BK286.out 0).trans rfl; have hcz19_1 : w16.cell? ⟨gb286, 1, none⟩ = some (.int .i64 a1_1) := (blk_cell BK286.out 1).trans rfl; have hcz19_2 : w16.cell? ⟨gb286, 2, none⟩ = some (.int .i64 a1_2) := (blk_cell BK286.out 2).trans rfl; have hcz19_3 : w16.cell? ⟨gb286, 3, none⟩ = some (.bool a1_3) := (blk_cell BK286.out 3).trans rfl; have hcz19_4 : w16.cell? ⟨gb286, 4, none⟩ = some (.bool a1_4) := (blk_cell BK286.out 4).trans rfl; have hcz19_5 : w16.cell? ⟨gb286, 5, none⟩ = some (.bool a1_5) := (blk_cell BK286.out 5).trans rfl; have hcz19_6 : w16.cell? ⟨gb286, 6, none⟩ = some (.int .i64 a1_6) := (blk_cell BK286.out 6).trans rfl; have hfz19_0 := blk_frozen BK286.out 0; have hfz19_1 := blk_frozen BK286.out 1; have hfz19_2 := blk_frozen BK286.out 2; have hfz19_3 := blk_frozen BK286.out 3; have hfz19_4 := blk_frozen BK286.out 4; have hfz19_5 := blk_frozen BK286.out 5; have hfz19_6 := blk_frozen BK286.out 6) | ((with_reducible refine gate_callee (f := 95) rfl ?_); refine gl_ (some 14) Tryd.func95 #[.agg #[.int .i64 a0_1, .int .i64 a0_2, .bool a0_3, .bool a0_4, .bool a0_5], .agg #[.int .i64 a1_1, .int .i64 a1_2, .bool a1_3, .bool a1_4, .bool a1_5]] ?_; (with_reducible refine (laws_eqStyle.calls a0_1 a0_2 a0_3 a0_4 a0_5 a1_1 a1_2 a1_3 a1_4 a1_5 true _ A4.out).mono ?_); rintro e w20 ⟨rfl, hb⟩; refine ⟨_, rfl, ?_⟩; have n0_ := am (blk_below (g := gb285) (o := .cells #[.int .i64 a0_0, .int .i64 a0_1, .int .i64 a0_2, .bool a0_3, .bool a0_4, .bool a0_5, .int .i64 a0_6] 48 (0, 0)) (rk BK285) hb); have n1_ := am (blk_below (g := gb286) (o := .cells #[.int .i64 a1_0, .int .i64 a1_1, .int .i64 a1_2, .bool a1_3, .bool a1_4, .bool a1_5, .int .i64 a1_6] 48 (0, 0)) (rk BK286) hb); have n2_ := am (below_step (by repeat (first | (with_reducible first | exact HB.out | apply b1 | apply b2 | apply b3 | refine below_set ?_ GE285.out | refine below_set ?_ GE286.out) | exact HB.out)) hb); clear BK285; clear BK286; clear HB; have BK285 := n0_; have BK286 := n1_; have HB := n2_; clear n0_ n1_ n2_; (try clear hb); (try clear hb2); (try clear hk); (try clear hi); have hcz21_0 : w20.cell? ⟨gb285, 0, none⟩ = some (.int .i64 a0_0) := (blk_cell BK285.out 0).trans rfl; have hcz21_1 : w20.cell? ⟨gb285, 1, none⟩ = some (.int .i64 a0_1) := (blk_cell BK285.out 1).trans rfl; have hcz21_2 : w20.cell? ⟨gb285, 2, none⟩ = some (.int .i64 a0_2) := (blk_cell BK285.out 2).trans rfl; have hcz21_3 : w20.cell? ⟨gb285, 3, none⟩ = some (.bool a0_3) := (blk_cell BK285.out 3).trans rfl; have hcz21_4 : w20.cell? ⟨gb285, 4, none⟩ = some (.bool a0_4) := (blk_cell BK285.out 4).trans rfl; have hcz21_5 : w20.cell? ⟨gb285, 5, none⟩ = some (.bool a0_5) := (blk_cell BK285.out 5).trans rfl; have hcz21_6 : w20.cell? ⟨gb285, 6, none⟩ = some (.int .i64 a0_6) := (blk_cell BK285.out 6).trans rfl; have hfz21_0 := blk_frozen BK285.out 0; have hfz21_1 := blk_frozen BK285.out 1; have hfz21_2 := blk_frozen BK285.out 2; have hfz21_3 := blk_frozen BK285.out 3; have hfz21_4 := blk_frozen BK285.out 4; have hfz21_5 := blk_frozen BK285.out 5; have hfz21_6 := blk_frozen BK285.out 6; have hcz22_0 : w20.cell? ⟨gb286, 0, none⟩ = some (.int .i64 a1_0) := (blk_cell BK286.out 0).trans rfl; have hcz22_1 : w20.cell? ⟨gb286, 1, none⟩ = some (.int .i64 a1_1) := (blk_cell BK286.out 1).trans rfl; have hcz22_2 : w20.cell? ⟨gb286, 2, none⟩ = some (.int .i64 a1_2) := (blk_cell BK286.out 2).trans rfl; have hcz22_3 : w20.cell? ⟨gb286, 3, none⟩ = some (.bool a1_3) := (blk_cell BK286.out 3).trans rfl; have hcz22_4 : w20.cell? ⟨gb286, 4, none⟩ = some (.bool a1_4) := (blk_cell BK286.out 4).trans rfl; have hcz22_5 : w20.cell? ⟨gb286, 5, none⟩ = some (.bool a1_5) := (blk_cell BK286.out 5).trans rfl; have hcz22_6 : w20.cell? ⟨gb286, 6, none⟩ = some (.int .i64 a1_6) := (blk_cell BK286.out 6).trans rfl; have hfz22_0 := blk_frozen BK286.out 0; have hfz22_1 := blk_frozen BK286.out 1; have hfz22_2 := blk_frozen BK286.out 2; have hfz22_3 := blk_frozen BK286.out 3; have hfz22_4 := blk_frozen BK286.out 4; have hfz22_5 := blk_frozen BK286.out 5; have hfz22_6 := blk_frozen BK286.out 6))
    go_ret
    exact ⟨by first | rfl | (simp [errW_none, errW_some] <;> rfl) | (simp [*, errW_none, errW_some] <;> rfl), by repeat (first | (with_reducible first | exact HB.out | apply b1 | apply b2 | apply b3 | refine below_set ?_ GE285.out | refine below_set ?_ GE286.out) | exact HB.out)⟩
  ·replace c5 := Bool.eq_false_iff.mpr c5
   subst c5
   have H1 : (some false) = some r := by rw [if_neg (show ¬ (false = true) by decide)] at H; exact H
   clear H
   have H := H1
   clear H1
   obtain rfl := Option.some.inj H
   go_enter Tryd.func86, Tryd.ntmps86
   go_wp2_with (first | ((with_reducible refine gate_dst (N := 2) rfl ?_); refine box_event ?hg (N := 2) ?hd (cs := #[.int .i64 a0_0, .int .i64 a0_1, .int .i64 a0_2, .bool a0_3, .bool a0_4, .bool a0_5, .int .i64 a0_6]) (t := 48) ?hr ?_; (case hd => rfl); (case hg => rfl); (case hr => first | (go_simp; done) | (go_simp; rfl)); intro gb285 hg w23 hbox hb; have n0_ := am (below_step (rb HB) hb); have n1_ := am (hbox); have n2_ := am ((by rw [hg]; exact (below_size (rb HB)) : w.heap.size ≤ gb285)); have n3_ := am ((by rw [hg]; exact (below_size (rb HB)) : w.heap.size ≤ gb285)); clear HB; have HB := n0_; have BK285 := n1_; have GW285 := n2_; have GE285 := n3_; clear n0_ n1_ n2_ n3_; clear hb hbox hg) | ((with_reducible refine gate_dst (N := 3) rfl ?_); refine box_event ?hg (N := 3) ?hd (cs := #[.int .i64 a1_0, .int .i64 a1_1, .int .i64 a1_2, .bool a1_3, .bool a1_4, .bool a1_5, .int .i64 a1_6]) (t := 48) ?hr ?_; (case hd => rfl); (case hg => rfl); (case hr => first | (go_simp; done) | (go_simp; rfl)); intro gb286 hg w24 hbox hb; have n0_ := am (blk_below (g := gb285) (o := .cells #[.int .i64 a0_0, .int .i64 a0_1, .int .i64 a0_2, .bool a0_3, .bool a0_4, .bool a0_5, .int .i64 a0_6] 48 (0, 0)) (rk BK285) hb); have n1_ := am (below_step (rb1 HB GE285) hb); have n2_ := am (hbox); have n3_ := am ((by rw [hg]; exact (below_size (rb1 HB GE285)) : w.heap.size ≤ gb286)); have n4_ := am ((by rw [hg]; exact (below_size (rb1 HB GE285)) : w.heap.size ≤ gb286)); have n5_ := am ((by rw [hg]; exact Nat.ne_of_lt (blk_lt (g := gb285) (o := .cells #[.int .i64 a0_0, .int .i64 a0_1, .int .i64 a0_2, .bool a0_3, .bool a0_4, .bool a0_5, .int .i64 a0_6] 48 (0, 0)) (rk BK285)) : gb285 ≠ gb286)); have n6_ := am ((by rw [hg]; exact Nat.ne_of_gt (blk_lt (g := gb285) (o := .cells #[.int .i64 a0_0, .int .i64 a0_1, .int .i64 a0_2, .bool a0_3, .bool a0_4, .bool a0_5, .int .i64 a0_6] 48 (0, 0)) (rk BK285)) : gb286 ≠ gb285)); clear BK285; clear HB; have BK285 := n0_; have HB := n1_; have BK286 := n2_; have GW286 := n3_; have GE286 := n4_; have NB285_286 := n5_; have NB286_285 := n6_; clear n0_ n1_ n2_ n3_ n4_ n5_ n6_; clear hb hbox hg; have hnb25 := NB285_286.out; have hnc25 := NB286_285.out; have hcz26_0 : w24.cell? ⟨gb285, 0, none⟩ = some (.int .i64 a0_0) := (blk_cell BK285.out 0).trans rfl; have hcz26_1 : w24.cell? ⟨gb285, 1, none⟩ = some (.int .i64 a0_1) := (blk_cell BK285.out 1).trans rfl; have hcz26_2 : w24.cell? ⟨gb285, 2, none⟩ = some (.int .i64 a0_2) := (blk_cell BK285.out 2).trans rfl; have hcz26_3 : w24.cell? ⟨gb285, 3, none⟩ = some (.bool a0_3) := (blk_cell BK285.out 3).trans rfl; have hcz26_4 : w24.cell? ⟨gb285, 4, none⟩ = some (.bool a0_4) := (blk_cell BK285.out 4).trans rfl; have hcz26_5 : w24.cell? ⟨gb285, 5, none⟩ = some (.bool a0_5) := (blk_cell BK285.out 5).trans rfl; have hcz26_6 : w24.cell? ⟨gb285, 6, none⟩ = some (.int .i64 a0_6) := (blk_cell BK285.out 6).trans rfl; have hfz26_0 := blk_frozen BK285.out 0; have hfz26_1 := blk_frozen BK285.out 1; have hfz26_2 := blk_frozen BK285.out 2; have hfz26_3 := blk_frozen BK285.out 3; have hfz26_4 := blk_frozen BK285.out 4; have hfz26_5 := blk_frozen BK285.out 5; have hfz26_6 := blk_frozen BK285.out 6; have hcz27_0 : w24.cell? ⟨gb286, 0, none⟩ = some (.int .i64 a1_0) := (blk_cell BK286.out 0).trans rfl; have hcz27_1 : w24.cell? ⟨gb286, 1, none⟩ = some (.int .i64 a1_1) := (blk_cell BK286.out 1).trans rfl; have hcz27_2 : w24.cell? ⟨gb286, 2, none⟩ = some (.int .i64 a1_2) := (blk_cell BK286.out 2).trans rfl; have hcz27_3 : w24.cell? ⟨gb286, 3, none⟩ = some (.bool a1_3) := (blk_cell BK286.out 3).trans rfl; have hcz27_4 : w24.cell? ⟨gb286, 4, none⟩ = some (.bool a1_4) := (blk_cell BK286.out 4).trans rfl; have hcz27_5 : w24.cell? ⟨gb286, 5, none⟩ = some (.bool a1_5) := (blk_cell BK286.out 5).trans rfl; have hcz27_6 : w24.cell? ⟨gb286, 6, none⟩ = some (.int .i64 a1_6) := (blk_cell BK286.out 6).trans rfl; have hfz27_0 := blk_frozen BK286.out 0; have hfz27_1 := blk_frozen BK286.out 1; have hfz27_2 := blk_frozen BK286.out 2; have hfz27_3 := blk_frozen BK286.out 3; have hfz27_4 := blk_frozen BK286.out 4; have hfz27_5 := blk_frozen BK286.out 5; have hfz27_6 := blk_frozen BK286.out 6) | ((with_reducible refine gate_callee (f := 95) rfl ?_); refine gl_ (some 14) Tryd.func95 #[.agg #[.int .i64 a0_1, .int .i64 a0_2, .bool a0_3, .bool a0_4, .bool a0_5], .agg #[.int .i64 a1_1, .int .i64 a1_2, .bool a1_3, .bool a1_4, .bool a1_5]] ?_; (with_reducible refine (laws_eqStyle.calls a0_1 a0_2 a0_3 a0_4 a0_5 a1_1 a1_2 a1_3 a1_4 a1_5 false _ A4.out).mono ?_); rintro e w28 ⟨rfl, hb⟩; refine ⟨_, rfl, ?_⟩; have n0_ := am (blk_below (g := gb285) (o := .cells #[.int .i64 a0_0, .int .i64 a0_1, .int .i64 a0_2, .bool a0_3, .bool a0_4, .bool a0_5, .int .i64 a0_6] 48 (0, 0)) (rk BK285) hb); have n1_ := am (blk_below (g := gb286) (o := .cells #[.int .i64 a1_0, .int .i64 a1_1, .int .i64 a1_2, .bool a1_3, .bool a1_4, .bool a1_5, .int .i64 a1_6] 48 (0, 0)) (rk BK286) hb); have n2_ := am (below_step (by repeat (first | (with_reducible first | exact HB.out | apply b1 | apply b2 | apply b3 | refine below_set ?_ GE285.out | refine below_set ?_ GE286.out) | exact HB.out)) hb); clear BK285; clear BK286; clear HB; have BK285 := n0_; have BK286 := n1_; have HB := n2_; clear n0_ n1_ n2_; (try clear hb); (try clear hb2); (try clear hk); (try clear hi)))
   go_ret
   exact ⟨by first | rfl | (simp [errW_none, errW_some] <;> rfl) | (simp [*, errW_none, errW_some] <;> rfl), by repeat (first | (with_reducible first | exact HB.out | apply b1 | apply b2 | apply b3 | refine below_set ?_ GE285.out | refine below_set ?_ GE286.out) | exact HB.out)⟩
 ·rw [if_neg c3] at H
  have c3b0 : (a0_0 == a1_0) = false := beq_eq_false_iff_ne.mpr c3
  have c3b1 : (a0_0 != a1_0) = true := bne_iff_ne.mpr c3
  obtain rfl := Option.some.inj H
  go_enter Tryd.func86, Tryd.ntmps86
  go_wp2_with (first | ((with_reducible refine gate_dst (N := 2) rfl ?_); refine box_event ?hg (N := 2) ?hd (cs := #[.int .i64 a0_0, .int .i64 a0_1, .int .i64 a0_2, .bool a0_3, .bool a0_4, .bool a0_5, .int .i64 a0_6]) (t := 48) ?hr ?_; (case hd => rfl); (case hg => rfl); (case hr => first | (go_simp; done) | (go_simp; rfl)); intro gb285 hg w29 hbox hb; have n0_ := am (below_step (rb HB) hb); have n1_ := am (hbox); have n2_ := am ((by rw [hg]; exact (below_size (rb HB)) : w.heap.size ≤ gb285)); have n3_ := am ((by rw [hg]; exact (below_size (rb HB)) : w.heap.size ≤ gb285)); clear HB; have HB := n0_; have BK285 := n1_; have GW285 := n2_; have GE285 := n3_; clear n0_ n1_ n2_ n3_; clear hb hbox hg) | ((with_reducible refine gate_dst (N := 3) rfl ?_); refine box_event ?hg (N := 3) ?hd (cs := #[.int .i64 a1_0, .int .i64 a1_1, .int .i64 a1_2, .bool a1_3, .bool a1_4, .bool a1_5, .int .i64 a1_6]) (t := 48) ?hr ?_; (case hd => rfl); (case hg => rfl); (case hr => first | (go_simp; done) | (go_simp; rfl)); intro gb286 hg w30 hbox hb; have n0_ := am (blk_below (g := gb285) (o := .cells #[.int .i64 a0_0, .int .i64 a0_1, .int .i64 a0_2, .bool a0_3, .bool a0_4, .bool a0_5, .int .i64 a0_6] 48 (0, 0)) (rk BK285) hb); have n1_ := am (below_step (rb1 HB GE285) hb); have n2_ := am (hbox); have n3_ := am ((by rw [hg]; exact (below_size (rb1 HB GE285)) : w.heap.size ≤ gb286)); have n4_ := am ((by rw [hg]; exact (below_size (rb1 HB GE285)) : w.heap.size ≤ gb286)); have n5_ := am ((by rw [hg]; exact Nat.ne_of_lt (blk_lt (g := gb285) (o := .cells #[.int .i64 a0_0, .int .i64 a0_1, .int .i64 a0_2, .bool a0_3, .bool a0_4, .bool a0_5, .int .i64 a0_6] 48 (0, 0)) (rk BK285)) : gb285 ≠ gb286)); have n6_ := am ((by rw [hg]; exact Nat.ne_of_gt (blk_lt (g := gb285) (o := .cells #[.int .i64 a0_0, .int .i64 a0_1, .int .i64 a0_2, .bool a0_3, .bool a0_4, .bool a0_5, .int .i64 a0_6] 48 (0, 0)) (rk BK285)) : gb286 ≠ gb285)); clear BK285; clear HB; have BK285 := n0_; have HB := n1_; have BK286 := n2_; have GW286 := n3_; have GE286 := n4_; have NB285_286 := n5_; have NB286_285 := n6_; clear n0_ n1_ n2_ n3_ n4_ n5_ n6_; clear hb hbox hg; have hnb31 := NB285_286.out; have hnc31 := NB286_285.out; have hcz32_0 : w30.cell? ⟨gb285, 0, none⟩ = some (.int .i64 a0_0) := (blk_cell BK285.out 0).trans rfl; have hcz32_1 : w30.cell? ⟨gb285, 1, none⟩ = some (.int .i64 a0_1) := (blk_cell BK285.out 1).trans rfl; have hcz32_2 : w30.cell? ⟨gb285, 2, none⟩ = some (.int .i64 a0_2) := (blk_cell BK285.out 2).trans rfl; have hcz32_3 : w30.cell? ⟨gb285, 3, none⟩ = some (.bool a0_3) := (blk_cell BK285.out 3).trans rfl; have hcz32_4 : w30.cell? ⟨gb285, 4, none⟩ = some (.bool a0_4) := (blk_cell BK285.out 4).trans rfl; have hcz32_5 : w30.cell? ⟨gb285, 5, none⟩ = some (.bool a0_5) := (blk_cell BK285.out 5).trans rfl; have hcz32_6 : w30.cell? ⟨gb285, 6, none⟩ = some (.int .i64 a0_6) := (blk_cell BK285.out 6).trans rfl; have hfz32_0 := blk_frozen BK285.out 0; have hfz32_1 := blk_frozen BK285.out 1; have hfz32_2 := blk_frozen BK285.out 2; have hfz32_3 := blk_frozen BK285.out 3; have hfz32_4 := blk_frozen BK285.out 4; have hfz32_5 := blk_frozen BK285.out 5; have hfz32_6 := blk_frozen BK285.out 6; have hcz33_0 : w30.cell? ⟨gb286, 0, none⟩ = some (.int .i64 a1_0) := (blk_cell BK286.out 0).trans rfl; have hcz33_1 : w30.cell? ⟨gb286, 1, none⟩ = some (.int .i64 a1_1) := (blk_cell BK286.out 1).trans rfl; have hcz33_2 : w30.cell? ⟨gb286, 2, none⟩ = some (.int .i64 a1_2) := (blk_cell BK286.out 2).trans rfl; have hcz33_3 : w30.cell? ⟨gb286, 3, none⟩ = some (.bool a1_3) := (blk_cell BK286.out 3).trans rfl; have hcz33_4 : w30.cell? ⟨gb286, 4, none⟩ = some (.bool a1_4) := (blk_cell BK286.out 4).trans rfl; have hcz33_5 : w30.cell? ⟨gb286, 5, none⟩ = some (.bool a1_5) := (blk_cell BK286.out 5).trans rfl; have hcz33_6 : w30.cell? ⟨gb286, 6, none⟩ = some (.int .i64 a1_6) := (blk_cell BK286.out 6).trans rfl; have hfz33_0 := blk_frozen BK286.out 0; have hfz33_1 := blk_frozen BK286.out 1; have hfz33_2 := blk_frozen BK286.out 2; have hfz33_3 := blk_frozen BK286.out 3; have hfz33_4 := blk_frozen BK286.out 4; have hfz33_5 := blk_frozen BK286.out 5; have hfz33_6 := blk_frozen BK286.out 6))
  go_ret
  exact ⟨by first | rfl | (simp [errW_none, errW_some] <;> rfl) | (simp [*, errW_none, errW_some] <;> rfl), by repeat (first | (with_reducible first | exact HB.out | apply b1 | apply b2 | apply b3 | refine below_set ?_ GE285.out | refine below_set ?_ GE286.out) | exact HB.out)⟩

end Go.Proofs.YtepeanpoicefdaaDoor.PA
