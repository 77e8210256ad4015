/- The law FnStyles answers true at every code: what is styled by the params from one style to another is the other, and the params of alike ones are none. -/
import Derived.Test.YtbgekmchjdkjiaaDoorPBx15
namespace Go.Proofs.YtbgekmchjdkjiaaDoor.Pure
open Go.RowKit Go.Proofs.YtbgekmchjdkjiaaDoor.PB Go.Proofs.YtbgekmchjdkjiaaDoorW.PrintWords Go.Proofs.YtbgekmchjdkjiaaDoorW.PrintLast
set_option linter.unusedVariables false
set_option linter.unusedSimpArgs false

theorem w64 {x : Int} (h0 : -9223372036854775808 ≤ x) (h1 : x ≤ 9223372036854775807) : wrap64 x = x := by unfold wrap64; omega
theorem wf64 {x : Int} : (Lit.int .i64 x).wf = true ↔ -9223372036854775808 ≤ x ∧ x ≤ 9223372036854775807 := by
  simp [Lit.wf, IntKind.min, IntKind.max, IntKind.signed, IntKind.bits]
theorem wf8 {x : Int} : (Lit.int .u8 x).wf = true ↔ 0 ≤ x ∧ x ≤ 255 := by
  simp [Lit.wf, IntKind.min, IntKind.max, IntKind.signed, IntKind.bits]
theorem ev_succ {α : Type} {g : Nat → Option α} {r : α} (h : Ev (fun k => g (k + 1)) r) : Ev g r := by
  obtain ⟨K, h⟩ := h
  refine ⟨K + 1, fun k hk => ?_⟩
  obtain ⟨m, rfl⟩ : ∃ m, k = m + 1 := ⟨k - 1, by omega⟩
  exact h m (by omega)
theorem ev_fixed {α : Type} {x : Option α} {r : α} (h : x = some r) : Ev (fun _ => x) r := ⟨0, fun _ _ => h⟩
theorem ev_eq {α : Type} {g : Nat → Option α} {r s : α} (h : Ev g r) (e : r = s) : Ev g s := e ▸ h
/-- Never keep an equation 'wrap64 .. = ..' in the context where omega runs: it compares them by unfolding. -/
theorem wN {x : Int} {n : Nat} (e : x = (n : Int)) (h : n < 4611686018427387904) : wrap64 x = (n : Int) := by rw [e]; exact w64 (by omega) (by omega)

theorem spec_l1In_eq (a b c : Int) : spec_l1In.f a b c = some (decide (b ≤ a) && decide (a ≤ c)) := by
  unfold spec_l1In.f
  by_cases h : a ≥ b
  · rw [if_pos h]; simp [h]
  · rw [if_neg h]; simp [show ¬ b ≤ a from h]

theorem impl_in_eq (a b c : Int) : impl_in.f a b c = some (decide (b ≤ a) && decide (a ≤ c)) := by
  unfold impl_in.f
  by_cases h : b ≤ a
  · rw [if_pos h]; simp [h]
  · rw [if_neg h]; simp [h]

def sokv (a b : Int) : Bool := (decide (0 ≤ a) && decide (a ≤ 8)) && (decide (0 ≤ b) && decide (b ≤ 8))
theorem spec_StyleOk_eq (a b : Int) (c d e : Bool) : spec_StyleOk.f a b c d e = some (sokv a b) := by
  simp only [spec_StyleOk.f, spec_l1In_eq, Option.bind_some, sokv]
  by_cases h : (decide (0 ≤ a) && decide (a ≤ 8)) = true
  · simp [h]
  · simp [h]
theorem impl_StyleOk_eq (a b : Int) (c d e : Bool) : impl_StyleOk.f a b c d e = some (sokv a b) := by
  simp only [impl_StyleOk.f, impl_in_eq, Option.bind_some, sokv]
  by_cases h : (decide (0 ≤ a) && decide (a ≤ 8)) = true
  · simp [h]
  · simp [h]

theorem rd_nat (l : List Int) (i : Nat) : rd l (i : Int) = l.getD i 0 := by simp [rd]
theorem rd_at {l : List Int} {i : Nat} (h : i < l.length) : rd l (i : Int) = l[i] := by rw [rd_nat, List.getD_eq_getElem?_getD, List.getElem?_eq_getElem h]; rfl
theorem take_set_succ {α : Type} (l : List α) (i : Nat) (a : α) (h : i < l.length) : (l.set i a).take (i + 1) = l.take i ++ [a] := by
  rw [List.take_succ_eq_append_getElem (by simpa using h), List.take_set, List.set_eq_of_length_le (by rw [List.length_take]; omega)]
  simp

theorem ev_pos {α : Type} {c : Prop} [Decidable c] {a b : Nat → Option α} {r : α} (hc : c) (h : Ev a r) : Ev (fun k => if c then a k else b k) r := by
  obtain ⟨K, h⟩ := h
  exact ⟨K, fun k hk => by show (if c then a k else b k) = some r; rw [if_pos hc]; exact h k hk⟩
theorem ev_neg {α : Type} {c : Prop} [Decidable c] {a b : Nat → Option α} {r : α} (hc : ¬ c) (h : Ev b r) : Ev (fun k => if c then a k else b k) r := by
  obtain ⟨K, h⟩ := h
  exact ⟨K, fun k hk => by show (if c then a k else b k) = some r; rw [if_neg hc]; exact h k hk⟩
theorem ev_bind_some {α β : Type} {a : α} {f : Nat → α → Option β} {r : β} (h : Ev (fun k => f k a) r) : Ev (fun k => (some a).bind (f k)) r := h
theorem ev_bind_of {α β : Type} {x : Option α} {a : α} {f : Nat → α → Option β} {r : β} (hx : x = some a) (h : Ev (fun k => f k a) r) : Ev (fun k => x.bind (f k)) r := by
  subst hx; exact h

def pflag (x y : Bool) (on off : Int) : List Int := if (x != y) = true then [if y = true then on else off] else []
def pcol (x y first : Int) : List Int := if x = y then [] else [if y = 0 then first + 9 else first + y - 1]
theorem pflag_t {x y : Bool} {on off : Int} (h : (x != y) = true) : pflag x y on off = [if y = true then on else off] := if_pos h
theorem pflag_f {x y : Bool} {on off : Int} (h : ¬ (x != y) = true) : pflag x y on off = [] := if_neg h
theorem pcol_eq {x y first : Int} (h : x = y) : pcol x y first = [] := if_pos h
theorem pcol_ne {x y first : Int} (h : ¬ x = y) : pcol x y first = [if y = 0 then first + 9 else first + y - 1] := if_neg h
theorem sokv_range {a b : Int} (h : sokv a b = true) : 0 ≤ a ∧ a ≤ 8 ∧ 0 ≤ b ∧ b ≤ 8 := by
  unfold sokv at h
  simp only [Bool.and_eq_true, decide_eq_true_eq] at h
  omega
theorem spec_l3Flag_eq (b : Bool) (on off : Int) : spec_l3Flag.f b on off = some (if b = true then on else off) := by
  unfold spec_l3Flag.f; cases b <;> rfl
theorem impl_paramOf_eq (b : Bool) (on off : Int) : impl_paramOf.f b on off = some (if b = true then on else off) := by
  unfold impl_paramOf.f; cases b <;> rfl
theorem spec_col_eq (y first : Int) (h0 : 0 ≤ y) (h1 : y ≤ 8) (f0 : 0 ≤ first) (f1 : first ≤ 100) : spec_l3Flag.f (y == 0) (first + 9) (wrap64 (first - 1 + y)) = some (if y = 0 then first + 9 else first + y - 1) := by
  rw [spec_l3Flag_eq, w64 (by omega) (by omega)]
  by_cases e : y = 0
  · rw [if_pos e, if_pos (by rw [e]; rfl)]
  · rw [if_neg e, if_neg (by rw [beq_eq_false_iff_ne.mpr e]; simp)]; congr 1; omega
theorem impl_col_eq (y first : Int) (h0 : 0 ≤ y) (h1 : y ≤ 8) (f0 : 0 ≤ first) (f1 : first ≤ 100) : impl_colorOf.f y first = some (if y = 0 then first + 9 else first + y - 1) := by
  unfold impl_colorOf.f
  rw [w64 (x := first + 9) (by omega) (by omega), w64 (x := first + y) (by omega) (by omega), w64 (x := first + y - 1) (by omega) (by omega)]
  by_cases e : y = 0
  · rw [if_pos e, if_pos e]
  · rw [if_neg e, if_neg e]
theorem spec_l3_j3 (l : List Int) (a0 a1 : Int) (a2 a3 a4 : Bool) (b0 b1 : Int) (b2 b3 b4 : Bool) (hl : l.length ≤ 10) (h : sokv b0 b1 = true) : Ev (fun k => spec_l3Params.j3 k l a0 a1 a2 a3 a4 b0 b1 b2 b3 b4) (l ++ pcol a0 b0 30 ++ pcol a1 b1 40) := by
  have hr := sokv_range h
  have e0 := spec_col_eq b0 30 hr.1 hr.2.1 (by omega) (by omega)
  have e1 := spec_col_eq b1 40 hr.2.2.1 hr.2.2.2 (by omega) (by omega)
  refine ev_succ ?_
  simp only [spec_l3Params.j3]
  by_cases q0 : a0 = b0
  · rw [pcol_eq q0, List.append_nil]
    refine ev_pos q0 ?_
    by_cases q1 : a1 = b1
    · rw [pcol_eq q1, List.append_nil]; exact ev_pos q1 (Ev.now _)
    · rw [pcol_ne q1]; exact ev_neg q1 (ev_bind_of e1 (ev_pos (by omega) (Ev.now _)))
  · rw [pcol_ne q0]
    refine ev_neg q0 (ev_bind_of e0 (ev_pos (by omega) (ev_bind_some ?_)))
    by_cases q1 : a1 = b1
    · rw [pcol_eq q1, List.append_nil]; exact ev_pos q1 (Ev.now _)
    · rw [pcol_ne q1]; exact ev_neg q1 (ev_bind_of e1 (ev_pos (by rw [List.length_append]; simp; omega) (Ev.now _)))
theorem impl_p_j3 (l : List Int) (a0 a1 : Int) (a2 a3 a4 : Bool) (b0 b1 : Int) (b2 b3 b4 : Bool) (hl : l.length ≤ 10) (h : sokv b0 b1 = true) : Ev (fun k => impl_Params.j3 k l a0 a1 a2 a3 a4 b0 b1 b2 b3 b4) (l ++ pcol a0 b0 30 ++ pcol a1 b1 40) := by
  have hr := sokv_range h
  have e0 := impl_col_eq b0 30 hr.1 hr.2.1 (by omega) (by omega)
  have e1 := impl_col_eq b1 40 hr.2.2.1 hr.2.2.2 (by omega) (by omega)
  refine ev_succ ?_
  simp only [impl_Params.j3]
  by_cases q0 : a0 = b0
  · rw [pcol_eq q0, List.append_nil]
    refine ev_pos q0 ?_
    by_cases q1 : a1 = b1
    · rw [pcol_eq q1, List.append_nil]; exact ev_pos q1 (Ev.now _)
    · rw [pcol_ne q1]; exact ev_neg q1 (ev_bind_of e1 (ev_pos (by omega) (Ev.now _)))
  · rw [pcol_ne q0]
    refine ev_neg q0 (ev_bind_of e0 (ev_pos (by omega) (ev_bind_some ?_)))
    by_cases q1 : a1 = b1
    · rw [pcol_eq q1, List.append_nil]; exact ev_pos q1 (Ev.now _)
    · rw [pcol_ne q1]; exact ev_neg q1 (ev_bind_of e1 (ev_pos (by rw [List.length_append]; simp; omega) (Ev.now _)))
theorem pflag_length (x y : Bool) (on off : Int) : (pflag x y on off).length ≤ 1 := by unfold pflag; split <;> simp
theorem pcol_length (x y first : Int) : (pcol x y first).length ≤ 1 := by unfold pcol; split <;> simp
theorem spec_l3_j2 (l : List Int) (a0 a1 : Int) (a2 a3 a4 : Bool) (b0 b1 : Int) (b2 b3 b4 : Bool) (hl : l.length ≤ 9) (h : sokv b0 b1 = true) : Ev (fun k => spec_l3Params.j2 k l a0 a1 a2 a3 a4 b0 b1 b2 b3 b4) (l ++ pflag a4 b4 7 27 ++ pcol a0 b0 30 ++ pcol a1 b1 40) := by
  refine ev_succ ?_
  simp only [spec_l3Params.j2, spec_l3Flag_eq, Option.bind_some]
  by_cases q : (a4 != b4) = true
  · rw [pflag_t q]; exact ev_pos q (ev_pos (by omega) (spec_l3_j3 _ _ _ _ _ _ _ _ _ _ _ (by simp; omega) h))
  · rw [pflag_f q, List.append_nil]; exact ev_neg q (spec_l3_j3 _ _ _ _ _ _ _ _ _ _ _ (by omega) h)
theorem impl_p_j2 (l : List Int) (a0 a1 : Int) (a2 a3 a4 : Bool) (b0 b1 : Int) (b2 b3 b4 : Bool) (hl : l.length ≤ 9) (h : sokv b0 b1 = true) : Ev (fun k => impl_Params.j2 k l a0 a1 a2 a3 a4 b0 b1 b2 b3 b4) (l ++ pflag a4 b4 7 27 ++ pcol a0 b0 30 ++ pcol a1 b1 40) := by
  refine ev_succ ?_
  simp only [impl_Params.j2, impl_paramOf_eq, Option.bind_some]
  by_cases q : (a4 != b4) = true
  · rw [pflag_t q]; exact ev_pos q (ev_pos (by omega) (impl_p_j3 _ _ _ _ _ _ _ _ _ _ _ (by simp; omega) h))
  · rw [pflag_f q, List.append_nil]; exact ev_neg q (impl_p_j3 _ _ _ _ _ _ _ _ _ _ _ (by omega) h)
theorem spec_l3_j1 (l : List Int) (a0 a1 : Int) (a2 a3 a4 : Bool) (b0 b1 : Int) (b2 b3 b4 : Bool) (hl : l.length ≤ 8) (h : sokv b0 b1 = true) : Ev (fun k => spec_l3Params.j1 k l a0 a1 a2 a3 a4 b0 b1 b2 b3 b4) (l ++ pflag a3 b3 4 24 ++ pflag a4 b4 7 27 ++ pcol a0 b0 30 ++ pcol a1 b1 40) := by
  refine ev_succ ?_
  simp only [spec_l3Params.j1, spec_l3Flag_eq, Option.bind_some]
  by_cases q : (a3 != b3) = true
  · rw [pflag_t q]; exact ev_pos q (ev_pos (by omega) (spec_l3_j2 _ _ _ _ _ _ _ _ _ _ _ (by simp; omega) h))
  · rw [pflag_f q, List.append_nil]; exact ev_neg q (spec_l3_j2 _ _ _ _ _ _ _ _ _ _ _ (by omega) h)
theorem impl_p_j1 (l : List Int) (a0 a1 : Int) (a2 a3 a4 : Bool) (b0 b1 : Int) (b2 b3 b4 : Bool) (hl : l.length ≤ 8) (h : sokv b0 b1 = true) : Ev (fun k => impl_Params.j1 k l a0 a1 a2 a3 a4 b0 b1 b2 b3 b4) (l ++ pflag a3 b3 4 24 ++ pflag a4 b4 7 27 ++ pcol a0 b0 30 ++ pcol a1 b1 40) := by
  refine ev_succ ?_
  simp only [impl_Params.j1, impl_paramOf_eq, Option.bind_some]
  by_cases q : (a3 != b3) = true
  · rw [pflag_t q]; exact ev_pos q (ev_pos (by omega) (impl_p_j2 _ _ _ _ _ _ _ _ _ _ _ (by simp; omega) h))
  · rw [pflag_f q, List.append_nil]; exact ev_neg q (impl_p_j2 _ _ _ _ _ _ _ _ _ _ _ (by omega) h)
def pdiff (a0 a1 : Int) (a2 a3 a4 : Bool) (b0 b1 : Int) (b2 b3 b4 : Bool) : List Int := pflag a2 b2 1 22 ++ pflag a3 b3 4 24 ++ pflag a4 b4 7 27 ++ pcol a0 b0 30 ++ pcol a1 b1 40
def isZero (b0 b1 : Int) (b2 b3 b4 : Bool) : Bool := b0 == 0 && (b1 == 0 && (!b2 && (!b3 && (!b4))))
def isSame (a0 a1 : Int) (a2 a3 a4 : Bool) (b0 b1 : Int) (b2 b3 b4 : Bool) : Bool := a0 == b0 && (a1 == b1 && (a2 == b2 && (a3 == b3 && (a4 == b4))))
def paramsv (a0 a1 : Int) (a2 a3 a4 : Bool) (b0 b1 : Int) (b2 b3 b4 : Bool) : List Int :=
  if (sokv a0 a1 && sokv b0 b1) = true then (if isSame a0 a1 a2 a3 a4 b0 b1 b2 b3 b4 = true then [] else if isZero b0 b1 b2 b3 b4 = true then [0] else pdiff a0 a1 a2 a3 a4 b0 b1 b2 b3 b4) else []
theorem isSame_iff (a0 a1 : Int) (a2 a3 a4 : Bool) (b0 b1 : Int) (b2 b3 b4 : Bool) : isSame a0 a1 a2 a3 a4 b0 b1 b2 b3 b4 = true ↔ a0 = b0 ∧ a1 = b1 ∧ a2 = b2 ∧ a3 = b3 ∧ a4 = b4 := by
  unfold isSame; simp only [Bool.and_eq_true, beq_iff_eq]
theorem isZero_iff (b0 b1 : Int) (b2 b3 b4 : Bool) : isZero b0 b1 b2 b3 b4 = true ↔ b0 = 0 ∧ b1 = 0 ∧ b2 = false ∧ b3 = false ∧ b4 = false := by
  unfold isZero; simp only [Bool.and_eq_true, beq_iff_eq, Bool.not_eq_true']
theorem isZero_not (a0 a1 : Int) (a2 a3 a4 : Bool) : (!(a0 == 0) || (!(a1 == 0) || (a2 || (a3 || (a4))))) = !isZero a0 a1 a2 a3 a4 := by
  unfold isZero
  cases (a0 == 0) <;> cases (a1 == 0) <;> cases a2 <;> cases a3 <;> cases a4 <;> rfl
theorem pdiff_same {a0 a1 : Int} {a2 a3 a4 : Bool} : pdiff a0 a1 a2 a3 a4 a0 a1 a2 a3 a4 = [] := by
  unfold pdiff pflag pcol
  simp
theorem pdiff_length (a0 a1 : Int) (a2 a3 a4 : Bool) (b0 b1 : Int) (b2 b3 b4 : Bool) : (pdiff a0 a1 a2 a3 a4 b0 b1 b2 b3 b4).length ≤ 5 := by
  unfold pdiff
  have h1 := pflag_length a2 b2 1 22
  have h2 := pflag_length a3 b3 4 24
  have h3 := pflag_length a4 b4 7 27
  have h4 := pcol_length a0 b0 30
  have h5 := pcol_length a1 b1 40
  simp only [List.length_append]; omega
theorem paramsv_length (a0 a1 : Int) (a2 a3 a4 : Bool) (b0 b1 : Int) (b2 b3 b4 : Bool) : (paramsv a0 a1 a2 a3 a4 b0 b1 b2 b3 b4).length ≤ 5 := by
  unfold paramsv
  have := pdiff_length a0 a1 a2 a3 a4 b0 b1 b2 b3 b4
  split
  · split
    · simp
    · split
      · simp
      · exact this
  · simp
theorem spec_l3_j0 (b : Bool) (a0 a1 : Int) (a2 a3 a4 : Bool) (b0 b1 : Int) (b2 b3 b4 : Bool) (h : sokv b0 b1 = true) : Ev (fun k => spec_l3Params.j0 k [] b a0 a1 a2 a3 a4 b0 b1 b2 b3 b4) (if b = true then [0] else pdiff a0 a1 a2 a3 a4 b0 b1 b2 b3 b4) := by
  refine ev_succ ?_
  simp only [spec_l3Params.j0, spec_l3Flag_eq, Option.bind_some]
  cases b with
  | true => exact ev_pos rfl (Ev.now _)
  | false =>
    refine ev_neg (by simp) (ev_eq (r := pdiff a0 a1 a2 a3 a4 b0 b1 b2 b3 b4) ?_ (by simp))
    unfold pdiff
    by_cases q : (a2 != b2) = true
    · rw [pflag_t q]; exact ev_pos q (ev_pos (by simp) (spec_l3_j1 _ _ _ _ _ _ _ _ _ _ _ (by simp) h))
    · rw [pflag_f q]; exact ev_neg q (spec_l3_j1 _ _ _ _ _ _ _ _ _ _ _ (by simp) h)
theorem spec_l3Params_ev (a0 a1 : Int) (a2 a3 a4 : Bool) (b0 b1 : Int) (b2 b3 b4 : Bool) (h : sokv b0 b1 = true) :
    Ev (fun k => spec_l3Params.f k a0 a1 a2 a3 a4 b0 b1 b2 b3 b4) (if isSame a0 a1 a2 a3 a4 b0 b1 b2 b3 b4 = true then [] else if isZero b0 b1 b2 b3 b4 = true then [0] else pdiff a0 a1 a2 a3 a4 b0 b1 b2 b3 b4) := by
  unfold spec_l3Params.f
  refine ev_bind_some ?_
  have z := isZero_iff b0 b1 b2 b3 b4
  have s := isSame_iff a0 a1 a2 a3 a4 b0 b1 b2 b3 b4
  by_cases hz : isZero b0 b1 b2 b3 b4 = true
  · refine ev_pos hz ?_
    rw [isZero_not]
    refine ev_eq (spec_l3_j0 _ a0 a1 a2 a3 a4 b0 b1 b2 b3 b4 h) ?_
    rw [if_pos hz]
    obtain ⟨z0, z1, z2, z3, z4⟩ := z.mp hz
    by_cases hs : isSame a0 a1 a2 a3 a4 b0 b1 b2 b3 b4 = true
    · obtain ⟨s0, s1, s2, s3, s4⟩ := s.mp hs
      have : isZero a0 a1 a2 a3 a4 = true := by rw [s0, s1, s2, s3, s4]; exact hz
      rw [if_pos hs, this, if_neg (by simp), s0, s1, s2, s3, s4]; exact pdiff_same
    · have : isZero a0 a1 a2 a3 a4 = false := by
        rw [Bool.eq_false_iff]
        intro x
        obtain ⟨x0, x1, x2, x3, x4⟩ := (isZero_iff _ _ _ _ _).mp x
        exact hs (s.mpr ⟨by rw [x0, z0], by rw [x1, z1], by rw [x2, z2], by rw [x3, z3], by rw [x4, z4]⟩)
      rw [if_neg hs, this]; rfl
  · refine ev_neg hz ?_
    refine ev_eq (spec_l3_j0 false a0 a1 a2 a3 a4 b0 b1 b2 b3 b4 h) ?_
    rw [if_neg hz, if_neg (by simp)]
    by_cases hs : isSame a0 a1 a2 a3 a4 b0 b1 b2 b3 b4 = true
    · obtain ⟨s0, s1, s2, s3, s4⟩ := s.mp hs
      rw [if_pos hs, s0, s1, s2, s3, s4]; exact pdiff_same
    · rw [if_neg hs]
theorem impl_Params_ev (a0 a1 : Int) (a2 a3 a4 : Bool) (b0 b1 : Int) (b2 b3 b4 : Bool) : Ev (fun k => impl_Params.f k a0 a1 a2 a3 a4 b0 b1 b2 b3 b4) (paramsv a0 a1 a2 a3 a4 b0 b1 b2 b3 b4) := by
  have jt : Ev (fun k => impl_Params.j0 k [] true a0 a1 a2 a3 a4 b0 b1 b2 b3 b4) [] := by
    refine ev_succ ?_
    simp only [impl_Params.j0]
    exact ev_pos (by trivial) (Ev.now _)
  unfold impl_Params.f paramsv
  refine ev_bind_some (ev_bind_of (impl_StyleOk_eq _ _ _ _ _) ?_)
  cases ha : sokv a0 a1 with
  | false => exact ev_neg (by simp) (ev_eq jt (by simp))
  | true =>
    refine ev_pos rfl (ev_bind_of (impl_StyleOk_eq _ _ _ _ _) ?_)
    cases hb : sokv b0 b1 with
    | false => exact ev_neg (by simp) (ev_eq jt (by simp))
    | true =>
      refine ev_pos rfl ?_
      show Ev (fun k => impl_Params.j0 k [] (isSame a0 a1 a2 a3 a4 b0 b1 b2 b3 b4) a0 a1 a2 a3 a4 b0 b1 b2 b3 b4) _
      cases hs : isSame a0 a1 a2 a3 a4 b0 b1 b2 b3 b4 with
      | true => exact ev_eq jt (by simp)
      | false =>
        refine ev_eq (r := if isZero b0 b1 b2 b3 b4 = true then [0] else pdiff a0 a1 a2 a3 a4 b0 b1 b2 b3 b4) (ev_succ ?_) (by simp)
        simp only [impl_Params.j0, impl_paramOf_eq, Option.bind_some]
        refine ev_neg (by simp) ?_
        by_cases hz : isZero b0 b1 b2 b3 b4 = true
        · exact ev_pos hz (ev_pos (by simp) (ev_eq (Ev.now _) (if_pos hz).symm))
        · refine ev_neg hz (ev_eq (r := pdiff a0 a1 a2 a3 a4 b0 b1 b2 b3 b4) ?_ (if_neg hz).symm)
          unfold pdiff
          by_cases q : (a2 != b2) = true
          · rw [pflag_t q]; exact ev_pos q (ev_pos (by simp) (impl_p_j1 _ _ _ _ _ _ _ _ _ _ _ (by simp) hb))
          · rw [pflag_f q]; exact ev_neg q (impl_p_j1 _ _ _ _ _ _ _ _ _ _ _ (by simp) hb)

theorem strs_nil (s : ByteArray) : s.toList = [] ↔ s.size = 0 := by
  rw [Lib.toList_data]
  constructor
  · intro h
    have := congrArg List.length h
    simpa using this
  · intro h
    exact List.eq_nil_of_length_eq_zero (by simpa using h)
theorem ba_ext {a b : ByteArray} (h : a.data.toList = b.data.toList) : a = b := ByteArray.ext (Array.toList_inj.mp h)
theorem ba_append (a b : ByteArray) : (a ++ b).data.toList = a.data.toList ++ b.data.toList := by rw [ByteArray.data_append, Array.toList_append]
theorem ba_size (a : ByteArray) : a.size = a.data.toList.length := by rw [Array.length_toList]; rfl
/-- A number's decimal digits. -/
def dig (n : Int) : List UInt8 := Lib.decDigits n.toNat
theorem dig_length (n : Int) (h0 : 0 ≤ n) (h1 : n < 100) : (dig n).length ≤ 2 := by
  unfold dig
  by_cases h : n.toNat < 10
  · rw [Lib.decDigits_one h]; simp
  · rw [Lib.decDigits_two h (by omega)]; simp
theorem l3Int_end (s : ByteArray) (hs : s.size ≠ 0) : Ev (fun k => spec_l3Int.l0 k 0 s false) s := by
  refine ev_succ ?_
  simp only [spec_l3Int.l0]
  refine ev_neg (fun x => hs ((strs_nil s).mp x)) (ev_succ ?_)
  simp only [spec_l3Int.j1]
  exact ev_neg (by simp) (ev_neg (by simp) (Ev.now _))
theorem l3Int_step (n : Nat) (s : ByteArray) (c : Bool) (hc : c = true) (hn : n < 100) (hs : s.size ≤ 100) {v : ByteArray} (h : Ev (fun k => spec_l3Int.l0 k ((n / 10 : Nat) : Int) (strOfNums [((48 + n % 10 : Nat) : Int)] ++ s) false) v) :
    Ev (fun k => spec_l3Int.j1 k (n : Int) s false c) v := by
  have hm : ∀ _ : Unit, Int.tmod (n : Int) 10 = ((n % 10 : Nat) : Int) := fun _ => by rw [Int.tmod_eq_emod_of_nonneg (by omega)]; omega
  have hd : ∀ _ : Unit, wrap64 (Int.tdiv (n : Int) 10) = ((n / 10 : Nat) : Int) := fun _ => by rw [Int.tdiv_eq_ediv_of_nonneg (by omega), w64 (by omega) (by omega)]; omega
  have hw : ∀ _ : Unit, wrap64 (48 + ((n % 10 : Nat) : Int)) % 256 = ((48 + n % 10 : Nat) : Int) := fun _ => by rw [w64 (by omega) (by omega)]; omega
  refine ev_succ ?_
  simp only [spec_l3Int.j1, hm (), hd (), hw ()]
  refine ev_pos hc (ev_neg (by omega) (ev_bind_some (ev_pos ?_ h)))
  rw [strOfNums_size]; simp only [List.length_cons, List.length_nil]; omega
theorem spec_l3Int_ev (n : Int) (h0 : 0 ≤ n) (h1 : n < 100) : Ev (fun k => spec_l3Int.f k n) ⟨(dig n).toArray⟩ := by
  obtain ⟨m, rfl⟩ : ∃ m : Nat, n = (m : Int) := ⟨n.toNat, by omega⟩
  unfold spec_l3Int.f
  rw [decide_eq_false (by omega)]
  refine ev_succ ?_
  simp only [spec_l3Int.l0]
  refine ev_pos (by rw [Lib.toList_data]) (l3Int_step m _ true rfl (by omega) (by decide) ?_)
  have z1 : ∀ (x : Int) (s : ByteArray), (strOfNums [x] ++ s).size ≠ 0 := fun x s => by rw [ByteArray.size_append, strOfNums_size]; simp only [List.length_cons, List.length_nil]; omega
  by_cases h : m < 10
  · rw [show m / 10 = 0 by omega]
    refine ev_eq (l3Int_end _ (z1 _ _)) (ba_ext ?_)
    rw [ba_append, strOfNums_data]
    unfold dig
    rw [Int.toNat_natCast, Lib.decDigits_one h, show m % 10 = m by omega]
    rfl
  · refine ev_succ ?_
    simp only [spec_l3Int.l0]
    refine ev_neg (fun x => z1 _ _ ((strs_nil _).mp x)) (l3Int_step (m / 10) _ _ (by simp; omega) (by omega) (by rw [ByteArray.size_append, strOfNums_size, show (⟨#[]⟩ : ByteArray).size = 0 from rfl]; simp) ?_)
    rw [show m / 10 / 10 = 0 by omega]
    refine ev_eq (l3Int_end _ (z1 _ _)) (ba_ext ?_)
    rw [ba_append, ba_append, strOfNums_data, strOfNums_data]
    unfold dig
    rw [Int.toNat_natCast, Lib.decDigits_two h (by omega), show m / 10 % 10 = m / 10 by omega]
    rfl
theorem impl_decimal_eq (n : Int) (h0 : 0 ≤ n) (h1 : n < 100) : impl_decimal.f n = some ⟨(dig n).toArray⟩ := by
  unfold impl_decimal.f strconv_FormatInt_64.f
  rw [if_pos ⟨⟨h0, h1⟩, rfl⟩]; rfl
/-- The numbers, a semicolon between two. -/
def joined (l : List Int) : List UInt8 := Lib.join (l.map dig) [59]
theorem joined_nil : joined [] = [] := rfl
theorem joined_one (x : Int) : joined [x] = dig x := Lib.join_one _ _
theorem joined_more (l : List Int) (x : Int) (h : l ≠ []) : joined (l ++ [x]) = joined l ++ 59 :: dig x := by
  cases l with
  | nil => exact absurd rfl h
  | cons a l =>
    unfold joined
    rw [List.cons_append, List.map_cons, List.map_cons, Lib.join_cons, Lib.join_cons, List.map_append]
    simp [Lib.joinTail]
theorem joined_length : ∀ (l : List Int), (∀ x ∈ l, 0 ≤ x ∧ x < 100) → (joined l).length ≤ 3 * l.length := by
  intro l h
  unfold joined
  cases l with
  | nil => simp [Lib.join_nil]
  | cons a l =>
    rw [List.map_cons, Lib.join_cons, List.length_append]
    have ha := dig_length a (h a (by simp)).1 (h a (by simp)).2
    have : ∀ l : List Int, (∀ x ∈ l, 0 ≤ x ∧ x < 100) → (Lib.joinTail [59] (l.map dig)).length ≤ 3 * l.length := by
      intro l
      induction l with
      | nil => intro _; simp [Lib.joinTail]
      | cons b l ih =>
        intro hb
        have h1 := dig_length b (hb b (by simp)).1 (hb b (by simp)).2
        have h2 := ih (fun x hx => hb x (by simp [hx]))
        simp only [Lib.joinTail, List.map_cons, List.flatten_cons, List.length_append, List.length_cons, List.length_nil] at h2 ⊢
        omega
    have := this l (fun x hx => h x (by simp [hx]))
    simp only [List.length_cons]; omega
theorem params_range (a0 a1 : Int) (a2 a3 a4 : Bool) (b0 b1 : Int) (b2 b3 b4 : Bool) (h : sokv b0 b1 = true) : ∀ x ∈ (if isSame a0 a1 a2 a3 a4 b0 b1 b2 b3 b4 = true then [] else if isZero b0 b1 b2 b3 b4 = true then [0] else pdiff a0 a1 a2 a3 a4 b0 b1 b2 b3 b4), 0 ≤ x ∧ x < 100 := by
  have hr := sokv_range h
  have hf : ∀ (x y : Bool) (on off : Int), 0 ≤ on ∧ on < 100 → 0 ≤ off ∧ off < 100 → ∀ z ∈ pflag x y on off, 0 ≤ z ∧ z < 100 := by
    intro x y on off h1 h2 z hz
    unfold pflag at hz
    split at hz
    · rw [List.mem_singleton] at hz
      subst hz
      split
      · exact h1
      · exact h2
    · simp at hz
  have hc : ∀ (x y first : Int), 0 ≤ y ∧ y ≤ 8 → 1 ≤ first ∧ first ≤ 50 → ∀ z ∈ pcol x y first, 0 ≤ z ∧ z < 100 := by
    intro x y first h1 h2 z hz
    unfold pcol at hz
    split at hz
    · simp at hz
    · rw [List.mem_singleton] at hz
      subst hz
      split <;> omega
  intro x hx
  split at hx
  · simp at hx
  · split at hx
    · simp at hx; omega
    · unfold pdiff at hx
      simp only [List.mem_append] at hx
      rcases hx with ((((hx | hx) | hx) | hx) | hx)
      · exact hf _ _ _ _ (by omega) (by omega) _ hx
      · exact hf _ _ _ _ (by omega) (by omega) _ hx
      · exact hf _ _ _ _ (by omega) (by omega) _ hx
      · exact hc _ _ _ (by omega) (by omega) _ hx
      · exact hc _ _ _ (by omega) (by omega) _ hx
/-- What is sent for these params. -/
def signv (l : List Int) : ByteArray := if l.length = 0 then ⟨#[]⟩ else ⟨([27, 91] ++ joined l ++ [109]).toArray⟩
theorem rd_mem (l : List Int) (i : Nat) (h : i < l.length) : rd l (i : Int) = l[i] := rd_at h
theorem spec_sign_loop (l : List Int) (hl : l.length ≤ 10) (hr : ∀ x ∈ l, 0 ≤ x ∧ x < 100) (h0 : l.length ≠ 0) : ∀ (d i : Nat), i + d = l.length →
    Ev (fun k => spec_l3Sign.l0 k l ⟨([27, 91] ++ joined (l.take i)).toArray⟩ (i : Int)) (signv l) := by
  have hsz : ∀ i, i ≤ l.length → (⟨([27, 91] ++ joined (l.take i)).toArray⟩ : ByteArray).size ≤ 2 + 3 * i := by
    intro i hi
    rw [ba_size]
    have := joined_length (l.take i) (fun x hx => hr x (List.mem_of_mem_take hx))
    rw [List.length_take] at this
    simp only [List.length_append, List.length_cons, List.length_nil]; omega
  intro d
  induction d with
  | zero =>
    intro i hi
    have hs := hsz i (by omega)
    refine ev_succ ?_
    simp only [spec_l3Sign.l0]
    refine ev_neg (by omega) (ev_pos (by omega) (ev_eq (Ev.now _) ?_))
    unfold signv
    rw [if_neg h0, List.take_of_length_le (by omega)]
    refine ba_ext ?_
    rw [ba_append]
  | succ d ih =>
    intro i hi
    have hi' : i < l.length := by omega
    have hs := hsz i (by omega)
    have hx := hr l[i] (List.getElem_mem hi')
    have hd := dig_length l[i] hx.1 hx.2
    have hds : (⟨(dig l[i]).toArray⟩ : ByteArray).size = (dig l[i]).length := by rw [ba_size]
    have ht : l.take (i + 1) = l.take i ++ [l[i]] := List.take_succ_eq_append_getElem hi'
    have hw : ∀ _ : Unit, wrap64 ((i : Int) + 1) = ((i + 1 : Nat) : Int) := fun _ => by rw [w64 (by omega) (by omega)]; omega
    have e := ih (i + 1) (by omega)
    refine ev_succ ?_
    simp only [spec_l3Sign.l0, hw (), rd_mem l i hi']
    refine ev_pos (by omega) ?_
    by_cases hi0 : i = 0
    · subst hi0
      refine ev_neg (by omega) (ev_pos (by omega) (Ev.bind (spec_l3Int_ev _ hx.1 hx.2) (ev_pos (by omega) ?_)))
      have : (⟨([27, 91] ++ joined (l.take 0)).toArray⟩ : ByteArray) ++ ⟨(dig l[0]).toArray⟩ = ⟨([27, 91] ++ joined (l.take (0 + 1))).toArray⟩ := by
        refine ba_ext ?_
        rw [ba_append, ht, List.take_zero, List.nil_append, joined_one, joined_nil]
        simp
      rw [this]; exact e
    · refine ev_pos (by omega) (ev_pos (by omega) (ev_pos (by omega) (Ev.bind (spec_l3Int_ev _ hx.1 hx.2) (ev_pos ?_ ?_))))
      · rw [ByteArray.size_append, show (⟨#[59]⟩ : ByteArray).size = 1 from rfl]; omega
      · have hne : l.take i ≠ [] := fun x => by have := congrArg List.length x; rw [List.length_take, List.length_nil] at this; omega
        have : ((⟨([27, 91] ++ joined (l.take i)).toArray⟩ : ByteArray) ++ (⟨#[59]⟩ : ByteArray)) ++ ⟨(dig l[i]).toArray⟩ = ⟨([27, 91] ++ joined (l.take (i + 1))).toArray⟩ := by
          refine ba_ext ?_
          rw [ba_append, ba_append, ht, joined_more _ _ hne]
          simp
        rw [this]; exact e
theorem impl_seq_loop (l : List Int) (hl : l.length ≤ 10) (hr : ∀ x ∈ l, 0 ≤ x ∧ x < 100) : ∀ (d i : Nat), i + d = l.length →
    Ev (fun k => impl_sequence.l0 k ((l.take i).map fun x => (⟨(dig x).toArray⟩ : ByteArray)) l (l.length : Int) (i : Int)) ⟨([27, 91] ++ joined l).toArray⟩ := by
  intro d
  induction d with
  | zero =>
    intro i hi
    have hj := joined_length l hr
    have hm : ((l.map fun x => (⟨(dig x).toArray⟩ : ByteArray)).map fun x => x.data.toList) = l.map dig := by rw [List.map_map]; rfl
    have hmm : Lib.join ((l.map fun x => (⟨(dig x).toArray⟩ : ByteArray)).map fun x => x.data.toList) (⟨#[59]⟩ : ByteArray).data.toList = joined l := by rw [hm]; rfl
    refine ev_succ ?_
    simp only [impl_sequence.l0]
    rw [List.take_of_length_le (by omega)]
    refine ev_neg (by omega) (ev_bind_of (a := ⟨(joined l).toArray⟩) ?_ (ev_pos ?_ (ev_eq (Ev.now _) (ba_ext ?_))))
    · unfold strings_Join.f
      rw [hmm, if_pos ⟨by rw [List.length_map]; omega, by omega⟩]
    · have e : (⟨(joined l).toArray⟩ : ByteArray).size = (joined l).length := ba_size _
      omega
    · rw [ba_append]
  | succ d ih =>
    intro i hi
    have hi' : i < l.length := by omega
    have hx := hr l[i] (List.getElem_mem hi')
    have ht : l.take (i + 1) = l.take i ++ [l[i]] := List.take_succ_eq_append_getElem hi'
    have hw : ∀ _ : Unit, wrap64 ((i : Int) + 1) = ((i + 1 : Nat) : Int) := fun _ => by rw [w64 (by omega) (by omega)]; omega
    have e := ih (i + 1) (by omega)
    rw [ht, List.map_append] at e
    refine ev_succ ?_
    simp only [impl_sequence.l0, hw (), rd_mem l i hi']
    exact ev_pos (by omega) (ev_pos (by omega) (ev_pos (by omega) (ev_bind_of (impl_decimal_eq _ hx.1 hx.2) (ev_pos (by rw [List.length_map, List.length_take]; omega) e))))
theorem spec_Sign_ev (a0 a1 : Int) (a2 a3 a4 : Bool) (b0 b1 : Int) (b2 b3 b4 : Bool) : Ev (fun k => spec_Sign.f k a0 a1 a2 a3 a4 b0 b1 b2 b3 b4) (signv (paramsv a0 a1 a2 a3 a4 b0 b1 b2 b3 b4)) := by
  unfold spec_Sign.f paramsv
  rw [spec_StyleOk_eq, spec_StyleOk_eq]
  by_cases ha : sokv a0 a1 = true
  · refine ev_bind_some (ev_pos ha ?_)
    by_cases hb : sokv b0 b1 = true
    · rw [if_pos (by rw [ha, hb]; rfl)]
      refine ev_bind_some (ev_pos hb (Ev.bind ?_ (Ev.now _)))
      have hp := spec_l3Params_ev a0 a1 a2 a3 a4 b0 b1 b2 b3 b4 hb
      have hr := params_range a0 a1 a2 a3 a4 b0 b1 b2 b3 b4 hb
      have hl := paramsv_length a0 a1 a2 a3 a4 b0 b1 b2 b3 b4
      unfold paramsv at hl
      rw [if_pos (by rw [ha, hb]; rfl)] at hl
      generalize (if isSame a0 a1 a2 a3 a4 b0 b1 b2 b3 b4 = true then [] else if isZero b0 b1 b2 b3 b4 = true then [0] else pdiff a0 a1 a2 a3 a4 b0 b1 b2 b3 b4) = l at hp hr hl
      unfold spec_l3Sign.f
      refine Ev.bind hp ?_
      by_cases h0 : l.length = 0
      · exact ev_pos (by omega) (ev_eq (Ev.now _) (by unfold signv; rw [if_pos h0]))
      · exact ev_neg (by omega) (spec_sign_loop l (by omega) hr h0 l.length 0 (by omega))
    · rw [if_neg (by rw [Bool.eq_false_iff.mpr hb, Bool.and_false]; simp)]
      exact ev_bind_some (ev_neg hb (Ev.now _))
  · rw [if_neg (by rw [Bool.eq_false_iff.mpr ha]; simp)]
    exact ev_bind_some (ev_neg ha (Ev.now _))
theorem impl_Sign_ev (a0 a1 : Int) (a2 a3 a4 : Bool) (b0 b1 : Int) (b2 b3 b4 : Bool) : Ev (fun k => impl_Sign.f k a0 a1 a2 a3 a4 b0 b1 b2 b3 b4) (signv (paramsv a0 a1 a2 a3 a4 b0 b1 b2 b3 b4)) := by
  unfold impl_Sign.f
  have hp := impl_Params_ev a0 a1 a2 a3 a4 b0 b1 b2 b3 b4
  have hl := paramsv_length a0 a1 a2 a3 a4 b0 b1 b2 b3 b4
  have hr : ∀ x ∈ paramsv a0 a1 a2 a3 a4 b0 b1 b2 b3 b4, 0 ≤ x ∧ x < 100 := by
    unfold paramsv
    by_cases hb : (sokv a0 a1 && sokv b0 b1) = true
    · rw [if_pos hb]
      rw [Bool.and_eq_true] at hb
      exact params_range a0 a1 a2 a3 a4 b0 b1 b2 b3 b4 hb.2
    · rw [if_neg hb]; simp
  generalize paramsv a0 a1 a2 a3 a4 b0 b1 b2 b3 b4 = l at hp hr hl
  refine Ev.bind hp ?_
  by_cases h0 : l.length = 0
  · exact ev_pos (by omega) (ev_eq (Ev.now _) (by unfold signv; rw [if_pos h0]))
  · have hj := joined_length l hr
    refine ev_neg (by omega) (Ev.bind (impl_seq_loop l (by omega) hr l.length 0 (by omega)) (ev_pos ?_ (ev_eq (Ev.now _) ?_)))
    · have e : (⟨([27, 91] ++ joined l).toArray⟩ : ByteArray).size = 2 + (joined l).length := by rw [ba_size]; simp only [List.length_append, List.length_cons, List.length_nil]
      rw [e]; omega
    · unfold signv
      rw [if_neg h0]
      refine ba_ext ?_
      rw [ba_append]

theorem spec_Params_ev (a0 a1 : Int) (a2 a3 a4 : Bool) (b0 b1 : Int) (b2 b3 b4 : Bool) : Ev (fun k => spec_Params.f k a0 a1 a2 a3 a4 b0 b1 b2 b3 b4) (paramsv a0 a1 a2 a3 a4 b0 b1 b2 b3 b4) := by
  unfold spec_Params.f paramsv
  refine ev_bind_of (spec_StyleOk_eq _ _ _ _ _) ?_
  cases ha : sokv a0 a1 with
  | false => exact ev_neg (by simp) (ev_eq (Ev.now _) (by simp))
  | true =>
    refine ev_pos rfl (ev_bind_of (spec_StyleOk_eq _ _ _ _ _) ?_)
    cases hb : sokv b0 b1 with
    | false => exact ev_neg (by simp) (ev_eq (Ev.now _) (by simp))
    | true => exact ev_pos rfl (Ev.bind (spec_l3Params_ev a0 a1 a2 a3 a4 b0 b1 b2 b3 b4 hb) (ev_eq (Ev.now _) (by simp)))

abbrev StyT := Int × Int × Bool × Bool × Bool
/-- A style changed by a param. -/
def setv (s : StyT) (n : Int) : StyT :=
  if n = 0 then (0, 0, false, false, false)
  else if n = 1 ∨ n = 22 then (s.1, s.2.1, n == 1, s.2.2.2.1, s.2.2.2.2)
  else if n = 4 ∨ n = 24 then (s.1, s.2.1, s.2.2.1, n == 4, s.2.2.2.2)
  else if n = 7 ∨ n = 27 then (s.1, s.2.1, s.2.2.1, s.2.2.2.1, n == 7)
  else if 30 ≤ n ∧ n ≤ 37 then (n - 29, s.2)
  else if n = 39 then (0, s.2)
  else if 40 ≤ n ∧ n ≤ 47 then (s.1, n - 39, s.2.2)
  else if n = 49 then (s.1, 0, s.2.2)
  else s
theorem set_ev (a b : Int) (c d e : Bool) (n : Int) : Ev (fun k => impl_Style_set.f k a b c d e n) (setv (a, b, c, d, e) n) := by
  have hin : ∀ x y : Int, (decide (x ≤ n) && decide (n ≤ y)) = true ↔ x ≤ n ∧ n ≤ y := fun x y => by rw [Bool.and_eq_true, decide_eq_true_eq, decide_eq_true_eq]
  have h2 : ∀ q : Bool, (q = true ↔ (n = 7 ∨ n = 27)) → ¬ n = 0 → ¬ (n = 1 ∨ n = 22) → ¬ (n = 4 ∨ n = 24) → Ev (fun k => impl_Style_set.j2 k n q a b c d e) (setv (a, b, c, d, e) n) := by
    intro q hq h0 h1 h4
    refine ev_succ ?_
    simp only [impl_Style_set.j2, impl_in_eq, Option.bind_some]
    by_cases c7 : n = 7 ∨ n = 27
    · exact ev_pos (hq.mpr c7) (ev_eq (Ev.now _) (by unfold setv; rw [if_neg h0, if_neg h1, if_neg h4, if_pos c7]))
    refine ev_neg (fun x => c7 (hq.mp x)) ?_
    by_cases c30 : 30 ≤ n ∧ n ≤ 37
    · exact ev_pos ((hin 30 37).mpr c30) (ev_eq (Ev.now _) (by unfold setv; rw [if_neg h0, if_neg h1, if_neg h4, if_neg c7, if_pos c30, w64 (by omega) (by omega)]))
    refine ev_neg (fun x => c30 ((hin 30 37).mp x)) ?_
    by_cases c39 : n = 39
    · exact ev_pos c39 (ev_eq (Ev.now _) (by unfold setv; rw [if_neg h0, if_neg h1, if_neg h4, if_neg c7, if_neg c30, if_pos c39]))
    refine ev_neg c39 ?_
    by_cases c40 : 40 ≤ n ∧ n ≤ 47
    · exact ev_pos ((hin 40 47).mpr c40) (ev_eq (Ev.now _) (by unfold setv; rw [if_neg h0, if_neg h1, if_neg h4, if_neg c7, if_neg c30, if_neg c39, if_pos c40, w64 (by omega) (by omega)]))
    refine ev_neg (fun x => c40 ((hin 40 47).mp x)) ?_
    by_cases c49 : n = 49
    · exact ev_pos c49 (ev_eq (Ev.now _) (by unfold setv; rw [if_neg h0, if_neg h1, if_neg h4, if_neg c7, if_neg c30, if_neg c39, if_neg c40, if_pos c49]))
    · exact ev_neg c49 (ev_eq (Ev.now _) (by unfold setv; rw [if_neg h0, if_neg h1, if_neg h4, if_neg c7, if_neg c30, if_neg c39, if_neg c40, if_neg c49]))
  have h1 : ∀ q : Bool, (q = true ↔ (n = 4 ∨ n = 24)) → ¬ n = 0 → ¬ (n = 1 ∨ n = 22) → Ev (fun k => impl_Style_set.j1 k n q a b c d e) (setv (a, b, c, d, e) n) := by
    intro q hq h0 h1
    refine ev_succ ?_
    simp only [impl_Style_set.j1]
    by_cases c4 : n = 4 ∨ n = 24
    · refine ev_pos (hq.mpr c4) (ev_eq (Ev.now _) ?_)
      unfold setv
      rw [if_neg h0, if_neg h1, if_pos c4]
    refine ev_neg (fun x => c4 (hq.mp x)) ?_
    by_cases c7 : n = 7
    · exact ev_pos c7 (h2 true ⟨fun _ => .inl c7, fun _ => rfl⟩ h0 h1 c4)
    · exact ev_neg c7 (h2 _ ⟨fun x => .inr (beq_iff_eq.mp x), fun x => beq_iff_eq.mpr (by omega)⟩ h0 h1 c4)
  have h0' : ∀ q : Bool, (q = true ↔ (n = 1 ∨ n = 22)) → ¬ n = 0 → Ev (fun k => impl_Style_set.j0 k n q a b c d e) (setv (a, b, c, d, e) n) := by
    intro q hq h0
    refine ev_succ ?_
    simp only [impl_Style_set.j0]
    by_cases c1 : n = 1 ∨ n = 22
    · refine ev_pos (hq.mpr c1) (ev_eq (Ev.now _) ?_)
      unfold setv
      rw [if_neg h0, if_pos c1]
    refine ev_neg (fun x => c1 (hq.mp x)) ?_
    by_cases c4 : n = 4
    · exact ev_pos c4 (h1 true ⟨fun _ => .inl c4, fun _ => rfl⟩ h0 c1)
    · exact ev_neg c4 (h1 _ ⟨fun x => .inr (beq_iff_eq.mp x), fun x => beq_iff_eq.mpr (by omega)⟩ h0 c1)
  unfold impl_Style_set.f
  by_cases c0 : n = 0
  · refine ev_pos c0 (ev_eq (Ev.now _) ?_)
    unfold setv
    rw [if_pos c0]
  refine ev_neg c0 ?_
  by_cases c1 : n = 1
  · exact ev_pos c1 (h0' true ⟨fun _ => .inl c1, fun _ => rfl⟩ c0)
  · exact ev_neg c1 (h0' _ ⟨fun x => .inr (beq_iff_eq.mp x), fun x => beq_iff_eq.mpr (by omega)⟩ c0)
theorem set_eq (k : Nat) (a b : Int) (c d e : Bool) (n : Int) : spec_l3Param.f k a b c d e n = impl_Style_set.f k a b c d e n := by
  have h2 : ∀ k n q a b c d e, spec_l3Param.j2 k n q a b c d e = impl_Style_set.j2 k n q a b c d e := by
    intro k n q a b c d e
    cases k <;> simp only [spec_l3Param.j2, impl_Style_set.j2, spec_l1In_eq, impl_in_eq]
  have h1 : ∀ k n q a b c d e, spec_l3Param.j1 k n q a b c d e = impl_Style_set.j1 k n q a b c d e := by
    intro k n q a b c d e
    cases k <;> simp only [spec_l3Param.j1, impl_Style_set.j1, h2]
  have h0 : ∀ k n q a b c d e, spec_l3Param.j0 k n q a b c d e = impl_Style_set.j0 k n q a b c d e := by
    intro k n q a b c d e
    cases k <;> simp only [spec_l3Param.j0, impl_Style_set.j0, h1]
  simp only [spec_l3Param.f, impl_Style_set.f, h0]
theorem impl_Styled_go : ∀ (l : List Int) (s : StyT), Ev (fun k => impl_Styled.l0 k l s.1 s.2.1 s.2.2.1 s.2.2.2.1 s.2.2.2.2) (l.foldl setv s)
  | [], s => by
    obtain ⟨a, b, c, d, e⟩ := s
    exact Ev.now _
  | n :: l, s => by
    obtain ⟨a, b, c, d, e⟩ := s
    rw [List.foldl_cons]
    exact Ev.bind (set_ev a b c d e n) (impl_Styled_go l (setv (a, b, c, d, e) n))
theorem spec_Styled_go (m : List Int) (hm : m.length ≤ 16) : ∀ (l : List Int) (i : Nat) (s : StyT), m.drop i = l → i + l.length = m.length →
    Ev (fun k => spec_l3Styled.l0 k m (i : Int) s.1 s.2.1 s.2.2.1 s.2.2.2.1 s.2.2.2.2) (l.foldl setv s)
  | [], i, s, h, hi => by
    obtain ⟨a, b, c, d, e⟩ := s
    refine ev_succ ?_
    simp only [spec_l3Styled.l0]
    simp only [List.length_nil] at hi
    exact ev_neg (by omega) (Ev.now _)
  | n :: l, i, s, h, hi => by
    obtain ⟨a, b, c, d, e⟩ := s
    simp only [List.length_cons] at hi
    have hlt : i < m.length := by omega
    have hn : rd m (i : Int) = n ∧ m.drop (i + 1) = l := by
      rw [List.drop_eq_getElem_cons hlt] at h
      injection h with h1 h2
      exact ⟨by rw [rd_at hlt]; exact h1, h2⟩
    have wi : ∀ _ : Unit, wrap64 ((i : Int) + 1) = ((i + 1 : Nat) : Int) := fun _ => by rw [w64 (by omega) (by omega)]; omega
    refine ev_succ ?_
    simp only [spec_l3Styled.l0, hn.1, wi (), set_eq]
    rw [List.foldl_cons]
    exact ev_pos (by omega) (ev_pos (by omega) (Ev.bind (set_ev a b c d e n) (spec_Styled_go m hm l (i + 1) (setv (a, b, c, d, e) n) hn.2 (by omega))))
def zeroS : StyT := (0, 0, false, false, false)
def styledv (a b : Int) (c d e : Bool) (l : List Int) : StyT := if sokv a b = true ∧ l.length ≤ 16 ∧ l.length ≠ 0 then l.foldl setv (a, b, c, d, e) else zeroS
theorem Styled_evs (a b : Int) (c d e : Bool) (l : List Int) : Ev (fun k => spec_Styled.f k a b c d e l) (styledv a b c d e l) ∧ Ev (fun k => impl_Styled.f k a b c d e l) (styledv a b c d e l) := by
  simp only [spec_Styled.f, impl_Styled.f, spec_StyleOk_eq, impl_StyleOk_eq, Option.bind_some, spec_l3Styled.f]
  unfold styledv
  by_cases q : sokv a b = true
  · by_cases q16 : (l.length : Int) > 16
    · rw [if_neg (by omega)]
      exact ⟨ev_pos q (ev_pos q16 (Ev.now _)), ev_pos q (ev_pos q16 (Ev.now _))⟩
    · by_cases q0 : (l.length : Int) = 0
      · rw [if_neg (by omega)]
        exact ⟨ev_pos q (ev_neg q16 (Ev.bind (ev_pos q0 (Ev.now _)) (Ev.now _))), ev_pos q (ev_neg q16 (ev_pos q0 (Ev.now _)))⟩
      · rw [if_pos ⟨q, by omega, by omega⟩]
        have er := impl_Styled_go l (a, b, c, d, e)
        have em := spec_Styled_go l (by omega) l 0 (a, b, c, d, e) rfl (by omega)
        exact ⟨ev_pos q (ev_neg q16 (Ev.bind (ev_neg q0 em) (Ev.now _))), ev_pos q (ev_neg q16 (ev_neg q0 er))⟩
  · rw [if_neg (fun x => q x.1)]
    exact ⟨ev_neg q (Ev.now _), ev_neg q (Ev.now _)⟩
theorem sokv_of {a b : Int} (h : 0 ≤ a ∧ a ≤ 8 ∧ 0 ≤ b ∧ b ≤ 8) : sokv a b = true := by
  unfold sokv
  simp only [Bool.and_eq_true, decide_eq_true_eq]
  omega
theorem setv_ok (s : StyT) (n : Int) (h : 0 ≤ s.1 ∧ s.1 ≤ 8 ∧ 0 ≤ s.2.1 ∧ s.2.1 ≤ 8) : 0 ≤ (setv s n).1 ∧ (setv s n).1 ≤ 8 ∧ 0 ≤ (setv s n).2.1 ∧ (setv s n).2.1 ≤ 8 := by
  obtain ⟨a, b, c, d, e⟩ := s
  simp only at h
  unfold setv
  by_cases h0 : n = 0
  · rw [if_pos h0]; simp only; omega
  rw [if_neg h0]
  by_cases h1 : n = 1 ∨ n = 22
  · rw [if_pos h1]; exact h
  rw [if_neg h1]
  by_cases h2 : n = 4 ∨ n = 24
  · rw [if_pos h2]; exact h
  rw [if_neg h2]
  by_cases h3 : n = 7 ∨ n = 27
  · rw [if_pos h3]; exact h
  rw [if_neg h3]
  by_cases h4 : 30 ≤ n ∧ n ≤ 37
  · rw [if_pos h4]; simp only; omega
  rw [if_neg h4]
  by_cases h5 : n = 39
  · rw [if_pos h5]; simp only; omega
  rw [if_neg h5]
  by_cases h6 : 40 ≤ n ∧ n ≤ 47
  · rw [if_pos h6]; simp only; omega
  rw [if_neg h6]
  by_cases h7 : n = 49
  · rw [if_pos h7]; simp only; omega
  rw [if_neg h7]
  exact h
theorem fold_ok : ∀ (l : List Int) (s : StyT), (0 ≤ s.1 ∧ s.1 ≤ 8 ∧ 0 ≤ s.2.1 ∧ s.2.1 ≤ 8) → 0 ≤ (l.foldl setv s).1 ∧ (l.foldl setv s).1 ≤ 8 ∧ 0 ≤ (l.foldl setv s).2.1 ∧ (l.foldl setv s).2.1 ≤ 8
  | [], _, h => h
  | n :: l, s, h => fold_ok l (setv s n) (setv_ok s n h)
theorem styledv_zero (a b : Int) (c d e : Bool) : styledv a b c d e [0] = zeroS := by
  unfold styledv
  split
  · rfl
  · rfl

theorem and255 (x : Int) : 0 ≤ Go.bits .and .i64 x 255 ∧ Go.bits .and .i64 x 255 ≤ 255 := by
  have h : ((BitVec.ofInt 64 x &&& BitVec.ofInt 64 255).toNat : Int) ≤ 255 := by
    rw [BitVec.toNat_and]
    have : (BitVec.ofInt 64 x).toNat &&& (BitVec.ofInt 64 255).toNat ≤ (BitVec.ofInt 64 255).toNat := Nat.and_le_right
    have e : (BitVec.ofInt 64 255).toNat = 255 := by decide
    omega
  have w : Go.bits .and .i64 x 255 = IntKind.i64.wrap ((BitVec.ofInt 64 x &&& BitVec.ofInt 64 255).toNat : Int) := rfl
  rw [w, IntKind.wrap_i64]
  omega
/-- A draw's byte. -/
theorem spec_l1Byte_some (b : List Int) (hb : b.length < 4611686018427387904) (i h : Int) (hi : 0 ≤ i) :
    ∃ v i' h', spec_l1Byte.f b i h = some (v, i', h') ∧ 0 ≤ v ∧ v ≤ 255 ∧ 0 ≤ i' := by
  unfold spec_l1Byte.f
  by_cases c : i < (b.length : Int)
  · rw [if_pos c, if_pos hi]
    exact ⟨_, _, _, rfl, (and255 _).1, (and255 _).2, by rw [w64 (by omega) (by omega)]; omega⟩
  · rw [if_neg c]
    exact ⟨_, _, _, rfl, (and255 _).1, (and255 _).2, hi⟩
theorem spec_l1Below_some (b : List Int) (hb : b.length < 4611686018427387904) (i h n : Int) (hi : 0 ≤ i) (hn : n < 4611686018427387904) :
    ∃ v i' h', spec_l1Below.f b i h n = some (v, i', h') ∧ 0 ≤ v ∧ (v < n ∨ (n ≤ 0 ∧ v = 0)) ∧ 0 ≤ i' := by
  unfold spec_l1Below.f
  by_cases c : n ≤ 0
  · rw [if_pos c]; exact ⟨0, i, h, rfl, by omega, .inr ⟨c, rfl⟩, hi⟩
  · rw [if_neg c]
    by_cases c2 : n ≤ 256
    · rw [if_pos c2]
      obtain ⟨v, i', h', e, h0, h1, h2⟩ := spec_l1Byte_some b hb i h hi
      rw [e]
      simp only [Option.bind_some]
      rw [if_neg (by omega), Int.tmod_eq_emod_of_nonneg h0]
      exact ⟨_, _, _, rfl, Int.emod_nonneg _ (by omega), .inl (Int.emod_lt_of_pos _ (by omega)), h2⟩
    · rw [if_neg c2]
      obtain ⟨x, i1, h1, e1, x0, x1, j1⟩ := spec_l1Byte_some b hb i h hi
      obtain ⟨y, i2, h2, e2, y0, y1, j2⟩ := spec_l1Byte_some b hb i1 h1 j1
      obtain ⟨z, i3, h3, e3, z0, z1, j3⟩ := spec_l1Byte_some b hb i2 h2 j2
      obtain ⟨u, i4, h4, e4, u0, u1, j4⟩ := spec_l1Byte_some b hb i3 h3 j3
      rw [e1]; simp only [Option.bind_some]
      rw [e2]; simp only [Option.bind_some]
      rw [e3]; simp only [Option.bind_some]
      rw [e4]; simp only [Option.bind_some]
      rw [if_neg (by omega), w64 (x := x * 16777216) (by omega) (by omega), w64 (x := y * 65536) (by omega) (by omega), w64 (x := z * 256) (by omega) (by omega), w64 (x := x * 16777216 + y * 65536) (by omega) (by omega),
        w64 (x := x * 16777216 + y * 65536 + z * 256) (by omega) (by omega), w64 (x := x * 16777216 + y * 65536 + z * 256 + u) (by omega) (by omega), Int.tmod_eq_emod_of_nonneg (by omega)]
      exact ⟨_, _, _, rfl, Int.emod_nonneg _ (by omega), .inl (Int.emod_lt_of_pos _ (by omega)), j4⟩

theorem spec_l1Once_some (b : List Int) (hb : b.length < 4611686018427387904) (i h n : Int) (hi : 0 ≤ i) (hn : n < 4611686018427387904) :
    ∃ v i' h', spec_l1Once.f b i h n = some (v, i', h') ∧ 0 ≤ i' := by
  unfold spec_l1Once.f
  obtain ⟨v, i', h', e, _, _, h2⟩ := spec_l1Below_some b hb i h n hi hn
  rw [e]
  exact ⟨_, _, _, rfl, h2⟩

theorem spec_l1New_some (l : List Int) (hl : l.length < 4611686018427387904) : ∃ h, Ev (fun k => spec_l1New.f k l) (l, 0, h) := by
  have go : ∀ (d i : Nat) (x : Int), i + d = l.length → ∃ h, Ev (fun k => spec_l1New.l0 k l x (i : Int)) (l, 0, h) := by
    intro d
    induction d with
    | zero =>
      intro i x h
      refine ⟨x, ev_succ ?_⟩
      simp only [spec_l1New.l0]
      exact ev_neg (by omega) (Ev.now _)
    | succ d ih =>
      intro i x h
      obtain ⟨h', e⟩ := ih (i + 1) (Go.bits .and .i64 (wrap64 ((wrap64 ((wrap64 (x * 137)) + (wrap64 (rd l (i : Int))))) + 11)) 1073741823) (by omega)
      refine ⟨h', ev_succ ?_⟩
      simp only [spec_l1New.l0, w64 (x := (i : Int) + 1) (by omega) (by omega)]
      exact ev_pos (by omega) (ev_pos (by omega) e)
  exact go l.length 0 _ (by omega)

theorem spec_l3Draw_some (b : List Int) (hb : b.length < 4611686018427387904) (i h : Int) (hi : 0 ≤ i) :
    ∃ a0 a1 a2 a3 a4 i' h', spec_l3Draw.f b i h = some (a0, a1, a2, a3, a4, i', h') ∧ 0 ≤ i' := by
  obtain ⟨v, i1, h1, e1, j1⟩ := spec_l1Once_some b hb i h 3 hi (by omega)
  unfold spec_l3Draw.f
  rw [e1]
  simp only [Option.bind_some]
  cases v with
  | true => rw [if_pos rfl]; exact ⟨_, _, _, _, _, _, _, rfl, j1⟩
  | false =>
    rw [if_neg (by simp)]
    obtain ⟨x, i2, h2, e2, _, _, j2⟩ := spec_l1Below_some b hb i1 h1 9 j1 (by omega)
    rw [e2]; simp only [Option.bind_some]
    obtain ⟨y, i3, h3, e3, _, _, j3⟩ := spec_l1Below_some b hb i2 h2 9 j2 (by omega)
    rw [e3]; simp only [Option.bind_some]
    obtain ⟨u, i4, h4, e4, j4⟩ := spec_l1Once_some b hb i3 h3 3 j3 (by omega)
    rw [e4]; simp only [Option.bind_some]
    obtain ⟨v, i5, h5, e5, j5⟩ := spec_l1Once_some b hb i4 h4 4 j4 (by omega)
    rw [e5]; simp only [Option.bind_some]
    obtain ⟨z, i6, h6, e6, j6⟩ := spec_l1Once_some b hb i5 h5 4 j5 (by omega)
    rw [e6]; simp only [Option.bind_some]
    exact ⟨_, _, _, _, _, _, _, rfl, j6⟩
theorem spec_l3DrawAny_some (b : List Int) (hb : b.length < 4611686018427387904) (i h : Int) (hi : 0 ≤ i) :
    ∃ a0 a1 a2 a3 a4 i' h', spec_l3DrawAny.f b i h = some (a0, a1, a2, a3, a4, i', h') ∧ 0 ≤ i' := by
  obtain ⟨a0, a1, a2, a3, a4, i1, h1, e1, j1⟩ := spec_l3Draw_some b hb i h hi
  obtain ⟨v, i2, h2, e2, j2⟩ := spec_l1Once_some b hb i1 h1 14 j1 (by omega)
  unfold spec_l3DrawAny.f
  rw [e1]; simp only [Option.bind_some]
  rw [e2]; simp only [Option.bind_some]
  cases v with
  | false => rw [if_neg (by simp)]; exact ⟨_, _, _, _, _, _, _, rfl, j2⟩
  | true =>
    rw [if_pos rfl]
    obtain ⟨x, i3, h3, e3, x0, x1, j3⟩ := spec_l1Below_some b hb i2 h2 4 j2 (by omega)
    rw [e3]; simp only [Option.bind_some]
    rw [if_pos (by omega), if_pos (by simp only [List.length_cons, List.length_nil]; omega)]
    exact ⟨_, _, _, _, _, _, _, rfl, j3⟩
theorem spec_DrawParams_some (l : List Int) (hl : l.length < 4611686018427387904) : ∃ a0 a1 a2 a3 a4 b0 b1 b2 b3 b4, Ev (fun k => spec_DrawParams.f k l) (a0, a1, a2, a3, a4, b0, b1, b2, b3, b4) := by
  obtain ⟨h, e0⟩ := spec_l1New_some l hl
  obtain ⟨a0, a1, a2, a3, a4, i1, h1, e1, j1⟩ := spec_l3DrawAny_some l hl 0 h (by omega)
  obtain ⟨b0, b1, b2, b3, b4, i2, h2, e2, j2⟩ := spec_l3DrawAny_some l hl i1 h1 j1
  unfold spec_DrawParams.f
  exact ⟨a0, a1, a2, a3, a4, b0, b1, b2, b3, b4, Ev.bind e0 (ev_bind_of e1 (ev_bind_of e2 (Ev.now _)))⟩
theorem spec_DrawStyled_some (l : List Int) (hl : l.length < 4611686018427387904) : ∃ a0 a1 a2 a3 a4 p, Ev (fun k => spec_DrawStyled.f k l) (a0, a1, a2, a3, a4, p) ∧ p.length ≤ 17 := by
  have go : ∀ (d : Nat) (x : List Int) (i h a0 a1 : Int) (a2 a3 a4 : Bool), 0 ≤ i → x.length + d ≤ 17 → ∃ p, Ev (fun k => spec_DrawStyled.l0 k x (d : Int) l i h a0 a1 a2 a3 a4) (a0, a1, a2, a3, a4, p) ∧ p.length ≤ 17 := by
    intro d
    induction d with
    | zero =>
      intro x i h a0 a1 a2 a3 a4 hi hx
      obtain ⟨v, i1, h1, e1, j1⟩ := spec_l1Once_some l hl i h 30 hi (by omega)
      cases v with
      | true =>
        obtain ⟨u, i2, h2, e2, u0, u1, j2⟩ := spec_l1Below_some l hl i1 h1 2 j1 (by omega)
        refine ⟨List.replicate (16 + u).toNat 0, ev_succ ?_, by simp; omega⟩
        simp only [spec_DrawStyled.l0, e1, Option.bind_some, e2, w64 (x := 16 + u) (by omega) (by omega)]
        exact ev_neg (by omega) (ev_pos (by trivial) (ev_pos (by omega) (ev_pos (by omega) (Ev.now _))))
      | false =>
        refine ⟨x, ev_succ ?_, by omega⟩
        simp only [spec_DrawStyled.l0, e1, Option.bind_some]
        exact ev_neg (by omega) (ev_neg (by simp) (Ev.now _))
    | succ d ih =>
      intro x i h a0 a1 a2 a3 a4 hi hx
      obtain ⟨v, i1, h1, e, v0, v1, j1⟩ := spec_l1Below_some l hl i h 17 hi (by omega)
      obtain ⟨p, e', hp⟩ := ih (x ++ [rd [0, 1, 4, 7, 22, 24, 27, 30, 37, 38, 39, 40, 47, 48, 49, (-1), 99] v]) i1 h1 a0 a1 a2 a3 a4 j1 (by simp; omega)
      refine ⟨p, ev_succ ?_, hp⟩
      simp only [spec_DrawStyled.l0, e, Option.bind_some, show (((d + 1 : Nat) : Int) - 1) = (d : Int) by omega, w64 (x := (d : Int)) (by omega) (by omega)]
      exact ev_pos (by omega) (ev_pos (by omega) (ev_pos (by simp only [List.length_cons, List.length_nil]; omega) (ev_pos (by omega) e')))
  obtain ⟨h, e0⟩ := spec_l1New_some l hl
  obtain ⟨a0, a1, a2, a3, a4, i1, h1, e1, j1⟩ := spec_l3DrawAny_some l hl 0 h (by omega)
  obtain ⟨v, i2, h2, e2, v0, v1, j2⟩ := spec_l1Below_some l hl i1 h1 6 j1 (by omega)
  obtain ⟨d, rfl⟩ : ∃ d : Nat, v = d := ⟨v.toNat, by omega⟩
  obtain ⟨p, e', hp⟩ := go d [] i2 h2 a0 a1 a2 a3 a4 j2 (by simp; omega)
  unfold spec_DrawStyled.f
  exact ⟨a0, a1, a2, a3, a4, p, Ev.bind e0 (ev_bind_of e1 (ev_bind_of e2 e')), hp⟩

theorem laws_likeInts_ev (a b : List Int) (ha : a.length < 9223372036854775807) : Ev (fun k => laws_likeInts.f k a b) (decide (a = b)) := by
  unfold laws_likeInts.f
  by_cases hl : a.length = b.length
  · refine ev_pos (by omega) ?_
    have go : ∀ (d i : Nat), i + d = a.length → a.take i = b.take i → Ev (fun k => laws_likeInts.l0 k a b (i : Int)) (decide (a = b)) := by
      intro d
      induction d with
      | zero =>
        intro i h e
        refine ev_succ ?_
        simp only [laws_likeInts.l0]
        refine ev_neg (by omega) ?_
        rw [List.take_of_length_le (by omega), List.take_of_length_le (by omega)] at e
        rw [decide_eq_true e]
        exact Ev.now _
      | succ d ih =>
        intro i h e
        refine ev_succ ?_
        simp only [laws_likeInts.l0, w64 (x := (i : Int) + 1) (by omega) (by omega)]
        refine ev_pos (by omega) (ev_pos (by omega) (ev_pos (by omega) ?_))
        by_cases c : rd a (i : Int) = rd b (i : Int)
        · refine ev_pos c (ih (i + 1) (by omega) ?_)
          rw [rd_at (by omega), rd_at (by omega)] at c
          rw [List.take_succ_eq_append_getElem (by omega), List.take_succ_eq_append_getElem (by omega), e, c]
        · refine ev_neg c ?_
          rw [decide_eq_false (fun x => c (by rw [x]))]
          exact Ev.now _
    exact go a.length 0 (by omega) rfl
  · refine ev_neg (by omega) ?_
    rw [decide_eq_false (fun x => hl (by rw [x]))]
    exact Ev.now _
theorem laws_likeInts_self (a : List Int) (ha : a.length < 9223372036854775807) : Ev (fun k => laws_likeInts.f k a a) true := ev_eq (laws_likeInts_ev a a ha) (decide_eq_true rfl)

theorem flag_done (x y : Bool) (on off : Int) (s t : StyT) (h1 : setv s on = if y = true then t else setv s on) (h0 : setv s off = if y = true then setv s off else t) (hs : x = y → s = t) : (pflag x y on off).foldl setv s = t := by
  unfold pflag
  by_cases h : (x != y) = true
  · rw [if_pos h, List.foldl_cons, List.foldl_nil]
    cases y with
    | true => rw [if_pos rfl]; rw [if_pos rfl] at h1; exact h1
    | false => rw [if_neg (by simp)]; rw [if_neg (by simp)] at h0; exact h0
  · rw [if_neg h]
    exact hs (by simpa using h)
theorem diff_done (a0 a1 : Int) (a2 a3 a4 : Bool) (b0 b1 : Int) (b2 b3 b4 : Bool) (h : 0 ≤ b0 ∧ b0 ≤ 8 ∧ 0 ≤ b1 ∧ b1 ≤ 8) : (pdiff a0 a1 a2 a3 a4 b0 b1 b2 b3 b4).foldl setv (a0, a1, a2, a3, a4) = (b0, b1, b2, b3, b4) := by
  unfold pdiff
  rw [List.foldl_append, List.foldl_append, List.foldl_append, List.foldl_append]
  have s1 : (pflag a2 b2 1 22).foldl setv (a0, a1, a2, a3, a4) = (a0, a1, b2, a3, a4) := by cases a2 <;> cases b2 <;> rfl
  have s2 : (pflag a3 b3 4 24).foldl setv (a0, a1, b2, a3, a4) = (a0, a1, b2, b3, a4) := by cases a3 <;> cases b3 <;> rfl
  have s3 : (pflag a4 b4 7 27).foldl setv (a0, a1, b2, b3, a4) = (a0, a1, b2, b3, b4) := by cases a4 <;> cases b4 <;> rfl
  have s4 : (pcol a0 b0 30).foldl setv (a0, a1, b2, b3, b4) = (b0, a1, b2, b3, b4) := by
    unfold pcol
    by_cases q : a0 = b0
    · rw [if_pos q, q]; rfl
    · rw [if_neg q, List.foldl_cons, List.foldl_nil]
      by_cases z : b0 = 0
      · rw [if_pos z, z]; rfl
      · rw [if_neg z]
        unfold setv
        rw [if_neg (by omega), if_neg (by omega), if_neg (by omega), if_neg (by omega), if_pos (by omega)]
        simp only [Prod.mk.injEq, and_true]; omega
  have s5 : (pcol a1 b1 40).foldl setv (b0, a1, b2, b3, b4) = (b0, b1, b2, b3, b4) := by
    unfold pcol
    by_cases q : a1 = b1
    · rw [if_pos q, q]; rfl
    · rw [if_neg q, List.foldl_cons, List.foldl_nil]
      by_cases z : b1 = 0
      · rw [if_pos z, z]; rfl
      · rw [if_neg z]
        unfold setv
        rw [if_neg (by omega), if_neg (by omega), if_neg (by omega), if_neg (by omega), if_neg (by omega), if_neg (by omega), if_pos (by omega)]
        simp only [Prod.mk.injEq, and_true, true_and]; omega
  rw [s1, s2, s3, s4, s5]
theorem styled_back (a0 a1 : Int) (a2 a3 a4 : Bool) (b0 b1 : Int) (b2 b3 b4 : Bool) (ha : sokv a0 a1 = true) (hb : sokv b0 b1 = true) (hs : ¬ isSame a0 a1 a2 a3 a4 b0 b1 b2 b3 b4 = true) :
    (paramsv a0 a1 a2 a3 a4 b0 b1 b2 b3 b4).length ≠ 0 ∧ styledv a0 a1 a2 a3 a4 (paramsv a0 a1 a2 a3 a4 b0 b1 b2 b3 b4) = (b0, b1, b2, b3, b4) := by
  have hl := paramsv_length a0 a1 a2 a3 a4 b0 b1 b2 b3 b4
  have hr := sokv_range hb
  have hf : (paramsv a0 a1 a2 a3 a4 b0 b1 b2 b3 b4).foldl setv (a0, a1, a2, a3, a4) = (b0, b1, b2, b3, b4) := by
    unfold paramsv
    rw [if_pos (by rw [ha, hb]; rfl), if_neg hs]
    by_cases z : isZero b0 b1 b2 b3 b4 = true
    · rw [if_pos z]
      obtain ⟨rfl, rfl, rfl, rfl, rfl⟩ := (isZero_iff b0 b1 b2 b3 b4).mp z
      rfl
    · rw [if_neg z]
      exact diff_done a0 a1 a2 a3 a4 b0 b1 b2 b3 b4 hr
  have hne : (paramsv a0 a1 a2 a3 a4 b0 b1 b2 b3 b4).length ≠ 0 := by
    intro e
    rw [List.eq_nil_of_length_eq_zero e, List.foldl_nil] at hf
    simp only [Prod.mk.injEq] at hf
    exact hs ((isSame_iff a0 a1 a2 a3 a4 b0 b1 b2 b3 b4).mpr hf)
  refine ⟨hne, ?_⟩
  unfold styledv
  rw [if_pos ⟨ha, by omega, hne⟩]
  exact hf
theorem sign_nil (l : List Int) (h : l.length = 0) : ((signv l).toList == ([] : List UInt8)) = true := by
  unfold signv
  rw [if_pos h, Lib.toList_data]; rfl
theorem sign_more (l : List Int) (h : l.length ≠ 0) : ((signv l).toList == ([] : List UInt8)) = false := by
  unfold signv
  rw [if_neg h, Lib.toList_data]
  rfl
theorem FnStyles : laws_FnStyles.Pure := by
  intro code hm hl hw
  refine Ev.rounds ?_
  unfold laws_FnStyles.f laws_big.f
  refine ev_bind_some ?_
  by_cases h : decide ((code.length : Int) > 4096) = true
  · exact ev_pos h (Ev.now _)
  refine ev_neg h ?_
  have hcode : code.length < 4611686018427387904 := by simp at h; omega
  obtain ⟨s0, s1, s2, s3, s4, p, e0, hp⟩ := spec_DrawStyled_some code hcode
  obtain ⟨a0, a1, a2, a3, a4, b0, b1, b2, b3, b4, e1⟩ := spec_DrawParams_some code hcode
  obtain ⟨t1, t2⟩ := Styled_evs s0 s1 s2 s3 s4 p
  have p1 := spec_Params_ev a0 a1 a2 a3 a4 b0 b1 b2 b3 b4
  have p2 := impl_Params_ev a0 a1 a2 a3 a4 b0 b1 b2 b3 b4
  have g1 := spec_Sign_ev a0 a1 a2 a3 a4 b0 b1 b2 b3 b4
  have g2 := impl_Sign_ev a0 a1 a2 a3 a4 b0 b1 b2 b3 b4
  have hpl := paramsv_length a0 a1 a2 a3 a4 b0 b1 b2 b3 b4
  have zero : ∀ c : Int × Int × Bool × Bool × Bool → Option Bool, c zeroS = some true → Ev (fun k => (impl_Styled.f k a0 a1 a2 a3 a4 [0]).bind c) true := fun c hc => by
    have := (Styled_evs a0 a1 a2 a3 a4 [0]).2
    rw [styledv_zero] at this
    exact Ev.bind this (ev_fixed hc)
  have ok : sokv (styledv s0 s1 s2 s3 s4 p).1 (styledv s0 s1 s2 s3 s4 p).2.1 = true := by
    refine sokv_of ?_
    unfold styledv
    split
    · rename_i q
      have := sokv_range q.1
      exact fold_ok p _ this
    · decide
  have last : ∀ x : Bool, (x = true → ¬ (sokv a0 a1 = true ∧ sokv b0 b1 = true)) → (x = false → sokv a0 a1 = true ∧ sokv b0 b1 = true) →
      Ev (fun k => laws_FnStyles.j1 k (paramsv a0 a1 a2 a3 a4 b0 b1 b2 b3 b4) (signv (paramsv a0 a1 a2 a3 a4 b0 b1 b2 b3 b4)) x (styledv s0 s1 s2 s3 s4 p).1 (styledv s0 s1 s2 s3 s4 p).2.1 (styledv s0 s1 s2 s3 s4 p).2.2.1 (styledv s0 s1 s2 s3 s4 p).2.2.2.1 (styledv s0 s1 s2 s3 s4 p).2.2.2.2 a0 a1 a2 a3 a4 b0 b1 b2 b3 b4) true := by
    intro x hx1 hx0
    refine ev_succ ?_
    simp only [laws_FnStyles.j1]
    cases x with
    | true =>
      have hn : paramsv a0 a1 a2 a3 a4 b0 b1 b2 b3 b4 = [] := by
        unfold paramsv
        rw [if_neg (by rw [Bool.and_eq_true]; exact hx1 rfl)]
      rw [hn]
      exact ev_pos rfl (ev_pos rfl (ev_fixed (congrArg some (sign_nil [] rfl))))
    | false =>
      obtain ⟨ha, hb⟩ := hx0 rfl
      refine ev_neg (by simp) (ev_bind_of (impl_StyleOk_eq _ _ _ _ _) (ev_pos ok ?_))
      by_cases hs : isSame a0 a1 a2 a3 a4 b0 b1 b2 b3 b4 = true
      · have hn : paramsv a0 a1 a2 a3 a4 b0 b1 b2 b3 b4 = [] := by
          unfold paramsv
          rw [if_pos (by rw [ha, hb]; rfl), if_pos hs]
        rw [hn]
        have sg := sign_nil [] rfl
        have c1 : (isSame a0 a1 a2 a3 a4 b0 b1 b2 b3 b4 == ((([] : List Int).length : Int) == 0)) = true := by rw [hs]; rfl
        have c2 : (((signv []).toList == ([] : List UInt8)) == isSame a0 a1 a2 a3 a4 b0 b1 b2 b3 b4) = true := by rw [hs, sg]; rfl
        exact ev_pos c1 (ev_pos hs (ev_pos c2 (zero _ rfl)))
      · obtain ⟨hne, hst⟩ := styled_back a0 a1 a2 a3 a4 b0 b1 b2 b3 b4 ha hb hs
        have hsf := Bool.eq_false_iff.mpr hs
        have e3 := (Styled_evs a0 a1 a2 a3 a4 (paramsv a0 a1 a2 a3 a4 b0 b1 b2 b3 b4)).2
        rw [hst] at e3
        have sg := sign_more _ hne
        generalize paramsv a0 a1 a2 a3 a4 b0 b1 b2 b3 b4 = l at *
        have hz : ((l.length : Int) == 0) = false := beq_eq_false_iff_ne.mpr (by omega)
        have c1 : (isSame a0 a1 a2 a3 a4 b0 b1 b2 b3 b4 == ((l.length : Int) == 0)) = true := by rw [hsf, hz]; rfl
        have c2 : (((signv l).toList == ([] : List UInt8)) == isSame a0 a1 a2 a3 a4 b0 b1 b2 b3 b4) = true := by rw [hsf, sg]; rfl
        exact ev_pos c1 (ev_neg hs (Ev.bind e3 (ev_pos (by simp) (ev_pos c2 (zero _ rfl)))))
  refine Ev.bind e0 (Ev.bind t2 (Ev.bind e1 (Ev.bind p2 (Ev.bind g2 (Ev.bind t1 (ev_neg (by simp) (Ev.bind p1 (Ev.bind (laws_likeInts_self _ (by omega)) (ev_pos rfl (Ev.bind g1 (ev_pos rfl (ev_bind_of (impl_StyleOk_eq _ _ _ _ _) (ev_bind_of (spec_StyleOk_eq _ _ _ _ _) (ev_succ ?_))))))))))))))
  simp only [laws_FnStyles.j0]
  refine ev_neg (by simp) (ev_bind_of (impl_StyleOk_eq _ _ _ _ _) ?_)
  by_cases ha : sokv a0 a1 = true
  · refine ev_pos ha (ev_bind_of (impl_StyleOk_eq _ _ _ _ _) ?_)
    cases hb : sokv b0 b1 with
    | true => exact last _ (fun x => by simp at x) (fun _ => ⟨ha, hb⟩)
    | false => exact last _ (fun _ x => by rw [hb] at x; simp at x) (fun x => by simp at x)
  · exact ev_neg ha (last true (fun _ x => ha x.1) (fun x => by simp at x))

end Go.Proofs.YtbgekmchjdkjiaaDoor.Pure
