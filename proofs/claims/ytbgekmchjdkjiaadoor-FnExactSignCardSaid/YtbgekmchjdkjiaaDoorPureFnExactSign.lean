/- The law FnExactSign answers true at every two styles. -/
import Derived.Test.YtbgekmchjdkjiaaDoorPAx9
import Derived.Test.YtbgekmchjdkjiaaDoorAimFnExactSign
namespace Go.Proofs.YtbgekmchjdkjiaaDoor.Pure
open Go.RowKit Go.Proofs.YtbgekmchjdkjiaaDoor.PA Go.Proofs.YtbgekmchjdkjiaaDoorW.PrintWords Go.Proofs.YtbgekmchjdkjiaaDoorW.PrintLast
set_option linter.unusedVariables false
set_option linter.unusedSimpArgs false

theorem w64 {x : Int} (h0 : -9223372036854775808 ≤ x) (h1 : x ≤ 9223372036854775807) : wrap64 x = x := by unfold wrap64; omega
theorem wf64 {x : Int} : (Lit.int .i64 x).wf = true ↔ -9223372036854775808 ≤ x ∧ x ≤ 9223372036854775807 := by
  simp [Lit.wf, IntKind.min, IntKind.max, IntKind.signed, IntKind.bits]
theorem wf8 {x : Int} : (Lit.int .u8 x).wf = true ↔ 0 ≤ x ∧ x ≤ 255 := by
  simp [Lit.wf, IntKind.min, IntKind.max, IntKind.signed, IntKind.bits]
theorem ev_succ {α : Type} {g : Nat → Option α} {r : α} (h : Ev (fun k => g (k + 1)) r) : Ev g r := by
  obtain ⟨K, h⟩ := h
  refine ⟨K + 1, fun k hk => ?_⟩
  obtain ⟨m, rfl⟩ : ∃ m, k = m + 1 := ⟨k - 1, by omega⟩
  exact h m (by omega)
theorem ev_fixed {α : Type} {x : Option α} {r : α} (h : x = some r) : Ev (fun _ => x) r := ⟨0, fun _ _ => h⟩
theorem ev_eq {α : Type} {g : Nat → Option α} {r s : α} (h : Ev g r) (e : r = s) : Ev g s := e ▸ h
theorem bt0 (s : ByteArray) (i : Int) : 0 ≤ bt s i := (bt_range s i).1
theorem bt255 (s : ByteArray) (i : Int) : bt s i ≤ 255 := (bt_range s i).2
/-- Never keep an equation 'wrap64 .. = ..' in the context where omega runs: it compares them by unfolding. -/
theorem wN {x : Int} {n : Nat} (e : x = (n : Int)) (h : n < 4611686018427387904) : wrap64 x = (n : Int) := by rw [e]; exact w64 (by omega) (by omega)

theorem spec_l1In_eq (a b c : Int) : spec_l1In.f a b c = some (decide (b ≤ a) && decide (a ≤ c)) := by
  unfold spec_l1In.f
  by_cases h : a ≥ b
  · rw [if_pos h]; simp [h]
  · rw [if_neg h]; simp [show ¬ b ≤ a from h]

theorem impl_in_eq (a b c : Int) : impl_in.f a b c = some (decide (b ≤ a) && decide (a ≤ c)) := by
  unfold impl_in.f
  by_cases h : b ≤ a
  · rw [if_pos h]; simp [h]
  · rw [if_neg h]; simp [h]

def sokv (a b : Int) : Bool := (decide (0 ≤ a) && decide (a ≤ 8)) && (decide (0 ≤ b) && decide (b ≤ 8))
theorem spec_StyleOk_eq (a b : Int) (c d e : Bool) : spec_StyleOk.f a b c d e = some (sokv a b) := by
  simp only [spec_StyleOk.f, spec_l1In_eq, Option.bind_some, sokv]
  by_cases h : (decide (0 ≤ a) && decide (a ≤ 8)) = true
  · simp [h]
  · simp [h]
theorem impl_StyleOk_eq (a b : Int) (c d e : Bool) : impl_StyleOk.f a b c d e = some (sokv a b) := by
  simp only [impl_StyleOk.f, impl_in_eq, Option.bind_some, sokv]
  by_cases h : (decide (0 ≤ a) && decide (a ≤ 8)) = true
  · simp [h]
  · simp [h]

theorem rd_nat (l : List Int) (i : Nat) : rd l (i : Int) = l.getD i 0 := by simp [rd]
theorem rd_at {l : List Int} {i : Nat} (h : i < l.length) : rd l (i : Int) = l[i] := by rw [rd_nat, List.getD_eq_getElem?_getD, List.getElem?_eq_getElem h]; rfl
theorem take_set_succ {α : Type} (l : List α) (i : Nat) (a : α) (h : i < l.length) : (l.set i a).take (i + 1) = l.take i ++ [a] := by
  rw [List.take_succ_eq_append_getElem (by simpa using h), List.take_set, List.set_eq_of_length_le (by rw [List.length_take]; omega)]
  simp

theorem ev_pos {α : Type} {c : Prop} [Decidable c] {a b : Nat → Option α} {r : α} (hc : c) (h : Ev a r) : Ev (fun k => if c then a k else b k) r := by
  obtain ⟨K, h⟩ := h
  exact ⟨K, fun k hk => by show (if c then a k else b k) = some r; rw [if_pos hc]; exact h k hk⟩
theorem ev_neg {α : Type} {c : Prop} [Decidable c] {a b : Nat → Option α} {r : α} (hc : ¬ c) (h : Ev b r) : Ev (fun k => if c then a k else b k) r := by
  obtain ⟨K, h⟩ := h
  exact ⟨K, fun k hk => by show (if c then a k else b k) = some r; rw [if_neg hc]; exact h k hk⟩
theorem ev_bind_some {α β : Type} {a : α} {f : Nat → α → Option β} {r : β} (h : Ev (fun k => f k a) r) : Ev (fun k => (some a).bind (f k)) r := h
theorem ev_bind_of {α β : Type} {x : Option α} {a : α} {f : Nat → α → Option β} {r : β} (hx : x = some a) (h : Ev (fun k => f k a) r) : Ev (fun k => x.bind (f k)) r := by
  subst hx; exact h

def pflag (x y : Bool) (on off : Int) : List Int := if (x != y) = true then [if y = true then on else off] else []
def pcol (x y first : Int) : List Int := if x = y then [] else [if y = 0 then first + 9 else first + y - 1]
theorem pflag_t {x y : Bool} {on off : Int} (h : (x != y) = true) : pflag x y on off = [if y = true then on else off] := if_pos h
theorem pflag_f {x y : Bool} {on off : Int} (h : ¬ (x != y) = true) : pflag x y on off = [] := if_neg h
theorem pcol_eq {x y first : Int} (h : x = y) : pcol x y first = [] := if_pos h
theorem pcol_ne {x y first : Int} (h : ¬ x = y) : pcol x y first = [if y = 0 then first + 9 else first + y - 1] := if_neg h
theorem sokv_range {a b : Int} (h : sokv a b = true) : 0 ≤ a ∧ a ≤ 8 ∧ 0 ≤ b ∧ b ≤ 8 := by
  unfold sokv at h
  simp only [Bool.and_eq_true, decide_eq_true_eq] at h
  omega
theorem spec_l3Flag_eq (b : Bool) (on off : Int) : spec_l3Flag.f b on off = some (if b = true then on else off) := by
  unfold spec_l3Flag.f; cases b <;> rfl
theorem impl_paramOf_eq (b : Bool) (on off : Int) : impl_paramOf.f b on off = some (if b = true then on else off) := by
  unfold impl_paramOf.f; cases b <;> rfl
theorem spec_col_eq (y first : Int) (h0 : 0 ≤ y) (h1 : y ≤ 8) (f0 : 0 ≤ first) (f1 : first ≤ 100) : spec_l3Flag.f (y == 0) (first + 9) (wrap64 (first - 1 + y)) = some (if y = 0 then first + 9 else first + y - 1) := by
  rw [spec_l3Flag_eq, w64 (by omega) (by omega)]
  by_cases e : y = 0
  · rw [if_pos e, if_pos (by rw [e]; rfl)]
  · rw [if_neg e, if_neg (by rw [beq_eq_false_iff_ne.mpr e]; simp)]; congr 1; omega
theorem impl_col_eq (y first : Int) (h0 : 0 ≤ y) (h1 : y ≤ 8) (f0 : 0 ≤ first) (f1 : first ≤ 100) : impl_colorOf.f y first = some (if y = 0 then first + 9 else first + y - 1) := by
  unfold impl_colorOf.f
  rw [w64 (x := first + 9) (by omega) (by omega), w64 (x := first + y) (by omega) (by omega), w64 (x := first + y - 1) (by omega) (by omega)]
  by_cases e : y = 0
  · rw [if_pos e, if_pos e]
  · rw [if_neg e, if_neg e]
theorem spec_l3_j3 (l : List Int) (a0 a1 : Int) (a2 a3 a4 : Bool) (b0 b1 : Int) (b2 b3 b4 : Bool) (hl : l.length ≤ 10) (h : sokv b0 b1 = true) : Ev (fun k => spec_l3Params.j3 k l a0 a1 a2 a3 a4 b0 b1 b2 b3 b4) (l ++ pcol a0 b0 30 ++ pcol a1 b1 40) := by
  have hr := sokv_range h
  have e0 := spec_col_eq b0 30 hr.1 hr.2.1 (by omega) (by omega)
  have e1 := spec_col_eq b1 40 hr.2.2.1 hr.2.2.2 (by omega) (by omega)
  refine ev_succ ?_
  simp only [spec_l3Params.j3]
  by_cases q0 : a0 = b0
  · rw [pcol_eq q0, List.append_nil]
    refine ev_pos q0 ?_
    by_cases q1 : a1 = b1
    · rw [pcol_eq q1, List.append_nil]; exact ev_pos q1 (Ev.now _)
    · rw [pcol_ne q1]; exact ev_neg q1 (ev_bind_of e1 (ev_pos (by omega) (Ev.now _)))
  · rw [pcol_ne q0]
    refine ev_neg q0 (ev_bind_of e0 (ev_pos (by omega) (ev_bind_some ?_)))
    by_cases q1 : a1 = b1
    · rw [pcol_eq q1, List.append_nil]; exact ev_pos q1 (Ev.now _)
    · rw [pcol_ne q1]; exact ev_neg q1 (ev_bind_of e1 (ev_pos (by rw [List.length_append]; simp; omega) (Ev.now _)))
theorem impl_p_j3 (l : List Int) (a0 a1 : Int) (a2 a3 a4 : Bool) (b0 b1 : Int) (b2 b3 b4 : Bool) (hl : l.length ≤ 10) (h : sokv b0 b1 = true) : Ev (fun k => impl_Params.j3 k l a0 a1 a2 a3 a4 b0 b1 b2 b3 b4) (l ++ pcol a0 b0 30 ++ pcol a1 b1 40) := by
  have hr := sokv_range h
  have e0 := impl_col_eq b0 30 hr.1 hr.2.1 (by omega) (by omega)
  have e1 := impl_col_eq b1 40 hr.2.2.1 hr.2.2.2 (by omega) (by omega)
  refine ev_succ ?_
  simp only [impl_Params.j3]
  by_cases q0 : a0 = b0
  · rw [pcol_eq q0, List.append_nil]
    refine ev_pos q0 ?_
    by_cases q1 : a1 = b1
    · rw [pcol_eq q1, List.append_nil]; exact ev_pos q1 (Ev.now _)
    · rw [pcol_ne q1]; exact ev_neg q1 (ev_bind_of e1 (ev_pos (by omega) (Ev.now _)))
  · rw [pcol_ne q0]
    refine ev_neg q0 (ev_bind_of e0 (ev_pos (by omega) (ev_bind_some ?_)))
    by_cases q1 : a1 = b1
    · rw [pcol_eq q1, List.append_nil]; exact ev_pos q1 (Ev.now _)
    · rw [pcol_ne q1]; exact ev_neg q1 (ev_bind_of e1 (ev_pos (by rw [List.length_append]; simp; omega) (Ev.now _)))
theorem pflag_length (x y : Bool) (on off : Int) : (pflag x y on off).length ≤ 1 := by unfold pflag; split <;> simp
theorem pcol_length (x y first : Int) : (pcol x y first).length ≤ 1 := by unfold pcol; split <;> simp
theorem spec_l3_j2 (l : List Int) (a0 a1 : Int) (a2 a3 a4 : Bool) (b0 b1 : Int) (b2 b3 b4 : Bool) (hl : l.length ≤ 9) (h : sokv b0 b1 = true) : Ev (fun k => spec_l3Params.j2 k l a0 a1 a2 a3 a4 b0 b1 b2 b3 b4) (l ++ pflag a4 b4 7 27 ++ pcol a0 b0 30 ++ pcol a1 b1 40) := by
  refine ev_succ ?_
  simp only [spec_l3Params.j2, spec_l3Flag_eq, Option.bind_some]
  by_cases q : (a4 != b4) = true
  · rw [pflag_t q]; exact ev_pos q (ev_pos (by omega) (spec_l3_j3 _ _ _ _ _ _ _ _ _ _ _ (by simp; omega) h))
  · rw [pflag_f q, List.append_nil]; exact ev_neg q (spec_l3_j3 _ _ _ _ _ _ _ _ _ _ _ (by omega) h)
theorem impl_p_j2 (l : List Int) (a0 a1 : Int) (a2 a3 a4 : Bool) (b0 b1 : Int) (b2 b3 b4 : Bool) (hl : l.length ≤ 9) (h : sokv b0 b1 = true) : Ev (fun k => impl_Params.j2 k l a0 a1 a2 a3 a4 b0 b1 b2 b3 b4) (l ++ pflag a4 b4 7 27 ++ pcol a0 b0 30 ++ pcol a1 b1 40) := by
  refine ev_succ ?_
  simp only [impl_Params.j2, impl_paramOf_eq, Option.bind_some]
  by_cases q : (a4 != b4) = true
  · rw [pflag_t q]; exact ev_pos q (ev_pos (by omega) (impl_p_j3 _ _ _ _ _ _ _ _ _ _ _ (by simp; omega) h))
  · rw [pflag_f q, List.append_nil]; exact ev_neg q (impl_p_j3 _ _ _ _ _ _ _ _ _ _ _ (by omega) h)
theorem spec_l3_j1 (l : List Int) (a0 a1 : Int) (a2 a3 a4 : Bool) (b0 b1 : Int) (b2 b3 b4 : Bool) (hl : l.length ≤ 8) (h : sokv b0 b1 = true) : Ev (fun k => spec_l3Params.j1 k l a0 a1 a2 a3 a4 b0 b1 b2 b3 b4) (l ++ pflag a3 b3 4 24 ++ pflag a4 b4 7 27 ++ pcol a0 b0 30 ++ pcol a1 b1 40) := by
  refine ev_succ ?_
  simp only [spec_l3Params.j1, spec_l3Flag_eq, Option.bind_some]
  by_cases q : (a3 != b3) = true
  · rw [pflag_t q]; exact ev_pos q (ev_pos (by omega) (spec_l3_j2 _ _ _ _ _ _ _ _ _ _ _ (by simp; omega) h))
  · rw [pflag_f q, List.append_nil]; exact ev_neg q (spec_l3_j2 _ _ _ _ _ _ _ _ _ _ _ (by omega) h)
theorem impl_p_j1 (l : List Int) (a0 a1 : Int) (a2 a3 a4 : Bool) (b0 b1 : Int) (b2 b3 b4 : Bool) (hl : l.length ≤ 8) (h : sokv b0 b1 = true) : Ev (fun k => impl_Params.j1 k l a0 a1 a2 a3 a4 b0 b1 b2 b3 b4) (l ++ pflag a3 b3 4 24 ++ pflag a4 b4 7 27 ++ pcol a0 b0 30 ++ pcol a1 b1 40) := by
  refine ev_succ ?_
  simp only [impl_Params.j1, impl_paramOf_eq, Option.bind_some]
  by_cases q : (a3 != b3) = true
  · rw [pflag_t q]; exact ev_pos q (ev_pos (by omega) (impl_p_j2 _ _ _ _ _ _ _ _ _ _ _ (by simp; omega) h))
  · rw [pflag_f q, List.append_nil]; exact ev_neg q (impl_p_j2 _ _ _ _ _ _ _ _ _ _ _ (by omega) h)
def pdiff (a0 a1 : Int) (a2 a3 a4 : Bool) (b0 b1 : Int) (b2 b3 b4 : Bool) : List Int := pflag a2 b2 1 22 ++ pflag a3 b3 4 24 ++ pflag a4 b4 7 27 ++ pcol a0 b0 30 ++ pcol a1 b1 40
def isZero (b0 b1 : Int) (b2 b3 b4 : Bool) : Bool := b0 == 0 && (b1 == 0 && (!b2 && (!b3 && (!b4))))
def isSame (a0 a1 : Int) (a2 a3 a4 : Bool) (b0 b1 : Int) (b2 b3 b4 : Bool) : Bool := a0 == b0 && (a1 == b1 && (a2 == b2 && (a3 == b3 && (a4 == b4))))
def paramsv (a0 a1 : Int) (a2 a3 a4 : Bool) (b0 b1 : Int) (b2 b3 b4 : Bool) : List Int :=
  if (sokv a0 a1 && sokv b0 b1) = true then (if isSame a0 a1 a2 a3 a4 b0 b1 b2 b3 b4 = true then [] else if isZero b0 b1 b2 b3 b4 = true then [0] else pdiff a0 a1 a2 a3 a4 b0 b1 b2 b3 b4) else []
theorem isSame_iff (a0 a1 : Int) (a2 a3 a4 : Bool) (b0 b1 : Int) (b2 b3 b4 : Bool) : isSame a0 a1 a2 a3 a4 b0 b1 b2 b3 b4 = true ↔ a0 = b0 ∧ a1 = b1 ∧ a2 = b2 ∧ a3 = b3 ∧ a4 = b4 := by
  unfold isSame; simp only [Bool.and_eq_true, beq_iff_eq]
theorem isZero_iff (b0 b1 : Int) (b2 b3 b4 : Bool) : isZero b0 b1 b2 b3 b4 = true ↔ b0 = 0 ∧ b1 = 0 ∧ b2 = false ∧ b3 = false ∧ b4 = false := by
  unfold isZero; simp only [Bool.and_eq_true, beq_iff_eq, Bool.not_eq_true']
theorem isZero_not (a0 a1 : Int) (a2 a3 a4 : Bool) : (!(a0 == 0) || (!(a1 == 0) || (a2 || (a3 || (a4))))) = !isZero a0 a1 a2 a3 a4 := by
  unfold isZero
  cases (a0 == 0) <;> cases (a1 == 0) <;> cases a2 <;> cases a3 <;> cases a4 <;> rfl
theorem pdiff_same {a0 a1 : Int} {a2 a3 a4 : Bool} : pdiff a0 a1 a2 a3 a4 a0 a1 a2 a3 a4 = [] := by
  unfold pdiff pflag pcol
  simp
theorem pdiff_length (a0 a1 : Int) (a2 a3 a4 : Bool) (b0 b1 : Int) (b2 b3 b4 : Bool) : (pdiff a0 a1 a2 a3 a4 b0 b1 b2 b3 b4).length ≤ 5 := by
  unfold pdiff
  have h1 := pflag_length a2 b2 1 22
  have h2 := pflag_length a3 b3 4 24
  have h3 := pflag_length a4 b4 7 27
  have h4 := pcol_length a0 b0 30
  have h5 := pcol_length a1 b1 40
  simp only [List.length_append]; omega
theorem paramsv_length (a0 a1 : Int) (a2 a3 a4 : Bool) (b0 b1 : Int) (b2 b3 b4 : Bool) : (paramsv a0 a1 a2 a3 a4 b0 b1 b2 b3 b4).length ≤ 5 := by
  unfold paramsv
  have := pdiff_length a0 a1 a2 a3 a4 b0 b1 b2 b3 b4
  split
  · split
    · simp
    · split
      · simp
      · exact this
  · simp
theorem spec_l3_j0 (b : Bool) (a0 a1 : Int) (a2 a3 a4 : Bool) (b0 b1 : Int) (b2 b3 b4 : Bool) (h : sokv b0 b1 = true) : Ev (fun k => spec_l3Params.j0 k [] b a0 a1 a2 a3 a4 b0 b1 b2 b3 b4) (if b = true then [0] else pdiff a0 a1 a2 a3 a4 b0 b1 b2 b3 b4) := by
  refine ev_succ ?_
  simp only [spec_l3Params.j0, spec_l3Flag_eq, Option.bind_some]
  cases b with
  | true => exact ev_pos rfl (Ev.now _)
  | false =>
    refine ev_neg (by simp) (ev_eq (r := pdiff a0 a1 a2 a3 a4 b0 b1 b2 b3 b4) ?_ (by simp))
    unfold pdiff
    by_cases q : (a2 != b2) = true
    · rw [pflag_t q]; exact ev_pos q (ev_pos (by simp) (spec_l3_j1 _ _ _ _ _ _ _ _ _ _ _ (by simp) h))
    · rw [pflag_f q]; exact ev_neg q (spec_l3_j1 _ _ _ _ _ _ _ _ _ _ _ (by simp) h)
theorem spec_l3Params_ev (a0 a1 : Int) (a2 a3 a4 : Bool) (b0 b1 : Int) (b2 b3 b4 : Bool) (h : sokv b0 b1 = true) :
    Ev (fun k => spec_l3Params.f k a0 a1 a2 a3 a4 b0 b1 b2 b3 b4) (if isSame a0 a1 a2 a3 a4 b0 b1 b2 b3 b4 = true then [] else if isZero b0 b1 b2 b3 b4 = true then [0] else pdiff a0 a1 a2 a3 a4 b0 b1 b2 b3 b4) := by
  unfold spec_l3Params.f
  refine ev_bind_some ?_
  have z := isZero_iff b0 b1 b2 b3 b4
  have s := isSame_iff a0 a1 a2 a3 a4 b0 b1 b2 b3 b4
  by_cases hz : isZero b0 b1 b2 b3 b4 = true
  · refine ev_pos hz ?_
    rw [isZero_not]
    refine ev_eq (spec_l3_j0 _ a0 a1 a2 a3 a4 b0 b1 b2 b3 b4 h) ?_
    rw [if_pos hz]
    obtain ⟨z0, z1, z2, z3, z4⟩ := z.mp hz
    by_cases hs : isSame a0 a1 a2 a3 a4 b0 b1 b2 b3 b4 = true
    · obtain ⟨s0, s1, s2, s3, s4⟩ := s.mp hs
      have : isZero a0 a1 a2 a3 a4 = true := by rw [s0, s1, s2, s3, s4]; exact hz
      rw [if_pos hs, this, if_neg (by simp), s0, s1, s2, s3, s4]; exact pdiff_same
    · have : isZero a0 a1 a2 a3 a4 = false := by
        rw [Bool.eq_false_iff]
        intro x
        obtain ⟨x0, x1, x2, x3, x4⟩ := (isZero_iff _ _ _ _ _).mp x
        exact hs (s.mpr ⟨by rw [x0, z0], by rw [x1, z1], by rw [x2, z2], by rw [x3, z3], by rw [x4, z4]⟩)
      rw [if_neg hs, this]; rfl
  · refine ev_neg hz ?_
    refine ev_eq (spec_l3_j0 false a0 a1 a2 a3 a4 b0 b1 b2 b3 b4 h) ?_
    rw [if_neg hz, if_neg (by simp)]
    by_cases hs : isSame a0 a1 a2 a3 a4 b0 b1 b2 b3 b4 = true
    · obtain ⟨s0, s1, s2, s3, s4⟩ := s.mp hs
      rw [if_pos hs, s0, s1, s2, s3, s4]; exact pdiff_same
    · rw [if_neg hs]
theorem impl_Params_ev (a0 a1 : Int) (a2 a3 a4 : Bool) (b0 b1 : Int) (b2 b3 b4 : Bool) : Ev (fun k => impl_Params.f k a0 a1 a2 a3 a4 b0 b1 b2 b3 b4) (paramsv a0 a1 a2 a3 a4 b0 b1 b2 b3 b4) := by
  have jt : Ev (fun k => impl_Params.j0 k [] true a0 a1 a2 a3 a4 b0 b1 b2 b3 b4) [] := by
    refine ev_succ ?_
    simp only [impl_Params.j0]
    exact ev_pos (by trivial) (Ev.now _)
  unfold impl_Params.f paramsv
  refine ev_bind_some (ev_bind_of (impl_StyleOk_eq _ _ _ _ _) ?_)
  cases ha : sokv a0 a1 with
  | false => exact ev_neg (by simp) (ev_eq jt (by simp))
  | true =>
    refine ev_pos rfl (ev_bind_of (impl_StyleOk_eq _ _ _ _ _) ?_)
    cases hb : sokv b0 b1 with
    | false => exact ev_neg (by simp) (ev_eq jt (by simp))
    | true =>
      refine ev_pos rfl ?_
      show Ev (fun k => impl_Params.j0 k [] (isSame a0 a1 a2 a3 a4 b0 b1 b2 b3 b4) a0 a1 a2 a3 a4 b0 b1 b2 b3 b4) _
      cases hs : isSame a0 a1 a2 a3 a4 b0 b1 b2 b3 b4 with
      | true => exact ev_eq jt (by simp)
      | false =>
        refine ev_eq (r := if isZero b0 b1 b2 b3 b4 = true then [0] else pdiff a0 a1 a2 a3 a4 b0 b1 b2 b3 b4) (ev_succ ?_) (by simp)
        simp only [impl_Params.j0, impl_paramOf_eq, Option.bind_some]
        refine ev_neg (by simp) ?_
        by_cases hz : isZero b0 b1 b2 b3 b4 = true
        · exact ev_pos hz (ev_pos (by simp) (ev_eq (Ev.now _) (if_pos hz).symm))
        · refine ev_neg hz (ev_eq (r := pdiff a0 a1 a2 a3 a4 b0 b1 b2 b3 b4) ?_ (if_neg hz).symm)
          unfold pdiff
          by_cases q : (a2 != b2) = true
          · rw [pflag_t q]; exact ev_pos q (ev_pos (by simp) (impl_p_j1 _ _ _ _ _ _ _ _ _ _ _ (by simp) hb))
          · rw [pflag_f q]; exact ev_neg q (impl_p_j1 _ _ _ _ _ _ _ _ _ _ _ (by simp) hb)

theorem strs_nil (s : ByteArray) : s.toList = [] ↔ s.size = 0 := by
  rw [Lib.toList_data]
  constructor
  · intro h
    have := congrArg List.length h
    simpa using this
  · intro h
    exact List.eq_nil_of_length_eq_zero (by simpa using h)
theorem ba_ext {a b : ByteArray} (h : a.data.toList = b.data.toList) : a = b := ByteArray.ext (Array.toList_inj.mp h)
theorem ba_append (a b : ByteArray) : (a ++ b).data.toList = a.data.toList ++ b.data.toList := by rw [ByteArray.data_append, Array.toList_append]
theorem ba_size (a : ByteArray) : a.size = a.data.toList.length := by rw [Array.length_toList]; rfl
/-- A number's decimal digits. -/
def dig (n : Int) : List UInt8 := Lib.decDigits n.toNat
theorem dig_length (n : Int) (h0 : 0 ≤ n) (h1 : n < 100) : (dig n).length ≤ 2 := by
  unfold dig
  by_cases h : n.toNat < 10
  · rw [Lib.decDigits_one h]; simp
  · rw [Lib.decDigits_two h (by omega)]; simp
theorem l3Int_end (s : ByteArray) (hs : s.size ≠ 0) : Ev (fun k => spec_l3Int.l0 k 0 s false) s := by
  refine ev_succ ?_
  simp only [spec_l3Int.l0]
  refine ev_neg (fun x => hs ((strs_nil s).mp x)) (ev_succ ?_)
  simp only [spec_l3Int.j1]
  exact ev_neg (by simp) (ev_neg (by simp) (Ev.now _))
theorem l3Int_step (n : Nat) (s : ByteArray) (c : Bool) (hc : c = true) (hn : n < 100) (hs : s.size ≤ 100) {v : ByteArray} (h : Ev (fun k => spec_l3Int.l0 k ((n / 10 : Nat) : Int) (strOfNums [((48 + n % 10 : Nat) : Int)] ++ s) false) v) :
    Ev (fun k => spec_l3Int.j1 k (n : Int) s false c) v := by
  have hm : ∀ _ : Unit, Int.tmod (n : Int) 10 = ((n % 10 : Nat) : Int) := fun _ => by rw [Int.tmod_eq_emod_of_nonneg (by omega)]; omega
  have hd : ∀ _ : Unit, wrap64 (Int.tdiv (n : Int) 10) = ((n / 10 : Nat) : Int) := fun _ => by rw [Int.tdiv_eq_ediv_of_nonneg (by omega), w64 (by omega) (by omega)]; omega
  have hw : ∀ _ : Unit, wrap64 (48 + ((n % 10 : Nat) : Int)) % 256 = ((48 + n % 10 : Nat) : Int) := fun _ => by rw [w64 (by omega) (by omega)]; omega
  refine ev_succ ?_
  simp only [spec_l3Int.j1, hm (), hd (), hw ()]
  refine ev_pos hc (ev_neg (by omega) (ev_bind_some (ev_pos ?_ h)))
  rw [strOfNums_size]; simp only [List.length_cons, List.length_nil]; omega
theorem spec_l3Int_ev (n : Int) (h0 : 0 ≤ n) (h1 : n < 100) : Ev (fun k => spec_l3Int.f k n) ⟨(dig n).toArray⟩ := by
  obtain ⟨m, rfl⟩ : ∃ m : Nat, n = (m : Int) := ⟨n.toNat, by omega⟩
  unfold spec_l3Int.f
  rw [decide_eq_false (by omega)]
  refine ev_succ ?_
  simp only [spec_l3Int.l0]
  refine ev_pos (by rw [Lib.toList_data]) (l3Int_step m _ true rfl (by omega) (by decide) ?_)
  have z1 : ∀ (x : Int) (s : ByteArray), (strOfNums [x] ++ s).size ≠ 0 := fun x s => by rw [ByteArray.size_append, strOfNums_size]; simp only [List.length_cons, List.length_nil]; omega
  by_cases h : m < 10
  · rw [show m / 10 = 0 by omega]
    refine ev_eq (l3Int_end _ (z1 _ _)) (ba_ext ?_)
    rw [ba_append, strOfNums_data]
    unfold dig
    rw [Int.toNat_natCast, Lib.decDigits_one h, show m % 10 = m by omega]
    rfl
  · refine ev_succ ?_
    simp only [spec_l3Int.l0]
    refine ev_neg (fun x => z1 _ _ ((strs_nil _).mp x)) (l3Int_step (m / 10) _ _ (by simp; omega) (by omega) (by rw [ByteArray.size_append, strOfNums_size, show (⟨#[]⟩ : ByteArray).size = 0 from rfl]; simp) ?_)
    rw [show m / 10 / 10 = 0 by omega]
    refine ev_eq (l3Int_end _ (z1 _ _)) (ba_ext ?_)
    rw [ba_append, ba_append, strOfNums_data, strOfNums_data]
    unfold dig
    rw [Int.toNat_natCast, Lib.decDigits_two h (by omega), show m / 10 % 10 = m / 10 by omega]
    rfl
theorem impl_decimal_eq (n : Int) (h0 : 0 ≤ n) (h1 : n < 100) : impl_decimal.f n = some ⟨(dig n).toArray⟩ := by
  unfold impl_decimal.f strconv_FormatInt_64.f
  rw [if_pos ⟨⟨h0, h1⟩, rfl⟩]; rfl
/-- The numbers, a semicolon between two. -/
def joined (l : List Int) : List UInt8 := Lib.join (l.map dig) [59]
theorem joined_nil : joined [] = [] := rfl
theorem joined_one (x : Int) : joined [x] = dig x := Lib.join_one _ _
theorem joined_more (l : List Int) (x : Int) (h : l ≠ []) : joined (l ++ [x]) = joined l ++ 59 :: dig x := by
  cases l with
  | nil => exact absurd rfl h
  | cons a l =>
    unfold joined
    rw [List.cons_append, List.map_cons, List.map_cons, Lib.join_cons, Lib.join_cons, List.map_append]
    simp [Lib.joinTail]
theorem joined_length : ∀ (l : List Int), (∀ x ∈ l, 0 ≤ x ∧ x < 100) → (joined l).length ≤ 3 * l.length := by
  intro l h
  unfold joined
  cases l with
  | nil => simp [Lib.join_nil]
  | cons a l =>
    rw [List.map_cons, Lib.join_cons, List.length_append]
    have ha := dig_length a (h a (by simp)).1 (h a (by simp)).2
    have : ∀ l : List Int, (∀ x ∈ l, 0 ≤ x ∧ x < 100) → (Lib.joinTail [59] (l.map dig)).length ≤ 3 * l.length := by
      intro l
      induction l with
      | nil => intro _; simp [Lib.joinTail]
      | cons b l ih =>
        intro hb
        have h1 := dig_length b (hb b (by simp)).1 (hb b (by simp)).2
        have h2 := ih (fun x hx => hb x (by simp [hx]))
        simp only [Lib.joinTail, List.map_cons, List.flatten_cons, List.length_append, List.length_cons, List.length_nil] at h2 ⊢
        omega
    have := this l (fun x hx => h x (by simp [hx]))
    simp only [List.length_cons]; omega
theorem params_range (a0 a1 : Int) (a2 a3 a4 : Bool) (b0 b1 : Int) (b2 b3 b4 : Bool) (h : sokv b0 b1 = true) : ∀ x ∈ (if isSame a0 a1 a2 a3 a4 b0 b1 b2 b3 b4 = true then [] else if isZero b0 b1 b2 b3 b4 = true then [0] else pdiff a0 a1 a2 a3 a4 b0 b1 b2 b3 b4), 0 ≤ x ∧ x < 100 := by
  have hr := sokv_range h
  have hf : ∀ (x y : Bool) (on off : Int), 0 ≤ on ∧ on < 100 → 0 ≤ off ∧ off < 100 → ∀ z ∈ pflag x y on off, 0 ≤ z ∧ z < 100 := by
    intro x y on off h1 h2 z hz
    unfold pflag at hz
    split at hz
    · rw [List.mem_singleton] at hz
      subst hz
      split
      · exact h1
      · exact h2
    · simp at hz
  have hc : ∀ (x y first : Int), 0 ≤ y ∧ y ≤ 8 → 1 ≤ first ∧ first ≤ 50 → ∀ z ∈ pcol x y first, 0 ≤ z ∧ z < 100 := by
    intro x y first h1 h2 z hz
    unfold pcol at hz
    split at hz
    · simp at hz
    · rw [List.mem_singleton] at hz
      subst hz
      split <;> omega
  intro x hx
  split at hx
  · simp at hx
  · split at hx
    · simp at hx; omega
    · unfold pdiff at hx
      simp only [List.mem_append] at hx
      rcases hx with ((((hx | hx) | hx) | hx) | hx)
      · exact hf _ _ _ _ (by omega) (by omega) _ hx
      · exact hf _ _ _ _ (by omega) (by omega) _ hx
      · exact hf _ _ _ _ (by omega) (by omega) _ hx
      · exact hc _ _ _ (by omega) (by omega) _ hx
      · exact hc _ _ _ (by omega) (by omega) _ hx
/-- What is sent for these params. -/
def signv (l : List Int) : ByteArray := if l.length = 0 then ⟨#[]⟩ else ⟨([27, 91] ++ joined l ++ [109]).toArray⟩
theorem rd_mem (l : List Int) (i : Nat) (h : i < l.length) : rd l (i : Int) = l[i] := rd_at h
theorem spec_sign_loop (l : List Int) (hl : l.length ≤ 10) (hr : ∀ x ∈ l, 0 ≤ x ∧ x < 100) (h0 : l.length ≠ 0) : ∀ (d i : Nat), i + d = l.length →
    Ev (fun k => spec_l3Sign.l0 k l ⟨([27, 91] ++ joined (l.take i)).toArray⟩ (i : Int)) (signv l) := by
  have hsz : ∀ i, i ≤ l.length → (⟨([27, 91] ++ joined (l.take i)).toArray⟩ : ByteArray).size ≤ 2 + 3 * i := by
    intro i hi
    rw [ba_size]
    have := joined_length (l.take i) (fun x hx => hr x (List.mem_of_mem_take hx))
    rw [List.length_take] at this
    simp only [List.length_append, List.length_cons, List.length_nil]; omega
  intro d
  induction d with
  | zero =>
    intro i hi
    have hs := hsz i (by omega)
    refine ev_succ ?_
    simp only [spec_l3Sign.l0]
    refine ev_neg (by omega) (ev_pos (by omega) (ev_eq (Ev.now _) ?_))
    unfold signv
    rw [if_neg h0, List.take_of_length_le (by omega)]
    refine ba_ext ?_
    rw [ba_append]
  | succ d ih =>
    intro i hi
    have hi' : i < l.length := by omega
    have hs := hsz i (by omega)
    have hx := hr l[i] (List.getElem_mem hi')
    have hd := dig_length l[i] hx.1 hx.2
    have hds : (⟨(dig l[i]).toArray⟩ : ByteArray).size = (dig l[i]).length := by rw [ba_size]
    have ht : l.take (i + 1) = l.take i ++ [l[i]] := List.take_succ_eq_append_getElem hi'
    have hw : ∀ _ : Unit, wrap64 ((i : Int) + 1) = ((i + 1 : Nat) : Int) := fun _ => by rw [w64 (by omega) (by omega)]; omega
    have e := ih (i + 1) (by omega)
    refine ev_succ ?_
    simp only [spec_l3Sign.l0, hw (), rd_mem l i hi']
    refine ev_pos (by omega) ?_
    by_cases hi0 : i = 0
    · subst hi0
      refine ev_neg (by omega) (ev_pos (by omega) (Ev.bind (spec_l3Int_ev _ hx.1 hx.2) (ev_pos (by omega) ?_)))
      have : (⟨([27, 91] ++ joined (l.take 0)).toArray⟩ : ByteArray) ++ ⟨(dig l[0]).toArray⟩ = ⟨([27, 91] ++ joined (l.take (0 + 1))).toArray⟩ := by
        refine ba_ext ?_
        rw [ba_append, ht, List.take_zero, List.nil_append, joined_one, joined_nil]
        simp
      rw [this]; exact e
    · refine ev_pos (by omega) (ev_pos (by omega) (ev_pos (by omega) (Ev.bind (spec_l3Int_ev _ hx.1 hx.2) (ev_pos ?_ ?_))))
      · rw [ByteArray.size_append, show (⟨#[59]⟩ : ByteArray).size = 1 from rfl]; omega
      · have hne : l.take i ≠ [] := fun x => by have := congrArg List.length x; rw [List.length_take, List.length_nil] at this; omega
        have : ((⟨([27, 91] ++ joined (l.take i)).toArray⟩ : ByteArray) ++ (⟨#[59]⟩ : ByteArray)) ++ ⟨(dig l[i]).toArray⟩ = ⟨([27, 91] ++ joined (l.take (i + 1))).toArray⟩ := by
          refine ba_ext ?_
          rw [ba_append, ba_append, ht, joined_more _ _ hne]
          simp
        rw [this]; exact e
theorem impl_seq_loop (l : List Int) (hl : l.length ≤ 10) (hr : ∀ x ∈ l, 0 ≤ x ∧ x < 100) : ∀ (d i : Nat), i + d = l.length →
    Ev (fun k => impl_sequence.l0 k ((l.take i).map fun x => (⟨(dig x).toArray⟩ : ByteArray)) l (l.length : Int) (i : Int)) ⟨([27, 91] ++ joined l).toArray⟩ := by
  intro d
  induction d with
  | zero =>
    intro i hi
    have hj := joined_length l hr
    have hm : ((l.map fun x => (⟨(dig x).toArray⟩ : ByteArray)).map fun x => x.data.toList) = l.map dig := by rw [List.map_map]; rfl
    have hmm : Lib.join ((l.map fun x => (⟨(dig x).toArray⟩ : ByteArray)).map fun x => x.data.toList) (⟨#[59]⟩ : ByteArray).data.toList = joined l := by rw [hm]; rfl
    refine ev_succ ?_
    simp only [impl_sequence.l0]
    rw [List.take_of_length_le (by omega)]
    refine ev_neg (by omega) (ev_bind_of (a := ⟨(joined l).toArray⟩) ?_ (ev_pos ?_ (ev_eq (Ev.now _) (ba_ext ?_))))
    · unfold strings_Join.f
      rw [hmm, if_pos ⟨by rw [List.length_map]; omega, by omega⟩]
    · have e : (⟨(joined l).toArray⟩ : ByteArray).size = (joined l).length := ba_size _
      omega
    · rw [ba_append]
  | succ d ih =>
    intro i hi
    have hi' : i < l.length := by omega
    have hx := hr l[i] (List.getElem_mem hi')
    have ht : l.take (i + 1) = l.take i ++ [l[i]] := List.take_succ_eq_append_getElem hi'
    have hw : ∀ _ : Unit, wrap64 ((i : Int) + 1) = ((i + 1 : Nat) : Int) := fun _ => by rw [w64 (by omega) (by omega)]; omega
    have e := ih (i + 1) (by omega)
    rw [ht, List.map_append] at e
    refine ev_succ ?_
    simp only [impl_sequence.l0, hw (), rd_mem l i hi']
    exact ev_pos (by omega) (ev_pos (by omega) (ev_pos (by omega) (ev_bind_of (impl_decimal_eq _ hx.1 hx.2) (ev_pos (by rw [List.length_map, List.length_take]; omega) e))))
theorem spec_Sign_ev (a0 a1 : Int) (a2 a3 a4 : Bool) (b0 b1 : Int) (b2 b3 b4 : Bool) : Ev (fun k => spec_Sign.f k a0 a1 a2 a3 a4 b0 b1 b2 b3 b4) (signv (paramsv a0 a1 a2 a3 a4 b0 b1 b2 b3 b4)) := by
  unfold spec_Sign.f paramsv
  rw [spec_StyleOk_eq, spec_StyleOk_eq]
  by_cases ha : sokv a0 a1 = true
  · refine ev_bind_some (ev_pos ha ?_)
    by_cases hb : sokv b0 b1 = true
    · rw [if_pos (by rw [ha, hb]; rfl)]
      refine ev_bind_some (ev_pos hb (Ev.bind ?_ (Ev.now _)))
      have hp := spec_l3Params_ev a0 a1 a2 a3 a4 b0 b1 b2 b3 b4 hb
      have hr := params_range a0 a1 a2 a3 a4 b0 b1 b2 b3 b4 hb
      have hl := paramsv_length a0 a1 a2 a3 a4 b0 b1 b2 b3 b4
      unfold paramsv at hl
      rw [if_pos (by rw [ha, hb]; rfl)] at hl
      generalize (if isSame a0 a1 a2 a3 a4 b0 b1 b2 b3 b4 = true then [] else if isZero b0 b1 b2 b3 b4 = true then [0] else pdiff a0 a1 a2 a3 a4 b0 b1 b2 b3 b4) = l at hp hr hl
      unfold spec_l3Sign.f
      refine Ev.bind hp ?_
      by_cases h0 : l.length = 0
      · exact ev_pos (by omega) (ev_eq (Ev.now _) (by unfold signv; rw [if_pos h0]))
      · exact ev_neg (by omega) (spec_sign_loop l (by omega) hr h0 l.length 0 (by omega))
    · rw [if_neg (by rw [Bool.eq_false_iff.mpr hb, Bool.and_false]; simp)]
      exact ev_bind_some (ev_neg hb (Ev.now _))
  · rw [if_neg (by rw [Bool.eq_false_iff.mpr ha]; simp)]
    exact ev_bind_some (ev_neg ha (Ev.now _))
theorem impl_Sign_ev (a0 a1 : Int) (a2 a3 a4 : Bool) (b0 b1 : Int) (b2 b3 b4 : Bool) : Ev (fun k => impl_Sign.f k a0 a1 a2 a3 a4 b0 b1 b2 b3 b4) (signv (paramsv a0 a1 a2 a3 a4 b0 b1 b2 b3 b4)) := by
  unfold impl_Sign.f
  have hp := impl_Params_ev a0 a1 a2 a3 a4 b0 b1 b2 b3 b4
  have hl := paramsv_length a0 a1 a2 a3 a4 b0 b1 b2 b3 b4
  have hr : ∀ x ∈ paramsv a0 a1 a2 a3 a4 b0 b1 b2 b3 b4, 0 ≤ x ∧ x < 100 := by
    unfold paramsv
    by_cases hb : (sokv a0 a1 && sokv b0 b1) = true
    · rw [if_pos hb]
      rw [Bool.and_eq_true] at hb
      exact params_range a0 a1 a2 a3 a4 b0 b1 b2 b3 b4 hb.2
    · rw [if_neg hb]; simp
  generalize paramsv a0 a1 a2 a3 a4 b0 b1 b2 b3 b4 = l at hp hr hl
  refine Ev.bind hp ?_
  by_cases h0 : l.length = 0
  · exact ev_pos (by omega) (ev_eq (Ev.now _) (by unfold signv; rw [if_pos h0]))
  · have hj := joined_length l hr
    refine ev_neg (by omega) (Ev.bind (impl_seq_loop l (by omega) hr l.length 0 (by omega)) (ev_pos ?_ (ev_eq (Ev.now _) ?_)))
    · have e : (⟨([27, 91] ++ joined l).toArray⟩ : ByteArray).size = 2 + (joined l).length := by rw [ba_size]; simp only [List.length_append, List.length_cons, List.length_nil]
      rw [e]; omega
    · unfold signv
      rw [if_neg h0]
      refine ba_ext ?_
      rw [ba_append]

theorem FnExactSign : laws_FnExactSign.Aim := by
  intro a0 a1 a2 a3 a4 b0 b1 b2 b3 b4 _ _ _ _
  refine Ev.rounds ?_
  simp only [laws_FnExactSign.f, laws_toStyle.f, Option.bind_some]
  exact Ev.bind (spec_Sign_ev a0 a1 a2 a3 a4 b0 b1 b2 b3 b4) (Ev.bind (impl_Sign_ev a0 a1 a2 a3 a4 b0 b1 b2 b3 b4) (ev_pos rfl (Ev.now _)))

end Go.Proofs.YtbgekmchjdkjiaaDoor.Pure
